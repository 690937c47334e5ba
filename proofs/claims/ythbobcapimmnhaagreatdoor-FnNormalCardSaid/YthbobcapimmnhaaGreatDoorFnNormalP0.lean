/- The statement FnNormal holds: plain functions, certificates, laws. Conditions: none. -/
import Derived.LaidMore
import Derived.Lay
import Derived.Lib.AtoiErrMem
import Derived.Lib.LaidTab
import Derived.OpenVars
import Derived.SevenTiedAt
import Derived.Shelf.Abstract
import Derived.Shelf.Small.Strs
import Derived.Shelf.Strconv.ErrVarAll
import Derived.Shelf.Strconv.Itoa3
import Derived.Shelf.Strings.OnBuilder
import Derived.Shelf.Strings.Prefix
import Derived.Shelf.Strings.Search1
import Derived.Shelf.Strings.Split
import Derived.Stop.Joined
import Derived.Stop.LaidErr
import Derived.Test.YthbobcapimmnhaaGreatDoorCards
import Derived.Test.YthbobcapimmnhaaGreatDoorChecked
import Derived.Test.YthbobcapimmnhaaGreatDoorProg
import Derived.Test.YthbobcapimmnhaaGreatDoorRows
import Derived.Test.YthbobcapimmnhaaGreatDoorTie
import Derived.WalkKit
import Derived.Test.YthbobcapimmnhaaGreatDoorL2
set_option linter.all false
section
namespace Go.Ab
abbrev Ex (f : Fl) (e : Exp) : List CV := [.int .i64 (Exp.kind e), .int .i64 (Exp.n e), .str (Exp.text e), .sl f .exp (Exp.args e)]
abbrev Rr (f : Fl) (e : Rdr) : List CV := [.sl f .tok (Rdr.toks e), .int .i64 (Rdr.i e), .int .i64 (Rdr.fin e), .int .i64 (Rdr.bad e)]
abbrev Ps (f : Fl) (e : Psr) : List CV := [.sl f .tok (Psr.list e), .int .i64 (Psr.pos e), .int .i64 (Psr.bad e)]
abbrev Cu (f : Fl) (e : Cur) : List CV := [.sl f .byte (Cur.b e), .int .i64 (Cur.i e), .int .i64 (Cur.h e)]
end Go.Ab
end
section
namespace Go.Ab
def xF3 (a0 : Int) : List Arg := [.val (.v false [.int .u8 a0])]
def xB2 (r : Bool) : CallO := ⟨.v false [.bool r], [], []⟩
def xGy (N : Nat) (a0 : Int) : Option (Bool) := bif (decide (a0 ≥ 97)) then (some (decide (a0 ≤ 122))) else (some false)
def xGq (a0 : Int) : List Arg := [.val (.v false [.int .u8 a0])]
def xBS (r : Bool) : CallO := ⟨.v false [.bool r], [], []⟩
def xGp (N : Nat) (a0 : Int) : Option (Bool) := bif (decide (a0 ≥ 48)) then (some (decide (a0 ≤ 57))) else (some false)
def xC8 (a0 : Int) : List Arg := [.val (.v false [.int .i64 a0])]
def xBj (r : Str) : CallO := ⟨.v false [.str r], [], []⟩
def xCE (N : Nat) : Nat → Int → Bool → Str → Option (Str)
 | 0, _, _, _ => none
 | n + 1, x0, x3, x4 => bif (x0 != 0) then (bif (decide ((Int.tmod x0 10) < 0)) then (if List.length (List.map (fun n => UInt8.ofNat (Int.toNat n)) [(IntKind.u8.wrap ((IntKind.i64.wrap (48 + (IntKind.i64.wrap (0 - (Int.tmod x0 10)))))))]) + List.length x4 ≤ Lim then (xCE N n (IntKind.i64.wrap (Int.tdiv x0 10)) x3 ((List.map (fun n => UInt8.ofNat (Int.toNat n)) [(IntKind.u8.wrap ((IntKind.i64.wrap (48 + (IntKind.i64.wrap (0 - (Int.tmod x0 10)))))))]) ++ x4)) else none) else (if List.length (List.map (fun n => UInt8.ofNat (Int.toNat n)) [(IntKind.u8.wrap ((IntKind.i64.wrap (48 + (Int.tmod x0 10)))))]) + List.length x4 ≤ Lim then (xCE N n (IntKind.i64.wrap (Int.tdiv x0 10)) x3 ((List.map (fun n => UInt8.ofNat (Int.toNat n)) [(IntKind.u8.wrap ((IntKind.i64.wrap (48 + (Int.tmod x0 10)))))]) ++ x4)) else none)) else (bif x3 then (if List.length [45] + List.length x4 ≤ Lim then some ([45] ++ x4) else none) else (some x4))
def xFz (N : Nat) (a0 : Int) : Option (Str) := bif (a0 == 0) then (some [48]) else ((xCE N N a0 (decide (a0 < 0)) []))
def xC6 (a0 : Str) (a1 : Int) : List Arg := [.val (.v false [.str a0]), .val (.v false [.int .i64 a1])]
def xBK (r : Int × Bool) : CallO := ⟨.tup [(false, [.int .i64 r.1]), (false, [.bool r.2])], [], []⟩
def xDJ (N : Nat) : Nat → Str → Bool → Str → Int → Int → Option (Int × Bool)
 | 0, _, _, _, _, _ => none
 | n + 1, x0, x6, x7, x8, x9 => bif (decide (x9 < (List.length x7 : Int))) then (if (0 : Int) ≤ x9 ∧ x9 < (List.length x7) then bif (decide ((((List.getD x7 (Int.toNat x9) 0).toNat : Int) : Int) < 48)) then (some (0, false)) else (bif (decide ((((List.getD x7 (Int.toNat x9) 0).toNat : Int) : Int) > 57)) then (some (0, false)) else ((xDJ N n x0 x6 x7 (IntKind.i64.wrap ((IntKind.i64.wrap (10 * x8)) + (IntKind.i64.wrap ((IntKind.u8.wrap (((List.getD x7 (Int.toNat x9) 0).toNat : Int) - 48)))))) (IntKind.i64.wrap (x9 + 1))))) else none) else (bif x6 then ((xFz N (IntKind.i64.wrap (0 - x8))).bind fun r1 => bif (!((r1 : Str) == x0)) then (some (0, false)) else (some ((IntKind.i64.wrap (0 - x8)), true))) else ((xFz N x8).bind fun r1 => bif (!((r1 : Str) == x0)) then (some (0, false)) else (some (x8, true))))
def xIl (N : Nat) (a0 : Str) (a1 : Int) : Option (Int × Bool) := bif (decide ((List.length a0 : Int) > 0)) then (if (0 : Int) ≤ 0 ∧ (0 : Int) < (List.length a0) then bif ((((List.getD a0 (Int.toNat 0) 0).toNat : Int) : Int) == 45) then (if (0 : Int) ≤ (1 : Int) ∧ (1 : Int) ≤ (List.length a0) then bif (decide (((List.length (List.drop (Int.toNat (1 : Int)) a0) : Int) : Int) < 1)) then (some (0, false)) else (bif (decide (((List.length (List.drop (Int.toNat (1 : Int)) a0) : Int) : Int) > a1)) then (some (0, false)) else ((xDJ N N a0 ((((List.getD a0 (Int.toNat 0) 0).toNat : Int) : Int) == 45) (List.drop (Int.toNat (1 : Int)) a0) 0 0))) else none) else (bif (decide ((List.length a0 : Int) < 1)) then (some (0, false)) else (bif (decide ((List.length a0 : Int) > a1)) then (some (0, false)) else ((xDJ N N a0 ((((List.getD a0 (Int.toNat 0) 0).toNat : Int) : Int) == 45) a0 0 0)))) else none) else (bif (decide ((List.length a0 : Int) < 1)) then (some (0, false)) else (bif (decide ((List.length a0 : Int) > a1)) then (some (0, false)) else ((xDJ N N a0 false a0 0 0))))
def xGP (a0 : Str) : List Arg := [.val (.v false [.str a0])]
def xC1 (r : Int × Bool) : CallO := ⟨.tup [(false, [.int .i64 r.1]), (false, [.bool r.2])], [], []⟩
def xFV (N : Nat) (a0 : Str) : Option (Int × Bool) := (xIl N a0 12).bind fun r1 => some (r1.1, r1.2)
def xE2 (a0 : Str) : List Arg := [.val (.v false [.str a0])]
def xBh (r : Bool) : CallO := ⟨.v false [.bool r], [], []⟩
def xCX (N : Nat) : Nat → Str → Int → Option (Bool)
 | 0, _, _ => none
 | n + 1, x0, x3 => bif (decide (x3 < (List.length x0 : Int))) then (if (0 : Int) ≤ x3 ∧ x3 < (List.length x0) then bif (decide ((((List.getD x0 (Int.toNat x3) 0).toNat : Int) : Int) < 32)) then (some false) else (bif (decide ((((List.getD x0 (Int.toNat x3) 0).toNat : Int) : Int) > 126)) then (some false) else (bif ((((List.getD x0 (Int.toNat x3) 0).toNat : Int) : Int) == 34) then (some false) else ((xCX N n x0 (IntKind.i64.wrap (x3 + 1)))))) else none) else (some (decide ((List.length x0 : Int) ≤ 20)))
def xFg (N : Nat) (a0 : Str) : Option (Bool) := (xCX N N a0 0)
def xBs (a0 : Str) (a1 : Int) : List Arg := [.val (.v false [.str a0]), .val (.v false [.int .i64 a1])]
def xBl (r : Int) : CallO := ⟨.v false [.int .i64 r], [], []⟩
def xHj (N : Nat) (a0 : Str) (a1 : Int) : Option (Int) := if (0 : Int) ≤ a1 ∧ a1 < (List.length a0) then bif ((((List.getD a0 (Int.toNat a1) 0).toNat : Int) : Int) == 40) then (some 1) else (bif ((((List.getD a0 (Int.toNat a1) 0).toNat : Int) : Int) == 41) then (some 1) else (bif ((((List.getD a0 (Int.toNat a1) 0).toNat : Int) : Int) == 91) then (some 1) else (bif ((((List.getD a0 (Int.toNat a1) 0).toNat : Int) : Int) == 93) then (some 1) else (bif ((((List.getD a0 (Int.toNat a1) 0).toNat : Int) : Int) == 44) then (some 1) else (bif ((((List.getD a0 (Int.toNat a1) 0).toNat : Int) : Int) == 43) then (some 1) else (bif ((((List.getD a0 (Int.toNat a1) 0).toNat : Int) : Int) == 45) then (some 1) else (bif ((((List.getD a0 (Int.toNat a1) 0).toNat : Int) : Int) == 42) then (some 1) else (bif ((((List.getD a0 (Int.toNat a1) 0).toNat : Int) : Int) == 60) then (some 1) else (bif ((((List.getD a0 (Int.toNat a1) 0).toNat : Int) : Int) == 61) then (bif (decide ((IntKind.i64.wrap (a1 + 1)) < (List.length a0 : Int))) then (if (0 : Int) ≤ (IntKind.i64.wrap (a1 + 1)) ∧ (IntKind.i64.wrap (a1 + 1)) < (List.length a0) then bif ((((List.getD a0 (Int.toNat (IntKind.i64.wrap (a1 + 1))) 0).toNat : Int) : Int) == 61) then (some 2) else (some 1) else none) else (some 1)) else (some 0)))))))))) else none
def xEk (a0 : Str) (a1 : Int) : List Arg := [.val (.v false [.str a0]), .val (.v false [.int .i64 a1])]
def xBf (r : Tok × Int) : CallO := ⟨.tup [(true, [.int .i64 (Tok.kind r.1), .int .i64 (Tok.n r.1), .int .i64 (Tok.pos r.1), .str (Tok.text r.1)]), (false, [.int .i64 r.2])], [], []⟩
def xEl (N : Nat) : Nat → Str → Int → Int → Tok → Tok → Option (Tok × Int)
 | 0, _, _, _, _, _ => none
 | n + 1, x0, x1, x7, b4, b6 => bif (decide (x7 < (List.length x0 : Int))) then (if (0 : Int) ≤ x7 ∧ x7 < (List.length x0) then (xGy N ((List.getD x0 (Int.toNat x7) 0).toNat : Int)).bind fun r1 => bif r1 then ((xEl N n x0 x1 (IntKind.i64.wrap (x7 + 1)) b4 b6)) else ((xGp N ((List.getD x0 (Int.toNat x7) 0).toNat : Int)).bind fun r2 => bif r2 then ((xEl N n x0 x1 (IntKind.i64.wrap (x7 + 1)) b4 b6)) else (if (0 : Int) ≤ x1 ∧ x1 ≤ x7 ∧ x7 ≤ (List.length x0) then bif (decide ((IntKind.i64.wrap (x7 - x1)) > 8)) then (some ((Tok.mk 1 (Tok.n b6) (Tok.pos b6) (List.drop (Int.toNat x1) (List.take (Int.toNat x7) x0))), 0)) else (some ((Tok.mk 1 (Tok.n b6) (Tok.pos b6) (List.drop (Int.toNat x1) (List.take (Int.toNat x7) x0))), (IntKind.i64.wrap (x7 - x1)))) else none)) else none) else (if (0 : Int) ≤ x1 ∧ x1 ≤ x7 ∧ x7 ≤ (List.length x0) then bif (decide ((IntKind.i64.wrap (x7 - x1)) > 8)) then (some ((Tok.mk 1 (Tok.n b6) (Tok.pos b6) (List.drop (Int.toNat x1) (List.take (Int.toNat x7) x0))), 0)) else (some ((Tok.mk 1 (Tok.n b6) (Tok.pos b6) (List.drop (Int.toNat x1) (List.take (Int.toNat x7) x0))), (IntKind.i64.wrap (x7 - x1)))) else none)
def xDT (N : Nat) : Nat → Str → Int → Int → Tok → Tok → Option (Tok × Int)
 | 0, _, _, _, _, _ => none
 | n + 1, x0, x1, x7, b4, b6 => bif (decide (x7 < (List.length x0 : Int))) then (if (0 : Int) ≤ x7 ∧ x7 < (List.length x0) then (xGp N ((List.getD x0 (Int.toNat x7) 0).toNat : Int)).bind fun r1 => bif r1 then ((xDT N n x0 x1 (IntKind.i64.wrap (x7 + 1)) b4 b6)) else (if (0 : Int) ≤ x1 ∧ x1 ≤ x7 ∧ x7 ≤ (List.length x0) then (xFV N (List.drop (Int.toNat x1) (List.take (Int.toNat x7) x0))).bind fun r2 => bif (!r2.2) then (some ((Tok.mk 2 r2.1 (Tok.pos b6) (Tok.text b6)), 0)) else (bif (decide (r2.1 > 1000000000)) then (some ((Tok.mk 2 r2.1 (Tok.pos b6) (Tok.text b6)), 0)) else (some ((Tok.mk 2 r2.1 (Tok.pos b6) (Tok.text b6)), (IntKind.i64.wrap (x7 - x1))))) else none) else none) else (if (0 : Int) ≤ x1 ∧ x1 ≤ x7 ∧ x7 ≤ (List.length x0) then (xFV N (List.drop (Int.toNat x1) (List.take (Int.toNat x7) x0))).bind fun r1 => bif (!r1.2) then (some ((Tok.mk 2 r1.1 (Tok.pos b6) (Tok.text b6)), 0)) else (bif (decide (r1.1 > 1000000000)) then (some ((Tok.mk 2 r1.1 (Tok.pos b6) (Tok.text b6)), 0)) else (some ((Tok.mk 2 r1.1 (Tok.pos b6) (Tok.text b6)), (IntKind.i64.wrap (x7 - x1))))) else none)
def xFO (N : Nat) : Nat → Str → Int → Int → Tok → Tok → Option (Tok × Int)
 | 0, _, _, _, _, _ => none
 | n + 1, x0, x1, x7, b4, b6 => bif (decide (x7 < (List.length x0 : Int))) then (if (0 : Int) ≤ x7 ∧ x7 < (List.length x0) then bif ((((List.getD x0 (Int.toNat x7) 0).toNat : Int) : Int) != 34) then ((xFO N n x0 x1 (IntKind.i64.wrap (x7 + 1)) b4 b6)) else (if (0 : Int) ≤ (IntKind.i64.wrap (x1 + 1)) ∧ (IntKind.i64.wrap (x1 + 1)) ≤ x7 ∧ x7 ≤ (List.length x0) then bif (x7 == (List.length x0 : Int)) then (some ((Tok.mk 3 (Tok.n b6) (Tok.pos b6) (List.drop (Int.toNat (IntKind.i64.wrap (x1 + 1))) (List.take (Int.toNat x7) x0))), 0)) else ((xFg N (List.drop (Int.toNat (IntKind.i64.wrap (x1 + 1))) (List.take (Int.toNat x7) x0))).bind fun r1 => bif (!r1) then (some ((Tok.mk 3 (Tok.n b6) (Tok.pos b6) (List.drop (Int.toNat (IntKind.i64.wrap (x1 + 1))) (List.take (Int.toNat x7) x0))), 0)) else (some ((Tok.mk 3 (Tok.n b6) (Tok.pos b6) (List.drop (Int.toNat (IntKind.i64.wrap (x1 + 1))) (List.take (Int.toNat x7) x0))), (IntKind.i64.wrap ((IntKind.i64.wrap (x7 + 1)) - x1))))) else none) else none) else (if (0 : Int) ≤ (IntKind.i64.wrap (x1 + 1)) ∧ (IntKind.i64.wrap (x1 + 1)) ≤ x7 ∧ x7 ≤ (List.length x0) then bif (x7 == (List.length x0 : Int)) then (some ((Tok.mk 3 (Tok.n b6) (Tok.pos b6) (List.drop (Int.toNat (IntKind.i64.wrap (x1 + 1))) (List.take (Int.toNat x7) x0))), 0)) else ((xFg N (List.drop (Int.toNat (IntKind.i64.wrap (x1 + 1))) (List.take (Int.toNat x7) x0))).bind fun r1 => bif (!r1) then (some ((Tok.mk 3 (Tok.n b6) (Tok.pos b6) (List.drop (Int.toNat (IntKind.i64.wrap (x1 + 1))) (List.take (Int.toNat x7) x0))), 0)) else (some ((Tok.mk 3 (Tok.n b6) (Tok.pos b6) (List.drop (Int.toNat (IntKind.i64.wrap (x1 + 1))) (List.take (Int.toNat x7) x0))), (IntKind.i64.wrap ((IntKind.i64.wrap (x7 + 1)) - x1))))) else none)
def xIn (N : Nat) (a0 : Str) (a1 : Int) : Option (Tok × Int) := if (0 : Int) ≤ a1 ∧ a1 < (List.length a0) then (xGy N ((List.getD a0 (Int.toNat a1) 0).toNat : Int)).bind fun r1 => bif r1 then ((xEl N N a0 a1 a1 (Tok.mk 0 0 0 []) (Tok.mk 0 0 a1 []))) else ((xGp N ((List.getD a0 (Int.toNat a1) 0).toNat : Int)).bind fun r2 => bif r2 then ((xDT N N a0 a1 a1 (Tok.mk 0 0 0 []) (Tok.mk 0 0 a1 []))) else (bif ((((List.getD a0 (Int.toNat a1) 0).toNat : Int) : Int) == 34) then ((xFO N N a0 a1 (IntKind.i64.wrap (a1 + 1)) (Tok.mk 0 0 0 []) (Tok.mk 0 0 a1 []))) else ((xHj N a0 a1).bind fun r3 => if (0 : Int) ≤ a1 ∧ a1 ≤ (IntKind.i64.wrap (a1 + r3)) ∧ (IntKind.i64.wrap (a1 + r3)) ≤ (List.length a0) then some ((Tok.mk 4 0 a1 (List.drop (Int.toNat a1) (List.take (Int.toNat (IntKind.i64.wrap (a1 + r3))) a0))), (IntKind.i64.wrap ((IntKind.i64.wrap (a1 + r3)) - a1))) else none))) else none
def xF2 (a0 : Str) : List Arg := [.val (.v false [.str a0])]
def xBd (r : (List Tok) × Int) : CallO := ⟨.tup [(false, [.sl .own .tok r.1]), (false, [.int .i64 r.2])], [], []⟩
def xED (N : Nat) : Nat → Str → (List Tok) → Int → Option ((List Tok) × Int)
 | 0, _, _, _ => none
 | n + 1, x0, x4, x5 => bif (decide (x5 < (List.length x0 : Int))) then (if (0 : Int) ≤ x5 ∧ x5 < (List.length x0) then bif ((((List.getD x0 (Int.toNat x5) 0).toNat : Int) : Int) == 32) then ((xED N n x0 x4 (IntKind.i64.wrap (x5 + 1)))) else ((xIn N x0 x5).bind fun r1 => bif (r1.2 == 0) then (some ([], x5)) else (bif ((List.length x4 : Int) == 60) then (some ([], x5)) else (if List.length x4 + List.length [r1.1] ≤ Lim then (xED N n x0 (x4 ++ [r1.1]) (IntKind.i64.wrap (x5 + r1.2))) else none))) else none) else (some (x4, (-1)))
def xGu (N : Nat) (a0 : Str) : Option ((List Tok) × Int) := bif (decide ((List.length a0 : Int) > 120)) then (some ([], 120)) else ((xED N N a0 [] 0))
def xDX (a0 : Tok) (a1 : Str) : List Arg := [.val (.v true [.int .i64 (Tok.kind a0), .int .i64 (Tok.n a0), .int .i64 (Tok.pos a0), .str (Tok.text a0)]), .val (.v false [.str a1])]
def xAX (r : Bool) : CallO := ⟨.v false [.bool r], [], []⟩
def xDM (N : Nat) (a0 : Tok) (a1 : Str) : Option (Bool) := bif ((Tok.kind a0) == 4) then (some (((Tok.text a0) : Str) == a1)) else (some false)
def xFJ (a0 : Tok) (a1 : Str) : List Arg := [.val (.v true [.int .i64 (Tok.kind a0), .int .i64 (Tok.n a0), .int .i64 (Tok.pos a0), .str (Tok.text a0)]), .val (.v false [.str a1])]
def xES (r : Bool) : CallO := ⟨.v false [.bool r], [], []⟩
def xGJ (N : Nat) (a0 : Tok) (a1 : Str) : Option (Bool) := bif ((Tok.kind a0) == 1) then (some (((Tok.text a0) : Str) == a1)) else (some false)
def xAH (a0 : Rdr) (a1 : Str) : List Arg := [.box (Rr .ro a0), .val (.v false [.str a1])]
def xAe (r : Bool × Rdr) : CallO := ⟨.v false [.bool r.1], [(Rr .ro r.2)], []⟩
def xBJ (N : Nat) (a0 : Rdr) (a1 : Str) : Option (Bool × Rdr) := bif (decide ((Rdr.bad a0) < 0)) then (bif (decide ((Rdr.i a0) < (List.length (Rdr.toks a0) : Int))) then (if (0 : Int) ≤ (Rdr.i a0) ∧ (Rdr.i a0) < (List.length (Rdr.toks a0)) then (xDM N (List.getD (Rdr.toks a0) (Int.toNat (Rdr.i a0)) Ty.tok.dflt) a1).bind fun r1 => bif r1 then (some (true, a0)) else ((xGJ N (List.getD (Rdr.toks a0) (Int.toNat (Rdr.i a0)) Ty.tok.dflt) a1).bind fun r2 => some (r2, a0)) else none) else (some (false, a0))) else (some (false, a0))
def xFN (a0 : Str) : List Arg := [.val (.v false [.str a0])]
def xBp (r : Bool) : CallO := ⟨.v false [.bool r], [], []⟩
def xDu (N : Nat) : Nat → Str → Int → Option (Bool)
 | 0, _, _ => none
 | n + 1, x0, x3 => bif (decide (x3 < (List.length x0 : Int))) then (if (0 : Int) ≤ x3 ∧ x3 < (List.length x0) then bif (decide ((((List.getD x0 (Int.toNat x3) 0).toNat : Int) : Int) ≥ 97)) then (bif (decide ((((List.getD x0 (Int.toNat x3) 0).toNat : Int) : Int) ≥ 48)) then (bif (!(decide ((((List.getD x0 (Int.toNat x3) 0).toNat : Int) : Int) ≤ 122))) then (bif (x3 == 0) then (some false) else (bif (!(decide ((((List.getD x0 (Int.toNat x3) 0).toNat : Int) : Int) ≤ 57))) then (some false) else ((xDu N n x0 (IntKind.i64.wrap (x3 + 1)))))) else ((xDu N n x0 (IntKind.i64.wrap (x3 + 1))))) else (bif (!(decide ((((List.getD x0 (Int.toNat x3) 0).toNat : Int) : Int) ≤ 122))) then (bif (x3 == 0) then (some false) else (some false)) else ((xDu N n x0 (IntKind.i64.wrap (x3 + 1)))))) else (bif (decide ((((List.getD x0 (Int.toNat x3) 0).toNat : Int) : Int) ≥ 48)) then (bif (x3 == 0) then (some false) else (bif (!(decide ((((List.getD x0 (Int.toNat x3) 0).toNat : Int) : Int) ≤ 57))) then (some false) else ((xDu N n x0 (IntKind.i64.wrap (x3 + 1)))))) else (bif (x3 == 0) then (some false) else (some false))) else none) else (some (decide ((List.length x0 : Int) > 0)))
def xIE (N : Nat) (a0 : Str) : Option (Bool) := (xDu N N a0 0)
def xGd : List Arg := []
def xFw (r : (List Str)) : CallO := ⟨.v false [.sl .own .str r], [], []⟩
def xHi (N : Nat) : Option ((List Str)) := some [[108, 101, 116], [105, 110], [105, 102], [116, 104, 101, 110], [101, 108, 115, 101], [102, 111, 114], [100, 111], [108, 101, 110], [115, 117, 109], [116, 97, 107, 101], [115, 107, 105, 112], [114, 97, 110, 103, 101], [110, 116, 104], [119, 104, 101, 114, 101], [107, 101, 101, 112], [97, 100, 100], [103, 114, 111, 117, 112], [106, 111, 105, 110], [99, 111, 108, 117, 109, 110], [114, 111, 119, 115], [99, 108, 111, 99, 107], [99, 104, 97, 110, 99, 101], [102, 105, 108, 101], [116, 97, 98, 108, 101]]
def xHW (a0 : List Str) (a1 : Str) : List Arg := [.val (.v false [.sl .ro .str a0]), .val (.v false [.str a1])]
def xFY (r : Bool) : CallO := ⟨.v false [.bool r], [], []⟩
def xFX (N : Nat) : Nat → (List Str) → Str → Int → Option (Bool)
 | 0, _, _, _ => none
 | n + 1, x0, x1, x5 => bif (decide (x5 < (List.length x0 : Int))) then (if (0 : Int) ≤ x5 ∧ x5 < (List.length x0) then bif (((List.getD x0 (Int.toNat x5) Ty.str.dflt) : Str) == x1) then (some true) else ((xFX N n x0 x1 (IntKind.i64.wrap (x5 + 1)))) else none) else (some false)
def xKm (N : Nat) (a0 : List Str) (a1 : Str) : Option (Bool) := (xFX N N a0 a1 0)
def xGc (a0 : Str) : List Arg := [.val (.v false [.str a0])]
def xFt (r : Bool) : CallO := ⟨.v false [.bool r], [], []⟩
def xGi (N : Nat) (a0 : Str) : Option (Bool) := (xHi N).bind fun r1 => (xKm N r1 a0).bind fun r2 => some r2
def xCx (a0 : Str) : List Arg := [.val (.v false [.str a0])]
def xAL (r : Bool) : CallO := ⟨.v false [.bool r], [], []⟩
def xDz (N : Nat) (a0 : Str) : Option (Bool) := (xIE N a0).bind fun r1 => bif r1 then (bif (decide ((List.length a0 : Int) ≤ 8)) then ((xGi N a0).bind fun r2 => some (!r2)) else (some false)) else (some false)
def xDr (a0 : Rdr) : List Arg := [.box (Rr .ro a0)]
def xAW (r : Exp × Rdr) : CallO := ⟨.v true (Ex .own r.1), [(Rr .ro r.2)], []⟩
def xB7 (N : Nat) (a0 : Rdr) : Option (Exp × Rdr) := bif (decide ((Rdr.bad a0) < 0)) then (bif (decide ((Rdr.i a0) < (List.length (Rdr.toks a0) : Int))) then (if (0 : Int) ≤ (Rdr.i a0) ∧ (Rdr.i a0) < (List.length (Rdr.toks a0)) then some ((Exp.mk 0 0 [] []), (Rdr.mk (Rdr.toks a0) (Rdr.i a0) (Rdr.fin a0) (Tok.pos (List.getD (Rdr.toks a0) (Int.toNat (Rdr.i a0)) Ty.tok.dflt)))) else none) else (some ((Exp.mk 0 0 [] []), (Rdr.mk (Rdr.toks a0) (Rdr.i a0) (Rdr.fin a0) (Rdr.fin a0))))) else (some ((Exp.mk 0 0 [] []), a0))
def xEr (a0 : Rdr) : List Arg := [.box (Rr .ro a0)]
def xDs (r : Str × Rdr) : CallO := ⟨.v false [.str r.1], [(Rr .ro r.2)], []⟩
def xDZ (N : Nat) (a0 : Rdr) : Option (Str × Rdr) := bif (decide ((Rdr.bad a0) ≥ 0)) then ((xB7 N a0).bind fun r1 => some ([], r1.2)) else (bif (decide ((Rdr.i a0) ≥ (List.length (Rdr.toks a0) : Int))) then ((xB7 N a0).bind fun r1 => some ([], r1.2)) else (if (0 : Int) ≤ (Rdr.i a0) ∧ (Rdr.i a0) < (List.length (Rdr.toks a0)) then bif (((Tok.kind (List.getD (Rdr.toks a0) (Int.toNat (Rdr.i a0)) Ty.tok.dflt)) : Int) != 1) then ((xB7 N a0).bind fun r1 => some ([], r1.2)) else ((xDz N (Tok.text (List.getD (Rdr.toks a0) (Int.toNat (Rdr.i a0)) Ty.tok.dflt))).bind fun r1 => bif (!r1) then ((xB7 N a0).bind fun r2 => some ([], r2.2)) else (if (0 : Int) ≤ (IntKind.i64.wrap ((IntKind.i64.wrap ((Rdr.i a0) + 1)) - 1)) ∧ (IntKind.i64.wrap ((IntKind.i64.wrap ((Rdr.i a0) + 1)) - 1)) < (List.length (Rdr.toks a0)) then some ((Tok.text (List.getD (Rdr.toks a0) (Int.toNat (IntKind.i64.wrap ((IntKind.i64.wrap ((Rdr.i a0) + 1)) - 1))) Ty.tok.dflt)), (Rdr.mk (Rdr.toks a0) (IntKind.i64.wrap ((Rdr.i a0) + 1)) (Rdr.fin a0) (Rdr.bad a0))) else none)) else none))
def xBR (a0 : Rdr) (a1 : Str) : List Arg := [.box (Rr .ro a0), .val (.v false [.str a1])]
def xAJ (r : Rdr) : CallO := ⟨.tup [], [(Rr .ro r)], []⟩
def xBE (N : Nat) (a0 : Rdr) (a1 : Str) : Option (Rdr) := (xBJ N a0 a1).bind fun r1 => bif (!r1.1) then ((xB7 N r1.2).bind fun r2 => some r2.2) else (some (Rdr.mk (Rdr.toks r1.2) (IntKind.i64.wrap ((Rdr.i r1.2) + 1)) (Rdr.fin r1.2) (Rdr.bad r1.2)))
def xF5 (a0 : Int) : List Arg := [.val (.v false [.int .i64 a0])]
def xBC (r : Exp) : CallO := ⟨.v true (Ex .own r), [], []⟩
def xCY (N : Nat) (a0 : Int) : Option (Exp) := some (Exp.mk 1 a0 [] [])
def xGm (a0 : Str) : List Arg := [.val (.v false [.str a0])]
def xE7 (r : Exp) : CallO := ⟨.v true (Ex .own r), [], []⟩
def xIA (N : Nat) (a0 : Str) : Option (Exp) := some (Exp.mk 3 0 a0 [])
def xAt (a0 : Str) : List Arg := [.val (.v false [.str a0])]
def xAl (r : Int) : CallO := ⟨.v false [.int .i64 r], [], []⟩
def xB5 (N : Nat) (a0 : Str) : Option (Int) := bif ((a0 : Str) == [99, 108, 111, 99, 107]) then (some 0) else (bif ((a0 : Str) == [108, 101, 110]) then (some 1) else (bif ((a0 : Str) == [115, 117, 109]) then (some 1) else (bif ((a0 : Str) == [114, 111, 119, 115]) then (some 1) else (bif ((a0 : Str) == [99, 104, 97, 110, 99, 101]) then (some 1) else (bif ((a0 : Str) == [102, 105, 108, 101]) then (some 1) else (bif ((a0 : Str) == [116, 97, 107, 101]) then (some 2) else (bif ((a0 : Str) == [115, 107, 105, 112]) then (some 2) else (bif ((a0 : Str) == [114, 97, 110, 103, 101]) then (some 2) else (bif ((a0 : Str) == [110, 116, 104]) then (some 2) else (bif ((a0 : Str) == [107, 101, 101, 112]) then (some 2) else (bif ((a0 : Str) == [99, 111, 108, 117, 109, 110]) then (some 2) else (bif ((a0 : Str) == [116, 97, 98, 108, 101]) then (some 2) else (bif ((a0 : Str) == [119, 104, 101, 114, 101]) then (some 3) else (bif ((a0 : Str) == [103, 114, 111, 117, 112]) then (some 3) else (bif ((a0 : Str) == [106, 111, 105, 110]) then (some 3) else (bif ((a0 : Str) == [97, 100, 100]) then (some 4) else (some (-1))))))))))))))))))
def xDB (a0 : Int) (a1 : Exp) (a2 : Exp) : List Arg := [.val (.v false [.int .i64 a0]), .val (.v true (Ex .ro a1)), .val (.v true (Ex .ro a2))]
def xBv (r : Exp) : CallO := ⟨.v true (Ex .tip r), [], []⟩
def xEc (N : Nat) (a0 : Int) (a1 : Exp) (a2 : Exp) : Option (Exp) := some (Exp.mk 6 a0 [] [(Exp.re a1), (Exp.re a2)])
def xE8 (a0 : Rdr) (a1 : Str) : List Arg := [.box (Rr .ro a0), .val (.v false [.str a1])]
def xCB (r : (List Exp) × Rdr) : CallO := ⟨.v false [.sl .tip .exp r.1], [(Rr .ro r.2)], []⟩
def xFK (N : Nat) (q0 : Rdr → Str → Option ((List Exp) × Rdr)) (q1 : Rdr → Option (Exp × Rdr)) (q2 : Rdr → Option (Exp × Rdr)) (q3 : Rdr → Option (Exp × Rdr)) (q4 : Rdr → Option (Exp × Rdr)) (q5 : Rdr → Option (Exp × Rdr)) : Nat → Str → (List Exp) → Rdr → Option ((List Exp) × Rdr)
 | 0, _, _, _ => none
 | n + 1, x1, x5, b0 => bif (decide ((Rdr.bad b0) < 0)) then ((q3 b0).bind fun r1 => if List.length x5 + List.length [(Exp.re r1.1)] ≤ Lim then (xBJ N r1.2 [44]).bind fun r2 => bif (!r2.1) then ((xBE N r2.2 x1).bind fun r3 => some ((x5 ++ [(Exp.re r1.1)]), r3)) else ((xFK N q0 q1 q2 q3 q4 q5 n x1 (x5 ++ [(Exp.re r1.1)]) (Rdr.mk (Rdr.toks r2.2) (IntKind.i64.wrap ((Rdr.i r2.2) + 1)) (Rdr.fin r2.2) (Rdr.bad r2.2)))) else none) else ((xBE N b0 x1).bind fun r1 => some (x5, r1))
def xEd (N : Nat) (q0 : Rdr → Str → Option ((List Exp) × Rdr)) (q1 : Rdr → Option (Exp × Rdr)) (q2 : Rdr → Option (Exp × Rdr)) (q3 : Rdr → Option (Exp × Rdr)) (q4 : Rdr → Option (Exp × Rdr)) (q5 : Rdr → Option (Exp × Rdr)) (a0 : Rdr) (a1 : Str) : Option ((List Exp) × Rdr) := (xBJ N a0 a1).bind fun r1 => bif r1.1 then (some ([], (Rdr.mk (Rdr.toks r1.2) (IntKind.i64.wrap ((Rdr.i r1.2) + 1)) (Rdr.fin r1.2) (Rdr.bad r1.2)))) else ((xFK N q0 q1 q2 q3 q4 q5 N a1 [] r1.2))
def xBx (a0 : Rdr) : List Arg := [.box (Rr .ro a0)]
def xBo (r : Exp × Rdr) : CallO := ⟨.v true (Ex .ro r.1), [(Rr .ro r.2)], []⟩
def xEe (N : Nat) (q0 : Rdr → Str → Option ((List Exp) × Rdr)) (q1 : Rdr → Option (Exp × Rdr)) (q2 : Rdr → Option (Exp × Rdr)) (q3 : Rdr → Option (Exp × Rdr)) (q4 : Rdr → Option (Exp × Rdr)) (q5 : Rdr → Option (Exp × Rdr)) (a0 : Rdr) : Option (Exp × Rdr) := bif (decide ((Rdr.bad a0) ≥ 0)) then ((xB7 N a0).bind fun r1 => some (r1.1, r1.2)) else (bif (decide ((Rdr.i a0) ≥ (List.length (Rdr.toks a0) : Int))) then ((xB7 N a0).bind fun r1 => some (r1.1, r1.2)) else (if (0 : Int) ≤ (Rdr.i a0) ∧ (Rdr.i a0) < (List.length (Rdr.toks a0)) then bif (((Tok.kind (List.getD (Rdr.toks a0) (Int.toNat (Rdr.i a0)) Ty.tok.dflt)) : Int) == 2) then ((xCY N (Tok.n (List.getD (Rdr.toks a0) (Int.toNat (Rdr.i a0)) Ty.tok.dflt))).bind fun r1 => some (r1, (Rdr.mk (Rdr.toks a0) (IntKind.i64.wrap ((Rdr.i a0) + 1)) (Rdr.fin a0) (Rdr.bad a0)))) else (bif (((Tok.kind (List.getD (Rdr.toks a0) (Int.toNat (Rdr.i a0)) Ty.tok.dflt)) : Int) == 3) then (some ((Exp.mk 2 0 (Tok.text (List.getD (Rdr.toks a0) (Int.toNat (Rdr.i a0)) Ty.tok.dflt)) []), (Rdr.mk (Rdr.toks a0) (IntKind.i64.wrap ((Rdr.i a0) + 1)) (Rdr.fin a0) (Rdr.bad a0)))) else (bif (((Tok.kind (List.getD (Rdr.toks a0) (Int.toNat (Rdr.i a0)) Ty.tok.dflt)) : Int) == 1) then ((xDz N (Tok.text (List.getD (Rdr.toks a0) (Int.toNat (Rdr.i a0)) Ty.tok.dflt))).bind fun r1 => bif r1 then ((xIA N (Tok.text (List.getD (Rdr.toks a0) (Int.toNat (Rdr.i a0)) Ty.tok.dflt))).bind fun r2 => some (r2, (Rdr.mk (Rdr.toks a0) (IntKind.i64.wrap ((Rdr.i a0) + 1)) (Rdr.fin a0) (Rdr.bad a0)))) else ((xB5 N (Tok.text (List.getD (Rdr.toks a0) (Int.toNat (Rdr.i a0)) Ty.tok.dflt))).bind fun r2 => bif (decide (r2 ≥ 0)) then ((xBE N (Rdr.mk (Rdr.toks a0) (IntKind.i64.wrap ((Rdr.i a0) + 1)) (Rdr.fin a0) (Rdr.bad a0)) [40]).bind fun r3 => (q0 r3 [41]).bind fun r4 => some ((Exp.mk 5 0 (Tok.text (List.getD (Rdr.toks a0) (Int.toNat (Rdr.i a0)) Ty.tok.dflt)) r4.1), r4.2)
     ) else ((xDM N (List.getD (Rdr.toks a0) (Int.toNat (Rdr.i a0)) Ty.tok.dflt) [91]).bind fun r3 => bif r3 then ((q0 (Rdr.mk (Rdr.toks a0) (IntKind.i64.wrap ((Rdr.i a0) + 1)) (Rdr.fin a0) (Rdr.bad a0)) [93]).bind fun r4 => some ((Exp.mk 4 0 [] r4.1), r4.2)) else ((xDM N (List.getD (Rdr.toks a0) (Int.toNat (Rdr.i a0)) Ty.tok.dflt) [40]).bind fun r4 => bif r4 then ((q3 (Rdr.mk (Rdr.toks a0) (IntKind.i64.wrap ((Rdr.i a0) + 1)) (Rdr.fin a0) (Rdr.bad a0))).bind fun r5 => (xBE N r5.2 [41]).bind fun r6 => some (r5.1, r6)) else ((xB7 N a0).bind fun r5 => some (r5.1, r5.2)))))) else ((xDM N (List.getD (Rdr.toks a0) (Int.toNat (Rdr.i a0)) Ty.tok.dflt) [91]).bind fun r1 => bif r1 then ((q0 (Rdr.mk (Rdr.toks a0) (IntKind.i64.wrap ((Rdr.i a0) + 1)) (Rdr.fin a0) (Rdr.bad a0)) [93]).bind fun r2 => some ((Exp.mk 4 0 [] r2.1), r2.2)) else ((xDM N (List.getD (Rdr.toks a0) (Int.toNat (Rdr.i a0)) Ty.tok.dflt) [40]).bind fun r2 => bif r2 then ((q3 (Rdr.mk (Rdr.toks a0) (IntKind.i64.wrap ((Rdr.i a0) + 1)) (Rdr.fin a0) (Rdr.bad a0))).bind fun r3 => (xBE N r3.2 [41]).bind fun r4 => some (r3.1, r4)) else ((xB7 N a0).bind fun r3 => some (r3.1, r3.2)))))) else none))
def xDP (a0 : Rdr) : List Arg := [.box (Rr .ro a0)]
def xDk (r : Exp × Rdr) : CallO := ⟨.v true (Ex .ro r.1), [(Rr .ro r.2)], []⟩
def xDd (N : Nat) (q0 : Rdr → Str → Option ((List Exp) × Rdr)) (q1 : Rdr → Option (Exp × Rdr)) (q2 : Rdr → Option (Exp × Rdr)) (q3 : Rdr → Option (Exp × Rdr)) (q4 : Rdr → Option (Exp × Rdr)) (q5 : Rdr → Option (Exp × Rdr)) (a0 : Rdr) : Option (Exp × Rdr) := (q5 a0).bind fun r1 => (xBJ N r1.2 [60]).bind fun r2 => bif r2.1 then ((q5 (Rdr.mk (Rdr.toks r2.2) (IntKind.i64.wrap ((Rdr.i r2.2) + 1)) (Rdr.fin r2.2) (Rdr.bad r2.2))).bind fun r3 => (xEc N 4 r1.1 r3.1).bind fun r4 => some (r4, r3.2)) else ((xBJ N r2.2 [61, 61]).bind fun r3 => bif r3.1 then ((q5 (Rdr.mk (Rdr.toks r3.2) (IntKind.i64.wrap ((Rdr.i r3.2) + 1)) (Rdr.fin r3.2) (Rdr.bad r3.2))).bind fun r4 => (xEc N 5 r1.1 r4.1).bind fun r5 => some (r5, r4.2)) else (some (r1.1, r3.2)))
def xCC (a0 : Rdr) : List Arg := [.box (Rr .ro a0)]
def xAv (r : Exp × Rdr) : CallO := ⟨.v true (Ex .ro r.1), [(Rr .ro r.2)], []⟩
def xEf (N : Nat) (q0 : Rdr → Str → Option ((List Exp) × Rdr)) (q1 : Rdr → Option (Exp × Rdr)) (q2 : Rdr → Option (Exp × Rdr)) (q3 : Rdr → Option (Exp × Rdr)) (q4 : Rdr → Option (Exp × Rdr)) (q5 : Rdr → Option (Exp × Rdr)) (a0 : Rdr) : Option (Exp × Rdr) := (xBJ N a0 [108, 101, 116]).bind fun r1 => bif r1.1 then ((xDZ N (Rdr.mk (Rdr.toks r1.2) (IntKind.i64.wrap ((Rdr.i r1.2) + 1)) (Rdr.fin r1.2) (Rdr.bad r1.2))).bind fun r2 => (xBE N r2.2 [61]).bind fun r3 => (q3 r3).bind fun r4 => (xBE N r4.2 [105, 110]).bind fun r5 => (q3 r5).bind fun r6 => some ((Exp.mk 7 0 r2.1 [(Exp.re r4.1), (Exp.re r6.1)]), r6.2)) else ((xBJ N r1.2 [105, 102]).bind fun r2 => bif r2.1 then ((q3 (Rdr.mk (Rdr.toks r2.2) (IntKind.i64.wrap ((Rdr.i r2.2) + 1)) (Rdr.fin r2.2) (Rdr.bad r2.2))).bind fun r3 => (xBE N r3.2 [116, 104, 101, 110]).bind fun r4 => (q3 r4).bind fun r5 => (xBE N r5.2 [101, 108, 115, 101]).bind fun r6 => (q3 r6).bind fun r7 => some ((Exp.mk 8 0 [] [(Exp.re r3.1), (Exp.re r5.1), (Exp.re r7.1)]), r7.2)) else ((xBJ N r2.2 [102, 111, 114]).bind fun r3 => bif r3.1 then ((xDZ N (Rdr.mk (Rdr.toks r3.2) (IntKind.i64.wrap ((Rdr.i r3.2) + 1)) (Rdr.fin r3.2) (Rdr.bad r3.2))).bind fun r4 => (xBE N r4.2 [105, 110]).bind fun r5 => (q3 r5).bind fun r6 => (xBE N r6.2 [100, 111]).bind fun r7 => (q3 r7).bind fun r8 => some ((Exp.mk 9 0 r4.1 [(Exp.re r6.1), (Exp.re r8.1)]), r8.2)) else ((q2 r3.2).bind fun r4 => some (r4.1, r4.2))))
def xEy (a0 : Rdr) : List Arg := [.box (Rr .ro a0)]
def xBP (r : Exp × Rdr) : CallO := ⟨.v true (Ex .ro r.1), [(Rr .ro r.2)], []⟩
def xDl (N : Nat) (q0 : Rdr → Str → Option ((List Exp) × Rdr)) (q1 : Rdr → Option (Exp × Rdr)) (q2 : Rdr → Option (Exp × Rdr)) (q3 : Rdr → Option (Exp × Rdr)) (q4 : Rdr → Option (Exp × Rdr)) (q5 : Rdr → Option (Exp × Rdr)) : Nat → Rdr → Exp → Exp → Option (Exp × Rdr)
 | 0, _, _, _ => none
 | n + 1, b0, b2, b3 => (xBJ N b0 [42]).bind fun r1 => bif r1.1 then ((q1 (Rdr.mk (Rdr.toks r1.2) (IntKind.i64.wrap ((Rdr.i r1.2) + 1)) (Rdr.fin r1.2) (Rdr.bad r1.2))).bind fun r2 => (xEc N 3 b3 r2.1).bind fun r3 => (xDl N q0 q1 q2 q3 q4 q5 n r2.2 b2 r3)) else (some (b3, r1.2))
def xDe (N : Nat) (q0 : Rdr → Str → Option ((List Exp) × Rdr)) (q1 : Rdr → Option (Exp × Rdr)) (q2 : Rdr → Option (Exp × Rdr)) (q3 : Rdr → Option (Exp × Rdr)) (q4 : Rdr → Option (Exp × Rdr)) (q5 : Rdr → Option (Exp × Rdr)) (a0 : Rdr) : Option (Exp × Rdr) := (q1 a0).bind fun r1 => (xDl N q0 q1 q2 q3 q4 q5 N r1.2 (Exp.mk 0 0 [] []) r1.1)
def xEP (a0 : Rdr) : List Arg := [.box (Rr .ro a0)]
def xCs (r : Exp × Rdr) : CallO := ⟨.v true (Ex .ro r.1), [(Rr .ro r.2)], []⟩
def xC5 (N : Nat) (q0 : Rdr → Str → Option ((List Exp) × Rdr)) (q1 : Rdr → Option (Exp × Rdr)) (q2 : Rdr → Option (Exp × Rdr)) (q3 : Rdr → Option (Exp × Rdr)) (q4 : Rdr → Option (Exp × Rdr)) (q5 : Rdr → Option (Exp × Rdr)) : Nat → Rdr → Exp → Exp → Option (Exp × Rdr)
 | 0, _, _, _ => none
 | n + 1, b0, b2, b3 => (xBJ N b0 [43]).bind fun r1 => bif r1.1 then ((xBJ N r1.2 [45]).bind fun r2 => bif r2.1 then ((q4 (Rdr.mk (Rdr.toks r2.2) (IntKind.i64.wrap ((Rdr.i r2.2) + 1)) (Rdr.fin r2.2) (Rdr.bad r2.2))).bind fun r3 => (xEc N 2 b3 r3.1).bind fun r4 => (xC5 N q0 q1 q2 q3 q4 q5 n r3.2 b2 r4)) else ((q4 (Rdr.mk (Rdr.toks r2.2) (IntKind.i64.wrap ((Rdr.i r2.2) + 1)) (Rdr.fin r2.2) (Rdr.bad r2.2))).bind fun r3 => (xEc N 1 b3 r3.1).bind fun r4 => (xC5 N q0 q1 q2 q3 q4 q5 n r3.2 b2 r4))) else ((xBJ N r1.2 [45]).bind fun r2 => bif r2.1 then ((xBJ N r2.2 [45]).bind fun r3 => bif r3.1 then ((q4 (Rdr.mk (Rdr.toks r3.2) (IntKind.i64.wrap ((Rdr.i r3.2) + 1)) (Rdr.fin r3.2) (Rdr.bad r3.2))).bind fun r4 => (xEc N 2 b3 r4.1).bind fun r5 => (xC5 N q0 q1 q2 q3 q4 q5 n r4.2 b2 r5)) else ((q4 (Rdr.mk (Rdr.toks r3.2) (IntKind.i64.wrap ((Rdr.i r3.2) + 1)) (Rdr.fin r3.2) (Rdr.bad r3.2))).bind fun r4 => (xEc N 1 b3 r4.1).bind fun r5 => (xC5 N q0 q1 q2 q3 q4 q5 n r4.2 b2 r5))) else (some (b3, r2.2)))
def xEE (N : Nat) (q0 : Rdr → Str → Option ((List Exp) × Rdr)) (q1 : Rdr → Option (Exp × Rdr)) (q2 : Rdr → Option (Exp × Rdr)) (q3 : Rdr → Option (Exp × Rdr)) (q4 : Rdr → Option (Exp × Rdr)) (q5 : Rdr → Option (Exp × Rdr)) (a0 : Rdr) : Option (Exp × Rdr) := (q4 a0).bind fun r1 => (xC5 N q0 q1 q2 q3 q4 q5 N r1.2 (Exp.mk 0 0 [] []) r1.1)
structure spec_l11Args_rec where
 c_spec_l11Args : Rdr → Str → Option ((List Exp) × Rdr)
 c_spec_l11Atom : Rdr → Option (Exp × Rdr)
 c_spec_l11Compare : Rdr → Option (Exp × Rdr)
 c_spec_l11Expr : Rdr → Option (Exp × Rdr)
 c_spec_l11Product : Rdr → Option (Exp × Rdr)
 c_spec_l11Sum : Rdr → Option (Exp × Rdr)
def xAa (N : Nat) : Nat → spec_l11Args_rec
 | 0 => ⟨fun _ _ => none, fun _ => none, fun _ => none, fun _ => none, fun _ => none, fun _ => none⟩
 | d + 1 => ⟨xEd N (xAa N d).c_spec_l11Args (xAa N d).c_spec_l11Atom (xAa N d).c_spec_l11Compare (xAa N d).c_spec_l11Expr (xAa N d).c_spec_l11Product (xAa N d).c_spec_l11Sum, xEe N (xAa N d).c_spec_l11Args (xAa N d).c_spec_l11Atom (xAa N d).c_spec_l11Compare (xAa N d).c_spec_l11Expr (xAa N d).c_spec_l11Product (xAa N d).c_spec_l11Sum, xDd N (xAa N d).c_spec_l11Args (xAa N d).c_spec_l11Atom (xAa N d).c_spec_l11Compare (xAa N d).c_spec_l11Expr (xAa N d).c_spec_l11Product (xAa N d).c_spec_l11Sum, xEf N (xAa N d).c_spec_l11Args (xAa N d).c_spec_l11Atom (xAa N d).c_spec_l11Compare (xAa N d).c_spec_l11Expr (xAa N d).c_spec_l11Product (xAa N d).c_spec_l11Sum, xDe N (xAa N d).c_spec_l11Args (xAa N d).c_spec_l11Atom (xAa N d).c_spec_l11Compare (xAa N d).c_spec_l11Expr (xAa N d).c_spec_l11Product (xAa N d).c_spec_l11Sum, xEE N (xAa N d).c_spec_l11Args (xAa N d).c_spec_l11Atom (xAa N d).c_spec_l11Compare (xAa N d).c_spec_l11Expr (xAa N d).c_spec_l11Product (xAa N d).c_spec_l11Sum⟩
def xIC (N : Nat) (a0 : Rdr) : Option (Exp × Rdr) := (xAa N N).c_spec_l11Expr a0
def xDO (a0 : Exp) (a1 : Int) : List Arg := [.val (.v true (Ex .ro a0)), .val (.v false [.int .i64 a1])]
def xBQ (r : Int) : CallO := ⟨.v false [.int .i64 r], [], []⟩
def xEq (N : Nat) (q0 : Exp → Int → Option (Int)) : Nat → Int → Int → Exp → Option (Int)
 | 0, _, _, _ => none
 | n + 1, x1, x5, b2 => bif (decide (x5 < (List.length (Exp.args b2) : Int))) then (bif (decide (x1 ≥ 0)) then (if (0 : Int) ≤ x5 ∧ x5 < (List.length (Exp.args b2)) then (q0 (List.getD (Exp.args b2) (Int.toNat x5) Ty.exp.dflt) x1).bind fun r1 => (xEq N q0 n r1 (IntKind.i64.wrap (x5 + 1)) b2) else none) else (some x1)) else (some x1)
def xHu (N : Nat) (q0 : Exp → Int → Option (Int)) (a0 : Exp) (a1 : Int) : Option (Int) := (xEq N q0 N (IntKind.i64.wrap (a1 - 1)) 0 a0)
def xFj (N : Nat) : Nat → Exp → Int → Option (Int)
 | 0, _, _ => none
 | d + 1, a0, a1 => xHu N (xFj N d) a0 a1
def xJ9 (N : Nat) (a0 : Exp) (a1 : Int) : Option (Int) := xFj N N a0 a1
def xHg (a0 : Int) (a1 : Int) : List Arg := [.val (.v false [.int .i64 a0]), .val (.v false [.int .i64 a1])]
def xGw (r : Int) : CallO := ⟨.v false [.int .i64 r], [], []⟩
def xI7 (N : Nat) (a0 : Int) (a1 : Int) : Option (Int) := bif (decide (a0 > a1)) then (some a0) else (some a1)
def xDH (a0 : Exp) : List Arg := [.val (.v true (Ex .ro a0))]
def xB0 (r : Int) : CallO := ⟨.v false [.int .i64 r], [], []⟩
def xET (N : Nat) (q0 : Exp → Option (Int)) : Nat → Int → Int → Exp → Option (Int)
 | 0, _, _, _ => none
 | n + 1, x3, x4, b1 => bif (decide (x4 < (List.length (Exp.args b1) : Int))) then (if (0 : Int) ≤ x4 ∧ x4 < (List.length (Exp.args b1)) then (q0 (List.getD (Exp.args b1) (Int.toNat x4) Ty.exp.dflt)).bind fun r1 => (xI7 N x3 r1).bind fun r2 => (xET N q0 n r2 (IntKind.i64.wrap (x4 + 1)) b1) else none) else (some (IntKind.i64.wrap (x3 + 1)))
def xGX (N : Nat) (q0 : Exp → Option (Int)) (a0 : Exp) : Option (Int) := (xET N q0 N 0 0 a0)
def xFu (N : Nat) : Nat → Exp → Option (Int)
 | 0, _ => none
 | d + 1, a0 => xGX N (xFu N d) a0
def xIT (N : Nat) (a0 : Exp) : Option (Int) := xFu N N a0
def xFR (a0 : Int) (a1 : Int) (a2 : Int) : List Arg := [.val (.v false [.int .i64 a0]), .val (.v false [.int .i64 a1]), .val (.v false [.int .i64 a2])]
def xD0 (r : Bool) : CallO := ⟨.v false [.bool r], [], []⟩
def xIk (N : Nat) (a0 : Int) (a1 : Int) (a2 : Int) : Option (Bool) := bif (decide (a0 ≥ a1)) then (some (decide (a0 ≤ a2))) else (some false)
def xAz (a0 : Exp) : List Arg := [.val (.v true (Ex .ro a0))]
def xAy (r : Bool) : CallO := ⟨.v false [.bool r], [], []⟩
def xHL (N : Nat) (a0 : Exp) : Option (Bool) := bif ((Exp.kind a0) == 1) then (bif ((List.length (Exp.args a0) : Int) == 0) then (bif (((Exp.text a0) : Str) == []) then ((xIk N (Exp.n a0) 0 1000000000).bind fun r1 => some r1) else (some false)) else (some false)) else (bif ((Exp.kind a0) == 2) then (bif ((List.length (Exp.args a0) : Int) == 0) then (bif ((Exp.n a0) == 0) then ((xFg N (Exp.text a0)).bind fun r1 => some r1) else (some false)) else (some false)) else (bif ((Exp.kind a0) == 3) then (bif ((List.length (Exp.args a0) : Int) == 0) then (bif ((Exp.n a0) == 0) then ((xDz N (Exp.text a0)).bind fun r1 => some r1) else (some false)) else (some false)) else (bif ((Exp.kind a0) == 4) then (bif ((Exp.n a0) == 0) then (bif (((Exp.text a0) : Str) == []) then (some (decide ((List.length (Exp.args a0) : Int) ≤ 8))) else (some false)) else (some false)) else (bif ((Exp.kind a0) == 5) then (bif ((Exp.n a0) == 0) then ((xB5 N (Exp.text a0)).bind fun r1 => some ((List.length (Exp.args a0) : Int) == r1)) else (some false)) else (bif ((Exp.kind a0) == 6) then (bif (((Exp.text a0) : Str) == []) then (bif ((List.length (Exp.args a0) : Int) == 2) then ((xIk N (Exp.n a0) 1 5).bind fun r1 => some r1) else (some false)) else (some false)) else (bif ((Exp.kind a0) == 7) then (bif ((Exp.n a0) == 0) then (bif ((List.length (Exp.args a0) : Int) == 2) then ((xDz N (Exp.text a0)).bind fun r1 => some r1) else (some false)) else (some false)) else (bif ((Exp.kind a0) == 9) then (bif ((Exp.n a0) == 0) then (bif ((List.length (Exp.args a0) : Int) == 2) then ((xDz N (Exp.text a0)).bind fun r1 => some r1) else (some false)) else (some false)) else (bif ((Exp.kind a0) == 8) then (bif ((Exp.n a0) == 0) then (bif (((Exp.text a0) : Str) == []) then (some ((List.length (Exp.args a0) : Int) == 3)
            ) else (some false)) else (some false)) else (some false)))))))))
def xEO (a0 : Exp) : List Arg := [.val (.v true (Ex .ro a0))]
def xCF (r : Bool) : CallO := ⟨.v false [.bool r], [], []⟩
def xFB (N : Nat) (q0 : Exp → Option (Bool)) : Nat → Int → Exp → Option (Bool)
 | 0, _, _ => none
 | n + 1, x3, b1 => bif (decide (x3 < (List.length (Exp.args b1) : Int))) then (if (0 : Int) ≤ x3 ∧ x3 < (List.length (Exp.args b1)) then (q0 (List.getD (Exp.args b1) (Int.toNat x3) Ty.exp.dflt)).bind fun r1 => bif (!r1) then (some false) else ((xFB N q0 n (IntKind.i64.wrap (x3 + 1)) b1)) else none) else ((xHL N b1).bind fun r1 => some r1)
def xHP (N : Nat) (q0 : Exp → Option (Bool)) (a0 : Exp) : Option (Bool) := (xFB N q0 N 0 a0)
def xGk (N : Nat) : Nat → Exp → Option (Bool)
 | 0, _ => none
 | d + 1, a0 => xHP N (xGk N d) a0
def xKX (N : Nat) (a0 : Exp) : Option (Bool) := xGk N N a0
def xB9 (a0 : Exp) : List Arg := [.val (.v true (Ex .ro a0))]
def xAF (r : Bool) : CallO := ⟨.v false [.bool r], [], []⟩
def xCy (N : Nat) (a0 : Exp) : Option (Bool) := (xJ9 N a0 40).bind fun r1 => bif (decide (r1 ≥ 0)) then ((xIT N a0).bind fun r2 => bif (decide (r2 ≤ 8)) then ((xKX N a0).bind fun r3 => some r3) else (some false)) else (some false)
def xBA (a0 : Str) : List Arg := [.val (.v false [.str a0])]
def xBB (r : Exp × Int) : CallO := ⟨.tup [(true, (Ex .ro r.1)), (false, [.int .i64 r.2])], [], []⟩
def xFA (N : Nat) (a0 : Str) : Option (Exp × Int) := (xGu N a0).bind fun r1 => bif (decide (r1.2 ≥ 0)) then (some ((Exp.mk 0 0 [] []), r1.2)) else ((xIC N (Rdr.mk r1.1 0 (List.length a0 : Int) (-1))).bind fun r2 => bif (decide ((Rdr.bad r2.2) < 0)) then (bif (decide ((Rdr.i r2.2) < (List.length r1.1 : Int))) then ((xB7 N r2.2).bind fun r3 => bif (decide ((Rdr.bad r3.2) ≥ 0)) then (some ((Exp.mk 0 0 [] []), (Rdr.bad r3.2))) else ((xCy N r2.1).bind fun r4 => bif (!r4) then (some ((Exp.mk 0 0 [] []), 0)) else (some (r2.1, (-1))))) else (bif (decide ((Rdr.bad r2.2) ≥ 0)) then (some ((Exp.mk 0 0 [] []), (Rdr.bad r2.2))) else ((xCy N r2.1).bind fun r3 => bif (!r3) then (some ((Exp.mk 0 0 [] []), 0)) else (some (r2.1, (-1)))))) else (bif (decide ((Rdr.bad r2.2) ≥ 0)) then (some ((Exp.mk 0 0 [] []), (Rdr.bad r2.2))) else ((xCy N r2.1).bind fun r3 => bif (!r3) then (some ((Exp.mk 0 0 [] []), 0)) else (some (r2.1, (-1))))))
def xK9 (a0 : Str) (a1 : Int) (a2 : Int) : List Arg := [.val (.v false [.str a0]), .val (.v false [.int .i64 a1]), .val (.v false [.int .i64 a2])]
def xG6 (r : Int × Bool) : CallO := ⟨.tup [(false, [.int .i64 r.1]), (false, [.bool r.2])], [], []⟩
def xH1 (N : Nat) (a0 : Str) (a1 a2 : Int) : Option (Int × Bool) := zEp a0 a1 a2
def xGD (a0 : Str) (a1 : Int) : List Arg := [.val (.v false [.str a0]), .val (.v false [.int .u8 a1])]
def xA0 (r : Int) : CallO := ⟨.v false [.int .i64 r], [], []⟩
def strings_IndexByte (N : Nat) (a0 : Str) (a1 : Int) : Option Int := zFI a0 a1
def xD6 (a0 : Str) : List Arg := [.val (.v false [.str a0])]
def xAZ (r : Bool) : CallO := ⟨.v false [.bool r], [], []⟩
def xEX (N : Nat) : Nat → Str → Int → Option (Bool)
 | 0, _, _ => none
 | n + 1, x0, x3 => bif (decide (x3 < (List.length x0 : Int))) then (if (0 : Int) ≤ x3 ∧ x3 < (List.length x0) then bif (decide ((((List.getD x0 (Int.toNat x3) 0).toNat : Int) : Int) < 32)) then (some false) else (bif (decide ((((List.getD x0 (Int.toNat x3) 0).toNat : Int) : Int) > 126)) then (some false) else (bif ((((List.getD x0 (Int.toNat x3) 0).toNat : Int) : Int) == 34) then (some false) else ((xEX N n x0 (IntKind.i64.wrap (x3 + 1)))))) else none) else (some (decide ((List.length x0 : Int) ≤ 20)))
def xDx (N : Nat) (a0 : Str) : Option (Bool) := (xEX N N a0 0)
def xHU (a0 : Str) (a1 : Str) : List Arg := [.val (.v false [.str a0]), .val (.v false [.str a1])]
def xBT (r : Bool) : CallO := ⟨.v false [.bool r], [], []⟩
def strings_HasPrefix (N : Nat) (a0 a1 : Str) : Option Bool := zFH a0 a1
def xAQ (a0 : Str) (a1 : Int) : List Arg := [.val (.v false [.str a0]), .val (.v false [.int .i64 a1])]
def xA3 (r : Tok × Int × Bool) : CallO := ⟨.tup [(true, [.int .i64 (Tok.kind r.1), .int .i64 (Tok.n r.1), .int .i64 (Tok.pos r.1), .str (Tok.text r.1)]), (false, [.int .i64 r.2.1]), (false, [.bool r.2.2])], [], []⟩
def xCW (N : Nat) : Nat → Str → Int → Int → Tok → Option (Tok × Int × Bool)
 | 0, _, _, _, _ => none
 | n + 1, x0, x1, x7, b4 => bif (decide (x7 < (List.length x0 : Int))) then (if (0 : Int) ≤ x7 ∧ x7 < (List.length x0) then bif (decide ((((List.getD x0 (Int.toNat x7) 0).toNat : Int) : Int) ≥ 97)) then (bif (decide ((((List.getD x0 (Int.toNat x7) 0).toNat : Int) : Int) ≤ 122)) then ((xCW N n x0 x1 (IntKind.i64.wrap (x7 + 1)) b4)) else (bif (decide ((((List.getD x0 (Int.toNat x7) 0).toNat : Int) : Int) ≥ 48)) then (bif (decide ((((List.getD x0 (Int.toNat x7) 0).toNat : Int) : Int) ≤ 57)) then ((xCW N n x0 x1 (IntKind.i64.wrap (x7 + 1)) b4)) else (if (0 : Int) ≤ x1 ∧ x1 ≤ x7 ∧ x7 ≤ (List.length x0) then some ((Tok.mk 1 0 x1 (List.drop (Int.toNat x1) (List.take (Int.toNat x7) x0))), x7, (decide ((IntKind.i64.wrap (x7 - x1)) ≤ 8))) else none)) else (if (0 : Int) ≤ x1 ∧ x1 ≤ x7 ∧ x7 ≤ (List.length x0) then some ((Tok.mk 1 0 x1 (List.drop (Int.toNat x1) (List.take (Int.toNat x7) x0))), x7, (decide ((IntKind.i64.wrap (x7 - x1)) ≤ 8))) else none))) else (bif (decide ((((List.getD x0 (Int.toNat x7) 0).toNat : Int) : Int) ≥ 48)) then (bif (decide ((((List.getD x0 (Int.toNat x7) 0).toNat : Int) : Int) ≤ 57)) then ((xCW N n x0 x1 (IntKind.i64.wrap (x7 + 1)) b4)) else (if (0 : Int) ≤ x1 ∧ x1 ≤ x7 ∧ x7 ≤ (List.length x0) then some ((Tok.mk 1 0 x1 (List.drop (Int.toNat x1) (List.take (Int.toNat x7) x0))), x7, (decide ((IntKind.i64.wrap (x7 - x1)) ≤ 8))) else none)) else (if (0 : Int) ≤ x1 ∧ x1 ≤ x7 ∧ x7 ≤ (List.length x0) then some ((Tok.mk 1 0 x1 (List.drop (Int.toNat x1) (List.take (Int.toNat x7) x0))), x7, (decide ((IntKind.i64.wrap (x7 - x1)) ≤ 8))) else none)) else none) else (if (0 : Int) ≤ x1 ∧ x1 ≤ x7 ∧ x7 ≤ (List.length x0) then some ((Tok.mk 1 0 x1 (List.drop (Int.toNat x1) (List.take (Int.toNat x7) x0))), x7, (decide ((IntKind.i64.wrap (x7 - x1)) ≤ 8))) else none)
def xDn (N : Nat) : Nat → Str → Int → Int → Tok → Option (Tok × Int × Bool)
 | 0, _, _, _, _ => none
 | n + 1, x0, x1, x7, b4 => bif (decide (x7 < (List.length x0 : Int))) then (if (0 : Int) ≤ x7 ∧ x7 < (List.length x0) then bif (decide ((((List.getD x0 (Int.toNat x7) 0).toNat : Int) : Int) ≥ 48)) then (bif (decide ((((List.getD x0 (Int.toNat x7) 0).toNat : Int) : Int) ≤ 57)) then ((xDn N n x0 x1 (IntKind.i64.wrap (x7 + 1)) b4)) else (if (0 : Int) ≤ x1 ∧ x1 ≤ x7 ∧ x7 ≤ (List.length x0) then (xH1 N (List.drop (Int.toNat x1) (List.take (Int.toNat x7) x0)) 0 1000000000).bind fun r1 => some ((Tok.mk 2 r1.1 x1 []), x7, r1.2) else none)) else (if (0 : Int) ≤ x1 ∧ x1 ≤ x7 ∧ x7 ≤ (List.length x0) then (xH1 N (List.drop (Int.toNat x1) (List.take (Int.toNat x7) x0)) 0 1000000000).bind fun r1 => some ((Tok.mk 2 r1.1 x1 []), x7, r1.2) else none) else none) else (if (0 : Int) ≤ x1 ∧ x1 ≤ x7 ∧ x7 ≤ (List.length x0) then (xH1 N (List.drop (Int.toNat x1) (List.take (Int.toNat x7) x0)) 0 1000000000).bind fun r1 => some ((Tok.mk 2 r1.1 x1 []), x7, r1.2) else none)
def xHG (N : Nat) (a0 : Str) (a1 : Int) : Option (Tok × Int × Bool) := if (0 : Int) ≤ a1 ∧ a1 < (List.length a0) then bif (decide ((((List.getD a0 (Int.toNat a1) 0).toNat : Int) : Int) ≥ 97)) then (bif (decide ((((List.getD a0 (Int.toNat a1) 0).toNat : Int) : Int) ≤ 122)) then ((xCW N N a0 a1 a1 (Tok.mk 0 0 0 []))) else (bif (decide ((((List.getD a0 (Int.toNat a1) 0).toNat : Int) : Int) ≥ 48)) then (bif (decide ((((List.getD a0 (Int.toNat a1) 0).toNat : Int) : Int) ≤ 57)) then ((xDn N N a0 a1 a1 (Tok.mk 0 0 0 []))) else (bif ((((List.getD a0 (Int.toNat a1) 0).toNat : Int) : Int) == 34) then (if (0 : Int) ≤ (IntKind.i64.wrap (a1 + 1)) ∧ (IntKind.i64.wrap (a1 + 1)) ≤ (List.length a0) then (strings_IndexByte N (List.drop (Int.toNat (IntKind.i64.wrap (a1 + 1))) a0) 34).bind fun r1 => bif (decide (r1 < 0)) then (some ((Tok.mk 0 0 0 []), 0, false)) else (if (0 : Int) ≤ (IntKind.i64.wrap (a1 + 1)) ∧ (IntKind.i64.wrap (a1 + 1)) ≤ (IntKind.i64.wrap ((IntKind.i64.wrap (a1 + 1)) + r1)) ∧ (IntKind.i64.wrap ((IntKind.i64.wrap (a1 + 1)) + r1)) ≤ (List.length a0) then (xDx N (List.drop (Int.toNat (IntKind.i64.wrap (a1 + 1))) (List.take (Int.toNat (IntKind.i64.wrap ((IntKind.i64.wrap (a1 + 1)) + r1))) a0))).bind fun r2 => some ((Tok.mk 3 0 a1 (List.drop (Int.toNat (IntKind.i64.wrap (a1 + 1))) (List.take (Int.toNat (IntKind.i64.wrap ((IntKind.i64.wrap (a1 + 1)) + r1))) a0))), (IntKind.i64.wrap ((IntKind.i64.wrap (a1 + r1)) + 2)), r2) else none) else none) else (if (0 : Int) ≤ a1 ∧ a1 ≤ (List.length a0) then (strings_HasPrefix N (List.drop (Int.toNat a1) a0) [61, 61]).bind fun r1 => bif r1 then (some ((Tok.mk 4 0 a1 [61, 61]), (IntKind.i64.wrap (a1 + 2)), true)) else (if (0 : Int) ≤ a1 ∧ a1 ≤ (IntKind.i64.wrap (a1 + 1)) ∧ (IntKind.i64.wrap (a1 + 1)) ≤ (List.length a0) then (strings_IndexByte N [40, 41, 91, 93, 44, 43, 45, 42, 60, 61] ((List.getD a0 (Int.toNat a1) 0).toNat : Int)).bind fun r2 =>
     some ((Tok.mk 4 0 a1 (List.drop (Int.toNat a1) (List.take (Int.toNat (IntKind.i64.wrap (a1 + 1))) a0))), (IntKind.i64.wrap (a1 + 1)), (decide (r2 ≥ 0))) else none) else none))) else (bif ((((List.getD a0 (Int.toNat a1) 0).toNat : Int) : Int) == 34) then (if (0 : Int) ≤ (IntKind.i64.wrap (a1 + 1)) ∧ (IntKind.i64.wrap (a1 + 1)) ≤ (List.length a0) then (strings_IndexByte N (List.drop (Int.toNat (IntKind.i64.wrap (a1 + 1))) a0) 34).bind fun r1 => bif (decide (r1 < 0)) then (some ((Tok.mk 0 0 0 []), 0, false)) else (if (0 : Int) ≤ (IntKind.i64.wrap (a1 + 1)) ∧ (IntKind.i64.wrap (a1 + 1)) ≤ (IntKind.i64.wrap ((IntKind.i64.wrap (a1 + 1)) + r1)) ∧ (IntKind.i64.wrap ((IntKind.i64.wrap (a1 + 1)) + r1)) ≤ (List.length a0) then (xDx N (List.drop (Int.toNat (IntKind.i64.wrap (a1 + 1))) (List.take (Int.toNat (IntKind.i64.wrap ((IntKind.i64.wrap (a1 + 1)) + r1))) a0))).bind fun r2 => some ((Tok.mk 3 0 a1 (List.drop (Int.toNat (IntKind.i64.wrap (a1 + 1))) (List.take (Int.toNat (IntKind.i64.wrap ((IntKind.i64.wrap (a1 + 1)) + r1))) a0))), (IntKind.i64.wrap ((IntKind.i64.wrap (a1 + r1)) + 2)), r2) else none) else none) else (if (0 : Int) ≤ a1 ∧ a1 ≤ (List.length a0) then (strings_HasPrefix N (List.drop (Int.toNat a1) a0) [61, 61]).bind fun r1 => bif r1 then (some ((Tok.mk 4 0 a1 [61, 61]), (IntKind.i64.wrap (a1 + 2)), true)) else (if (0 : Int) ≤ a1 ∧ a1 ≤ (IntKind.i64.wrap (a1 + 1)) ∧ (IntKind.i64.wrap (a1 + 1)) ≤ (List.length a0) then (strings_IndexByte N [40, 41, 91, 93, 44, 43, 45, 42, 60, 61] ((List.getD a0 (Int.toNat a1) 0).toNat : Int)).bind fun r2 => some ((Tok.mk 4 0 a1 (List.drop (Int.toNat a1) (List.take (Int.toNat (IntKind.i64.wrap (a1 + 1))) a0))), (IntKind.i64.wrap (a1 + 1)), (decide (r2 ≥ 0))) else none) else none)))) else (bif (decide ((((List.getD a0 (Int.toNat a1) 0).toNat : Int) : Int) ≥ 48)) then (bif (decide ((((List.getD a0 (Int.toNat a1) 0).toNat : Int) : Int) ≤ 57)) then ((xDn N N a0 a1 a1 (Tok.mk 0 0 0 []))
     ) else (bif ((((List.getD a0 (Int.toNat a1) 0).toNat : Int) : Int) == 34) then (if (0 : Int) ≤ (IntKind.i64.wrap (a1 + 1)) ∧ (IntKind.i64.wrap (a1 + 1)) ≤ (List.length a0) then (strings_IndexByte N (List.drop (Int.toNat (IntKind.i64.wrap (a1 + 1))) a0) 34).bind fun r1 => bif (decide (r1 < 0)) then (some ((Tok.mk 0 0 0 []), 0, false)) else (if (0 : Int) ≤ (IntKind.i64.wrap (a1 + 1)) ∧ (IntKind.i64.wrap (a1 + 1)) ≤ (IntKind.i64.wrap ((IntKind.i64.wrap (a1 + 1)) + r1)) ∧ (IntKind.i64.wrap ((IntKind.i64.wrap (a1 + 1)) + r1)) ≤ (List.length a0) then (xDx N (List.drop (Int.toNat (IntKind.i64.wrap (a1 + 1))) (List.take (Int.toNat (IntKind.i64.wrap ((IntKind.i64.wrap (a1 + 1)) + r1))) a0))).bind fun r2 => some ((Tok.mk 3 0 a1 (List.drop (Int.toNat (IntKind.i64.wrap (a1 + 1))) (List.take (Int.toNat (IntKind.i64.wrap ((IntKind.i64.wrap (a1 + 1)) + r1))) a0))), (IntKind.i64.wrap ((IntKind.i64.wrap (a1 + r1)) + 2)), r2) else none) else none) else (if (0 : Int) ≤ a1 ∧ a1 ≤ (List.length a0) then (strings_HasPrefix N (List.drop (Int.toNat a1) a0) [61, 61]).bind fun r1 => bif r1 then (some ((Tok.mk 4 0 a1 [61, 61]), (IntKind.i64.wrap (a1 + 2)), true)) else (if (0 : Int) ≤ a1 ∧ a1 ≤ (IntKind.i64.wrap (a1 + 1)) ∧ (IntKind.i64.wrap (a1 + 1)) ≤ (List.length a0) then (strings_IndexByte N [40, 41, 91, 93, 44, 43, 45, 42, 60, 61] ((List.getD a0 (Int.toNat a1) 0).toNat : Int)).bind fun r2 => some ((Tok.mk 4 0 a1 (List.drop (Int.toNat a1) (List.take (Int.toNat (IntKind.i64.wrap (a1 + 1))) a0))), (IntKind.i64.wrap (a1 + 1)), (decide (r2 ≥ 0))) else none) else none))) else (bif ((((List.getD a0 (Int.toNat a1) 0).toNat : Int) : Int) == 34) then (if (0 : Int) ≤ (IntKind.i64.wrap (a1 + 1)) ∧ (IntKind.i64.wrap (a1 + 1)) ≤ (List.length a0) then (strings_IndexByte N (List.drop (Int.toNat (IntKind.i64.wrap (a1 + 1))) a0) 34).bind fun r1 => bif (decide (r1 < 0)) then (some ((Tok.mk 0 0 0 []), 0, false)) else (if (0 : Int) ≤ (IntKind.i64.wrap (a1 + 1)) ∧ (IntKind.i64.wrap (a1 + 1)) ≤ (IntKind.i64.wrap ((IntKind.i64.wrap (a1 + 1)) + r1)) ∧ (IntKind.i64.wrap ((IntKind.i64.wrap (a1 + 1)) + r1)) ≤ (List.length a0) then
        (xDx N (List.drop (Int.toNat (IntKind.i64.wrap (a1 + 1))) (List.take (Int.toNat (IntKind.i64.wrap ((IntKind.i64.wrap (a1 + 1)) + r1))) a0))).bind fun r2 => some ((Tok.mk 3 0 a1 (List.drop (Int.toNat (IntKind.i64.wrap (a1 + 1))) (List.take (Int.toNat (IntKind.i64.wrap ((IntKind.i64.wrap (a1 + 1)) + r1))) a0))), (IntKind.i64.wrap ((IntKind.i64.wrap (a1 + r1)) + 2)), r2) else none) else none) else (if (0 : Int) ≤ a1 ∧ a1 ≤ (List.length a0) then (strings_HasPrefix N (List.drop (Int.toNat a1) a0) [61, 61]).bind fun r1 => bif r1 then (some ((Tok.mk 4 0 a1 [61, 61]), (IntKind.i64.wrap (a1 + 2)), true)) else (if (0 : Int) ≤ a1 ∧ a1 ≤ (IntKind.i64.wrap (a1 + 1)) ∧ (IntKind.i64.wrap (a1 + 1)) ≤ (List.length a0) then (strings_IndexByte N [40, 41, 91, 93, 44, 43, 45, 42, 60, 61] ((List.getD a0 (Int.toNat a1) 0).toNat : Int)).bind fun r2 => some ((Tok.mk 4 0 a1 (List.drop (Int.toNat a1) (List.take (Int.toNat (IntKind.i64.wrap (a1 + 1))) a0))), (IntKind.i64.wrap (a1 + 1)), (decide (r2 ≥ 0))) else none) else none))) else none
def xF0 (a0 : Str) : List Arg := [.val (.v false [.str a0])]
def xAV (r : (List Tok) × Int) : CallO := ⟨.tup [(false, [.sl .own .tok r.1]), (false, [.int .i64 r.2])], [], []⟩
def xEA (N : Nat) : Nat → Str → (List Tok) → Int → Option ((List Tok) × Int)
 | 0, _, _, _ => none
 | n + 1, x0, x4, x5 => bif (decide (x5 < (List.length x0 : Int))) then (if (0 : Int) ≤ x5 ∧ x5 < (List.length x0) then bif ((((List.getD x0 (Int.toNat x5) 0).toNat : Int) : Int) == 32) then ((xEA N n x0 x4 (IntKind.i64.wrap (x5 + 1)))) else ((xHG N x0 x5).bind fun r1 => bif (!r1.2.2) then (some ([], x5)) else (bif ((List.length x4 : Int) == 60) then (some ([], x5)) else (if List.length x4 + List.length [r1.1] ≤ Lim then (xEA N n x0 (x4 ++ [r1.1]) r1.2.1) else none))) else none) else (some (x4, (-1)))
def xGt (N : Nat) (a0 : Str) : Option ((List Tok) × Int) := bif (decide ((List.length a0 : Int) > 120)) then (some ([], 120)) else ((xEA N N a0 [] 0))
def xDC (a0 : Psr) : List Arg := [.box (Ps .ro a0)]
def xAg (r : Tok × Psr) : CallO := ⟨.v true [.int .i64 (Tok.kind r.1), .int .i64 (Tok.n r.1), .int .i64 (Tok.pos r.1), .str (Tok.text r.1)], [(Ps .ro r.2)], []⟩
def xBN (N : Nat) (a0 : Psr) : Option (Tok × Psr) := bif (decide ((Psr.bad a0) < 0)) then (bif (decide ((Psr.pos a0) < (List.length (Psr.list a0) : Int))) then (if (0 : Int) ≤ (Psr.pos a0) ∧ (Psr.pos a0) < (List.length (Psr.list a0)) then some ((List.getD (Psr.list a0) (Int.toNat (Psr.pos a0)) Ty.tok.dflt), a0) else none) else (some ((Tok.mk 0 0 0 []), a0))) else (some ((Tok.mk 0 0 0 []), a0))
def xBL (a0 : Tok) (a1 : Str) : List Arg := [.val (.v true [.int .i64 (Tok.kind a0), .int .i64 (Tok.n a0), .int .i64 (Tok.pos a0), .str (Tok.text a0)]), .val (.v false [.str a1])]
def xAA (r : Bool) : CallO := ⟨.v false [.bool r], [], []⟩
def xEL (N : Nat) (a0 : Tok) (a1 : Str) : Option (Bool) := bif ((Tok.kind a0) == 1) then (some (((Tok.text a0) : Str) == a1)) else (some false)
def xDo (a0 : Int) (a1 : Int) (a2 : Int) : List Arg := [.val (.v false [.int .i64 a0]), .val (.v false [.int .i64 a1]), .val (.v false [.int .i64 a2])]
def xBm (r : Bool) : CallO := ⟨.v false [.bool r], [], []⟩
def xGg (N : Nat) (a0 : Int) (a1 : Int) (a2 : Int) : Option (Bool) := bif (decide (a1 ≤ a0)) then (some (decide (a0 ≤ a2))) else (some false)
def xGF (a0 : Str) : List Arg := [.val (.v false [.str a0])]
def xCp (r : Bool) : CallO := ⟨.v false [.bool r], [], []⟩
def xEg (N : Nat) : Nat → Str → Int → Option (Bool)
 | 0, _, _ => none
 | n + 1, x0, x3 => bif (decide (x3 < (List.length x0 : Int))) then (if (0 : Int) ≤ x3 ∧ x3 < (List.length x0) then bif (decide ((((List.getD x0 (Int.toNat x3) 0).toNat : Int) : Int) ≥ 97)) then (bif (!(decide ((((List.getD x0 (Int.toNat x3) 0).toNat : Int) : Int) ≤ 122))) then (bif (x3 == 0) then (some false) else (bif (decide ((((List.getD x0 (Int.toNat x3) 0).toNat : Int) : Int) < 48)) then (some false) else (bif (decide ((((List.getD x0 (Int.toNat x3) 0).toNat : Int) : Int) > 57)) then (some false) else ((xEg N n x0 (IntKind.i64.wrap (x3 + 1))))))) else ((xEg N n x0 (IntKind.i64.wrap (x3 + 1))))) else (bif (x3 == 0) then (some false) else (bif (decide ((((List.getD x0 (Int.toNat x3) 0).toNat : Int) : Int) < 48)) then (some false) else (bif (decide ((((List.getD x0 (Int.toNat x3) 0).toNat : Int) : Int) > 57)) then (some false) else ((xEg N n x0 (IntKind.i64.wrap (x3 + 1))))))) else none) else ((xGg N (List.length x0 : Int) 1 8).bind fun r1 => some r1)
def xJc (N : Nat) (a0 : Str) : Option (Bool) := (xEg N N a0 0)
def xAo (a0 : Str) : List Arg := [.val (.v false [.str a0])]
def xAi (r : Int) : CallO := ⟨.v false [.int .i64 r], [], []⟩
def xDg (N : Nat) (a0 : Str) : Option (Int) := bif ((a0 : Str) == [99, 108, 111, 99, 107]) then (some 0) else (bif ((a0 : Str) == [108, 101, 110]) then (some 1) else (bif ((a0 : Str) == [115, 117, 109]) then (some 1) else (bif ((a0 : Str) == [114, 111, 119, 115]) then (some 1) else (bif ((a0 : Str) == [99, 104, 97, 110, 99, 101]) then (some 1) else (bif ((a0 : Str) == [102, 105, 108, 101]) then (some 1) else (bif ((a0 : Str) == [116, 97, 107, 101]) then (some 2) else (bif ((a0 : Str) == [115, 107, 105, 112]) then (some 2) else (bif ((a0 : Str) == [114, 97, 110, 103, 101]) then (some 2) else (bif ((a0 : Str) == [110, 116, 104]) then (some 2) else (bif ((a0 : Str) == [107, 101, 101, 112]) then (some 2) else (bif ((a0 : Str) == [99, 111, 108, 117, 109, 110]) then (some 2) else (bif ((a0 : Str) == [116, 97, 98, 108, 101]) then (some 2) else (bif ((a0 : Str) == [119, 104, 101, 114, 101]) then (some 3) else (bif ((a0 : Str) == [103, 114, 111, 117, 112]) then (some 3) else (bif ((a0 : Str) == [106, 111, 105, 110]) then (some 3) else (bif ((a0 : Str) == [97, 100, 100]) then (some 4) else (some (-1))))))))))))))))))
def xB3 (a0 : Str) : List Arg := [.val (.v false [.str a0])]
def xBM (r : Bool) : CallO := ⟨.v false [.bool r], [], []⟩
def xGe (N : Nat) (a0 : Str) : Option (Bool) := bif ((a0 : Str) == [108, 101, 116]) then (some true) else (bif ((a0 : Str) == [105, 110]) then (some true) else (bif ((a0 : Str) == [105, 102]) then (some true) else (bif ((a0 : Str) == [116, 104, 101, 110]) then (some true) else (bif ((a0 : Str) == [101, 108, 115, 101]) then (some true) else (bif ((a0 : Str) == [102, 111, 114]) then (some true) else (bif ((a0 : Str) == [100, 111]) then (some true) else ((xDg N a0).bind fun r1 => some (decide (r1 ≥ 0)))))))))
def xD5 (a0 : Str) : List Arg := [.val (.v false [.str a0])]
def xAK (r : Bool) : CallO := ⟨.v false [.bool r], [], []⟩
def xDw (N : Nat) (a0 : Str) : Option (Bool) := (xJc N a0).bind fun r1 => bif r1 then ((xGe N a0).bind fun r2 => some (!r2)) else (some false)
def xCw (a0 : Psr) : List Arg := [.box (Ps .ro a0)]
def xBg (r : Exp × Psr) : CallO := ⟨.v true (Ex .own r.1), [(Ps .ro r.2)], []⟩
def xCh (N : Nat) (a0 : Psr) : Option (Exp × Psr) := bif (decide ((Psr.bad a0) < 0)) then (some ((Exp.mk 0 0 [] []), (Psr.mk (Psr.list a0) (Psr.pos a0) (Psr.pos a0)))) else (some ((Exp.mk 0 0 [] []), a0))
def xD9 (a0 : Psr) : List Arg := [.box (Ps .ro a0)]
def xCV (r : Str × Psr) : CallO := ⟨.v false [.str r.1], [(Ps .ro r.2)], []⟩
def xCi (N : Nat) (a0 : Psr) : Option (Str × Psr) := (xBN N a0).bind fun r1 => bif ((Tok.kind r1.1) != 1) then ((xCh N r1.2).bind fun r2 => some ([], r2.2)) else ((xDw N (Tok.text r1.1)).bind fun r2 => bif (!r2) then ((xCh N r1.2).bind fun r3 => some ([], r3.2)) else (some ((Tok.text r1.1), (Psr.mk (Psr.list r1.2) (IntKind.i64.wrap ((Psr.pos r1.2) + 1)) (Psr.bad r1.2)))))
def xDU (a0 : Tok) (a1 : Str) : List Arg := [.val (.v true [.int .i64 (Tok.kind a0), .int .i64 (Tok.n a0), .int .i64 (Tok.pos a0), .str (Tok.text a0)]), .val (.v false [.str a1])]
def xCf (r : Bool) : CallO := ⟨.v false [.bool r], [], []⟩
def xGs (N : Nat) (a0 : Tok) (a1 : Str) : Option (Bool) := bif ((Tok.kind a0) == 4) then (some (((Tok.text a0) : Str) == a1)) else (some false)
def xA8 (a0 : Psr) (a1 : Str) : List Arg := [.box (Ps .ro a0), .val (.v false [.str a1])]
def xAu (r : Psr) : CallO := ⟨.tup [], [(Ps .ro r)], []⟩
def xAI (N : Nat) (a0 : Psr) (a1 : Str) : Option (Psr) := (xBN N a0).bind fun r1 => (xEL N r1.1 a1).bind fun r2 => bif r2 then (some (Psr.mk (Psr.list r1.2) (IntKind.i64.wrap ((Psr.pos r1.2) + 1)) (Psr.bad r1.2))) else ((xBN N r1.2).bind fun r3 => (xGs N r3.1 a1).bind fun r4 => bif r4 then (some (Psr.mk (Psr.list r3.2) (IntKind.i64.wrap ((Psr.pos r3.2) + 1)) (Psr.bad r3.2))) else ((xCh N r3.2).bind fun r5 => some r5.2))
def xAs (a0 : Psr) (a1 : Str) : List Arg := [.box (Ps .ro a0), .val (.v false [.str a1])]
def xAd (r : Bool × Psr) : CallO := ⟨.v false [.bool r.1], [(Ps .ro r.2)], []⟩
def xAM (N : Nat) (a0 : Psr) (a1 : Str) : Option (Bool × Psr) := (xBN N a0).bind fun r1 => (xGs N r1.1 a1).bind fun r2 => bif r2 then (some (true, (Psr.mk (Psr.list r1.2) (IntKind.i64.wrap ((Psr.pos r1.2) + 1)) (Psr.bad r1.2)))) else (some (false, r1.2))
def xDV (a0 : Int) : List Arg := [.val (.v false [.int .i64 a0])]
def xCg (r : Str) : CallO := ⟨.v false [.str r], [], []⟩
def xFo (N : Nat) (a0 : Int) : Option (Str) := (xGg N a0 1 5).bind fun r1 => bif (!r1) then (some [63]) else (if (0 : Int) ≤ (IntKind.i64.wrap (a0 - 1)) ∧ (IntKind.i64.wrap (a0 - 1)) < (List.length [[43], [45], [42], [60], [61, 61]]) then some (List.getD [[43], [45], [42], [60], [61, 61]] (Int.toNat (IntKind.i64.wrap (a0 - 1))) Ty.str.dflt) else none)
def xA7 (a0 : Psr) : List Arg := [.box (Ps .ro a0)]
def xAS (r : Exp × Psr) : CallO := ⟨.v true (Ex .own r.1), [(Ps .ro r.2)], []⟩
def xCT (N : Nat) (q0 : Psr → Option (Exp × Psr)) (q1 : Psr → Option (Exp × Psr)) (q2 : Psr → Str → Option ((List Exp) × Psr)) (q3 : Psr → Option (Exp × Psr)) (q4 : Psr → Option (Exp × Psr)) (a0 : Psr) : Option (Exp × Psr) := (xBN N a0).bind fun r1 => bif ((Tok.kind r1.1) == 2) then (some ((Exp.mk 1 (Tok.n r1.1) [] []), (Psr.mk (Psr.list r1.2) (IntKind.i64.wrap ((Psr.pos r1.2) + 1)) (Psr.bad r1.2)))) else (bif ((Tok.kind r1.1) == 3) then (some ((Exp.mk 2 0 (Tok.text r1.1) []), (Psr.mk (Psr.list r1.2) (IntKind.i64.wrap ((Psr.pos r1.2) + 1)) (Psr.bad r1.2)))) else (bif ((Tok.kind r1.1) == 1) then ((xDw N (Tok.text r1.1)).bind fun r2 => bif r2 then (some ((Exp.mk 3 0 (Tok.text r1.1) []), (Psr.mk (Psr.list r1.2) (IntKind.i64.wrap ((Psr.pos r1.2) + 1)) (Psr.bad r1.2)))) else ((xDg N (Tok.text r1.1)).bind fun r3 => bif (decide (r3 ≥ 0)) then ((xAI N (Psr.mk (Psr.list r1.2) (IntKind.i64.wrap ((Psr.pos r1.2) + 1)) (Psr.bad r1.2)) [40]).bind fun r4 => (q2 r4 [41]).bind fun r5 => some ((Exp.mk 5 0 (Tok.text r1.1) r5.1), r5.2)) else ((xAM N r1.2 [91]).bind fun r4 => bif r4.1 then ((q2 r4.2 [93]).bind fun r5 => some ((Exp.mk 4 0 [] r5.1), r5.2)) else ((xAM N r4.2 [40]).bind fun r5 => bif r5.1 then ((q1 r5.2).bind fun r6 => (xAI N r6.2 [41]).bind fun r7 => some (r6.1, r7)) else ((xCh N r5.2).bind fun r6 => some (r6.1, r6.2)))))) else ((xAM N r1.2 [91]).bind fun r2 => bif r2.1 then ((q2 r2.2 [93]).bind fun r3 => some ((Exp.mk 4 0 [] r3.1), r3.2)) else ((xAM N r2.2 [40]).bind fun r3 => bif r3.1 then ((q1 r3.2).bind fun r4 => (xAI N r4.2 [41]).bind fun r5 => some (r4.1, r5)) else ((xCh N r3.2).bind fun r4 => some (r4.1, r4.2))))))
def xBr (a0 : Psr) : List Arg := [.box (Ps .ro a0)]
def xAf (r : Exp × Psr) : CallO := ⟨.v true (Ex .own r.1), [(Ps .ro r.2)], []⟩
def xDb (N : Nat) (q0 : Psr → Option (Exp × Psr)) (q1 : Psr → Option (Exp × Psr)) (q2 : Psr → Str → Option ((List Exp) × Psr)) (q3 : Psr → Option (Exp × Psr)) (q4 : Psr → Option (Exp × Psr)) : Nat → (List Int) → Int → Int → Psr → Exp → Exp → Option (Exp × Psr)
 | 0, _, _, _, _, _, _ => none
 | n + 1, x115, x116, x117, b0, b2, b6 => bif (decide (x117 < x116)) then (if (0 : Int) ≤ x117 ∧ x117 < (List.length x115) then (xFo N (List.getD x115 (Int.toNat x117) Ty.int.dflt)).bind fun r1 => (xAM N b0 r1).bind fun r2 => bif r2.1 then ((q4 r2.2).bind fun r3 => some ((Exp.mk 6 (List.getD x115 (Int.toNat x117) Ty.int.dflt) [] [(Exp.re b6), (Exp.re r3.1)]), r3.2)) else ((xDb N q0 q1 q2 q3 q4 n x115 x116 (IntKind.i64.wrap (x117 + 1)) r2.2 b2 b6)) else none) else (some (b6, b0))
def xCU (N : Nat) (q0 : Psr → Option (Exp × Psr)) (q1 : Psr → Option (Exp × Psr)) (q2 : Psr → Str → Option ((List Exp) × Psr)) (q3 : Psr → Option (Exp × Psr)) (q4 : Psr → Option (Exp × Psr)) (a0 : Psr) : Option (Exp × Psr) := (xBN N a0).bind fun r1 => (xEL N r1.1 [108, 101, 116]).bind fun r2 => bif r2 then ((xCi N (Psr.mk (Psr.list r1.2) (IntKind.i64.wrap ((Psr.pos r1.2) + 1)) (Psr.bad r1.2))).bind fun r3 => (xAI N r3.2 [61]).bind fun r4 => (q1 r4).bind fun r5 => if 0 + List.length [(Exp.re r5.1)] ≤ Lim then (xAI N r5.2 [105, 110]).bind fun r6 => (q1 r6).bind fun r7 => if List.length ([] ++ [(Exp.re r5.1)]) + List.length [(Exp.re r7.1)] ≤ Lim then some ((Exp.mk 7 0 r3.1 (([] ++ [(Exp.re r5.1)]) ++ [(Exp.re r7.1)])), r7.2) else none else none) else ((xBN N r1.2).bind fun r3 => (xEL N r3.1 [105, 102]).bind fun r4 => bif r4 then ((q1 (Psr.mk (Psr.list r3.2) (IntKind.i64.wrap ((Psr.pos r3.2) + 1)) (Psr.bad r3.2))).bind fun r5 => if 0 + List.length [(Exp.re r5.1)] ≤ Lim then (xAI N r5.2 [116, 104, 101, 110]).bind fun r6 => (q1 r6).bind fun r7 => if List.length ([] ++ [(Exp.re r5.1)]) + List.length [(Exp.re r7.1)] ≤ Lim then (xAI N r7.2 [101, 108, 115, 101]).bind fun r8 => (q1 r8).bind fun r9 => if List.length (([] ++ [(Exp.re r5.1)]) ++ [(Exp.re r7.1)]) + List.length [(Exp.re r9.1)] ≤ Lim then some ((Exp.mk 8 0 [] ((([] ++ [(Exp.re r5.1)]) ++ [(Exp.re r7.1)]) ++ [(Exp.re r9.1)])), r9.2) else none else none else none) else ((xBN N r3.2).bind fun r5 => (xEL N r5.1 [102, 111, 114]).bind fun r6 => bif r6 then ((xCi N (Psr.mk (Psr.list r5.2) (IntKind.i64.wrap ((Psr.pos r5.2) + 1)) (Psr.bad r5.2))).bind fun r7 => (xAI N r7.2 [105, 110]).bind fun r8 => (q1 r8).bind fun r9 =>
     if 0 + List.length [(Exp.re r9.1)] ≤ Lim then (xAI N r9.2 [100, 111]).bind fun r10 => (q1 r10).bind fun r11 => if List.length ([] ++ [(Exp.re r9.1)]) + List.length [(Exp.re r11.1)] ≤ Lim then some ((Exp.mk 9 0 r7.1 (([] ++ [(Exp.re r9.1)]) ++ [(Exp.re r11.1)])), r11.2) else none else none) else ((q4 r5.2).bind fun r7 => (xDb N q0 q1 q2 q3 q4 N [4, 5] (List.length [4, 5] : Int) 0 r7.2 (Exp.mk 0 0 [] []) r7.1))))
def xCH (a0 : Psr) (a1 : Str) : List Arg := [.box (Ps .ro a0), .val (.v false [.str a1])]
def xBi (r : (List Exp) × Psr) : CallO := ⟨.v false [.sl .own .exp r.1], [(Ps .ro r.2)], []⟩
def xCI (N : Nat) (q0 : Psr → Option (Exp × Psr)) (q1 : Psr → Option (Exp × Psr)) (q2 : Psr → Str → Option ((List Exp) × Psr)) (q3 : Psr → Option (Exp × Psr)) (q4 : Psr → Option (Exp × Psr)) : Nat → Str → (List Exp) → Psr → Option ((List Exp) × Psr)
 | 0, _, _, _ => none
 | n + 1, x1, x5, b0 => bif (decide ((Psr.bad b0) < 0)) then ((q1 b0).bind fun r1 => if List.length x5 + List.length [(Exp.re r1.1)] ≤ Lim then (xAM N r1.2 x1).bind fun r2 => bif r2.1 then (some ((x5 ++ [(Exp.re r1.1)]), r2.2)) else ((xAI N r2.2 [44]).bind fun r3 => (xCI N q0 q1 q2 q3 q4 n x1 (x5 ++ [(Exp.re r1.1)]) r3)) else none) else (some (x5, b0))
def xCL (N : Nat) (q0 : Psr → Option (Exp × Psr)) (q1 : Psr → Option (Exp × Psr)) (q2 : Psr → Str → Option ((List Exp) × Psr)) (q3 : Psr → Option (Exp × Psr)) (q4 : Psr → Option (Exp × Psr)) (a0 : Psr) (a1 : Str) : Option ((List Exp) × Psr) := (xAM N a0 a1).bind fun r1 => bif r1.1 then (some ([], r1.2)) else ((xCI N q0 q1 q2 q3 q4 N a1 [] r1.2))
def xCM (a0 : Psr) : List Arg := [.box (Ps .ro a0)]
def xBn (r : Exp × Psr) : CallO := ⟨.v true (Ex .own r.1), [(Ps .ro r.2)], []⟩
def xCe (N : Nat) (q0 : Psr → Option (Exp × Psr)) (q1 : Psr → Option (Exp × Psr)) (q2 : Psr → Str → Option ((List Exp) × Psr)) (q3 : Psr → Option (Exp × Psr)) (q4 : Psr → Option (Exp × Psr)) : Nat → Psr → Exp → Exp → Option (Exp × Psr)
 | 0, _, _, _ => none
 | n + 1, b0, b2, b3 => (xAM N b0 [42]).bind fun r1 => bif r1.1 then ((q0 r1.2).bind fun r2 => (xCe N q0 q1 q2 q3 q4 n r2.2 b2 (Exp.mk 6 3 [] [(Exp.re b3), (Exp.re r2.1)]))) else (some (b3, r1.2))
def xCn (N : Nat) (q0 : Psr → Option (Exp × Psr)) (q1 : Psr → Option (Exp × Psr)) (q2 : Psr → Str → Option ((List Exp) × Psr)) (q3 : Psr → Option (Exp × Psr)) (q4 : Psr → Option (Exp × Psr)) (a0 : Psr) : Option (Exp × Psr) := (q0 a0).bind fun r1 => (xCe N q0 q1 q2 q3 q4 N r1.2 (Exp.mk 0 0 [] []) r1.1)
def xEw (a0 : Psr) : List Arg := [.box (Ps .ro a0)]
def xCr (r : Exp × Psr) : CallO := ⟨.v true (Ex .own r.1), [(Ps .ro r.2)], []⟩
def xCq (N : Nat) (q0 : Psr → Option (Exp × Psr)) (q1 : Psr → Option (Exp × Psr)) (q2 : Psr → Str → Option ((List Exp) × Psr)) (q3 : Psr → Option (Exp × Psr)) (q4 : Psr → Option (Exp × Psr)) : Nat → Psr → Exp → Exp → Option (Exp × Psr)
 | 0, _, _, _ => none
 | n + 1, b0, b2, b3 => bif (decide ((Psr.bad b0) < 0)) then ((xAM N b0 [43]).bind fun r1 => bif (!r1.1) then ((xAM N r1.2 [45]).bind fun r2 => bif (!r2.1) then (some (b3, r2.2)) else ((q3 r2.2).bind fun r3 => (xCq N q0 q1 q2 q3 q4 n r3.2 b2 (Exp.mk 6 2 [] [(Exp.re b3), (Exp.re r3.1)])))) else ((q3 r1.2).bind fun r2 => (xCq N q0 q1 q2 q3 q4 n r2.2 b2 (Exp.mk 6 1 [] [(Exp.re b3), (Exp.re r2.1)])))) else (some (b3, b0))
def xDc (N : Nat) (q0 : Psr → Option (Exp × Psr)) (q1 : Psr → Option (Exp × Psr)) (q2 : Psr → Str → Option ((List Exp) × Psr)) (q3 : Psr → Option (Exp × Psr)) (q4 : Psr → Option (Exp × Psr)) (a0 : Psr) : Option (Exp × Psr) := (q3 a0).bind fun r1 => (xCq N q0 q1 q2 q3 q4 N r1.2 (Exp.mk 0 0 [] []) r1.1)
structure impl_parser_atom_rec where
 c_impl_parser_atom : Psr → Option (Exp × Psr)
 c_impl_parser_expr : Psr → Option (Exp × Psr)
 c_impl_parser_list2 : Psr → Str → Option ((List Exp) × Psr)
 c_impl_parser_product : Psr → Option (Exp × Psr)
 c_impl_parser_sum : Psr → Option (Exp × Psr)
def xAb (N : Nat) : Nat → impl_parser_atom_rec
 | 0 => ⟨fun _ => none, fun _ => none, fun _ _ => none, fun _ => none, fun _ => none⟩
 | d + 1 => ⟨xCT N (xAb N d).c_impl_parser_atom (xAb N d).c_impl_parser_expr (xAb N d).c_impl_parser_list2 (xAb N d).c_impl_parser_product (xAb N d).c_impl_parser_sum, xCU N (xAb N d).c_impl_parser_atom (xAb N d).c_impl_parser_expr (xAb N d).c_impl_parser_list2 (xAb N d).c_impl_parser_product (xAb N d).c_impl_parser_sum, xCL N (xAb N d).c_impl_parser_atom (xAb N d).c_impl_parser_expr (xAb N d).c_impl_parser_list2 (xAb N d).c_impl_parser_product (xAb N d).c_impl_parser_sum, xCn N (xAb N d).c_impl_parser_atom (xAb N d).c_impl_parser_expr (xAb N d).c_impl_parser_list2 (xAb N d).c_impl_parser_product (xAb N d).c_impl_parser_sum, xDc N (xAb N d).c_impl_parser_atom (xAb N d).c_impl_parser_expr (xAb N d).c_impl_parser_list2 (xAb N d).c_impl_parser_product (xAb N d).c_impl_parser_sum⟩
def xGN (N : Nat) (a0 : Psr) : Option (Exp × Psr) := (xAb N N).c_impl_parser_expr a0
def xC7 (a0 : Exp) : List Arg := [.val (.v true (Ex .ro a0))]
def xBz (r : Int) : CallO := ⟨.v false [.int .i64 r], [], []⟩
def xD8 (N : Nat) (q0 : Exp → Option (Int)) : Nat → Int → (List Exp) → Int → Int → Option (Int)
 | 0, _, _, _, _ => none
 | n + 1, x3, x7, x8, x9 => bif (decide (x9 < x8)) then (if (0 : Int) ≤ x9 ∧ x9 < (List.length x7) then (q0 (List.getD x7 (Int.toNat x9) Ty.exp.dflt)).bind fun r1 => (xD8 N q0 n (IntKind.i64.wrap (x3 + r1)) x7 x8 (IntKind.i64.wrap (x9 + 1))) else none) else (some x3)
def xGT (N : Nat) (q0 : Exp → Option (Int)) (a0 : Exp) : Option (Int) := (xD8 N q0 N 1 (Exp.args a0) (List.length (Exp.args a0) : Int) 0)
def xEu (N : Nat) : Nat → Exp → Option (Int)
 | 0, _ => none
 | d + 1, a0 => xGT N (xEu N d) a0
def xII (N : Nat) (a0 : Exp) : Option (Int) := xEu N N a0
def xDE (a0 : Exp) : List Arg := [.val (.v true (Ex .ro a0))]
def xBV (r : Int) : CallO := ⟨.v false [.int .i64 r], [], []⟩
def xER (N : Nat) (q0 : Exp → Option (Int)) : Nat → Int → (List Exp) → Int → Int → Option (Int)
 | 0, _, _, _, _ => none
 | n + 1, x3, x7, x8, x9 => bif (decide (x9 < x8)) then (if (0 : Int) ≤ x9 ∧ x9 < (List.length x7) then (q0 (List.getD x7 (Int.toNat x9) Ty.exp.dflt)).bind fun r1 => (xER N q0 n (if r1 > x3 then r1 else x3) x7 x8 (IntKind.i64.wrap (x9 + 1))) else none) else (some (IntKind.i64.wrap (x3 + 1)))
def xGS (N : Nat) (q0 : Exp → Option (Int)) (a0 : Exp) : Option (Int) := (xER N q0 N 0 (Exp.args a0) (List.length (Exp.args a0) : Int) 0)
def xFn (N : Nat) : Nat → Exp → Option (Int)
 | 0, _ => none
 | d + 1, a0 => xGS N (xFn N d) a0
def xIH (N : Nat) (a0 : Exp) : Option (Int) := xFn N N a0
def xAE (a0 : Exp) : List Arg := [.val (.v true (Ex .ro a0))]
def xAO (r : Bool) : CallO := ⟨.v false [.bool r], [], []⟩
def xH5 (N : Nat) (a0 : Exp) : Option (Bool) := bif ((Exp.kind a0) == 1) then ((xGg N (Exp.n a0) 0 1000000000).bind fun r1 => bif r1 then (bif (((Exp.text a0) : Str) == []) then (some ((List.length (Exp.args a0) : Int) == 0)) else (some false)) else (some false)) else (bif ((Exp.kind a0) == 2) then (bif ((Exp.n a0) == 0) then ((xDx N (Exp.text a0)).bind fun r1 => bif r1 then (some ((List.length (Exp.args a0) : Int) == 0)) else (some false)) else (some false)) else (bif ((Exp.kind a0) == 3) then (bif ((Exp.n a0) == 0) then ((xDw N (Exp.text a0)).bind fun r1 => bif r1 then (some ((List.length (Exp.args a0) : Int) == 0)) else (some false)) else (some false)) else (bif ((Exp.kind a0) == 4) then (bif ((Exp.n a0) == 0) then (bif (((Exp.text a0) : Str) == []) then (some (decide ((List.length (Exp.args a0) : Int) ≤ 8))) else (some false)) else (some false)) else (bif ((Exp.kind a0) == 5) then (bif ((Exp.n a0) == 0) then ((xDg N (Exp.text a0)).bind fun r1 => some ((List.length (Exp.args a0) : Int) == r1)) else (some false)) else (bif ((Exp.kind a0) == 6) then ((xGg N (Exp.n a0) 1 5).bind fun r1 => bif r1 then (bif (((Exp.text a0) : Str) == []) then (some ((List.length (Exp.args a0) : Int) == 2)) else (some false)) else (some false)) else (bif ((Exp.kind a0) == 7) then (bif ((Exp.n a0) == 0) then ((xDw N (Exp.text a0)).bind fun r1 => bif r1 then (some ((List.length (Exp.args a0) : Int) == 2)) else (some false)) else (some false)) else (bif ((Exp.kind a0) == 9) then (bif ((Exp.n a0) == 0) then ((xDw N (Exp.text a0)).bind fun r1 => bif r1 then (some ((List.length (Exp.args a0) : Int) == 2)) else (some false)) else (some false)) else (bif ((Exp.kind a0) == 8) then (bif ((Exp.n a0) == 0) then (bif (((Exp.text a0) : Str) == []) then (some ((List.length (Exp.args a0) : Int) == 3)
             ) else (some false)) else (some false)) else (some false)))))))))
def xDW (a0 : Exp) : List Arg := [.val (.v true (Ex .ro a0))]
def xBY (r : Bool) : CallO := ⟨.v false [.bool r], [], []⟩
def xEB (N : Nat) (q0 : Exp → Option (Bool)) : Nat → (List Exp) → Int → Int → Exp → Option (Bool)
 | 0, _, _, _, _ => none
 | n + 1, x6, x7, x8, b1 => bif (decide (x8 < x7)) then (if (0 : Int) ≤ x8 ∧ x8 < (List.length x6) then (q0 (List.getD x6 (Int.toNat x8) Ty.exp.dflt)).bind fun r1 => bif (!r1) then (some false) else ((xEB N q0 n x6 x7 (IntKind.i64.wrap (x8 + 1)) b1)) else none) else ((xH5 N b1).bind fun r1 => some r1)
def xG5 (N : Nat) (q0 : Exp → Option (Bool)) (a0 : Exp) : Option (Bool) := (xEB N q0 N (Exp.args a0) (List.length (Exp.args a0) : Int) 0 a0)
def xFG (N : Nat) : Nat → Exp → Option (Bool)
 | 0, _ => none
 | d + 1, a0 => xG5 N (xFG N d) a0
def xJb (N : Nat) (a0 : Exp) : Option (Bool) := xFG N N a0
def xCR (a0 : Exp) : List Arg := [.val (.v true (Ex .ro a0))]
def xAY (r : Bool) : CallO := ⟨.v false [.bool r], [], []⟩
def xC0 (N : Nat) (a0 : Exp) : Option (Bool) := (xII N a0).bind fun r1 => bif (decide (r1 ≤ 40)) then ((xIH N a0).bind fun r2 => bif (decide (r2 ≤ 8)) then ((xJb N a0).bind fun r3 => some r3) else (some false)) else (some false)
def xAR (a0 : Str) : List Arg := [.val (.v false [.str a0])]
def xAn (r : Exp × Int) : CallO := ⟨.tup [(true, (Ex .own r.1)), (false, [.int .i64 r.2])], [], []⟩
def xDm (N : Nat) (a0 : Str) : Option (Exp × Int) := (xGt N a0).bind fun r1 => bif (decide (r1.2 ≥ 0)) then (some ((Exp.mk 0 0 [] []), r1.2)) else ((xGN N (Psr.mk r1.1 0 (-1))).bind fun r2 => bif (decide ((Psr.bad r2.2) < 0)) then (bif (decide ((Psr.pos r2.2) < (List.length r1.1 : Int))) then (bif (decide ((Psr.pos r2.2) ≥ (List.length r1.1 : Int))) then (some ((Exp.mk 0 0 [] []), (List.length a0 : Int))) else (bif (decide ((Psr.pos r2.2) ≥ 0)) then (if (0 : Int) ≤ (Psr.pos r2.2) ∧ (Psr.pos r2.2) < (List.length r1.1) then some ((Exp.mk 0 0 [] []), (Tok.pos (List.getD r1.1 (Int.toNat (Psr.pos r2.2)) Ty.tok.dflt))) else none) else ((xC0 N r2.1).bind fun r3 => bif (!r3) then (some ((Exp.mk 0 0 [] []), 0)) else (some (r2.1, (-1)))))) else (bif (decide ((Psr.bad r2.2) ≥ (List.length r1.1 : Int))) then (some ((Exp.mk 0 0 [] []), (List.length a0 : Int))) else (bif (decide ((Psr.bad r2.2) ≥ 0)) then (if (0 : Int) ≤ (Psr.bad r2.2) ∧ (Psr.bad r2.2) < (List.length r1.1) then some ((Exp.mk 0 0 [] []), (Tok.pos (List.getD r1.1 (Int.toNat (Psr.bad r2.2)) Ty.tok.dflt))) else none) else ((xC0 N r2.1).bind fun r3 => bif (!r3) then (some ((Exp.mk 0 0 [] []), 0)) else (some (r2.1, (-1))))))) else (bif (decide ((Psr.bad r2.2) ≥ (List.length r1.1 : Int))) then (some ((Exp.mk 0 0 [] []), (List.length a0 : Int))) else (bif (decide ((Psr.bad r2.2) ≥ 0)) then (if (0 : Int) ≤ (Psr.bad r2.2) ∧ (Psr.bad r2.2) < (List.length r1.1) then some ((Exp.mk 0 0 [] []), (Tok.pos (List.getD r1.1 (Int.toNat (Psr.bad r2.2)) Ty.tok.dflt))) else none) else ((xC0 N r2.1).bind fun r3 => bif (!r3) then (some ((Exp.mk 0 0 [] []), 0)) else (some (r2.1, (-1)))))))
def xF9 (a0 : Str) : List Arg := [.val (.v false [.str a0])]
def xFp (r : Bool) : CallO := ⟨.v false [.bool r], [], []⟩
def xGf (N : Nat) (a0 : Str) : Option (Bool) := (xDm N a0).bind fun r1 => some (decide (r1.2 ≥ 0))
def xIx (a0 : List Str) (a1 : Str) : List Arg := [.val (.v false [.sl .ro .str a0]), .val (.v false [.str a1])]
def xG0 (r : Str) : CallO := ⟨.v false [.str r], [], []⟩
def xEN (N : Nat) : Nat → (List Str) → Str → (List Int) → Int → Option (Str)
 | 0, _, _, _, _ => none
 | n + 1, x0, x1, x5, x6 => bif (decide (x6 < (List.length x0 : Int))) then (bif (decide (x6 > 0)) then (if List.length x5 + List.length x1 ≤ Lim then if (0 : Int) ≤ x6 ∧ x6 < (List.length x0) then if List.length (x5 ++ List.map (fun c => (c.toNat : Int)) x1) + List.length (List.getD x0 (Int.toNat x6) Ty.str.dflt) ≤ Lim then (xEN N n x0 x1 ((x5 ++ List.map (fun c => (c.toNat : Int)) x1) ++ List.map (fun c => (c.toNat : Int)) (List.getD x0 (Int.toNat x6) Ty.str.dflt)) (IntKind.i64.wrap (x6 + 1))) else none else none else none) else (if (0 : Int) ≤ x6 ∧ x6 < (List.length x0) then if List.length x5 + List.length (List.getD x0 (Int.toNat x6) Ty.str.dflt) ≤ Lim then (xEN N n x0 x1 (x5 ++ List.map (fun c => (c.toNat : Int)) (List.getD x0 (Int.toNat x6) Ty.str.dflt)) (IntKind.i64.wrap (x6 + 1))) else none else none)) else (some (List.map (fun n => UInt8.ofNat (Int.toNat n)) x5))
def xJ8 (N : Nat) (a0 : List Str) (a1 : Str) : Option (Str) := (xEN N N a0 a1 [] 0)
def xBH (a0 : Exp) : List Arg := [.val (.v true (Ex .ro a0))]
def xBc (r : Int) : CallO := ⟨.v false [.int .i64 r], [], []⟩
def xGj (N : Nat) (a0 : Exp) : Option (Int) := bif ((Exp.kind a0) == 7) then (some 0) else (bif ((Exp.kind a0) == 8) then (some 0) else (bif ((Exp.kind a0) == 9) then (some 0) else (bif ((Exp.kind a0) == 6) then (bif ((Exp.n a0) == 4) then (some 1) else (bif ((Exp.n a0) == 5) then (some 1) else (bif ((Exp.n a0) == 1) then (some 2) else (bif ((Exp.n a0) == 2) then (some 2) else (bif ((Exp.n a0) == 3) then (some 3) else (some 4)))))) else (some 4))))
def xFh (a0 : Int) : List Arg := [.val (.v false [.int .i64 a0])]
def xDY (r : Str) : CallO := ⟨.v false [.str r], [], []⟩
def xHe (N : Nat) (a0 : Int) : Option (Str) := (xIk N a0 1 5).bind fun r1 => bif (!r1) then (some [63]) else (if (0 : Int) ≤ a0 ∧ a0 < (List.length [[], [43], [45], [42], [60], [61, 61]]) then some (List.getD [[], [43], [45], [42], [60], [61, 61]] (Int.toNat a0) Ty.str.dflt) else none)
def xEK (a0 : Exp) (a1 : Int) : List Arg := [.val (.v true (Ex .ro a0)), .val (.v false [.int .i64 a1])]
def xDa (r : Str) : CallO := ⟨.v false [.str r], [], []⟩
def xGn (N : Nat) (q0 : Exp → Int → Option (Str)) (q1 : (List Exp) → Option (Str)) (q2 : Exp → Option (Str)) (a0 : Exp) (a1 : Int) : Option (Str) := (q2 a0).bind fun r1 => (xGj N a0).bind fun r2 => bif (decide (r2 < a1)) then (if List.length [40] + List.length r1 ≤ Lim then if List.length ([40] ++ r1) + List.length [41] ≤ Lim then some (([40] ++ r1) ++ [41]) else none else none) else (some r1)
def xFM (a0 : List Exp) : List Arg := [.val (.v false [.sl .ro .exp a0])]
def xDR (r : Str) : CallO := ⟨.v false [.str r], [], []⟩
def xFa (N : Nat) (q0 : Exp → Int → Option (Str)) (q1 : (List Exp) → Option (Str)) (q2 : Exp → Option (Str)) : Nat → (List Exp) → (List Str) → Int → Option (Str)
 | 0, _, _, _ => none
 | n + 1, x0, x3, x4 => bif (decide (x4 < (List.length x0 : Int))) then (if (0 : Int) ≤ x4 ∧ x4 < (List.length x0) then (q2 (List.getD x0 (Int.toNat x4) Ty.exp.dflt)).bind fun r1 => if List.length x3 + List.length [r1] ≤ Lim then (xFa N q0 q1 q2 n x0 (x3 ++ [r1]) (IntKind.i64.wrap (x4 + 1))) else none else none) else ((xJ8 N x3 [44, 32]).bind fun r1 => some r1)
def xHv (N : Nat) (q0 : Exp → Int → Option (Str)) (q1 : (List Exp) → Option (Str)) (q2 : Exp → Option (Str)) (a0 : List Exp) : Option (Str) := (xFa N q0 q1 q2 N a0 [] 0)
def xA4 (a0 : Exp) : List Arg := [.val (.v true (Ex .ro a0))]
def xAx (r : Str) : CallO := ⟨.v false [.str r], [], []⟩
def xB1 (N : Nat) (q0 : Exp → Int → Option (Str)) (q1 : (List Exp) → Option (Str)) (q2 : Exp → Option (Str)) (a0 : Exp) : Option (Str) := bif ((Exp.kind a0) == 1) then ((xFz N (Exp.n a0)).bind fun r1 => some r1) else (bif ((Exp.kind a0) == 2) then (if List.length [34] + List.length (Exp.text a0) ≤ Lim then if List.length ([34] ++ (Exp.text a0)) + List.length [34] ≤ Lim then some (([34] ++ (Exp.text a0)) ++ [34]) else none else none) else (bif ((Exp.kind a0) == 3) then (some (Exp.text a0)) else (bif ((Exp.kind a0) == 4) then ((q1 (Exp.args a0)).bind fun r1 => if List.length [91] + List.length r1 ≤ Lim then if List.length ([91] ++ r1) + List.length [93] ≤ Lim then some (([91] ++ r1) ++ [93]) else none else none) else (bif ((Exp.kind a0) == 5) then (if List.length (Exp.text a0) + List.length [40] ≤ Lim then (q1 (Exp.args a0)).bind fun r1 => if List.length ((Exp.text a0) ++ [40]) + List.length r1 ≤ Lim then if List.length (((Exp.text a0) ++ [40]) ++ r1) + List.length [41] ≤ Lim then some ((((Exp.text a0) ++ [40]) ++ r1) ++ [41]) else none else none else none) else (bif ((Exp.kind a0) == 7) then (if List.length [108, 101, 116, 32] + List.length (Exp.text a0) ≤ Lim then if List.length ([108, 101, 116, 32] ++ (Exp.text a0)) + List.length [32, 61, 32] ≤ Lim then if (0 : Int) ≤ 0 ∧ (0 : Int) < (List.length (Exp.args a0)) then (q2 (List.getD (Exp.args a0) (Int.toNat 0) Ty.exp.dflt)).bind fun r1 => if List.length (([108, 101, 116, 32] ++ (Exp.text a0)) ++ [32, 61, 32]) + List.length r1 ≤ Lim then if List.length ((([108, 101, 116, 32] ++ (Exp.text a0)) ++ [32, 61, 32]) ++ r1) + List.length [32, 105, 110, 32] ≤ Lim then if (0 : Int) ≤ 1 ∧ (1 : Int) < (List.length (Exp.args a0)) then (q2 (List.getD (Exp.args a0) (Int.toNat 1) Ty.exp.dflt)).bind fun r2 => if List.length (((([108, 101, 116, 32] ++ (Exp.text a0)) ++ [32, 61, 32]) ++ r1) ++ [32, 105, 110, 32]) + List.length r2 ≤ Lim then some ((((([108, 101, 116, 32] ++ (Exp.text a0)) ++ [32, 61, 32]) ++ r1) ++ [32, 105, 110, 32]) ++ r2)
     else none else none else none else none else none else none else none) else (bif ((Exp.kind a0) == 9) then (if List.length [102, 111, 114, 32] + List.length (Exp.text a0) ≤ Lim then if List.length ([102, 111, 114, 32] ++ (Exp.text a0)) + List.length [32, 105, 110, 32] ≤ Lim then if (0 : Int) ≤ 0 ∧ (0 : Int) < (List.length (Exp.args a0)) then (q2 (List.getD (Exp.args a0) (Int.toNat 0) Ty.exp.dflt)).bind fun r1 => if List.length (([102, 111, 114, 32] ++ (Exp.text a0)) ++ [32, 105, 110, 32]) + List.length r1 ≤ Lim then if List.length ((([102, 111, 114, 32] ++ (Exp.text a0)) ++ [32, 105, 110, 32]) ++ r1) + List.length [32, 100, 111, 32] ≤ Lim then if (0 : Int) ≤ 1 ∧ (1 : Int) < (List.length (Exp.args a0)) then (q2 (List.getD (Exp.args a0) (Int.toNat 1) Ty.exp.dflt)).bind fun r2 => if List.length (((([102, 111, 114, 32] ++ (Exp.text a0)) ++ [32, 105, 110, 32]) ++ r1) ++ [32, 100, 111, 32]) + List.length r2 ≤ Lim then some ((((([102, 111, 114, 32] ++ (Exp.text a0)) ++ [32, 105, 110, 32]) ++ r1) ++ [32, 100, 111, 32]) ++ r2) else none else none else none else none else none else none else none) else (bif ((Exp.kind a0) == 8) then (if (0 : Int) ≤ 0 ∧ (0 : Int) < (List.length (Exp.args a0)) then (q2 (List.getD (Exp.args a0) (Int.toNat 0) Ty.exp.dflt)).bind fun r1 => if List.length [105, 102, 32] + List.length r1 ≤ Lim then if List.length ([105, 102, 32] ++ r1) + List.length [32, 116, 104, 101, 110, 32] ≤ Lim then if (0 : Int) ≤ 1 ∧ (1 : Int) < (List.length (Exp.args a0)) then (q2 (List.getD (Exp.args a0) (Int.toNat 1) Ty.exp.dflt)).bind fun r2 => if List.length (([105, 102, 32] ++ r1) ++ [32, 116, 104, 101, 110, 32]) + List.length r2 ≤ Lim then if List.length ((([105, 102, 32] ++ r1) ++ [32, 116, 104, 101, 110, 32]) ++ r2) + List.length [32, 101, 108, 115, 101, 32] ≤ Lim then if (0 : Int) ≤ 2 ∧ (2 : Int) < (List.length (Exp.args a0)) then (q2 (List.getD (Exp.args a0) (Int.toNat 2) Ty.exp.dflt)).bind fun r3 => if List.length (((([105, 102, 32] ++ r1) ++ [32, 116, 104, 101, 110, 32]) ++ r2) ++ [32, 101, 108, 115, 101, 32]) + List.length r3 ≤ Lim then
      some ((((([105, 102, 32] ++ r1) ++ [32, 116, 104, 101, 110, 32]) ++ r2) ++ [32, 101, 108, 115, 101, 32]) ++ r3) else none else none else none else none else none else none else none else none) else ((xGj N a0).bind fun r1 => bif (r1 == 1) then (if (0 : Int) ≤ 0 ∧ (0 : Int) < (List.length (Exp.args a0)) then (q0 (List.getD (Exp.args a0) (Int.toNat 0) Ty.exp.dflt) 2).bind fun r2 => if List.length r2 + List.length [32] ≤ Lim then (xHe N (Exp.n a0)).bind fun r3 => if List.length (r2 ++ [32]) + List.length r3 ≤ Lim then if List.length ((r2 ++ [32]) ++ r3) + List.length [32] ≤ Lim then if (0 : Int) ≤ 1 ∧ (1 : Int) < (List.length (Exp.args a0)) then (q0 (List.getD (Exp.args a0) (Int.toNat 1) Ty.exp.dflt) (IntKind.i64.wrap (r1 + 1))).bind fun r4 => if List.length (((r2 ++ [32]) ++ r3) ++ [32]) + List.length r4 ≤ Lim then some ((((r2 ++ [32]) ++ r3) ++ [32]) ++ r4) else none else none else none else none else none else none) else (if (0 : Int) ≤ 0 ∧ (0 : Int) < (List.length (Exp.args a0)) then (q0 (List.getD (Exp.args a0) (Int.toNat 0) Ty.exp.dflt) r1).bind fun r2 => if List.length r2 + List.length [32] ≤ Lim then (xHe N (Exp.n a0)).bind fun r3 => if List.length (r2 ++ [32]) + List.length r3 ≤ Lim then if List.length ((r2 ++ [32]) ++ r3) + List.length [32] ≤ Lim then if (0 : Int) ≤ 1 ∧ (1 : Int) < (List.length (Exp.args a0)) then (q0 (List.getD (Exp.args a0) (Int.toNat 1) Ty.exp.dflt) (IntKind.i64.wrap (r1 + 1))).bind fun r4 => if List.length (((r2 ++ [32]) ++ r3) ++ [32]) + List.length r4 ≤ Lim then some ((((r2 ++ [32]) ++ r3) ++ [32]) ++ r4) else none else none else none else none else none else none)))))))))
structure spec_l12At_rec where
 c_spec_l12At : Exp → Int → Option (Str)
 c_spec_l12List : (List Exp) → Option (Str)
 c_spec_l12Text : Exp → Option (Str)
def xAw (N : Nat) : Nat → spec_l12At_rec
 | 0 => ⟨fun _ _ => none, fun _ => none, fun _ => none⟩
 | d + 1 => ⟨xGn N (xAw N d).c_spec_l12At (xAw N d).c_spec_l12List (xAw N d).c_spec_l12Text, xHv N (xAw N d).c_spec_l12At (xAw N d).c_spec_l12List (xAw N d).c_spec_l12Text, xB1 N (xAw N d).c_spec_l12At (xAw N d).c_spec_l12List (xAw N d).c_spec_l12Text⟩
def xKe (N : Nat) (a0 : Exp) : Option (Str) := (xAw N N).c_spec_l12Text a0
def xDi (a0 : Exp) : List Arg := [.val (.v true (Ex .ro a0))]
def xBO (r : Str) : CallO := ⟨.v false [.str r], [], []⟩
def xE1 (N : Nat) (a0 : Exp) : Option (Str) := (xCy N a0).bind fun r1 => bif (!r1) then (some []) else ((xKe N a0).bind fun r2 => some r2)
def xEp (a0 : Str) : List Arg := [.val (.v false [.str a0])]
def xA1 (r : Str × Bool) : CallO := ⟨.tup [(false, [.str r.1]), (false, [.bool r.2])], [], []⟩
def xFv (N : Nat) (a0 : Str) : Option (Str × Bool) := (xFA N a0).bind fun r1 => bif (decide (r1.2 ≥ 0)) then (some ([], false)) else ((xE1 N r1.1).bind fun r2 => some (r2, true))
def xKf (a0 : Int) : List Arg := [.val (.v false [.int .i64 a0])]
def xIo (r : Str) : CallO := ⟨.v false [.str r], [], []⟩
def strconv_Itoa (N : Nat) (a0 : Int) : Option Str := zH1 a0
def xGr (a0 : Int) : List Arg := [.val (.v false [.int .i64 a0])]
def xFF (r : Str) : CallO := ⟨.v false [.str r], [], []⟩
def xGE (N : Nat) (a0 : Int) : Option (Str) := (strconv_Itoa N a0).bind fun r1 => some r1
def xKg (a0 : List Str) (a1 : Str) : List Arg := [.val (.v false [.sl .ro .str a0]), .val (.v false [.str a1])]
def xIp (r : Str) : CallO := ⟨.v false [.str r], [], []⟩
def strings_Join (N : Nat) (a0 : List Str) (a1 : Str) : Option Str := zH2 a0 a1
def xIu (a0 : List Str) (a1 : Str) : List Arg := [.val (.v false [.sl .ro .str a0]), .val (.v false [.str a1])]
def xHD (r : Str) : CallO := ⟨.v false [.str r], [], []⟩
def xJI (N : Nat) (a0 : List Str) (a1 : Str) : Option (Str) := (strings_Join N a0 a1).bind fun r1 => some r1
def xBF (a0 : Exp) : List Arg := [.val (.v true (Ex .ro a0))]
def xBa (r : Int) : CallO := ⟨.v false [.int .i64 r], [], []⟩
def xGY (N : Nat) (a0 : Exp) : Option (Int) := bif ((Exp.kind a0) == 7) then (some 0) else (bif ((Exp.kind a0) == 8) then (some 0) else (bif ((Exp.kind a0) == 9) then (some 0) else (bif ((Exp.kind a0) == 6) then (bif ((Exp.n a0) == 4) then (some 1) else (bif ((Exp.n a0) == 5) then (some 1) else (bif ((Exp.n a0) == 1) then (some 2) else (bif ((Exp.n a0) == 2) then (some 2) else (bif ((Exp.n a0) == 3) then (some 3) else (some 4)))))) else (some 4))))
def xDy (a0 : Exp) (a1 : Int) : List Arg := [.val (.v true (Ex .ro a0)), .val (.v false [.int .i64 a1])]
def xBZ (r : Str) : CallO := ⟨.v false [.str r], [], []⟩
def xFq (N : Nat) (q0 : Exp → Int → Option (Str)) (q1 : Exp → Option (Str)) (q2 : (List Exp) → Option (Str)) (a0 : Exp) (a1 : Int) : Option (Str) := (q1 a0).bind fun r1 => (xGY N a0).bind fun r2 => bif (decide (r2 < a1)) then (if List.length [40] + List.length r1 ≤ Lim then if List.length ([40] ++ r1) + List.length [41] ≤ Lim then some (([40] ++ r1) ++ [41]) else none else none) else (some r1)
def xBe (a0 : Exp) : List Arg := [.val (.v true (Ex .ro a0))]
def xAB (r : Str) : CallO := ⟨.v false [.str r], [], []⟩
def xCj (N : Nat) (q0 : Exp → Int → Option (Str)) (q1 : Exp → Option (Str)) (q2 : (List Exp) → Option (Str)) (a0 : Exp) : Option (Str) := bif ((Exp.kind a0) == 1) then ((xGE N (Exp.n a0)).bind fun r1 => some r1) else (bif ((Exp.kind a0) == 2) then (if List.length [34] + List.length (Exp.text a0) ≤ Lim then if List.length ([34] ++ (Exp.text a0)) + List.length [34] ≤ Lim then some (([34] ++ (Exp.text a0)) ++ [34]) else none else none) else (bif ((Exp.kind a0) == 3) then (some (Exp.text a0)) else (bif ((Exp.kind a0) == 4) then ((q2 (Exp.args a0)).bind fun r1 => if List.length [91] + List.length r1 ≤ Lim then if List.length ([91] ++ r1) + List.length [93] ≤ Lim then some (([91] ++ r1) ++ [93]) else none else none) else (bif ((Exp.kind a0) == 5) then (if List.length (Exp.text a0) + List.length [40] ≤ Lim then (q2 (Exp.args a0)).bind fun r1 => if List.length ((Exp.text a0) ++ [40]) + List.length r1 ≤ Lim then if List.length (((Exp.text a0) ++ [40]) ++ r1) + List.length [41] ≤ Lim then some ((((Exp.text a0) ++ [40]) ++ r1) ++ [41]) else none else none else none) else (bif ((Exp.kind a0) == 7) then (if List.length [108, 101, 116, 32] + List.length (Exp.text a0) ≤ Lim then if List.length ([108, 101, 116, 32] ++ (Exp.text a0)) + List.length [32, 61, 32] ≤ Lim then if (0 : Int) ≤ 0 ∧ (0 : Int) < (List.length (Exp.args a0)) then (q1 (List.getD (Exp.args a0) (Int.toNat 0) Ty.exp.dflt)).bind fun r1 => if List.length (([108, 101, 116, 32] ++ (Exp.text a0)) ++ [32, 61, 32]) + List.length r1 ≤ Lim then if List.length ((([108, 101, 116, 32] ++ (Exp.text a0)) ++ [32, 61, 32]) ++ r1) + List.length [32, 105, 110, 32] ≤ Lim then if (0 : Int) ≤ 1 ∧ (1 : Int) < (List.length (Exp.args a0)) then (q1 (List.getD (Exp.args a0) (Int.toNat 1) Ty.exp.dflt)).bind fun r2 => if List.length (((([108, 101, 116, 32] ++ (Exp.text a0)) ++ [32, 61, 32]) ++ r1) ++ [32, 105, 110, 32]) + List.length r2 ≤ Lim then some ((((([108, 101, 116, 32] ++ (Exp.text a0)) ++ [32, 61, 32]) ++ r1) ++ [32, 105, 110, 32]) ++ r2)
     else none else none else none else none else none else none else none) else (bif ((Exp.kind a0) == 8) then (if (0 : Int) ≤ 0 ∧ (0 : Int) < (List.length (Exp.args a0)) then (q1 (List.getD (Exp.args a0) (Int.toNat 0) Ty.exp.dflt)).bind fun r1 => if List.length [105, 102, 32] + List.length r1 ≤ Lim then if List.length ([105, 102, 32] ++ r1) + List.length [32, 116, 104, 101, 110, 32] ≤ Lim then if (0 : Int) ≤ 1 ∧ (1 : Int) < (List.length (Exp.args a0)) then (q1 (List.getD (Exp.args a0) (Int.toNat 1) Ty.exp.dflt)).bind fun r2 => if List.length (([105, 102, 32] ++ r1) ++ [32, 116, 104, 101, 110, 32]) + List.length r2 ≤ Lim then if List.length ((([105, 102, 32] ++ r1) ++ [32, 116, 104, 101, 110, 32]) ++ r2) + List.length [32, 101, 108, 115, 101, 32] ≤ Lim then if (0 : Int) ≤ 2 ∧ (2 : Int) < (List.length (Exp.args a0)) then (q1 (List.getD (Exp.args a0) (Int.toNat 2) Ty.exp.dflt)).bind fun r3 => if List.length (((([105, 102, 32] ++ r1) ++ [32, 116, 104, 101, 110, 32]) ++ r2) ++ [32, 101, 108, 115, 101, 32]) + List.length r3 ≤ Lim then some ((((([105, 102, 32] ++ r1) ++ [32, 116, 104, 101, 110, 32]) ++ r2) ++ [32, 101, 108, 115, 101, 32]) ++ r3) else none else none else none else none else none else none else none else none) else (bif ((Exp.kind a0) == 9) then (if List.length [102, 111, 114, 32] + List.length (Exp.text a0) ≤ Lim then if List.length ([102, 111, 114, 32] ++ (Exp.text a0)) + List.length [32, 105, 110, 32] ≤ Lim then if (0 : Int) ≤ 0 ∧ (0 : Int) < (List.length (Exp.args a0)) then (q1 (List.getD (Exp.args a0) (Int.toNat 0) Ty.exp.dflt)).bind fun r1 => if List.length (([102, 111, 114, 32] ++ (Exp.text a0)) ++ [32, 105, 110, 32]) + List.length r1 ≤ Lim then if List.length ((([102, 111, 114, 32] ++ (Exp.text a0)) ++ [32, 105, 110, 32]) ++ r1) + List.length [32, 100, 111, 32] ≤ Lim then if (0 : Int) ≤ 1 ∧ (1 : Int) < (List.length (Exp.args a0)) then (q1 (List.getD (Exp.args a0) (Int.toNat 1) Ty.exp.dflt)).bind fun r2 =>
      if List.length (((([102, 111, 114, 32] ++ (Exp.text a0)) ++ [32, 105, 110, 32]) ++ r1) ++ [32, 100, 111, 32]) + List.length r2 ≤ Lim then some ((((([102, 111, 114, 32] ++ (Exp.text a0)) ++ [32, 105, 110, 32]) ++ r1) ++ [32, 100, 111, 32]) ++ r2) else none else none else none else none else none else none else none) else ((xGY N a0).bind fun r1 => bif (r1 == 1) then (if (0 : Int) ≤ 0 ∧ (0 : Int) < (List.length (Exp.args a0)) then (q0 (List.getD (Exp.args a0) (Int.toNat 0) Ty.exp.dflt) 2).bind fun r2 => if List.length r2 + List.length [32] ≤ Lim then (xFo N (Exp.n a0)).bind fun r3 => if List.length (r2 ++ [32]) + List.length r3 ≤ Lim then if List.length ((r2 ++ [32]) ++ r3) + List.length [32] ≤ Lim then if (0 : Int) ≤ 1 ∧ (1 : Int) < (List.length (Exp.args a0)) then (q0 (List.getD (Exp.args a0) (Int.toNat 1) Ty.exp.dflt) (IntKind.i64.wrap (r1 + 1))).bind fun r4 => if List.length (((r2 ++ [32]) ++ r3) ++ [32]) + List.length r4 ≤ Lim then some ((((r2 ++ [32]) ++ r3) ++ [32]) ++ r4) else none else none else none else none else none else none) else (if (0 : Int) ≤ 0 ∧ (0 : Int) < (List.length (Exp.args a0)) then (q0 (List.getD (Exp.args a0) (Int.toNat 0) Ty.exp.dflt) r1).bind fun r2 => if List.length r2 + List.length [32] ≤ Lim then (xFo N (Exp.n a0)).bind fun r3 => if List.length (r2 ++ [32]) + List.length r3 ≤ Lim then if List.length ((r2 ++ [32]) ++ r3) + List.length [32] ≤ Lim then if (0 : Int) ≤ 1 ∧ (1 : Int) < (List.length (Exp.args a0)) then (q0 (List.getD (Exp.args a0) (Int.toNat 1) Ty.exp.dflt) (IntKind.i64.wrap (r1 + 1))).bind fun r4 => if List.length (((r2 ++ [32]) ++ r3) ++ [32]) + List.length r4 ≤ Lim then some ((((r2 ++ [32]) ++ r3) ++ [32]) ++ r4) else none else none else none else none else none else none)))))))))
def xFH (a0 : List Exp) : List Arg := [.val (.v false [.sl .ro .exp a0])]
def xDK (r : Str) : CallO := ⟨.v false [.str r], [], []⟩
def xEZ (N : Nat) (q0 : Exp → Int → Option (Str)) (q1 : Exp → Option (Str)) (q2 : (List Exp) → Option (Str)) : Nat → (List Str) → (List Exp) → Int → Int → Option (Str)
 | 0, _, _, _, _ => none
 | n + 1, x3, x7, x8, x9 => bif (decide (x9 < x8)) then (if (0 : Int) ≤ x9 ∧ x9 < (List.length x7) then (q1 (List.getD x7 (Int.toNat x9) Ty.exp.dflt)).bind fun r1 => if List.length x3 + List.length [r1] ≤ Lim then (xEZ N q0 q1 q2 n (x3 ++ [r1]) x7 x8 (IntKind.i64.wrap (x9 + 1))) else none else none) else ((xJI N x3 [44, 32]).bind fun r1 => some r1)
def xHp (N : Nat) (q0 : Exp → Int → Option (Str)) (q1 : Exp → Option (Str)) (q2 : (List Exp) → Option (Str)) (a0 : List Exp) : Option (Str) := (xEZ N q0 q1 q2 N [] a0 (List.length a0 : Int) 0)
structure impl_enclosed_rec where
 c_impl_enclosed : Exp → Int → Option (Str)
 c_impl_source : Exp → Option (Str)
 c_impl_sources : (List Exp) → Option (Str)
def xAk (N : Nat) : Nat → impl_enclosed_rec
 | 0 => ⟨fun _ _ => none, fun _ => none, fun _ => none⟩
 | d + 1 => ⟨xFq N (xAk N d).c_impl_enclosed (xAk N d).c_impl_source (xAk N d).c_impl_sources, xCj N (xAk N d).c_impl_enclosed (xAk N d).c_impl_source (xAk N d).c_impl_sources, xHp N (xAk N d).c_impl_enclosed (xAk N d).c_impl_source (xAk N d).c_impl_sources⟩
def xKJ (N : Nat) (a0 : Exp) : Option (Str) := (xAk N N).c_impl_source a0
def xEt (a0 : Exp) : List Arg := [.val (.v true (Ex .ro a0))]
def xDh (r : Str) : CallO := ⟨.v false [.str r], [], []⟩
def xEW (N : Nat) (a0 : Exp) : Option (Str) := (xC0 N a0).bind fun r1 => bif (!r1) then (some []) else ((xKJ N a0).bind fun r2 => some r2)
def xB4 (a0 : Str) : List Arg := [.val (.v false [.str a0])]
def xAr (r : Str × Bool) : CallO := ⟨.tup [(false, [.str r.1]), (false, [.bool r.2])], [], []⟩
def xEv (N : Nat) (a0 : Str) : Option (Str × Bool) := (xDm N a0).bind fun r1 => bif (decide (r1.2 ≥ 0)) then (some ([], false)) else ((xEW N r1.1).bind fun r2 => some (r2, true))
def xJg (a0 : List Int) : List Arg := [.val (.v false [.sl .ro .byte a0])]
def xDL (r : Bool) : CallO := ⟨.v false [.bool r], [], []⟩
def xKj (N : Nat) (a0 : List Int) : Option (Bool) := some (decide ((List.length a0 : Int) > 1048576))
def xHX (a0 : List Int) : List Arg := [.val (.v false [.sl .ro .byte a0])]
def xFZ (r : Cur) : CallO := ⟨.tup [(false, [.ptr 0 0]), (true, (Cu .ro r))], [], []⟩
def xGx (N : Nat) : Nat → (List Int) → Int → Int → Option (Cur)
 | 0, _, _, _ => none
 | n + 1, x0, x3, x4 => bif (decide (x4 < (List.length x0 : Int))) then (bif (decide (x4 < 4000)) then (if (0 : Int) ≤ x4 ∧ x4 < (List.length x0) then (xGx N n x0 (andI .i64 (IntKind.i64.wrap ((IntKind.i64.wrap ((IntKind.i64.wrap (x3 * 131)) + (IntKind.i64.wrap ((List.getD x0 (Int.toNat x4) Ty.byte.dflt))))) + 7)) 1073741823) (IntKind.i64.wrap (x4 + 1))) else none) else (some (Cur.mk x0 0 x3))) else (some (Cur.mk x0 0 x3))
def xHw (N : Nat) (a0 : List Int) : Option (Cur) := (xGx N N a0 (IntKind.i64.wrap (26583 + (List.length a0 : Int))) 0)
def xEj (a0 : Cur) : List Arg := [.box (Cu .ro a0)]
def xCt (r : Int × Cur) : CallO := ⟨.v false [.int .i64 r.1], [(Cu .ro r.2)], []⟩
def xFW (N : Nat) (a0 : Cur) : Option (Int × Cur) := bif (decide ((Cur.i a0) < (List.length (Cur.b a0) : Int))) then (if (0 : Int) ≤ (Cur.i a0) ∧ (Cur.i a0) < (List.length (Cur.b a0)) then some ((andI .i64 (IntKind.i64.wrap ((andI .i64 (xorI .i64 (Int.fdiv (IntKind.i64.wrap ((IntKind.i64.wrap ((Cur.h a0) * 6364136223846793005)) + 1442695040888963407)) ((2 : Int) ^ (Int.toNat 33))) (Int.fdiv (IntKind.i64.wrap ((IntKind.i64.wrap ((Cur.h a0) * 6364136223846793005)) + 1442695040888963407)) ((2 : Int) ^ (Int.toNat 45)))) 255) + (IntKind.i64.wrap ((List.getD (Cur.b a0) (Int.toNat (Cur.i a0)) Ty.byte.dflt))))) 255), (Cur.mk (Cur.b a0) (IntKind.i64.wrap ((Cur.i a0) + 1)) (IntKind.i64.wrap ((IntKind.i64.wrap ((Cur.h a0) * 6364136223846793005)) + 1442695040888963407)))) else none) else (some ((andI .i64 (xorI .i64 (Int.fdiv (IntKind.i64.wrap ((IntKind.i64.wrap ((Cur.h a0) * 6364136223846793005)) + 1442695040888963407)) ((2 : Int) ^ (Int.toNat 33))) (Int.fdiv (IntKind.i64.wrap ((IntKind.i64.wrap ((Cur.h a0) * 6364136223846793005)) + 1442695040888963407)) ((2 : Int) ^ (Int.toNat 45)))) 255), (Cur.mk (Cur.b a0) (Cur.i a0) (IntKind.i64.wrap ((IntKind.i64.wrap ((Cur.h a0) * 6364136223846793005)) + 1442695040888963407)))))
def xAD (a0 : Cur) (a1 : Int) : List Arg := [.box (Cu .ro a0), .val (.v false [.int .i64 a1])]
def xAc (r : Int × Cur) : CallO := ⟨.v false [.int .i64 r.1], [(Cu .ro r.2)], []⟩
def xAU (N : Nat) (a0 : Cur) (a1 : Int) : Option (Int × Cur) := bif (decide (a1 ≤ 0)) then (some (0, a0)) else (bif (decide (a1 ≤ 256)) then ((xFW N a0).bind fun r1 => if a1 ≠ (0 : Int) then some ((Int.tmod r1.1 a1), r1.2) else none) else ((xFW N a0).bind fun r1 => (xFW N r1.2).bind fun r2 => (xFW N r2.2).bind fun r3 => (xFW N r3.2).bind fun r4 => if a1 ≠ (0 : Int) then some ((Int.tmod (IntKind.i64.wrap ((IntKind.i64.wrap ((IntKind.i64.wrap ((IntKind.i64.wrap (r1.1 * 16777216)) + (IntKind.i64.wrap (r2.1 * 65536)))) + (IntKind.i64.wrap (r3.1 * 256)))) + r4.1)) a1), r4.2) else none))
def xCG (a0 : Cur) (a1 : List Str) : List Arg := [.box (Cu .ro a0), .val (.v false [.sl .ro .str a1])]
def xA5 (r : Str × Cur) : CallO := ⟨.v false [.str r.1], [(Cu .ro r.2)], []⟩
def xDf (N : Nat) (a0 : Cur) (a1 : List Str) : Option (Str × Cur) := (xAU N a0 (List.length a1 : Int)).bind fun r1 => if (0 : Int) ≤ r1.1 ∧ r1.1 < (List.length a1) then some ((List.getD a1 (Int.toNat r1.1) Ty.str.dflt), r1.2) else none
def xDN (a0 : Cur) (a1 : List Str) : List Arg := [.box (Cu .ro a0), .val (.v false [.sl .ro .str a1])]
def xCz (r : Exp × Cur) : CallO := ⟨.v true (Ex .own r.1), [(Cu .ro r.2)], []⟩
def xG1 (N : Nat) (a0 : Cur) (a1 : List Str) : Option (Exp × Cur) := (xAU N a0 5).bind fun r1 => bif (r1.1 == 0) then ((xDf N r1.2 [[97], [97, 98], [], [98]]).bind fun r2 => some ((Exp.mk 2 0 r2.1 []), r2.2)) else (bif (r1.1 == 1) then ((xAU N r1.2 6).bind fun r2 => (xCY N r2.1).bind fun r3 => some (r3, r2.2)) else (bif (r1.1 == 2) then ((xAU N r1.2 6).bind fun r2 => (xCY N r2.1).bind fun r3 => some (r3, r2.2)) else ((xDf N r1.2 a1).bind fun r2 => (xIA N r2.1).bind fun r3 => some (r3, r2.2))))
def xFC (a0 : Cur) (a1 : Int) : List Arg := [.box (Cu .ro a0), .val (.v false [.int .i64 a1])]
def xDt (r : Bool × Cur) : CallO := ⟨.v false [.bool r.1], [(Cu .ro r.2)], []⟩
def xGo (N : Nat) (a0 : Cur) (a1 : Int) : Option (Bool × Cur) := (xAU N a0 a1).bind fun r1 => some ((r1.1 == 0), r1.2)
def xE5 (a0 : Cur) (a1 : List Str) : List Arg := [.box (Cu .ro a0), .val (.v false [.sl .ro .str a1])]
def xCA (r : Exp × Cur) : CallO := ⟨.v true (Ex .own r.1), [(Cu .ro r.2)], []⟩
def xE6 (N : Nat) : Nat → (List Str) → Int → Int → Cur → Exp → Exp → Option (Exp × Cur)
 | 0, _, _, _, _, _, _ => none
 | n + 1, x1, x6, x7, b0, b4, b5 => bif (decide (x7 < x6)) then ((xAU N b0 5).bind fun r1 => (xCY N r1.1).bind fun r2 => if List.length (Exp.args b5) + List.length [(Exp.re r2)] ≤ Lim then (xGo N r1.2 4).bind fun r3 => bif r3.1 then ((xG1 N r3.2 x1).bind fun r4 => if (0 : Int) ≤ x7 ∧ x7 < (List.length ((Exp.args b5) ++ [(Exp.re r2)])) then (xE6 N n x1 x6 (IntKind.i64.wrap (x7 + 1)) r4.2 b4 (Exp.mk (Exp.kind b5) (Exp.n b5) (Exp.text b5) ((fun (z2 : List Exp) => List.set z2 (Int.toNat x7) (Exp.re r4.1)) ((Exp.args b5) ++ [(Exp.re r2)])))) else none) else ((xE6 N n x1 x6 (IntKind.i64.wrap (x7 + 1)) r3.2 b4 (Exp.mk (Exp.kind b5) (Exp.n b5) (Exp.text b5) ((Exp.args b5) ++ [(Exp.re r2)])))) else none) else (some (b5, b0))
def xGl (N : Nat) (a0 : Cur) (a1 : List Str) : Option (Exp × Cur) := (xAU N a0 4).bind fun r1 => (xE6 N N a1 r1.1 0 r1.2 (Exp.mk 0 0 [] []) (Exp.mk 4 0 [] []))
def xCu (a0 : Cur) (a1 : Exp) (a2 : Exp) : List Arg := [.box (Cu .ro a0), .val (.v true (Ex .ro a1)), .val (.v true (Ex .ro a2))]
def xA9 (r : Exp × Cur) : CallO := ⟨.v true (Ex .ro r.1), [(Cu .ro r.2)], []⟩
def xDS (N : Nat) (a0 : Cur) (a1 : Exp) (a2 : Exp) : Option (Exp × Cur) := (xGo N a0 2).bind fun r1 => bif r1.1 then (some (a1, r1.2)) else (some (a2, r1.2))
def xCo (a0 : Str) (a1 : List Exp) : List Arg := [.val (.v false [.str a0]), .val (.v false [.sl .ro .exp a1])]
def xAT (r : Exp) : CallO := ⟨.v true (Ex .ro r), [], []⟩
def xDj (N : Nat) (a0 : Str) (a1 : List Exp) : Option (Exp) := some (Exp.mk 5 0 a0 a1)
def xEU (a0 : Cur) : List Arg := [.box (Cu .ro a0)]
def xC9 (r : Exp × Cur) : CallO := ⟨.v true (Ex .own r.1), [(Cu .ro r.2)], []⟩
def xF4 (N : Nat) (a0 : Cur) : Option (Exp × Cur) := (xDf N a0 [[97], [97], [98], [99], [120]]).bind fun r1 => some ((Exp.mk 2 0 r1.1 []), r1.2)
def xFk (a0 : Cur) : List Arg := [.box (Cu .ro a0)]
def xC4 (r : Exp × Cur) : CallO := ⟨.v true (Ex .ro r.1), [(Cu .ro r.2)], []⟩
def xFl (N : Nat) : Nat → Int → Int → Cur → Exp → Exp → Option (Exp × Cur)
 | 0, _, _, _, _, _ => none
 | n + 1, x4, x5, b0, b2, b3 => bif (decide (x5 < x4)) then ((xAU N b0 3).bind fun r1 => (xCY N r1.1).bind fun r2 => (xAU N r1.2 4).bind fun r3 => (xCY N r3.1).bind fun r4 => if List.length (Exp.args b3) + List.length [(Exp.mk 4 0 [] [(Exp.re r2), (Exp.re r4)])] ≤ Lim then (xFl N n x4 (IntKind.i64.wrap (x5 + 1)) r3.2 b2 (Exp.mk (Exp.kind b3) (Exp.n b3) (Exp.text b3) ((Exp.args b3) ++ [(Exp.mk 4 0 [] [(Exp.re r2), (Exp.re r4)])]))) else none) else ((xDj N [116, 97, 98, 108, 101] [(Exp.mk 2 0 [97, 32, 98] []), (Exp.re b3)]).bind fun r1 => some (r1, b0))
def xGv (N : Nat) (a0 : Cur) : Option (Exp × Cur) := (xAU N a0 4).bind fun r1 => (xFl N N r1.1 0 r1.2 (Exp.mk 0 0 [] []) (Exp.mk 4 0 [] []))
def xAG (a0 : Cur) (a1 : List Str) (a2 : Int) : List Arg := [.box (Cu .ro a0), .val (.v false [.sl .ro .str a1]), .val (.v false [.int .i64 a2])]
def xAj (r : Exp × Cur) : CallO := ⟨.v true (Ex .ro r.1), [(Cu .ro r.2)], []⟩
def xEb (N : Nat) (q0 : Cur → (List Str) → Int → Option (Exp × Cur)) (a0 : Cur) (a1 : List Str) (a2 : Int) : Option (Exp × Cur) := bif (decide (a2 < 2)) then ((xG1 N a0 a1).bind fun r1 => some (r1.1, r1.2)) else ((xAU N a0 13).bind fun r1 => bif (r1.1 == 0) then ((xAU N r1.2 5).bind fun r2 => (q0 r2.2 a1 (IntKind.i64.wrap (a2 - 1))).bind fun r3 => (q0 r3.2 a1 (IntKind.i64.wrap (a2 - 1))).bind fun r4 => (xEc N (IntKind.i64.wrap (1 + r2.1)) r3.1 r4.1).bind fun r5 => some (r5, r4.2)) else (bif (r1.1 == 1) then ((xAU N r1.2 5).bind fun r2 => (q0 r2.2 a1 (IntKind.i64.wrap (a2 - 1))).bind fun r3 => (q0 r3.2 a1 (IntKind.i64.wrap (a2 - 1))).bind fun r4 => (xEc N (IntKind.i64.wrap (1 + r2.1)) r3.1 r4.1).bind fun r5 => some (r5, r4.2)) else (bif (r1.1 == 2) then (if (0 : Int) ≤ 0 ∧ (0 : Int) < (List.length a1) then (xDf N r1.2 [[117], [118], (List.getD a1 (Int.toNat 0) Ty.str.dflt)]).bind fun r2 => (q0 r2.2 a1 (IntKind.i64.wrap (a2 - 1))).bind fun r3 => if List.length [r2.1] + List.length a1 ≤ Lim then (q0 r3.2 ([r2.1] ++ a1) (IntKind.i64.wrap (a2 - 1))).bind fun r4 => some ((Exp.mk 7 0 r2.1 [(Exp.re r3.1), (Exp.re r4.1)]), r4.2) else none else none) else (bif (r1.1 == 3) then ((q0 r1.2 a1 (IntKind.i64.wrap (a2 - 1))).bind fun r2 => (q0 r2.2 a1 (IntKind.i64.wrap (a2 - 1))).bind fun r3 => (q0 r3.2 a1 (IntKind.i64.wrap (a2 - 1))).bind fun r4 => some ((Exp.mk 8 0 [] [(Exp.re r2.1), (Exp.re r3.1), (Exp.re r4.1)]), r4.2)) else (bif (r1.1 == 4) then (if (0 : Int) ≤ 0 ∧ (0 : Int) < (List.length a1) then (xDf N r1.2 [[117], [118], (List.getD a1 (Int.toNat 0) Ty.str.dflt)]).bind fun r2 => (xGl N r2.2 a1).bind fun r3 => if List.length [r2.1, r2.1] + List.length a1 ≤ Lim then (q0 r3.2 ([r2.1, r2.1] ++ a1) (IntKind.i64.wrap (a2 - 1))).bind fun r4 => some ((Exp.mk 9 0 r2.1 [(Exp.re r3.1), (Exp.re r4.1)]), r4.2)
     else none else none) else (bif (r1.1 == 5) then ((xGl N r1.2 a1).bind fun r2 => some (r2.1, r2.2)) else (bif (r1.1 == 6) then ((xDf N r1.2 [[108, 101, 110], [115, 117, 109]]).bind fun r2 => (xGl N r2.2 a1).bind fun r3 => (q0 r3.2 a1 (IntKind.i64.wrap (a2 - 1))).bind fun r4 => (xDS N r4.2 r3.1 r4.1).bind fun r5 => (xDj N r2.1 [(Exp.re r5.1)]).bind fun r6 => some (r6, r5.2)) else (bif (r1.1 == 7) then ((xDf N r1.2 [[116, 97, 107, 101], [115, 107, 105, 112], [110, 116, 104], [116, 97, 107, 101]]).bind fun r2 => (xAU N r2.2 4).bind fun r3 => (xCY N r3.1).bind fun r4 => (xGl N r3.2 a1).bind fun r5 => (xAU N r5.2 9).bind fun r6 => (xCY N r6.1).bind fun r7 => (xAU N r6.2 4).bind fun r8 => (xCY N r8.1).bind fun r9 => (xDj N [114, 97, 110, 103, 101] [(Exp.re r7), (Exp.re r9)]).bind fun r10 => (xDS N r8.2 r5.1 r10).bind fun r11 => (xDj N r2.1 [(Exp.re r4), (Exp.re r11.1)]).bind fun r12 => some (r12, r11.2)) else (bif (r1.1 == 8) then ((xF4 N r1.2).bind fun r2 => (xAU N r2.2 3).bind fun r3 => (xCY N r3.1).bind fun r4 => (xGv N r3.2).bind fun r5 => (q0 r5.2 a1 (IntKind.i64.wrap (a2 - 1))).bind fun r6 => (xDS N r6.2 r5.1 r6.1).bind fun r7 => (xDj N [119, 104, 101, 114, 101] [(Exp.re r2.1), (Exp.re r4), (Exp.re r7.1)]).bind fun r8 => some (r8, r7.2)) else (bif (r1.1 == 9) then ((xF4 N r1.2).bind fun r2 => (xF4 N r2.2).bind fun r3 => (xGv N r3.2).bind fun r4 => (q0 r4.2 a1 (IntKind.i64.wrap (a2 - 1))).bind fun r5 => (xDS N r5.2 r4.1 r5.1).bind fun r6 => (xDj N [103, 114, 111, 117, 112] [(Exp.re r2.1), (Exp.re r3.1), (Exp.re r6.1)]).bind fun r7 =>
               some (r7, r6.2)) else (bif (r1.1 == 10) then ((xGv N r1.2).bind fun r2 => (q0 r2.2 a1 (IntKind.i64.wrap (a2 - 1))).bind fun r3 => (xDS N r3.2 r2.1 r3.1).bind fun r4 => (xDj N [114, 111, 119, 115] [(Exp.re r4.1)]).bind fun r5 => some (r5, r4.2)) else (bif (r1.1 == 11) then ((xAU N r1.2 6).bind fun r2 => (xCY N (IntKind.i64.wrap (1 + r2.1))).bind fun r3 => (xDj N [99, 104, 97, 110, 99, 101] [(Exp.re r3)]).bind fun r4 => some (r4, r2.2)) else ((xDj N [99, 108, 111, 99, 107] []).bind fun r2 => (xDf N r1.2 [[102], [103], [104]]).bind fun r3 => (xDj N [102, 105, 108, 101] [(Exp.mk 2 0 r3.1 [])]).bind fun r4 => (xDS N r3.2 r2 r4).bind fun r5 => some (r5.1, r5.2))))))))))))))
def xDA (N : Nat) : Nat → Cur → (List Str) → Int → Option (Exp × Cur)
 | 0, _, _, _ => none
 | d + 1, a0, a1, a2 => xEb N (xDA N d) a0 a1 a2
def xKa (N : Nat) (a0 : Cur) (a1 : List Str) (a2 : Int) : Option (Exp × Cur) := xDA N N a0 a1 a2
def xE4 (a0 : Cur) : List Arg := [.box (Cu .ro a0)]
def xDq (r : Exp × Cur) : CallO := ⟨.v true (Ex .ro r.1), [(Cu .ro r.2)], []⟩
def xIz (N : Nat) (a0 : Cur) : Option (Exp × Cur) := (xAU N a0 4).bind fun r1 => (xKa N r1.2 [[97], [98], [99]] (IntKind.i64.wrap (1 + r1.1))).bind fun r2 => (xCy N r2.1).bind fun r3 => bif (!r3) then ((xG1 N r2.2 [[97], [98], [99]]).bind fun r4 => some (r4.1, r4.2)) else (some (r2.1, r2.2))
def xFm (a0 : Cur) (a1 : Str) (a2 : List Str) : List Arg := [.box (Cu .ro a0), .val (.v false [.str a1]), .val (.v false [.sl .ro .str a2])]
def xEF (r : Str × Cur) : CallO := ⟨.v false [.str r.1], [(Cu .ro r.2)], []⟩
def xHh (N : Nat) (a0 : Cur) (a1 : Str) (a2 : List Str) : Option (Str × Cur) := (xAU N a0 (IntKind.i64.wrap ((List.length a1 : Int) + 1))).bind fun r1 => (xAU N r1.2 6).bind fun r2 => bif (r2.1 == 0) then (if (0 : Int) ≤ r1.1 ∧ r1.1 ≤ (List.length a1) then (xDf N r2.2 a2).bind fun r3 => if List.length (List.take (Int.toNat r1.1) a1) + List.length r3.1 ≤ Lim then if List.length ((List.take (Int.toNat r1.1) a1) ++ r3.1) + List.length (List.drop (Int.toNat r1.1) a1) ≤ Lim then some ((((List.take (Int.toNat r1.1) a1) ++ r3.1) ++ (List.drop (Int.toNat r1.1) a1)), r3.2) else none else none else none) else (bif (r2.1 == 1) then (if (0 : Int) ≤ r1.1 ∧ r1.1 ≤ (List.length a1) then some ((List.take (Int.toNat r1.1) a1), r2.2) else none) else (some (a1, r2.2)))
def xFL (a0 : Cur) : List Arg := [.box (Cu .ro a0)]
def xE9 (r : Str × Cur) : CallO := ⟨.v false [.str r.1], [(Cu .ro r.2)], []⟩
def xIB (N : Nat) (a0 : Cur) : Option (Str × Cur) := (xIz N a0).bind fun r1 => (xE1 N r1.1).bind fun r2 => (xAU N r1.2 5).bind fun r3 => bif (r3.1 == 0) then ((xHh N r3.2 r2 [[32], [40], [41], [44], [32, 43, 32], [32, 105, 110, 32], [108, 101, 116, 32], [120], [61], [93]]).bind fun r4 => some (r4.1, r4.2)) else (bif (r3.1 == 1) then ((xDf N r3.2 [[], [49, 32, 43, 32, 50, 32, 42, 32, 51], [40, 49, 32, 43, 32, 50, 41, 32, 42, 32, 51], [49, 32, 60, 32, 50, 32, 60, 32, 51], [97, 32, 45, 32, 98, 32, 45, 32, 99], [108, 101, 116, 32, 120, 32, 61, 32, 49, 32, 105, 110, 32, 120, 32, 43, 32, 120], [102, 111, 114, 32, 117, 32, 105, 110, 32, 91, 49, 44, 32, 50, 93, 32, 100, 111, 32, 117, 32, 42, 32, 117], [105, 102, 32, 97, 32, 116, 104, 101, 110, 32, 98, 32, 101, 108, 115, 101, 32, 99], [115, 117, 109, 40, 49, 44, 32, 50, 41], [102, 40, 49, 41], [108, 101, 116, 32, 108, 101, 116, 32, 61, 32, 49, 32, 105, 110, 32, 50], [115, 117, 109], [49, 32, 50], [91, 49, 44, 93], [91, 93], [40, 40, 97, 41, 41], [49, 32, 43, 32, 108, 101, 116, 32, 120, 32, 61, 32, 49, 32, 105, 110, 32, 120]]).bind fun r4 => some (r4.1, r4.2)) else (some (r2, r3.2)))
def xI3 (N : Nat) (q0 : Exp → Exp → Option (Bool)) : Nat → Int → Exp → Exp → Option (Bool)
 | 0, _, _, _ => none
 | n + 1, x5, b2, b3 => bif (decide (x5 < (List.length (Exp.args b2) : Int))) then (if (0 : Int) ≤ x5 ∧ x5 < (List.length (Exp.args b2)) then if (0 : Int) ≤ x5 ∧ x5 < (List.length (Exp.args b3)) then (q0 (List.getD (Exp.args b2) (Int.toNat x5) Ty.exp.dflt) (List.getD (Exp.args b3) (Int.toNat x5) Ty.exp.dflt)).bind fun r1 => bif (!r1) then (some false) else ((xI3 N q0 n (IntKind.i64.wrap (x5 + 1)) b2 b3)) else none else none) else (some true)
def xKV (N : Nat) (q0 : Exp → Exp → Option (Bool)) (a0 : Exp) (a1 : Exp) : Option (Bool) := bif ((Exp.kind a0) != (Exp.kind a1)) then (some false) else (bif ((Exp.n a0) != (Exp.n a1)) then (some false) else (bif (!(((Exp.text a0) : Str) == (Exp.text a1))) then (some false) else (bif ((List.length (Exp.args a0) : Int) != (List.length (Exp.args a1) : Int)) then (some false) else ((xI3 N q0 N 0 a0 a1)))))
def xLj (N : Nat) : Nat → Exp → Exp → Option (Bool)
 | 0, _, _ => none
 | d + 1, a0, a1 => xKV N (xLj N d) a0 a1
def xEi (a0 : List Int) : List Arg := [.val (.v false [.sl .ro .byte a0])]
def xAP (r : Str) : CallO := ⟨.v false [.str r], [], []⟩
def xD4 (N : Nat) (a0 : List Int) : Option (Str) := (xHw N a0).bind fun r1 => (xIB N r1).bind fun r2 => some r2.1
def xBy (a0 : Exp) (a1 : Exp) : List Arg := [.val (.v true (Ex .ro a0)), .val (.v true (Ex .ro a1))]
def xAN (r : Bool) : CallO := ⟨.v false [.bool r], [], []⟩
def xEQ (N : Nat) (q0 : Exp → Exp → Option (Bool)) : Nat → Int → Int → Exp → Exp → Option (Bool)
 | 0, _, _, _, _ => none
 | n + 1, x36, x37, b2, b3 => bif (decide (x37 < x36)) then (if (0 : Int) ≤ x37 ∧ x37 < (List.length (Exp.args b2)) then if (0 : Int) ≤ x37 ∧ x37 < (List.length (Exp.args b3)) then (q0 (List.getD (Exp.args b2) (Int.toNat x37) Ty.exp.dflt) (List.getD (Exp.args b3) (Int.toNat x37) Ty.exp.dflt)).bind fun r1 => bif (!r1) then (some false) else ((xEQ N q0 n x36 (IntKind.i64.wrap (x37 + 1)) b2 b3)) else none else none) else (some true)
def xEV (N : Nat) (q0 : Exp → Exp → Option (Bool)) (a0 : Exp) (a1 : Exp) : Option (Bool) := bif ((Exp.kind a0) != (Exp.kind a1)) then (some false) else (bif ((Exp.n a0) != (Exp.n a1)) then (some false) else (bif (!(((Exp.text a0) : Str) == (Exp.text a1))) then (some false) else (bif ((List.length (Exp.args a0) : Int) != (List.length (Exp.args a1) : Int)) then (some false) else ((xEQ N q0 N (List.length (Exp.args a0) : Int) 0 a0 a1)))))
def xEs (N : Nat) : Nat → Exp → Exp → Option (Bool)
 | 0, _, _ => none
 | d + 1, a0, a1 => xEV N (xEs N d) a0 a1
def xIG (N : Nat) (a0 : Exp) (a1 : Exp) : Option (Bool) := xEs N N a0 a1
def xCk (a0 : List Int) : List Arg := [.val (.v false [.sl .ro .byte a0])]
def xCl (r : Bool) : CallO := ⟨.v false [.bool r], [], []⟩
def xG8 (N : Nat) (a0 : List Int) : Option (Bool) := (xKj N a0).bind fun r1 => bif r1 then (some true) else ((xD4 N a0).bind fun r2 => (xEv N r2).bind fun r3 => (xFv N r2).bind fun r4 => bif (!((r3.2 : Bool) == r4.2)) then (some false) else (bif (!((r3.1 : Str) == r4.1)) then (some false) else (bif (!r3.2) then (bif ((r3.1 : Str) == []) then ((xGf N r2).bind fun r5 => some r5) else (some false)) else ((xDm N r2).bind fun r5 => bif (decide ((List.length r3.1 : Int) > 120)) then ((xEW N r5.1).bind fun r6 => some ((r6 : Str) == r3.1)) else ((xDm N r3.1).bind fun r6 => (xEv N r3.1).bind fun r7 => bif (r6.2 == (-1)) then ((xIG N r6.1 r5.1).bind fun r8 => bif r8 then (bif r7.2 then (some ((r7.1 : Str) == r3.1)) else (some false)) else (some false)) else (some false))))))
end Go.Ab
end
section
namespace Go.Ab
theorem vCt {P : Program} {w : World} {nm : String} {k : IntKind} {zs : List Int} (h : Lib.TabIs P w nm k zs) : ∃ (g : Nat) (o : Obj), w.heap[g]? = some o ∧ ∀ w' : World, w'.heap[g]? = some o → Lib.TabIs P w' nm k zs := by
 unfold Lib.TabIs World.var? at h
 obtain ⟨g, hg, h⟩ := Option.bind_eq_some_iff.1 h
 split at h
 · rename_i cs ty fr hh
   refine ⟨g, _, hh, fun w' hw => ?_⟩
   unfold Lib.TabIs World.var?
   rw [hg, jS, hw]
   exact h
 · cases h
end Go.Ab
namespace Go.Ab
variable [Inhabited Lb]
open Go.Proofs Go.Shelf Go.RowKit Go.Lib
variable {P : Program} {ρ : Ren}
theorem xQy (L : Lays.n156 P ρ) : ∀ args w, (callFunc (ρ.f 156) args).run P w = .ok (.enter (ρ.f 156) args) w := enters_of L.f156 (by kernel_rfl) rfl
theorem xMn (L : Lays.n137 P ρ) : ∀ args w, (callFunc (ρ.f 137) args).run P w = .ok (.enter (ρ.f 137) args) w := enters_of L.f137 (by kernel_rfl) rfl
theorem xMm (L : Lays.n99 P ρ) : ∀ args w, (callFunc (ρ.f 99) args).run P w = .ok (.enter (ρ.f 99) args) w := enters_of L.f99 (by kernel_rfl) rfl
theorem xQx (L : LaysM.n171 P ρ) : ∀ args w, (callFunc (ρ.f 171) args).run P w = .ok (.enter (ρ.f 171) args) w := enters_of L.f171 (by kernel_rfl) rfl
theorem xXb {A : World → Prop} {f : FuncId} (hc : ∀ n : Int, -9223372036854775808 ≤ n → n ≤ 9223372036854775807 → ∀ w : World, A w → Calls P f #[.int .i64 n] w fun e w' => e = .returned (.string ⟨(Lib.itoa n).toArray⟩) ∧ ∃ k os, w' = Go.Sort.grow (w.drewN k) os)
 (ht : ∀ w : World, (∀ x ∈ zDP, w.heap[x.1]? = some x.2) → A w) (n : Int) (w : World) (h0 : -9223372036854775808 ≤ n) (h1 : n ≤ 9223372036854775807) (hw : ∀ x ∈ zDP, w.heap[x.1]? = some x.2) :
 Calls P f #[.int .i64 n] w fun e w' => e = .returned (.string ⟨(Lib.itoa n).toArray⟩) ∧ Go.RowKit.Below w.heap.size w w' := by
 refine (hc n h0 h1 w (ht w hw)).mono ?_
 rintro e w' ⟨he, k, os, rfl⟩
 refine ⟨he, rfl, rfl, rfl, ?_, fun j hj => ?_⟩
 · show w.heap.size ≤ (w.heap ++ os).size
   rw [Array.size_append]; omega
 · show (w.heap ++ os)[j]? = _
   rw [Array.getElem?_append_left hj]
end Go.Ab
end
section
namespace Go.Ab
open Go.Proofs Go.Shelf Go.RowKit Go.Lib
variable {P : Program} {ρ : Ren}
def xWX (s : Str) (e : Ending) : Prop :=
 (∃ v, Lib.atoiAll s = .ok v ∧ e = .returned (.tuple #[.int .i64 v, .nilIface])) ∨ ((∀ v, Lib.atoiAll s ≠ .ok v) ∧ ∃ n t b, e = .returned (.tuple #[.int .i64 n, .iface t (.pointer (some ⟨b, 0, none⟩))]))
theorem xSZ (L : LaysC.n172 P ρ) (s : ByteArray) (hl : s.size ≤ 1000000) (w : World) (he : (∃ t1 p1, w.var? P "strconv.ErrSyntax" = some #[.iface t1 p1]) ∧ ∃ t2 p2, w.var? P "strconv.ErrRange" = some #[.iface t2 p2]) :
 Calls P (ρ.f 172) #[.string s] w fun e w' => xWX s.data.toList e ∧ Below w.heap.size w w' := by
 obtain ⟨⟨t1, p1, h1⟩, t2, p2, h2⟩ := he
 cases hc : Lib.atoiAll s.data.toList with
 | ok v =>
   refine (Any.strconv_Atoi_ok L s (by omega) v hc w).mono ?_
   rintro e w' ⟨rfl, hw⟩
   refine ⟨.inl ⟨v, hc, rfl⟩, ?_⟩
   rcases hw with rfl | ⟨t, rfl⟩
   · exact Below.refl _ _
   · exact Lib.bytesWorld_below w _ t
 | range =>
   refine (Any.strconv_Atoi_range_var L s (by omega) hc t2 p2 w h2).mono ?_
   rintro e w' ⟨N, rfl, _, _, hb⟩
   exact ⟨.inr ⟨fun v h => (by rw [hc] at h; cases h), _, _, _, rfl⟩, hb⟩
 | _ =>
   refine (Any.strconv_Atoi_syntax_var L s (by omega) hc t1 p1 w h1).mono ?_
   rintro e w' ⟨N, rfl, _, _, hb⟩
   exact ⟨.inr ⟨fun v h => (by rw [hc] at h; cases h), _, _, _, rfl⟩, hb⟩
theorem xTc (L : LaysM.n171 P ρ) (n : Int) (h0 : -9223372036854775808 ≤ n) (h1 : n ≤ 9223372036854775807) (w : World) (ht : Lib.TabIs P w "internal/strconv.uint64pow10" .u64 Lib.pow10Tab) :
 Calls P (ρ.f 171) #[.int .i64 n] w fun e w' => e = .returned (.string ⟨(Lib.itoa n).toArray⟩) ∧ Below w.heap.size w w' := by
 refine (Any.strconv_Itoa L n h0 h1 w ht).mono ?_
 rintro e w' ⟨he, k, os, rfl⟩
 refine ⟨he, rfl, rfl, rfl, ?_, fun j hj => ?_⟩
 · show w.heap.size ≤ (w.heap ++ os).size
   rw [Array.size_append]; omega
 · show (w.heap ++ os)[j]? = _
   rw [Array.getElem?_append_left hj]
theorem xSV {w : World} {nm : String} {cs : Array Value} (h : w.var? P nm = some cs) : ∃ (g : Nat) (o : Obj), w.heap[g]? = some o ∧ ∀ w' : World, w'.heap[g]? = some o → w'.var? P nm = some cs := by
 unfold World.var? at h
 obtain ⟨g, hg, h⟩ := Option.bind_eq_some_iff.1 h
 split at h
 · rename_i cs ty fr hh
   refine ⟨g, _, hh, fun w' hw => ?_⟩
   unfold World.var?
   rw [hg, jS, hw]
   exact h
 · cases h
end Go.Ab
end
section
namespace Go.Proofs
open Go.Shelf
def Tryz.lays156_ren : Go.Shelf.Ren := ⟨fun | 156 => 124 | 165 => 134 | 166 => 135 | 169 => 136 | 240 => 147 | 241 => 148 | 276 => 157 | 277 => 158 | n => n, fun | 31 => 73 | 9 => 9 | 3 => 3 | 4 => 4 | 0 => 0 | 20 => 20 | 72 => 113 | 76 => 100 | 70 => 111 | 37 => 32 | 75 => 99 | 127 => 128 | 164 => 142 | 5 => 5 | 80 => 67 | n => n, fun | n => n⟩
theorem Tryz.lays156 : Go.Proofs.Lays.n156 Tryz.prog Tryz.lays156_ren := {
 mixed := by kernel_rfl
 f156 := Tryz.func124.trans (congrArg some (by kernel_rfl))
 f165 := Tryz.func134.trans (congrArg some (by kernel_rfl))
 f166 := Tryz.func135.trans (congrArg some (by kernel_rfl))
 f169 := Tryz.func136.trans (congrArg some (by kernel_rfl))
 f240 := Tryz.func147.trans (congrArg some (by kernel_rfl))
 f241 := Tryz.func148.trans (congrArg some (by kernel_rfl))
 f276 := Tryz.func157.trans (congrArg some (by kernel_rfl))
 f277 := Tryz.func158.trans (congrArg some (by kernel_rfl))
 t0 := Tryz.underlying0
 a0 := Tryz.isAgg0
 z0 := Tryz.sizeOf0
 v0 := Tryz.zeroValue0
 t3 := Tryz.underlying3
 a3 := Tryz.isAgg3
 z3 := Tryz.sizeOf3
 v3 := Tryz.zeroValue3
 t4 := Tryz.underlying4
 a4 := Tryz.isAgg4
 z4 := Tryz.sizeOf4
 v4 := Tryz.zeroValue4
 t9 := Tryz.underlying9
 a9 := Tryz.isAgg9
 z9 := Tryz.sizeOf9
 v9 := Tryz.zeroValue9
 t20 := Tryz.underlying20
 a20 := Tryz.isAgg20
 z20 := Tryz.sizeOf20
 v20 := Tryz.zeroValue20
 t31 := Tryz.underlying73
 a31 := Tryz.isAgg73
 z31 := Tryz.sizeOf73
 v31 := Tryz.zeroValue73
 t37 := Tryz.underlying32
 a37 := Tryz.isAgg32
 z37 := Tryz.sizeOf32
 v37 := Tryz.zeroValue32
 t70 := Tryz.underlying111
 a70 := Tryz.isAgg111
 z70 := Tryz.sizeOf111
 v70 := Tryz.zeroValue111
 t72 := Tryz.underlying113
 a72 := Tryz.isAgg113
 z72 := Tryz.sizeOf113
 v72 := Tryz.zeroValue113
 t75 := Tryz.underlying99
 a75 := Tryz.isAgg99
 z75 := Tryz.sizeOf99
 v75 := Tryz.zeroValue99
 t76 := Tryz.underlying100
 a76 := Tryz.isAgg100
 z76 := Tryz.sizeOf100
 v76 := Tryz.zeroValue100
 t127 := Tryz.underlying128
 a127 := Tryz.isAgg128
 z127 := Tryz.sizeOf128
 v127 := Tryz.zeroValue128
 t164 := Tryz.underlying142
 a164 := Tryz.isAgg142
 z164 := Tryz.sizeOf142
 v164 := Tryz.zeroValue142 }
theorem Tryz.Builder_Extra_156 : Builder.Extra Tryz.prog Tryz.lays156_ren := {
 sizeBuilder := by kernel_rfl
 liesBuilder := by kernel_rfl
 t5 := Tryz.underlying5
 a5 := Tryz.isAgg5
 z5 := Tryz.sizeOf5
 v5 := Tryz.zeroValue5
 infoByte := by kernel_rfl
 cellsByte := by kernel_rfl
 sizeByte := by kernel_rfl
 neB5 := by decide }
def Tryz.lays137_ren : Go.Shelf.Ren := ⟨fun | 137 => 90 | 217 => 112 | 266 => 130 | n => n, fun | 9 => 9 | 5 => 5 | 3 => 3 | n => n, fun | n => n⟩
theorem Tryz.lays137 : Go.Proofs.Lays.n137 Tryz.prog Tryz.lays137_ren := {
 mixed := by kernel_rfl
 f137 := Tryz.func90.trans (congrArg some (by kernel_rfl))
 f217 := Tryz.func112.trans (congrArg some (by kernel_rfl))
 f266 := Tryz.func130.trans (congrArg some (by kernel_rfl))
 t3 := Tryz.underlying3
 a3 := Tryz.isAgg3
 z3 := Tryz.sizeOf3
 v3 := Tryz.zeroValue3
 t5 := Tryz.underlying5
 a5 := Tryz.isAgg5
 z5 := Tryz.sizeOf5
 v5 := Tryz.zeroValue5
 t9 := Tryz.underlying9
 a9 := Tryz.isAgg9
 z9 := Tryz.sizeOf9
 v9 := Tryz.zeroValue9 }
def Tryz.laysM171_ren : Go.Shelf.Ren := ⟨fun | 171 => 102 | 243 => 123 | 246 => 133 | 283 => 143 | 284 => 144 | 285 => 145 | 286 => 146 | 129 => 153 | 317 => 152 | 318 => 154 | 319 => 155 | 320 => 156 | 337 => 161 | 338 => 162 | n => n, fun | 3 => 3 | 9 => 9 | 2 => 2 | 4 => 4 | 171 => 122 | 0 => 0 | 53 => 123 | 37 => 32 | 5 => 5 | 173 => 126 | 212 => 137 | 51 => 138 | 20 => 20 | 213 => 139 | 46 => 104 | 232 => 150 | 233 => 151 | n => n, fun | 17 => 3 | 18 => 4 | 19 => 5 | n => n⟩
theorem Tryz.laysM171 : Go.Proofs.LaysM.n171 Tryz.prog Tryz.laysM171_ren := {
 mixed := by kernel_rfl
 f129 := Tryz.func153.trans (congrArg some (by kernel_rfl))
 f171 := Tryz.func102.trans (congrArg some (by kernel_rfl))
 f243 := Tryz.func123.trans (congrArg some (by kernel_rfl))
 f246 := Tryz.func133.trans (congrArg some (by kernel_rfl))
 f283 := Tryz.func143.trans (congrArg some (by kernel_rfl))
 f284 := Tryz.func144.trans (congrArg some (by kernel_rfl))
 f285 := Tryz.func145.trans (congrArg some (by kernel_rfl))
 f286 := Tryz.func146.trans (congrArg some (by kernel_rfl))
 f317 := Tryz.func152.trans (congrArg some (by kernel_rfl))
 f318 := Tryz.func154.trans (congrArg some (by kernel_rfl))
 f319 := Tryz.func155.trans (congrArg some (by kernel_rfl))
 f320 := Tryz.func156.trans (congrArg some (by kernel_rfl))
 f337 := Tryz.func161.trans (congrArg some (by kernel_rfl))
 f338 := Tryz.func162.trans (congrArg some (by kernel_rfl))
 t0 := Tryz.underlying0
 a0 := Tryz.isAgg0
 z0 := Tryz.sizeOf0
 v0 := Tryz.zeroValue0
 t2 := Tryz.underlying2
 a2 := Tryz.isAgg2
 z2 := Tryz.sizeOf2
 v2 := Tryz.zeroValue2
 t3 := Tryz.underlying3
 a3 := Tryz.isAgg3
 z3 := Tryz.sizeOf3
 v3 := Tryz.zeroValue3
 t4 := Tryz.underlying4
 a4 := Tryz.isAgg4
 z4 := Tryz.sizeOf4
 v4 := Tryz.zeroValue4
 t5 := Tryz.underlying5
 a5 := Tryz.isAgg5
 z5 := Tryz.sizeOf5
 v5 := Tryz.zeroValue5
 t9 := Tryz.underlying9
 a9 := Tryz.isAgg9
 z9 := Tryz.sizeOf9
 v9 := Tryz.zeroValue9
 t20 := Tryz.underlying20
 a20 := Tryz.isAgg20
 z20 := Tryz.sizeOf20
 v20 := Tryz.zeroValue20
 t37 := Tryz.underlying32
 a37 := Tryz.isAgg32
 z37 := Tryz.sizeOf32
 v37 := Tryz.zeroValue32
 t46 := Tryz.underlying104
 a46 := Tryz.isAgg104
 z46 := Tryz.sizeOf104
 v46 := Tryz.zeroValue104
 t51 := Tryz.underlying138
 a51 := Tryz.isAgg138
 z51 := Tryz.sizeOf138
 v51 := Tryz.zeroValue138
 t53 := Tryz.underlying123
 a53 := Tryz.isAgg123
 z53 := Tryz.sizeOf123
 v53 := Tryz.zeroValue123
 t171 := Tryz.underlying122
 a171 := Tryz.isAgg122
 z171 := Tryz.sizeOf122
 v171 := Tryz.zeroValue122
 t173 := Tryz.underlying126
 a173 := Tryz.isAgg126
 z173 := Tryz.sizeOf126
 v173 := Tryz.zeroValue126
 t212 := Tryz.underlying137
 a212 := Tryz.isAgg137
 z212 := Tryz.sizeOf137
 v212 := Tryz.zeroValue137
 t213 := Tryz.underlying139
 a213 := Tryz.isAgg139
 z213 := Tryz.sizeOf139
 t232 := Tryz.underlying150
 a232 := Tryz.isAgg150
 z232 := Tryz.sizeOf150
 v232 := Tryz.zeroValue150
 t233 := Tryz.underlying151
 a233 := Tryz.isAgg151
 z233 := Tryz.sizeOf151
 v233 := Tryz.zeroValue151
 g17 := by kernel_rfl
 g18 := by kernel_rfl
 g19 := by kernel_rfl
 i0 := by kernel_rfl
 i2 := by kernel_rfl
 i3 := by kernel_rfl
 i4 := by kernel_rfl
 i5 := by kernel_rfl
 i9 := by kernel_rfl
 i20 := by kernel_rfl
 i37 := by kernel_rfl
 i46 := by kernel_rfl
 i51 := by kernel_rfl
 i53 := by kernel_rfl
 i171 := by kernel_rfl
 i173 := by kernel_rfl
 i212 := by kernel_rfl
 i232 := by kernel_rfl
 i233 := by kernel_rfl
 m17 := by kernel_rfl
 m18 := by kernel_rfl
 m19 := by kernel_rfl }
def Tryz.laysC172_ren : Go.Shelf.Ren := ⟨fun | 172 => 111 | 244 => 128 | 245 => 129 | 247 => 138 | 279 => 139 | 280 => 140 | 281 => 141 | 282 => 142 | 287 => 149 | 316 => 150 | 171 => 102 | 205 => 151 | 321 => 159 | 322 => 160 | 243 => 123 | 246 => 133 | 283 => 143 | 284 => 144 | 285 => 145 | 286 => 146 | 129 => 153 | 317 => 152 | 318 => 154 | 319 => 155 | 320 => 156 | 337 => 161 | 338 => 162 | n => n, fun | 9 => 9 | 3 => 3 | 75 => 99 | 76 => 100 | 4 => 4 | 5 => 5 | 167 => 116 | 37 => 32 | 0 => 0 | 85 => 117 | 2 => 2 | 168 => 119 | 53 => 123 | 175 => 129 | 46 => 104 | 210 => 133 | 127 => 128 | 145 => 148 | 143 => 146 | 21 => 21 | 171 => 122 | 173 => 126 | 212 => 137 | 51 => 138 | 20 => 20 | 213 => 139 | 232 => 150 | 233 => 151 | 80 => 67 | n => n, fun | 15 => 1 | 16 => 2 | 17 => 3 | 18 => 4 | 19 => 5 | n => n⟩
theorem Tryz.laysC172 : Go.Proofs.LaysC.n172 Tryz.prog Tryz.laysC172_ren := {
 mixed := by kernel_rfl
 f129 := Tryz.func153.trans (congrArg some (by kernel_rfl))
 f171 := Tryz.func102.trans (congrArg some (by kernel_rfl))
 f172 := Tryz.func111.trans (congrArg some (by kernel_rfl))
 f205 := Tryz.func151.trans (congrArg some (by kernel_rfl))
 f243 := Tryz.func123.trans (congrArg some (by kernel_rfl))
 f244 := Tryz.func128.trans (congrArg some (by kernel_rfl))
 f245 := Tryz.func129.trans (congrArg some (by kernel_rfl))
 f246 := Tryz.func133.trans (congrArg some (by kernel_rfl))
 f247 := Tryz.func138.trans (congrArg some (by kernel_rfl))
 f279 := Tryz.func139.trans (congrArg some (by kernel_rfl))
 f280 := Tryz.func140.trans (congrArg some (by kernel_rfl))
 f281 := Tryz.func141.trans (congrArg some (by kernel_rfl))
 f282 := Tryz.func142.trans (congrArg some (by kernel_rfl))
 f283 := Tryz.func143.trans (congrArg some (by kernel_rfl))
 f284 := Tryz.func144.trans (congrArg some (by kernel_rfl))
 f285 := Tryz.func145.trans (congrArg some (by kernel_rfl))
 f286 := Tryz.func146.trans (congrArg some (by kernel_rfl))
 f287 := Tryz.func149.trans (congrArg some (by kernel_rfl))
 f316 := Tryz.func150.trans (congrArg some (by kernel_rfl))
 f317 := Tryz.func152.trans (congrArg some (by kernel_rfl))
 f318 := Tryz.func154.trans (congrArg some (by kernel_rfl))
 f319 := Tryz.func155.trans (congrArg some (by kernel_rfl))
 f320 := Tryz.func156.trans (congrArg some (by kernel_rfl))
 f321 := Tryz.func159.trans (congrArg some (by kernel_rfl))
 f322 := Tryz.func160.trans (congrArg some (by kernel_rfl))
 f337 := Tryz.func161.trans (congrArg some (by kernel_rfl))
 f338 := Tryz.func162.trans (congrArg some (by kernel_rfl))
 t0 := Tryz.underlying0
 a0 := Tryz.isAgg0
 z0 := Tryz.sizeOf0
 v0 := Tryz.zeroValue0
 t2 := Tryz.underlying2
 a2 := Tryz.isAgg2
 z2 := Tryz.sizeOf2
 v2 := Tryz.zeroValue2
 t3 := Tryz.underlying3
 a3 := Tryz.isAgg3
 z3 := Tryz.sizeOf3
 v3 := Tryz.zeroValue3
 t4 := Tryz.underlying4
 a4 := Tryz.isAgg4
 z4 := Tryz.sizeOf4
 v4 := Tryz.zeroValue4
 t5 := Tryz.underlying5
 a5 := Tryz.isAgg5
 z5 := Tryz.sizeOf5
 v5 := Tryz.zeroValue5
 t9 := Tryz.underlying9
 a9 := Tryz.isAgg9
 z9 := Tryz.sizeOf9
 v9 := Tryz.zeroValue9
 t20 := Tryz.underlying20
 a20 := Tryz.isAgg20
 z20 := Tryz.sizeOf20
 v20 := Tryz.zeroValue20
 t21 := Tryz.underlying21
 a21 := Tryz.isAgg21
 z21 := Tryz.sizeOf21
 v21 := Tryz.zeroValue21
 t37 := Tryz.underlying32
 a37 := Tryz.isAgg32
 z37 := Tryz.sizeOf32
 v37 := Tryz.zeroValue32
 t46 := Tryz.underlying104
 a46 := Tryz.isAgg104
 z46 := Tryz.sizeOf104
 v46 := Tryz.zeroValue104
 t51 := Tryz.underlying138
 a51 := Tryz.isAgg138
 z51 := Tryz.sizeOf138
 v51 := Tryz.zeroValue138
 t53 := Tryz.underlying123
 a53 := Tryz.isAgg123
 z53 := Tryz.sizeOf123
 v53 := Tryz.zeroValue123
 t75 := Tryz.underlying99
 a75 := Tryz.isAgg99
 z75 := Tryz.sizeOf99
 v75 := Tryz.zeroValue99
 t76 := Tryz.underlying100
 a76 := Tryz.isAgg100
 z76 := Tryz.sizeOf100
 v76 := Tryz.zeroValue100
 t85 := Tryz.underlying117
 a85 := Tryz.isAgg117
 z85 := Tryz.sizeOf117
 v85 := Tryz.zeroValue117
 t127 := Tryz.underlying128
 a127 := Tryz.isAgg128
 z127 := Tryz.sizeOf128
 v127 := Tryz.zeroValue128
 t143 := Tryz.underlying146
 a143 := Tryz.isAgg146
 z143 := Tryz.sizeOf146
 v143 := Tryz.zeroValue146
 t145 := Tryz.underlying148
 a145 := Tryz.isAgg148
 z145 := Tryz.sizeOf148
 v145 := Tryz.zeroValue148
 t167 := Tryz.underlying116
 a167 := Tryz.isAgg116
 z167 := Tryz.sizeOf116
 v167 := Tryz.zeroValue116
 t168 := Tryz.underlying119
 a168 := Tryz.isAgg119
 z168 := Tryz.sizeOf119
 v168 := Tryz.zeroValue119
 t171 := Tryz.underlying122
 a171 := Tryz.isAgg122
 z171 := Tryz.sizeOf122
 v171 := Tryz.zeroValue122
 t173 := Tryz.underlying126
 a173 := Tryz.isAgg126
 z173 := Tryz.sizeOf126
 v173 := Tryz.zeroValue126
 t175 := Tryz.underlying129
 a175 := Tryz.isAgg129
 z175 := Tryz.sizeOf129
 v175 := Tryz.zeroValue129
 t210 := Tryz.underlying133
 a210 := Tryz.isAgg133
 z210 := Tryz.sizeOf133
 v210 := Tryz.zeroValue133
 t212 := Tryz.underlying137
 a212 := Tryz.isAgg137
 z212 := Tryz.sizeOf137
 v212 := Tryz.zeroValue137
 t213 := Tryz.underlying139
 a213 := Tryz.isAgg139
 z213 := Tryz.sizeOf139
 t232 := Tryz.underlying150
 a232 := Tryz.isAgg150
 z232 := Tryz.sizeOf150
 v232 := Tryz.zeroValue150
 t233 := Tryz.underlying151
 a233 := Tryz.isAgg151
 z233 := Tryz.sizeOf151
 v233 := Tryz.zeroValue151
 g15 := by kernel_rfl
 g16 := by kernel_rfl
 g17 := by kernel_rfl
 g18 := by kernel_rfl
 g19 := by kernel_rfl
 t80 := Tryz.underlying67
 a80 := Tryz.isAgg67
 z80 := Tryz.sizeOf67
 v80 := Tryz.zeroValue67
 i0 := by kernel_rfl
 i2 := by kernel_rfl
 i3 := by kernel_rfl
 i4 := by kernel_rfl
 i5 := by kernel_rfl
 i9 := by kernel_rfl
 i20 := by kernel_rfl
 i21 := by kernel_rfl
 i37 := by kernel_rfl
 i46 := by kernel_rfl
 i51 := by kernel_rfl
 i53 := by kernel_rfl
 i75 := by kernel_rfl
 i76 := by kernel_rfl
 i80 := by kernel_rfl
 i85 := by kernel_rfl
 i127 := by kernel_rfl
 i143 := by kernel_rfl
 i145 := by kernel_rfl
 i167 := by kernel_rfl
 i168 := by kernel_rfl
 i171 := by kernel_rfl
 i173 := by kernel_rfl
 i175 := by kernel_rfl
 i210 := by kernel_rfl
 i212 := by kernel_rfl
 i232 := by kernel_rfl
 i233 := by kernel_rfl
 m15 := by kernel_rfl
 m16 := by kernel_rfl
 m17 := by kernel_rfl
 m18 := by kernel_rfl
 m19 := by kernel_rfl
 c0 := by kernel_rfl
 c2 := by kernel_rfl
 c3 := by kernel_rfl
 c4 := by kernel_rfl
 c5 := by kernel_rfl
 c9 := by kernel_rfl
 c20 := by kernel_rfl
 c21 := by kernel_rfl
 c37 := by kernel_rfl
 c46 := by kernel_rfl
 c51 := by kernel_rfl
 c53 := by kernel_rfl
 c75 := by kernel_rfl
 c76 := by kernel_rfl
 c80 := by kernel_rfl
 c85 := by kernel_rfl
 c127 := by kernel_rfl
 c143 := by kernel_rfl
 c145 := by kernel_rfl
 c167 := by kernel_rfl
 c168 := by kernel_rfl
 c171 := by kernel_rfl
 c173 := by kernel_rfl
 c175 := by kernel_rfl
 c210 := by kernel_rfl
 c212 := by kernel_rfl
 c213 := by kernel_rfl
 c232 := by kernel_rfl
 c233 := by kernel_rfl }
def Tryz.lays99_ren : Go.Shelf.Ren := ⟨fun | 99 => 92 | 206 => 113 | n => n, fun | 9 => 9 | 4 => 4 | 3 => 3 | n => n, fun | n => n⟩
theorem Tryz.lays99 : Go.Proofs.Lays.n99 Tryz.prog Tryz.lays99_ren := {
 mixed := by kernel_rfl
 f99 := Tryz.func92.trans (congrArg some (by kernel_rfl))
 f206 := Tryz.func113.trans (congrArg some (by kernel_rfl))
 t3 := Tryz.underlying3
 a3 := Tryz.isAgg3
 z3 := Tryz.sizeOf3
 v3 := Tryz.zeroValue3
 t4 := Tryz.underlying4
 a4 := Tryz.isAgg4
 z4 := Tryz.sizeOf4
 v4 := Tryz.zeroValue4
 t9 := Tryz.underlying9
 a9 := Tryz.isAgg9
 z9 := Tryz.sizeOf9
 v9 := Tryz.zeroValue9 }
end Go.Proofs
end
section
namespace Go.Ab
open Go.Proofs Go.RowKit Go.Shelf
theorem xOT : ∀ args w, (callFunc 89 args).run Tryz.prog w = .ok (.enter 89 args) w := enters_of Tryz.func89 (by kernel_rfl) rfl
theorem xQw : Enters Tryz.prog 111 := enters_of Tryz.func111 (by kernel_rfl) rfl
theorem xOS : Enters Tryz.prog 102 := enters_of Tryz.func102 (by kernel_rfl) rfl
set_option maxRecDepth 100000 in
set_option maxHeartbeats 4000000 in
theorem xPA (s : ByteArray) (lo hi : Int) (hl : s.size ≤ 1000000) {Q : World → Prop} (hQ : ∀ w w', Q w → Below w.heap.size w w' → Q w') (ht : ∀ w, Q w → Lib.TabIs Tryz.prog w "internal/strconv.uint64pow10" .u64 Lib.pow10Tab)
 (he : ∀ w, Q w → (∃ t1 p1, w.var? Tryz.prog "strconv.ErrSyntax" = some #[.iface t1 p1]) ∧ ∃ t2 p2, w.var? Tryz.prog "strconv.ErrRange" = some #[.iface t2 p2]) (w : World) (hw : Q w) :
 Calls Tryz.prog 89 #[.string s, .int .i64 lo, .int .i64 hi] w fun e w' => e = .returned (.tuple #[.int .i64 (zHG s.data.toList lo hi).1, .bool (zHG s.data.toList lo hi).2]) ∧ Below w.heap.size w w' := by
 have hA := xSZ Tryz.laysC172 s hl w (he w hw)
 change Calls Tryz.prog 111 _ _ _ at hA
 have e1 := xQw
 have e2 := xOS
 by_cases hok : ∃ v, Lib.atoiAll s.data.toList = .ok v
 · obtain ⟨v, hv⟩ := hok
   obtain ⟨vb0, vb1⟩ := Lib.atoiAll_bounds hv
   have hA : Calls Tryz.prog 111 #[.string s] w fun e w' => e = .returned (.tuple #[.int .i64 v, .nilIface]) ∧ Below w.heap.size w w' := hA.mono fun e w' ⟨h, hb⟩ => ⟨by
    rcases h with ⟨v', h1, h2⟩ | ⟨h1, _⟩
    · rw [hv] at h1; cases h1; exact h2
    · exact absurd hv (h1 v), hb⟩
   have hI : ∀ W, Below w.heap.size w W → ∀ (f : Ending → World → Prop), (∀ W', Below w.heap.size w W' → f (.returned (.string ⟨(Lib.itoa v).toArray⟩)) W') → Calls Tryz.prog 102 #[.int .i64 v] W f := fun W hb f hf =>
    (xTc Tryz.laysM171 v vb0 vb1 W (ht W (hQ w W hw hb))).mono fun e W' ⟨h1, h2⟩ => by rw [h1]; exact hf W' (hb.trans (h2.mono hb.size))
   have hN : zHG s.data.toList lo hi = if v < lo then (0, false) else if v > hi then (0, false) else if Lib.itoa v = s.data.toList then (v, true) else (0, false) := by unfold zHG; rw [hv]
   rw [hN]
   clear hN hv
   by_cases h1 : v < lo
   · rw [if_pos h1]
     go_enter Tryz.func89, Tryz.ntmps89
     go_wp2_with (go_at_call 111; refine hA.mono ?_; rintro e W1 ⟨rfl, hb⟩)
     go_wp2
     go_ret2
     exact ⟨rfl, hb⟩
   · rw [if_neg h1]
     by_cases h2 : v > hi
     · rw [if_pos h2]
       go_enter Tryz.func89, Tryz.ntmps89
       go_wp2_with (go_at_call 111; refine hA.mono ?_; rintro e W1 ⟨rfl, hb⟩)
       go_wp2
       go_ret2
       exact ⟨rfl, hb⟩
     · rw [if_neg h2]
       go_enter Tryz.func89, Tryz.ntmps89
       go_wp2_with (go_at_call 111; refine hA.mono ?_; rintro e W1 ⟨rfl, hb⟩)
       go_wp2_with (go_at_call 102; refine hI _ (by assumption) _ ?_; intro W2 hb2)
       all_goals first
        | (go_ret2; exact ⟨rfl, hb2⟩)
        | (exfalso; simp_all [ByteArray.toList_eq]; done)
        | (exfalso; rename_i hx; rw [ByteArray.toList_eq, h] at hx; rcases hx with (hx | hx) | hx <;> first | omega | (simp at hx; done))
 · have hN : zHG s.data.toList lo hi = (0, false) := by
    unfold zHG
    cases hc : Lib.atoiAll s.data.toList with
    | ok v => exact absurd ⟨v, hc⟩ hok
    | _ => rfl
   have hA : Calls Tryz.prog 111 #[.string s] w fun e w' => (∃ n t b, e = .returned (.tuple #[.int .i64 n, .iface t (.pointer (some ⟨b, 0, none⟩))])) ∧ Below w.heap.size w w' := hA.mono fun e w' ⟨h, hb⟩ => ⟨by
    rcases h with ⟨v', h1, h2⟩ | ⟨_, h1⟩
    · exact absurd ⟨v', h1⟩ hok
    · exact h1, hb⟩
   rw [hN]
   clear hN hok
   go_enter Tryz.func89, Tryz.ntmps89
   go_wp2_with (go_at_call 111; refine hA.mono ?_; rintro e W1 ⟨⟨n, t, b, rfl⟩, hb⟩)
   go_wp2
   go_ret2
   exact ⟨rfl, hb⟩
end Go.Ab
end
section
open Go.Proofs
namespace Go.Ab.T
variable [Inhabited Lb]
abbrev AbC (f : FuncId) (a : List Arg) (r : CallO) : Prop := AbsCalls Tryz.prog f a r
abbrev W (x : Int) : Int := IntKind.i64.wrap x
abbrev Ln {α : Type} (l : List α) : Nat := List.length l
abbrev tN (x : Int) : Nat := Int.toNat x
abbrev gD {α : Type} (l : List α) (i : Nat) (d : α) : α := List.getD l i d
abbrev iY (b : Bool) : Prop := b = true
abbrev iN (b : Bool) : Prop := b = false
abbrev dc (p : Prop) [Decidable p] : Bool := decide p
abbrev vd : Val := Ty.val.dflt
abbrev rd : Rowd := Ty.row.dflt
end Go.Ab.T
end
section
open Go.Proofs
namespace Go.Ab.T
set_option maxRecDepth 100000
variable [Inhabited Lb]
def p10 : String := ((Go.Proofs.YthbobcapimmnhaaGreatDoor.Rows.fnExactParseErrorRow.laid[2]?).map fun x => x.1).getD ""
def Tab10 : Prop := ∀ w : World, (∀ x ∈ zDP, w.heap[x.1]? = some x.2) → Lib.TabIs Tryz.prog w p10 .u64 Lib.pow10Tab
variable [Nonempty Tab10]
theorem vDF : Tab10 := (inferInstance : Nonempty Tab10).elim fun h => h
def ErrVars : Prop := ∀ w : World, (∀ x ∈ zDP, w.heap[x.1]? = some x.2) → (∃ t1 p1, w.var? Tryz.prog "strconv.ErrSyntax" = some #[.iface t1 p1]) ∧ ∃ t2 p2, w.var? Tryz.prog "strconv.ErrRange" = some #[.iface t2 p2]
variable [Nonempty ErrVars]
theorem xW3 : ErrVars := (inferInstance : Nonempty ErrVars).elim fun h => h
def tt : TT := [(3, { zero := some [.int .i64 0], ik := some .i64 }),
 (4, { zero := some [.bool false], isBool := true }),
 (5, { zero := some [.int .u8 0], ik := some .u8 }),
 (9, { zero := some [.str []], isStr := true }),
 (23, { zero := some [.sl .own .exp []], elem := some (25, .exp) }),
 (25, { sz := 4, agg := true, zero := some [.int .i64 0, .int .i64 0, .str [], .sl .own .exp []], offs := [0, 1, 2, 3], fsz := [1, 1, 1, 1] }),
 (32, { zero := some [.sl .own .byte []], elem := some (5, .byte) }),
 (37, { zero := some [.sl .own .tok []], elem := some (50, .tok) }),
 (43, { sz := 4, agg := true, zero := some [.sl .own .tok [], .int .i64 0, .int .i64 0, .int .i64 0], offs := [0, 1, 2, 3], fsz := [1, 1, 1, 1] }),
 (47, { sz := 3, agg := true, zero := some [.sl .own .tok [], .int .i64 0, .int .i64 0], offs := [0, 1, 2], fsz := [1, 1, 1] }),
 (50, { sz := 4, agg := true, zero := some [.int .i64 0, .int .i64 0, .int .i64 0, .str []], offs := [0, 1, 2, 3], fsz := [1, 1, 1, 1] }),
 (69, { zero := some [.sl .own .int []], elem := some (3, .int) }),
 (73, { zero := some [.sl .own .str []], elem := some (9, .str) }),
 (79, { sz := 3, agg := true, zero := some [.sl .own .byte [], .int .i64 0, .int .i64 0], offs := [0, 1, 2], fsz := [1, 1, 1] })]
theorem ttok : TTok Tryz.prog tt := zIg (by kernel_rfl)
theorem mix : Tryz.prog.follows .mixedOrders = true := by kernel_rfl
def F : Bool := false
def Y : Bool := true
noncomputable def rE (I : Info) (ag : List Arg) (bs : List Bool) (cs : List CallO) : Option Res := run tt (AbsCalls Tryz.prog) I 3000 false [.code I.body] ⟨zBp 0 ag, bs, cs, []⟩
noncomputable def rS (k : Nat) (I : Info) (σ : St) (bs : List Bool) (cs : List CallO) : Option Res := run tt (AbsCalls Tryz.prog) I 3000 true (stkAt k I.body) ⟨σ, bs, cs, []⟩
noncomputable def dn (r : CallO) (ob : List Prop) : Option Res := some (.done r ob)
noncomputable def st (k : Nat) (I : Info) (σ : St) (ob : List Prop) : Option Res := some (.stop (stkAt k I.body) σ ob)
def RE (fn : Func) (I : Info) (ag : List Arg) (r : CallO) : Prop := Reach Tryz.prog fn I [.code I.body] (zBp 0 ag) r
def RS (fn : Func) (I : Info) (k : Nat) (σ : St) (r : CallO) : Prop := Reach Tryz.prog fn I (stkAt k I.body) σ r
section
variable {ρ : Type} {f : FuncId} {fn : Func} {I : Info} {ag : List Arg} {bs : List Bool} {cs : List CallO} {k j : Nat} {σ σ' : St} {ob : List Prop} {ro : ρ → CallO} {x r : ρ} {q : CallO}
theorem dE (e : some x = some r) (hf : FnOk Tryz.prog f fn I) (h : rE I ag bs cs = dn (ro x) ob) (o : ∀ p ∈ ob, p) : RE fn I ag (ro r) := by
 cases e; exact Reach.done ttok mix hf h o
theorem dS (e : some x = some r) (hf : FnOk Tryz.prog f fn I) (h : rS k I σ bs cs = dn (ro x) ob) (o : ∀ p ∈ ob, p) : RS fn I k σ (ro r) := by
 cases e; exact Reach.done ttok mix hf h o
theorem tE (hf : FnOk Tryz.prog f fn I) (h : rE I ag bs cs = st k I σ ob) (o : ∀ p ∈ ob, p) (t : RS fn I k σ q) : RE fn I ag q := Reach.stop ttok mix hf h o t
theorem tS (hf : FnOk Tryz.prog f fn I) (h : rS j I σ' bs cs = st k I σ ob) (o : ∀ p ∈ ob, p) (t : RS fn I k σ q) : RS fn I j σ' q := Reach.stop ttok mix hf h o t
end
theorem oc {p : Prop} {l : List Prop} (h : p) (t : ∀ q ∈ l, q) : ∀ q ∈ p :: l, q := zIf h t
theorem on : ∀ q ∈ ([] : List Prop), q := zIj
theorem oc2 {p0 p1 : Prop} {l : List Prop} (h0 : p0) (h1 : p1) (t : ∀ q ∈ l, q) : ∀ q ∈ p0 :: p1 :: l, q := oc h0 (oc h1 t)
theorem oc3 {p0 p1 p2 : Prop} {l : List Prop} (h0 : p0) (h1 : p1) (h2 : p2) (t : ∀ q ∈ l, q) : ∀ q ∈ p0 :: p1 :: p2 :: l, q := oc h0 (oc2 h1 h2 t)
theorem oc4 {p0 p1 p2 p3 : Prop} {l : List Prop} (h0 : p0) (h1 : p1) (h2 : p2) (h3 : p3) (t : ∀ q ∈ l, q) : ∀ q ∈ p0 :: p1 :: p2 :: p3 :: l, q := oc h0 (oc3 h1 h2 h3 t)
theorem oc5 {p0 p1 p2 p3 p4 : Prop} {l : List Prop} (h0 : p0) (h1 : p1) (h2 : p2) (h3 : p3) (h4 : p4) (t : ∀ q ∈ l, q) : ∀ q ∈ p0 :: p1 :: p2 :: p3 :: p4 :: l, q := oc h0 (oc4 h1 h2 h3 h4 t)
theorem oc6 {p0 p1 p2 p3 p4 p5 : Prop} {l : List Prop} (h0 : p0) (h1 : p1) (h2 : p2) (h3 : p3) (h4 : p4) (h5 : p5) (t : ∀ q ∈ l, q) : ∀ q ∈ p0 :: p1 :: p2 :: p3 :: p4 :: p5 :: l, q := oc h0 (oc5 h1 h2 h3 h4 h5 t)
theorem oc7 {p0 p1 p2 p3 p4 p5 p6 : Prop} {l : List Prop} (h0 : p0) (h1 : p1) (h2 : p2) (h3 : p3) (h4 : p4) (h5 : p5) (h6 : p6) (t : ∀ q ∈ l, q) : ∀ q ∈ p0 :: p1 :: p2 :: p3 :: p4 :: p5 :: p6 :: l, q := oc h0 (oc6 h1 h2 h3 h4 h5 h6 t)
theorem oc8 {p0 p1 p2 p3 p4 p5 p6 p7 : Prop} {l : List Prop} (h0 : p0) (h1 : p1) (h2 : p2) (h3 : p3) (h4 : p4) (h5 : p5) (h6 : p6) (h7 : p7) (t : ∀ q ∈ l, q) : ∀ q ∈ p0 :: p1 :: p2 :: p3 :: p4 :: p5 :: p6 :: p7 :: l, q := oc h0 (oc7 h1 h2 h3 h4 h5 h6 h7 t)
theorem oc9 {p0 p1 p2 p3 p4 p5 p6 p7 p8 : Prop} {l : List Prop} (h0 : p0) (h1 : p1) (h2 : p2) (h3 : p3) (h4 : p4) (h5 : p5) (h6 : p6) (h7 : p7) (h8 : p8) (t : ∀ q ∈ l, q) : ∀ q ∈ p0 :: p1 :: p2 :: p3 :: p4 :: p5 :: p6 :: p7 :: p8 :: l, q := oc h0 (oc8 h1 h2 h3 h4 h5 h6 h7 h8 t)
theorem oc10 {p0 p1 p2 p3 p4 p5 p6 p7 p8 p9 : Prop} {l : List Prop} (h0 : p0) (h1 : p1) (h2 : p2) (h3 : p3) (h4 : p4) (h5 : p5) (h6 : p6) (h7 : p7) (h8 : p8) (h9 : p9) (t : ∀ q ∈ l, q) : ∀ q ∈ p0 :: p1 :: p2 :: p3 :: p4 :: p5 :: p6 :: p7 :: p8 :: p9 :: l, q := oc h0 (oc9 h1 h2 h3 h4 h5 h6 h7 h8 h9 t)
theorem oc11 {p0 p1 p2 p3 p4 p5 p6 p7 p8 p9 p10 : Prop} {l : List Prop} (h0 : p0) (h1 : p1) (h2 : p2) (h3 : p3) (h4 : p4) (h5 : p5) (h6 : p6) (h7 : p7) (h8 : p8) (h9 : p9) (h10 : p10) (t : ∀ q ∈ l, q) : ∀ q ∈ p0 :: p1 :: p2 :: p3 :: p4 :: p5 :: p6 :: p7 :: p8 :: p9 :: p10 :: l, q := oc h0 (oc10 h1 h2 h3 h4 h5 h6 h7 h8 h9 h10 t)
theorem oc12 {p0 p1 p2 p3 p4 p5 p6 p7 p8 p9 p10 p11 : Prop} {l : List Prop} (h0 : p0) (h1 : p1) (h2 : p2) (h3 : p3) (h4 : p4) (h5 : p5) (h6 : p6) (h7 : p7) (h8 : p8) (h9 : p9) (h10 : p10) (h11 : p11) (t : ∀ q ∈ l, q) : ∀ q ∈ p0 :: p1 :: p2 :: p3 :: p4 :: p5 :: p6 :: p7 :: p8 :: p9 :: p10 :: p11 :: l, q := oc h0 (oc11 h1 h2 h3 h4 h5 h6 h7 h8 h9 h10 h11 t)
theorem cE {α : Type} {C : Prop} {b : Bool} {x y : Option α} {r : α} (h : cond b x y = some r) (f : b = true → x = some r → C) (g : b = false → y = some r → C) : C := (zIc h).elim (fun h => f h.1 h.2) fun h => g h.1 h.2
theorem bE {α β : Type} {C : Prop} {o : Option α} {f : α → Option β} {r : β} (h : Option.bind o f = some r) (g : ∀ a, o = some a → f a = some r → C) : C := (zIa h).elim fun a h => g a h.1 h.2
theorem iE {α : Type} {C p : Prop} [Decidable p] {x : Option α} {r : α} (h : (if p then x else none) = some r) (g : p → x = some r → C) : C := (zIh h).elim g
theorem nE {α : Type} {C : Prop} {r : α} (h : none = some r) : C := nomatch h
noncomputable def I79 : Info := { body := (Tryz.f79.body).getD .skip, nt := 9, results := [.tmp 2], keep := [0, 4], live := [], modes := [(1, [(2, .take, false)])] }
theorem fk79 : FnOk Tryz.prog 79 Tryz.f79 I79 := ⟨Tryz.func79, by kernel_rfl, by kernel_rfl, by kernel_rfl, by kernel_rfl⟩
def vA6 (a0 : Int) : rE I79 (xF3 a0) [Y] [] = dn (xB2 (dc (a0 ≤ 122))) [iY (dc (a0 ≥ 97))] := by kernel_rfl
def vA7 (a0 : Int) : rE I79 (xF3 a0) [F] [] = dn (xB2 false) [iN (dc (a0 ≥ 97))] := by kernel_rfl
theorem vEW {N : Nat} : ∀ a0 r, xGy N a0 = some r → RE Tryz.f79 I79 (xF3 a0) (xB2 r) := fun a0 r h =>
 cE h (fun h0 h => dE h fk79 (vA6 a0) (oc h0 on)) fun h0 h =>
 dE h fk79 (vA7 a0) (oc h0 on)
theorem xD1 {N : Nat} {a0 : Int} {r : Bool} (h : xGy N  a0 = some r) : AbC 79 (xF3 a0) (xB2 r) :=
 AbsCalls.of_reach fk79 rfl rfl (Nat.le_of_ble_eq_true rfl) (vEW a0 r h)
noncomputable def I80 : Info := { body := (Tryz.f80.body).getD .skip, nt := 9, results := [.tmp 2], keep := [0, 4], live := [], modes := [(1, [(2, .take, false)])] }
theorem fk80 : FnOk Tryz.prog 80 Tryz.f80 I80 := ⟨Tryz.func80, by kernel_rfl, by kernel_rfl, by kernel_rfl, by kernel_rfl⟩
def vA8 (a0 : Int) : rE I80 (xGq a0) [Y] [] = dn (xBS (dc (a0 ≤ 57))) [iY (dc (a0 ≥ 48))] := by kernel_rfl
def vA9 (a0 : Int) : rE I80 (xGq a0) [F] [] = dn (xBS false) [iN (dc (a0 ≥ 48))] := by kernel_rfl
theorem vEX {N : Nat} : ∀ a0 r, xGp N a0 = some r → RE Tryz.f80 I80 (xGq a0) (xBS r) := fun a0 r h =>
 cE h (fun h0 h => dE h fk80 (vA8 a0) (oc h0 on)) fun h0 h =>
 dE h fk80 (vA9 a0) (oc h0 on)
theorem xDv {N : Nat} {a0 : Int} {r : Bool} (h : xGp N  a0 = some r) : AbC 80 (xGq a0) (xBS r) :=
 AbsCalls.of_reach fk80 rfl rfl (Nat.le_of_ble_eq_true rfl) (vEX a0 r h)
noncomputable def I72 : Info := { body := (Tryz.f72.body).getD .skip, nt := 31, results := [.tmp 2], keep := [0, 4, 6, 8, 10, 14, 22, 30, 54], live := [(5, [0, 6, 8])], modes := [(11, [(0, .take, false)])] }
theorem fk72 : FnOk Tryz.prog 72 Tryz.f72 I72 := ⟨Tryz.func72, by kernel_rfl, by kernel_rfl, by kernel_rfl, by kernel_rfl⟩
def xN8 (x0 : Int) (x3 : Bool) (x4 : Str) : St := [(0, .v false [.int .i64 x0]), (6, .v false [.bool x3]), (8, .v false [.str x4])]
abbrev xRA (v0 : Int) := List.map (fun n => UInt8.ofNat (tN n)) [(IntKind.u8.wrap ((W (48 + (W (0 - (Int.tmod v0 10)))))))]
def vAx (x0 : Int) (x3 : Bool) (x4 : Str) : rS 5 I72 (xN8 x0 x3 x4) [Y, Y] [] = st 5 I72 (xN8 (W (Int.tdiv x0 10)) x3 ((xRA x0) ++ x4)) [iY (x0 != 0), 10 ≠ (0 : Int), iY (dc ((Int.tmod x0 10) < 0)), Ln (xRA x0) + Ln x4 ≤ Lim, 10 ≠ (0 : Int)] := by kernel_rfl
abbrev xRB (v0 : Int) := List.map (fun n => UInt8.ofNat (tN n)) [(IntKind.u8.wrap ((W (48 + (Int.tmod v0 10)))))]
def vAy (x0 : Int) (x3 : Bool) (x4 : Str) : rS 5 I72 (xN8 x0 x3 x4) [Y, F] [] = st 5 I72 (xN8 (W (Int.tdiv x0 10)) x3 ((xRB x0) ++ x4)) [iY (x0 != 0), 10 ≠ (0 : Int), iN (dc ((Int.tmod x0 10) < 0)), Ln (xRB x0) + Ln x4 ≤ Lim, 10 ≠ (0 : Int)] := by kernel_rfl
def vAz (x0 : Int) (x3 : Bool) (x4 : Str) : rS 5 I72 (xN8 x0 x3 x4) [F, Y] [] = dn (xBj ([45] ++ x4)) [iN (x0 != 0), iY x3, Ln [45] + Ln x4 ≤ Lim] := by kernel_rfl
def vAA (x0 : Int) (x3 : Bool) (x4 : Str) : rS 5 I72 (xN8 x0 x3 x4) [F, F] [] = dn (xBj x4) [iN (x0 != 0), iN x3] := by kernel_rfl
def vAB (a0 : Int) : rE I72 (xC8 a0) [Y] [] = dn (xBj [48]) [iY (a0 == 0)] := by kernel_rfl
abbrev xLw (v0 : Int) : Prop := iN (v0 == 0)
def vAC (a0 : Int) : rE I72 (xC8 a0) [F] [] = st 5 I72 (xN8 a0 (dc (a0 < 0)) []) [xLw a0] := by kernel_rfl
theorem vEN {N : Nat} : ∀ n x0 x3 x4 r, xCE N n x0 x3 x4 = some r → RS Tryz.f72 I72 5 (xN8 x0 x3 x4) (xBj r) := by
 intro n
 induction n with
 | zero => exact fun _ _ _ _ h => nE h
 | succ n ih =>
  exact fun x0 x3 x4 r h =>
   cE h (fun h0 h => cE h (fun h2 h => iE h fun h3 h => tS fk72 (vAx x0 x3 x4) (oc5 h0 (by decide) h2 h3 (by decide) on) (ih _ _ _ _ h)) fun h2 h =>
   iE h fun h3 h => tS fk72 (vAy x0 x3 x4) (oc5 h0 (by decide) h2 h3 (by decide) on) (ih _ _ _ _ h)) fun h0 h =>
   cE h (fun h1 h => iE h fun h2 h => dS h fk72 (vAz x0 x3 x4) (oc3 h0 h1 h2 on)) fun h1 h =>
   dS h fk72 (vAA x0 x3 x4) (oc2 h0 h1 on)
theorem vEO {N : Nat} : ∀ a0 r, xFz N a0 = some r → RE Tryz.f72 I72 (xC8 a0) (xBj r) := fun a0 r h =>
 cE h (fun h0 h => dE h fk72 (vAB a0) (oc h0 on)) fun h0 h =>
 tE fk72 (vAC a0) (oc h0 on) (vEN _ _ _ _ _ h)
theorem xFI {N : Nat} {a0 : Int} {r : Str} (h : xFz N  a0 = some r) : AbC 72 (xC8 a0) (xBj r) :=
 AbsCalls.of_reach fk72 rfl rfl (Nat.le_of_ble_eq_true rfl) (vEO a0 r h)
noncomputable def I107 : Info := { body := (Tryz.f107.body).getD .skip, nt := 63, results := [.tmp 4, .tmp 5], keep := [0, 2, 8, 10, 12, 14, 16, 18, 38, 60, 68, 92, 110, 122], live := [(9, [0, 12, 14, 16, 18])], modes := [(1, [(3, .take, false)]), (5, [(3, .take, false)]), (11, [(4, .take, false)])] }
theorem xJH : FnOk Tryz.prog 107 Tryz.f107 I107 := ⟨Tryz.func107, by kernel_rfl, by kernel_rfl, by kernel_rfl, by kernel_rfl⟩
def xJv (x0 : Str) (x6 : Bool) (x7 : Str) (x8 x9 : Int) : St := [(0, .v false [.str x0]), (12, .v false [.bool x6]), (14, .v false [.str x7]), (16, .v false [.int .i64 x8]), (18, .v false [.int .i64 x9])]
abbrev xDG (v0 : Int) (v1 : Str) : Prop := iY (dc (v0 < (Ln v1 : Int)))
abbrev xAC (v0 : Int) (v1 : Str) : Prop := (0 : Int) ≤ v0 ∧ v0 < (Ln v1)
abbrev xGC (v0 : Str) (v1 : Int) := (((gD v0 (tN v1) 0).toNat : Int) : Int)
abbrev xXi (v0 : Str) (v1 : Int) : Prop := iY (dc ((xGC v0 v1) < 48))
def xTF (x0 : Str) (x6 : Bool) (x7 : Str) (x8 x9 : Int) : rS 9 I107 (xJv x0 x6 x7 x8 x9) [Y, Y, Y] [] = dn (xBK (0, false)) [xDG x9 x7, xAC x9 x7, xXi x7 x9, iY true] := by kernel_rfl
abbrev xQE (v0 : Str) (v1 : Int) : Prop := iN (dc ((xGC v0 v1) < 48))
abbrev xXj (v0 : Str) (v1 : Int) : Prop := iY (dc ((xGC v0 v1) > 57))
def xTG (x0 : Str) (x6 : Bool) (x7 : Str) (x8 x9 : Int) : rS 9 I107 (xJv x0 x6 x7 x8 x9) [Y, F, Y] [] = dn (xBK (0, false)) [xDG x9 x7, xAC x9 x7, xQE x7 x9, xAC x9 x7, xXj x7 x9] := by kernel_rfl
abbrev xXk (v0 : Str) (v1 : Int) : Prop := iN (dc ((xGC v0 v1) > 57))
abbrev xNI (v0 : Str) (v1 : Int) := ((gD v0 (tN v1) 0).toNat : Int)
def xTH (x0 : Str) (x6 : Bool) (x7 : Str) (x8 x9 : Int) : rS 9 I107 (xJv x0 x6 x7 x8 x9) [Y, F, F] [] = st 9 I107 (xJv x0 x6 x7 (W ((W (10 * x8)) + (W ((IntKind.u8.wrap ((xNI x7 x9) - 48)))))) (W (x9 + 1))) [xDG x9 x7, xAC x9 x7, xQE x7 x9, xAC x9 x7, xXk x7 x9, xAC x9 x7] := by kernel_rfl
abbrev xI0 (v0 : Int) (v1 : Str) : Prop := iN (dc (v0 < (Ln v1 : Int)))
def xTI (x0 : Str) (x6 : Bool) (x7 : Str) (x8 x9 : Int) (r1 : Str) : rS 9 I107 (xJv x0 x6 x7 x8 x9) [F, Y, Y] [xBj r1] = dn (xBK (0, false)) [xI0 x9 x7, iY x6, AbC 72 (xC8 (W (0 - x8))) (xBj r1), iY (!((r1 : Str) == x0))] := by kernel_rfl
def xTJ (x0 : Str) (x6 : Bool) (x7 : Str) (x8 x9 : Int) (r1 : Str) : rS 9 I107 (xJv x0 x6 x7 x8 x9) [F, Y, F] [xBj r1] = dn (xBK ((W (0 - x8)), true)) [xI0 x9 x7, iY x6, AbC 72 (xC8 (W (0 - x8))) (xBj r1), iN (!((r1 : Str) == x0))] := by kernel_rfl
def xTK (x0 : Str) (x6 : Bool) (x7 : Str) (x8 x9 : Int) (r1 : Str) : rS 9 I107 (xJv x0 x6 x7 x8 x9) [F, F, Y] [xBj r1] = dn (xBK (0, false)) [xI0 x9 x7, iN x6, AbC 72 (xC8 x8) (xBj r1), iY (!((r1 : Str) == x0))] := by kernel_rfl
def xTL (x0 : Str) (x6 : Bool) (x7 : Str) (x8 x9 : Int) (r1 : Str) : rS 9 I107 (xJv x0 x6 x7 x8 x9) [F, F, F] [xBj r1] = dn (xBK (x8, true)) [xI0 x9 x7, iN x6, AbC 72 (xC8 x8) (xBj r1), iN (!((r1 : Str) == x0))] := by kernel_rfl
abbrev xMv (v0 : Str) := dc ((Ln v0 : Int) > 0)
abbrev xQF (v0 : Str) : Prop := iY (xMv v0)
abbrev xQG (v0 : Str) : Prop := (0 : Int) ≤ 0 ∧ (0 : Int) < (Ln v0)
abbrev xNJ (v0 : Str) := (((gD v0 (tN 0) 0).toNat : Int) : Int) == 45
abbrev xRk (v0 : Str) : Prop := iY (xNJ v0)
abbrev xRl (v0 : Str) : Prop := (0 : Int) ≤ (1 : Int) ∧ (1 : Int) ≤ (Ln v0)
abbrev xNK (v0 : Str) := ((Ln (List.drop (tN (1 : Int)) v0) : Int) : Int)
def xTM (a0 : Str) (a1 : Int) : rE I107 (xC6 a0 a1) [Y, Y, Y, Y] [] = dn (xBK (0, false)) [xQF a0, xQG a0, xRk a0, xRl a0, iY (dc ((xNK a0) < 1)), iY true] := by kernel_rfl
abbrev xWN (v0 : Str) : Prop := iN (dc ((xNK v0) < 1))
def xTN (a0 : Str) (a1 : Int) : rE I107 (xC6 a0 a1) [Y, Y, F, Y] [] = dn (xBK (0, false)) [xQF a0, xQG a0, xRk a0, xRl a0, xWN a0, iY (dc ((xNK a0) > a1))] := by kernel_rfl
abbrev xXf (v0 : Str) := List.drop (tN (1 : Int)) v0
def xTO (a0 : Str) (a1 : Int) : rE I107 (xC6 a0 a1) [Y, Y, F, F] [] = st 9 I107 (xJv a0 (xNJ a0) (xXf a0) 0 0) [xQF a0, xQG a0, xRk a0, xRl a0, xWN a0, iN (dc ((xNK a0) > a1))] := by kernel_rfl
abbrev xRm (v0 : Str) : Prop := iN (xNJ v0)
def xR2 (a0 : Str) (a1 : Int) : rE I107 (xC6 a0 a1) [Y, F, Y, Y] [] = dn (xBK (0, false)) [xQF a0, xQG a0, xRm a0, iY (dc ((Ln a0 : Int) < 1)), iY true] := by kernel_rfl
abbrev xPT (v0 : Str) : Prop := iN (dc ((Ln v0 : Int) < 1))
def xR3 (a0 : Str) (a1 : Int) : rE I107 (xC6 a0 a1) [Y, F, F, Y] [] = dn (xBK (0, false)) [xQF a0, xQG a0, xRm a0, xPT a0, iY (dc ((Ln a0 : Int) > a1))] := by kernel_rfl
def xR4 (a0 : Str) (a1 : Int) : rE I107 (xC6 a0 a1) [Y, F, F, F] [] = st 9 I107 (xJv a0 (xNJ a0) a0 0 0) [xQF a0, xQG a0, xRm a0, xPT a0, iN (dc ((Ln a0 : Int) > a1))] := by kernel_rfl
def xR5 (a0 : Str) (a1 : Int) : rE I107 (xC6 a0 a1) [F, F, Y, Y] [] = dn (xBK (0, false)) [iN (xMv a0), iN false, iY (dc ((Ln a0 : Int) < 1)), iY true] := by kernel_rfl
def xR6 (a0 : Str) (a1 : Int) : rE I107 (xC6 a0 a1) [F, F, F, Y] [] = dn (xBK (0, false)) [iN (xMv a0), iN false, xPT a0, iY (dc ((Ln a0 : Int) > a1))] := by kernel_rfl
def xR7 (a0 : Str) (a1 : Int) : rE I107 (xC6 a0 a1) [F, F, F, F] [] = st 9 I107 (xJv a0 false a0 0 0) [iN (xMv a0), iN false, xPT a0, iN (dc ((Ln a0 : Int) > a1))] := by kernel_rfl
theorem xQ1 {N : Nat} : ∀ n x0 x6 x7 x8 x9 r, xDJ N n x0 x6 x7 x8 x9 = some r → RS Tryz.f107 I107 9 (xJv x0 x6 x7 x8 x9) (xBK r) := by
 intro n
 induction n with
 | zero => exact fun _ _ _ _ _ _ h => nE h
 | succ n ih =>
  exact fun x0 x6 x7 x8 x9 r h =>
   cE h (fun h0 h => iE h fun h1 h => cE h (fun h2 h => dS h xJH (xTF x0 x6 x7 x8 x9) (oc4 h0 h1 h2 rfl on)) fun h2 h =>
   cE h (fun h4 h => dS h xJH (xTG x0 x6 x7 x8 x9) (oc5 h0 h1 h2 h1 h4 on)) fun h4 h =>
   tS xJH (xTH x0 x6 x7 x8 x9) (oc6 h0 h1 h2 h1 h4 h1 on) (ih _ _ _ _ _ _ h)) fun h0 h =>
   cE h (fun h1 h => bE h fun r1 h2 h => cE h (fun h3 h => dS h xJH (xTI x0 x6 x7 x8 x9 r1) (oc4 h0 h1 (xFI h2) h3 on)) fun h3 h =>
   dS h xJH (xTJ x0 x6 x7 x8 x9 r1) (oc4 h0 h1 (xFI h2) h3 on)) fun h1 h =>
   bE h fun r1 h2 h => cE h (fun h3 h => dS h xJH (xTK x0 x6 x7 x8 x9 r1) (oc4 h0 h1 (xFI h2) h3 on)) fun h3 h =>
   dS h xJH (xTL x0 x6 x7 x8 x9 r1) (oc4 h0 h1 (xFI h2) h3 on)
theorem vCH {N : Nat} : ∀ a0 a1 r, xIl N a0 a1 = some r → RE Tryz.f107 I107 (xC6 a0 a1) (xBK r) := fun a0 a1 r h =>
 cE h (fun h0 h => iE h fun h1 h => cE h (fun h2 h => iE h fun h3 h => cE h (fun h4 h => dE h xJH (xTM a0 a1) (oc6 h0 h1 h2 h3 h4 rfl on)) fun h4 h =>
 cE h (fun h5 h => dE h xJH (xTN a0 a1) (oc6 h0 h1 h2 h3 h4 h5 on)) fun h5 h =>
 tE xJH (xTO a0 a1) (oc6 h0 h1 h2 h3 h4 h5 on) (xQ1 _ _ _ _ _ _ _ h)) fun h2 h =>
 cE h (fun h3 h => dE h xJH (xR2 a0 a1) (oc5 h0 h1 h2 h3 rfl on)) fun h3 h =>
 cE h (fun h4 h => dE h xJH (xR3 a0 a1) (oc5 h0 h1 h2 h3 h4 on)) fun h4 h =>
 tE xJH (xR4 a0 a1) (oc5 h0 h1 h2 h3 h4 on) (xQ1 _ _ _ _ _ _ _ h)) fun h0 h =>
 cE h (fun h2 h => dE h xJH (xR5 a0 a1) (oc4 h0 rfl h2 rfl on)) fun h2 h =>
 cE h (fun h3 h => dE h xJH (xR6 a0 a1) (oc4 h0 rfl h2 h3 on)) fun h3 h =>
 tE xJH (xR7 a0 a1) (oc4 h0 rfl h2 h3 on) (xQ1 _ _ _ _ _ _ _ h)
theorem xMY {N : Nat} {a0 : Str} {a1 : Int} {r : Int × Bool} (h : xIl N  a0 a1 = some r) : AbC 107 (xC6 a0 a1) (xBK r) :=
 AbsCalls.of_reach xJH rfl rfl (Nat.le_of_ble_eq_true rfl) (vCH a0 a1 r h)
noncomputable def I81 : Info := { body := (Tryz.f81.body).getD .skip, nt := 8, results := [.tmp 2, .tmp 3], keep := [0, 4, 6], live := [], modes := [] }
theorem fk81 : FnOk Tryz.prog 81 Tryz.f81 I81 := ⟨Tryz.func81, by kernel_rfl, by kernel_rfl, by kernel_rfl, by kernel_rfl⟩
def vBa (a0 : Str) (r1 : Int × Bool) : rE I81 (xGP a0) [] [xBK r1] = dn (xC1 (r1.1, r1.2)) [AbC 107 (xC6 a0 12) (xBK r1)] := by kernel_rfl
theorem vEY {N : Nat} : ∀ a0 r, xFV N a0 = some r → RE Tryz.f81 I81 (xGP a0) (xC1 r) := fun a0 r h =>
 bE h fun r1 h0 h => dE h fk81 (vBa a0 r1) (oc (xMY h0) on)
theorem xFi {N : Nat} {a0 : Str} {r : Int × Bool} (h : xFV N  a0 = some r) : AbC 81 (xGP a0) (xC1 r) :=
 AbsCalls.of_reach fk81 rfl rfl (Nat.le_of_ble_eq_true rfl) (vEY a0 r h)
noncomputable def I82 : Info := { body := (Tryz.f82.body).getD .skip, nt := 29, results := [.tmp 2], keep := [0, 4, 6, 14, 50], live := [(2, [0, 6])], modes := [(4, [(4, .take, false), (10, .take, false)])] }
theorem fk82 : FnOk Tryz.prog 82 Tryz.f82 I82 := ⟨Tryz.func82, by kernel_rfl, by kernel_rfl, by kernel_rfl, by kernel_rfl⟩
def xN9 (x0 : Str) (x3 : Int) : St := [(0, .v false [.str x0]), (6, .v false [.int .i64 x3])]
abbrev xPa (v0 : Str) (v1 : Int) := dc ((((gD v0 (tN v1) 0).toNat : Int) : Int) < 32)
def vBb (x0 : Str) (x3 : Int) : rS 2 I82 (xN9 x0 x3) [Y, Y, Y, Y] [] = dn (xBh false) [xDG x3 x0, xAC x3 x0, iY (xPa x0 x3), iY true, iY true] := by kernel_rfl
abbrev xM7 (v0 : Str) (v1 : Int) : Prop := iN (xPa v0 v1)
abbrev xPb (v0 : Str) (v1 : Int) := dc ((((gD v0 (tN v1) 0).toNat : Int) : Int) > 126)
def vBc (x0 : Str) (x3 : Int) : rS 2 I82 (xN9 x0 x3) [Y, F, Y, Y] [] = dn (xBh false) [xDG x3 x0, xAC x3 x0, xM7 x0 x3, xAC x3 x0, iY (xPb x0 x3), iY true] := by kernel_rfl
abbrev xPU (v0 : Str) (v1 : Int) : Prop := iN (xPb v0 v1)
abbrev xJ0 (v0 : Str) (v1 : Int) : Prop := iY ((xGC v0 v1) == 34)
def vBd (x0 : Str) (x3 : Int) : rS 2 I82 (xN9 x0 x3) [Y, F, F, Y] [] = dn (xBh false) [xDG x3 x0, xAC x3 x0, xM7 x0 x3, xAC x3 x0, xPU x0 x3, xAC x3 x0, xJ0 x0 x3] := by kernel_rfl
abbrev xJ1 (v0 : Str) (v1 : Int) : Prop := iN ((xGC v0 v1) == 34)
def vBe (x0 : Str) (x3 : Int) : rS 2 I82 (xN9 x0 x3) [Y, F, F, F] [] = st 2 I82 (xN9 x0 (W (x3 + 1))) [xDG x3 x0, xAC x3 x0, xM7 x0 x3, xAC x3 x0, xPU x0 x3, xAC x3 x0, xJ1 x0 x3] := by kernel_rfl
def vBf (x0 : Str) (x3 : Int) : rS 2 I82 (xN9 x0 x3) [F] [] = dn (xBh (dc ((Ln x0 : Int) ≤ 20))) [xI0 x3 x0] := by kernel_rfl
def vBg (a0 : Str) : rE I82 (xE2 a0) [] [] = st 2 I82 (xN9 a0 0) [] := by kernel_rfl
theorem vEZ {N : Nat} : ∀ n x0 x3 r, xCX N n x0 x3 = some r → RS Tryz.f82 I82 2 (xN9 x0 x3) (xBh r) := by
 intro n
 induction n with
 | zero => exact fun _ _ _ h => nE h
 | succ n ih =>
  exact fun x0 x3 r h =>
   cE h (fun h0 h => iE h fun h1 h => cE h (fun h2 h => dS h fk82 (vBb x0 x3) (oc5 h0 h1 h2 rfl rfl on)) fun h2 h =>
   cE h (fun h4 h => dS h fk82 (vBc x0 x3) (oc6 h0 h1 h2 h1 h4 rfl on)) fun h4 h =>
   cE h (fun h6 h => dS h fk82 (vBd x0 x3) (oc7 h0 h1 h2 h1 h4 h1 h6 on)) fun h6 h =>
   tS fk82 (vBe x0 x3) (oc7 h0 h1 h2 h1 h4 h1 h6 on) (ih _ _ _ h)) fun h0 h =>
   dS h fk82 (vBf x0 x3) (oc h0 on)
theorem vE0 {N : Nat} : ∀ a0 r, xFg N a0 = some r → RE Tryz.f82 I82 (xE2 a0) (xBh r) := fun a0 r h =>
 tE fk82 (vBg a0) on (vEZ _ _ _ _ h)
theorem xE3 {N : Nat} {a0 : Str} {r : Bool} (h : xFg N  a0 = some r) : AbC 82 (xE2 a0) (xBh r) :=
 AbsCalls.of_reach fk82 rfl rfl (Nat.le_of_ble_eq_true rfl) (vE0 a0 r h)
noncomputable def I83 : Info := { body := (Tryz.f83.body).getD .skip, nt := 32, results := [.tmp 4], keep := [0, 2, 8, 14, 16, 36, 62], live := [], modes := [(13, [(5, .take, false)])] }
theorem fk83 : FnOk Tryz.prog 83 Tryz.f83 I83 := ⟨Tryz.func83, by kernel_rfl, by kernel_rfl, by kernel_rfl, by kernel_rfl⟩
abbrev xPc (v0 : Str) (v1 : Int) := (((gD v0 (tN v1) 0).toNat : Int) : Int) == 40
def vBh (a0 : Str) (a1 : Int) : rE I83 (xBs a0 a1) [Y, Y] [] = dn (xBl 1) [xAC a1 a0, iY (xPc a0 a1), iY (xPc a0 a1)] := by kernel_rfl
abbrev xJw (v0 : Str) (v1 : Int) : Prop := iN (xPc v0 v1)
abbrev xPd (v0 : Str) (v1 : Int) := (((gD v0 (tN v1) 0).toNat : Int) : Int) == 41
def vBi (a0 : Str) (a1 : Int) : rE I83 (xBs a0 a1) [F, Y, Y] [] = dn (xBl 1) [xAC a1 a0, xJw a0 a1, iY (xPd a0 a1), iY (xPd a0 a1)] := by kernel_rfl
abbrev xJ3 (v0 : Str) (v1 : Int) : Prop := iN (xPd v0 v1)
abbrev xPe (v0 : Str) (v1 : Int) := (((gD v0 (tN v1) 0).toNat : Int) : Int) == 91
def vBj (a0 : Str) (a1 : Int) : rE I83 (xBs a0 a1) [F, F, Y, Y] [] = dn (xBl 1) [xAC a1 a0, xJw a0 a1, xJ3 a0 a1, iY (xPe a0 a1), iY (xPe a0 a1)] := by kernel_rfl
abbrev xKD (v0 : Str) (v1 : Int) : Prop := iN (xPe v0 v1)
abbrev xPf (v0 : Str) (v1 : Int) := (((gD v0 (tN v1) 0).toNat : Int) : Int) == 93
def vBk (a0 : Str) (a1 : Int) : rE I83 (xBs a0 a1) [F, F, F, Y, Y] [] = dn (xBl 1) [xAC a1 a0, xJw a0 a1, xJ3 a0 a1, xKD a0 a1, iY (xPf a0 a1), iY (xPf a0 a1)] := by kernel_rfl
abbrev xLc (v0 : Str) (v1 : Int) : Prop := iN (xPf v0 v1)
abbrev xPg (v0 : Str) (v1 : Int) := (((gD v0 (tN v1) 0).toNat : Int) : Int) == 44
def vBl (a0 : Str) (a1 : Int) : rE I83 (xBs a0 a1) [F, F, F, F, Y, Y] [] = dn (xBl 1) [xAC a1 a0, xJw a0 a1, xJ3 a0 a1, xKD a0 a1, xLc a0 a1, iY (xPg a0 a1), iY (xPg a0 a1)] := by kernel_rfl
abbrev xLX (v0 : Str) (v1 : Int) : Prop := iN (xPg v0 v1)
abbrev xPh (v0 : Str) (v1 : Int) := (((gD v0 (tN v1) 0).toNat : Int) : Int) == 43
def vBm (a0 : Str) (a1 : Int) : rE I83 (xBs a0 a1) [F, F, F, F, F, Y, Y] [] = dn (xBl 1) [xAC a1 a0, xJw a0 a1, xJ3 a0 a1, xKD a0 a1, xLc a0 a1, xLX a0 a1, iY (xPh a0 a1), iY (xPh a0 a1)] := by kernel_rfl
abbrev xMw (v0 : Str) (v1 : Int) : Prop := iN (xPh v0 v1)
abbrev xPi (v0 : Str) (v1 : Int) := (((gD v0 (tN v1) 0).toNat : Int) : Int) == 45
def vBn (a0 : Str) (a1 : Int) : rE I83 (xBs a0 a1) [F, F, F, F, F, F, Y, Y] [] = dn (xBl 1) [xAC a1 a0, xJw a0 a1, xJ3 a0 a1, xKD a0 a1, xLc a0 a1, xLX a0 a1, xMw a0 a1, iY (xPi a0 a1), iY (xPi a0 a1)] := by kernel_rfl
abbrev xM8 (v0 : Str) (v1 : Int) : Prop := iN (xPi v0 v1)
abbrev xPj (v0 : Str) (v1 : Int) := (((gD v0 (tN v1) 0).toNat : Int) : Int) == 42
def vBo (a0 : Str) (a1 : Int) : rE I83 (xBs a0 a1) [F, F, F, F, F, F, F, Y, Y] [] = dn (xBl 1) [xAC a1 a0, xJw a0 a1, xJ3 a0 a1, xKD a0 a1, xLc a0 a1, xLX a0 a1, xMw a0 a1, xM8 a0 a1, iY (xPj a0 a1), iY (xPj a0 a1)] := by kernel_rfl
abbrev xOn (v0 : Str) (v1 : Int) : Prop := iN (xPj v0 v1)
def vBp (a0 : Str) (a1 : Int) : rE I83 (xBs a0 a1) [F, F, F, F, F, F, F, F, Y] [] = dn (xBl 1) [xAC a1 a0, xJw a0 a1, xJ3 a0 a1, xKD a0 a1, xLc a0 a1, xLX a0 a1, xMw a0 a1, xM8 a0 a1, xOn a0 a1, iY ((xGC a0 a1) == 60)] := by kernel_rfl
abbrev xPV (v0 : Str) (v1 : Int) : Prop := iN ((xGC v0 v1) == 60)
abbrev xRM (v0 : Str) (v1 : Int) : Prop := iY ((xGC v0 v1) == 61)
abbrev xPk (v0 : Int) := tN (W (v0 + 1))
def vBq (a0 : Str) (a1 : Int) : rE I83 (xBs a0 a1) [F, F, F, F, F, F, F, F, F, Y, Y, Y] [] = dn (xBl 2) [xAC a1 a0, xJw a0 a1, xJ3 a0 a1, xKD a0 a1, xLc a0 a1, xLX a0 a1, xMw a0 a1, xM8 a0 a1, xOn a0 a1, xPV a0 a1, xRM a0 a1, iY (dc ((W (a1 + 1)) < (Ln a0 : Int))), (0 : Int) ≤ (W (a1 + 1)) ∧ (W (a1 + 1)) < (Ln a0), iY ((((gD a0 (xPk a1) 0).toNat : Int) : Int) == 61)] := by kernel_rfl
def xV6 (a0 : Str) (a1 : Int) : rE I83 (xBs a0 a1) [F, F, F, F, F, F, F, F, F, Y, Y, F] [] = dn (xBl 1) [xAC a1 a0, xJw a0 a1, xJ3 a0 a1, xKD a0 a1, xLc a0 a1, xLX a0 a1, xMw a0 a1, xM8 a0 a1, xOn a0 a1, xPV a0 a1, xRM a0 a1, iY (dc ((W (a1 + 1)) < (Ln a0 : Int))), (0 : Int) ≤ (W (a1 + 1)) ∧ (W (a1 + 1)) < (Ln a0), iN ((((gD a0 (xPk a1) 0).toNat : Int) : Int) == 61)] := by kernel_rfl
def xV7 (a0 : Str) (a1 : Int) : rE I83 (xBs a0 a1) [F, F, F, F, F, F, F, F, F, Y, F, F] [] = dn (xBl 1) [xAC a1 a0, xJw a0 a1, xJ3 a0 a1, xKD a0 a1, xLc a0 a1, xLX a0 a1, xMw a0 a1, xM8 a0 a1, xOn a0 a1, xPV a0 a1, xRM a0 a1, iN (dc ((W (a1 + 1)) < (Ln a0 : Int))), iN false] := by kernel_rfl
def xV8 (a0 : Str) (a1 : Int) : rE I83 (xBs a0 a1) [F, F, F, F, F, F, F, F, F, F] [] = dn (xBl 0) [xAC a1 a0, xJw a0 a1, xJ3 a0 a1, xKD a0 a1, xLc a0 a1, xLX a0 a1, xMw a0 a1, xM8 a0 a1, xOn a0 a1, xPV a0 a1, iN ((xGC a0 a1) == 61)] := by kernel_rfl
theorem vE1 {N : Nat} : ∀ a0 a1 r, xHj N a0 a1 = some r → RE Tryz.f83 I83 (xBs a0 a1) (xBl r) := fun a0 a1 r h =>
 iE h fun h0 h => cE h (fun h1 h => dE h fk83 (vBh a0 a1) (oc3 h0 h1 h1 on)) fun h1 h =>
 cE h (fun h2 h => dE h fk83 (vBi a0 a1) (oc4 h0 h1 h2 h2 on)) fun h2 h =>
 cE h (fun h3 h => dE h fk83 (vBj a0 a1) (oc5 h0 h1 h2 h3 h3 on)) fun h3 h =>
 cE h (fun h4 h => dE h fk83 (vBk a0 a1) (oc6 h0 h1 h2 h3 h4 h4 on)) fun h4 h =>
 cE h (fun h5 h => dE h fk83 (vBl a0 a1) (oc7 h0 h1 h2 h3 h4 h5 h5 on)) fun h5 h =>
 cE h (fun h6 h => dE h fk83 (vBm a0 a1) (oc8 h0 h1 h2 h3 h4 h5 h6 h6 on)) fun h6 h =>
 cE h (fun h7 h => dE h fk83 (vBn a0 a1) (oc9 h0 h1 h2 h3 h4 h5 h6 h7 h7 on)) fun h7 h =>
 cE h (fun h8 h => dE h fk83 (vBo a0 a1) (oc10 h0 h1 h2 h3 h4 h5 h6 h7 h8 h8 on)) fun h8 h =>
 cE h (fun h9 h => dE h fk83 (vBp a0 a1) (oc10 h0 h1 h2 h3 h4 h5 h6 h7 h8 h9 on)) fun h9 h =>
 cE h (fun h10 h => cE h (fun h11 h => iE h fun h12 h => cE h (fun h13 h => dE h fk83 (vBq a0 a1) (oc12 h0 h1 h2 h3 h4 h5 h6 h7 h8 h9 h10 h11 (oc2 h12 h13 on))) fun h13 h =>
 dE h fk83 (xV6 a0 a1) (oc12 h0 h1 h2 h3 h4 h5 h6 h7 h8 h9 h10 h11 (oc2 h12 h13 on))) fun h11 h =>
 dE h fk83 (xV7 a0 a1) (oc12 h0 h1 h2 h3 h4 h5 h6 h7 h8 h9 h10 h11 (oc rfl on))) fun h10 h =>
 dE h fk83 (xV8 a0 a1) (oc11 h0 h1 h2 h3 h4 h5 h6 h7 h8 h9 h10 on)
theorem xMd {N : Nat} {a0 : Str} {a1 : Int} {r : Int} (h : xHj N  a0 a1 = some r) : AbC 83 (xBs a0 a1) (xBl r) :=
 AbsCalls.of_reach fk83 rfl rfl (Nat.le_of_ble_eq_true rfl) (vE1 a0 a1 r h)
noncomputable def I43 : Info := { body := (Tryz.f43.body).getD .skip, nt := 136, results := [.cell 4 50, .tmp 5], keep := [0, 2, 8, 10, 12, 14, 16, 18, 48, 88, 112, 116, 144, 182, 186, 218, 256, 9, 13], live := [(7, [0, 2, 8, 12, 14, 9, 13]), (14, [0, 2, 8, 12, 14, 9, 13]), (23, [0, 2, 8, 12, 14, 9, 13])], modes := [(7, [(4, .take, false), (9, .take, false)]), (14, [(4, .take, false)]), (16, [(5, .take, false)]), (19, [(0, .take, false), (2, .take, false)]), (23, [(4, .take, false)]), (27, [(4, .take, false)])] }
theorem fk43 : FnOk Tryz.prog 43 Tryz.f43 I43 := ⟨Tryz.func43, by kernel_rfl, by kernel_rfl, by kernel_rfl, by kernel_rfl⟩
def xMR (x0 : Str) (x1 x7 : Int) (b4 b6 : Tok) : St := [(0, .v false [.str x0]), (2, .v false [.int .i64 x1]), (8, .v false [.ptr 4 0]), (12, .v false [.ptr 6 0]), (14, .v false [.int .i64 x7]), (9, .v true [.int .i64 (Tok.kind b4), .int .i64 (Tok.n b4), .int .i64 (Tok.pos b4), .str (Tok.text b4)]), (13, .v true [.int .i64 (Tok.kind b6), .int .i64 (Tok.n b6), .int .i64 (Tok.pos b6), .str (Tok.text b6)])]
def xKy (x0 : Str) (x1 x7 : Int) (b4 b6 : Tok) : St := [(0, .v false [.str x0]), (2, .v false [.int .i64 x1]), (8, .v false [.ptr 4 0]), (12, .v false [.ptr 6 0]), (14, .v false [.int .i64 x7]), (9, .v true [.int .i64 (Tok.kind b4), .int .i64 (Tok.n b4), .int .i64 (Tok.pos b4), .str (Tok.text b4)]), (13, .v true [.int .i64 (Tok.kind b6), .int .i64 (Tok.n b6), .int .i64 (Tok.pos b6), .str (Tok.text b6)])]
def xKz (x0 : Str) (x1 x7 : Int) (b4 b6 : Tok) : St := [(0, .v false [.str x0]), (2, .v false [.int .i64 x1]), (8, .v false [.ptr 4 0]), (12, .v false [.ptr 6 0]), (14, .v false [.int .i64 x7]), (9, .v true [.int .i64 (Tok.kind b4), .int .i64 (Tok.n b4), .int .i64 (Tok.pos b4), .str (Tok.text b4)]), (13, .v true [.int .i64 (Tok.kind b6), .int .i64 (Tok.n b6), .int .i64 (Tok.pos b6), .str (Tok.text b6)])]
abbrev xLY (v0 : Str) (v1 : Int) (v2 : Bool) : Prop := AbC 79 (xF3 (xNI v0 v1)) (xB2 v2)
def xY4 (x0 : Str) (x1 x7 : Int) (b4 b6 : Tok) (r1 : Bool) : rS 7 I43 (xMR x0 x1 x7 b4 b6) [Y, Y, Y] [xB2 r1] = st 7 I43 (xMR x0 x1 (W (x7 + 1)) b4 b6) [xDG x7 x0, xAC x7 x0, xLY x0 x7 r1, iY r1, iY true] := by kernel_rfl
abbrev xKE (v0 : Str) (v1 : Int) (v2 : Bool) : Prop := AbC 80 (xGq (xNI v0 v1)) (xBS v2)
def xY5 (x0 : Str) (x1 x7 : Int) (b4 b6 : Tok) (r1 r2 : Bool) : rS 7 I43 (xMR x0 x1 x7 b4 b6) [Y, F, Y] [xB2 r1, xBS r2] = st 7 I43 (xMR x0 x1 (W (x7 + 1)) b4 b6) [xDG x7 x0, xAC x7 x0, xLY x0 x7 r1, iN r1, xAC x7 x0, xKE x0 x7 r2, iY r2] := by kernel_rfl
abbrev xHl (v0 v1 : Int) (v2 : Str) : Prop := (0 : Int) ≤ v0 ∧ v0 ≤ v1 ∧ v1 ≤ (Ln v2)
abbrev xNL (v0 : Tok) (v1 v2 : Int) (v3 : Str) := Tok.mk 1 (Tok.n v0) (Tok.pos v0) (List.drop (tN v1) (List.take (tN v2) v3))
def xY6 (x0 : Str) (x1 x7 : Int) (b4 b6 : Tok) (r1 r2 : Bool) : rS 7 I43 (xMR x0 x1 x7 b4 b6) [Y, F, F, Y] [xB2 r1, xBS r2] = dn (xBf ((xNL b6 x1 x7 x0), 0)) [xDG x7 x0, xAC x7 x0, xLY x0 x7 r1, iN r1, xAC x7 x0, xKE x0 x7 r2, iN r2, xHl x1 x7 x0, iY (dc ((W (x7 - x1)) > 8))] := by kernel_rfl
def xY7 (x0 : Str) (x1 x7 : Int) (b4 b6 : Tok) (r1 r2 : Bool) : rS 7 I43 (xMR x0 x1 x7 b4 b6) [Y, F, F, F] [xB2 r1, xBS r2] = dn (xBf ((xNL b6 x1 x7 x0), (W (x7 - x1)))) [xDG x7 x0, xAC x7 x0, xLY x0 x7 r1, iN r1, xAC x7 x0, xKE x0 x7 r2, iN r2, xHl x1 x7 x0, iN (dc ((W (x7 - x1)) > 8))] := by kernel_rfl
def xY8 (x0 : Str) (x1 x7 : Int) (b4 b6 : Tok) : rS 7 I43 (xMR x0 x1 x7 b4 b6) [F, F, Y] [] = dn (xBf ((xNL b6 x1 x7 x0), 0)) [xI0 x7 x0, iN false, xHl x1 x7 x0, iY (dc ((W (x7 - x1)) > 8))] := by kernel_rfl
def xY9 (x0 : Str) (x1 x7 : Int) (b4 b6 : Tok) : rS 7 I43 (xMR x0 x1 x7 b4 b6) [F, F, F] [] = dn (xBf ((xNL b6 x1 x7 x0), (W (x7 - x1)))) [xI0 x7 x0, iN false, xHl x1 x7 x0, iN (dc ((W (x7 - x1)) > 8))] := by kernel_rfl
def xVm (x0 : Str) (x1 x7 : Int) (b4 b6 : Tok) (r1 : Bool) : rS 14 I43 (xKy x0 x1 x7 b4 b6) [Y, Y] [xBS r1] = st 14 I43 (xKy x0 x1 (W (x7 + 1)) b4 b6) [xDG x7 x0, xAC x7 x0, xKE x0 x7 r1, iY r1] := by kernel_rfl
abbrev xRC (v0 v1 : Int) (v2 : Str) := List.drop (tN v0) (List.take (tN v1) v2)
abbrev xM9 (v0 v1 : Int) (v2 : Str) (v3 : Int × Bool) : Prop := AbC 81 (xGP (xRC v0 v1 v2)) (xC1 v3)
abbrev xNM (v0 : Int × Bool) (v1 : Tok) := xBf ((Tok.mk 2 v0.1 (Tok.pos v1) (Tok.text v1)), 0)
def xVn (x0 : Str) (x1 x7 : Int) (b4 b6 : Tok) (r1 : Bool) (r2 : Int × Bool) : rS 14 I43 (xKy x0 x1 x7 b4 b6) [Y, F, Y, Y] [xBS r1, xC1 r2] = dn (xNM r2 b6) [xDG x7 x0, xAC x7 x0, xKE x0 x7 r1, iN r1, xHl x1 x7 x0, xM9 x1 x7 x0 r2, iY (!r2.2), iY true] := by kernel_rfl
def xVo (x0 : Str) (x1 x7 : Int) (b4 b6 : Tok) (r1 : Bool) (r2 : Int × Bool) : rS 14 I43 (xKy x0 x1 x7 b4 b6) [Y, F, F, Y] [xBS r1, xC1 r2] = dn (xNM r2 b6) [xDG x7 x0, xAC x7 x0, xKE x0 x7 r1, iN r1, xHl x1 x7 x0, xM9 x1 x7 x0 r2, iN (!r2.2), iY (dc (r2.1 > 1000000000))] := by kernel_rfl
abbrev xRD (v0 : Int × Bool) (v1 : Tok) := Tok.mk 2 v0.1 (Tok.pos v1) (Tok.text v1)
def xVp (x0 : Str) (x1 x7 : Int) (b4 b6 : Tok) (r1 : Bool) (r2 : Int × Bool) : rS 14 I43 (xKy x0 x1 x7 b4 b6) [Y, F, F, F] [xBS r1, xC1 r2] = dn (xBf ((xRD r2 b6), (W (x7 - x1)))) [xDG x7 x0, xAC x7 x0, xKE x0 x7 r1, iN r1, xHl x1 x7 x0, xM9 x1 x7 x0 r2, iN (!r2.2), iN (dc (r2.1 > 1000000000))] := by kernel_rfl
def xSn (x0 : Str) (x1 x7 : Int) (b4 b6 : Tok) (r1 : Int × Bool) : rS 14 I43 (xKy x0 x1 x7 b4 b6) [F, F, Y, Y] [xC1 r1] = dn (xNM r1 b6) [xI0 x7 x0, iN false, xHl x1 x7 x0, xM9 x1 x7 x0 r1, iY (!r1.2), iY true] := by kernel_rfl
def xSo (x0 : Str) (x1 x7 : Int) (b4 b6 : Tok) (r1 : Int × Bool) : rS 14 I43 (xKy x0 x1 x7 b4 b6) [F, F, F, Y] [xC1 r1] = dn (xNM r1 b6) [xI0 x7 x0, iN false, xHl x1 x7 x0, xM9 x1 x7 x0 r1, iN (!r1.2), iY (dc (r1.1 > 1000000000))] := by kernel_rfl
def xSp (x0 : Str) (x1 x7 : Int) (b4 b6 : Tok) (r1 : Int × Bool) : rS 14 I43 (xKy x0 x1 x7 b4 b6) [F, F, F, F] [xC1 r1] = dn (xBf ((xRD r1 b6), (W (x7 - x1)))) [xI0 x7 x0, iN false, xHl x1 x7 x0, xM9 x1 x7 x0 r1, iN (!r1.2), iN (dc (r1.1 > 1000000000))] := by kernel_rfl
def xSq (x0 : Str) (x1 x7 : Int) (b4 b6 : Tok) : rS 23 I43 (xKz x0 x1 x7 b4 b6) [Y, Y] [] = st 23 I43 (xKz x0 x1 (W (x7 + 1)) b4 b6) [xDG x7 x0, xAC x7 x0, iY ((xGC x0 x7) != 34)] := by kernel_rfl
abbrev xRR (v0 : Str) (v1 : Int) : Prop := iN ((xGC v0 v1) != 34)
abbrev xNa (v0 v1 : Int) (v2 : Str) : Prop := (0 : Int) ≤ (W (v0 + 1)) ∧ (W (v0 + 1)) ≤ v1 ∧ v1 ≤ (Ln v2)
abbrev xNN (v0 : Tok) (v1 v2 : Int) (v3 : Str) := xBf ((Tok.mk 3 (Tok.n v0) (Tok.pos v0) (List.drop (tN (W (v1 + 1))) (List.take (tN v2) v3))), 0)
def xSr (x0 : Str) (x1 x7 : Int) (b4 b6 : Tok) : rS 23 I43 (xKz x0 x1 x7 b4 b6) [Y, F, Y, Y] [] = dn (xNN b6 x1 x7 x0) [xDG x7 x0, xAC x7 x0, xRR x0 x7, xNa x1 x7 x0, iY (x7 == (Ln x0 : Int)), iY true] := by kernel_rfl
abbrev xXg (v0 v1 : Int) (v2 : Str) := List.drop (tN (W (v0 + 1))) (List.take (tN v1) v2)
abbrev xPW (v0 v1 : Int) (v2 : Str) (v3 : Bool) : Prop := AbC 82 (xE2 (xXg v0 v1 v2)) (xBh v3)
def xSs (x0 : Str) (x1 x7 : Int) (b4 b6 : Tok) (r1 : Bool) : rS 23 I43 (xKz x0 x1 x7 b4 b6) [Y, F, F, Y] [xBh r1] = dn (xNN b6 x1 x7 x0) [xDG x7 x0, xAC x7 x0, xRR x0 x7, xNa x1 x7 x0, iN (x7 == (Ln x0 : Int)), xPW x1 x7 x0 r1, iY (!r1)] := by kernel_rfl
abbrev xRE (v0 : Tok) (v1 v2 : Int) (v3 : Str) := xBf ((Tok.mk 3 (Tok.n v0) (Tok.pos v0) (List.drop (tN (W (v1 + 1))) (List.take (tN v2) v3))), (W ((W (v2 + 1)) - v1)))
def xSt (x0 : Str) (x1 x7 : Int) (b4 b6 : Tok) (r1 : Bool) : rS 23 I43 (xKz x0 x1 x7 b4 b6) [Y, F, F, F] [xBh r1] = dn (xRE b6 x1 x7 x0) [xDG x7 x0, xAC x7 x0, xRR x0 x7, xNa x1 x7 x0, iN (x7 == (Ln x0 : Int)), xPW x1 x7 x0 r1, iN (!r1)] := by kernel_rfl
def xSu (x0 : Str) (x1 x7 : Int) (b4 b6 : Tok) : rS 23 I43 (xKz x0 x1 x7 b4 b6) [F, F, Y, Y] [] = dn (xNN b6 x1 x7 x0) [xI0 x7 x0, iN false, xNa x1 x7 x0, iY (x7 == (Ln x0 : Int)), iY true] := by kernel_rfl
def xSv (x0 : Str) (x1 x7 : Int) (b4 b6 : Tok) (r1 : Bool) : rS 23 I43 (xKz x0 x1 x7 b4 b6) [F, F, F, Y] [xBh r1] = dn (xNN b6 x1 x7 x0) [xI0 x7 x0, iN false, xNa x1 x7 x0, iN (x7 == (Ln x0 : Int)), xPW x1 x7 x0 r1, iY (!r1)] := by kernel_rfl
def xSw (x0 : Str) (x1 x7 : Int) (b4 b6 : Tok) (r1 : Bool) : rS 23 I43 (xKz x0 x1 x7 b4 b6) [F, F, F, F] [xBh r1] = dn (xRE b6 x1 x7 x0) [xI0 x7 x0, iN false, xNa x1 x7 x0, iN (x7 == (Ln x0 : Int)), xPW x1 x7 x0 r1, iN (!r1)] := by kernel_rfl
def xVq (a0 : Str) (a1 : Int) (r1 : Bool) : rE I43 (xEk a0 a1) [Y] [xB2 r1] = st 7 I43 (xMR a0 a1 a1 (Tok.mk 0 0 0 []) (Tok.mk 0 0 a1 [])) [xAC a1 a0, xLY a0 a1 r1, iY r1] := by kernel_rfl
def xVr (a0 : Str) (a1 : Int) (r1 r2 : Bool) : rE I43 (xEk a0 a1) [F, Y] [xB2 r1, xBS r2] = st 14 I43 (xKy a0 a1 a1 (Tok.mk 0 0 0 []) (Tok.mk 0 0 a1 [])) [xAC a1 a0, xLY a0 a1 r1, iN r1, xAC a1 a0, xKE a0 a1 r2, iY r2] := by kernel_rfl
def xVs (a0 : Str) (a1 : Int) (r1 r2 : Bool) : rE I43 (xEk a0 a1) [F, F, Y] [xB2 r1, xBS r2] = st 23 I43 (xKz a0 a1 (W (a1 + 1)) (Tok.mk 0 0 0 []) (Tok.mk 0 0 a1 [])) [xAC a1 a0, xLY a0 a1 r1, iN r1, xAC a1 a0, xKE a0 a1 r2, iN r2, xAC a1 a0, xJ0 a0 a1] := by kernel_rfl
def xVt (a0 : Str) (a1 : Int) (r1 r2 : Bool) (r3 : Int) : rE I43 (xEk a0 a1) [F, F, F] [xB2 r1, xBS r2, xBl r3] = dn (xBf ((Tok.mk 4 0 a1 (List.drop (tN a1) (List.take (tN (W (a1 + r3))) a0))), (W ((W (a1 + r3)) - a1)))) [xAC a1 a0, xLY a0 a1 r1, iN r1, xAC a1 a0, xKE a0 a1 r2, iN r2, xAC a1 a0, xJ1 a0 a1, AbC 83 (xBs a0 a1) (xBl r3), (0 : Int) ≤ a1 ∧ a1 ≤ (W (a1 + r3)) ∧ (W (a1 + r3)) ≤ (Ln a0)] := by kernel_rfl
theorem vEf {N : Nat} : ∀ n x0 x1 x7 b4 b6 r, xEl N n x0 x1 x7 b4 b6 = some r → RS Tryz.f43 I43 7 (xMR x0 x1 x7 b4 b6) (xBf r) := by
 intro n
 induction n with
 | zero => exact fun _ _ _ _ _ _ h => nE h
 | succ n ih =>
  exact fun x0 x1 x7 b4 b6 r h =>
   cE h (fun h0 h => iE h fun h1 h => bE h fun r1 h2 h => cE h (fun h3 h => tS fk43 (xY4 x0 x1 x7 b4 b6 r1) (oc5 h0 h1 (xD1 h2) h3 rfl on) (ih _ _ _ _ _ _ h)) fun h3 h =>
   bE h fun r2 h5 h => cE h (fun h6 h => tS fk43 (xY5 x0 x1 x7 b4 b6 r1 r2) (oc7 h0 h1 (xD1 h2) h3 h1 (xDv h5) h6 on) (ih _ _ _ _ _ _ h)) fun h6 h =>
   iE h fun h7 h => cE h (fun h8 h => dS h fk43 (xY6 x0 x1 x7 b4 b6 r1 r2) (oc9 h0 h1 (xD1 h2) h3 h1 (xDv h5) h6 h7 h8 on)) fun h8 h =>
   dS h fk43 (xY7 x0 x1 x7 b4 b6 r1 r2) (oc9 h0 h1 (xD1 h2) h3 h1 (xDv h5) h6 h7 h8 on)) fun h0 h =>
   iE h fun h2 h => cE h (fun h3 h => dS h fk43 (xY8 x0 x1 x7 b4 b6) (oc4 h0 rfl h2 h3 on)) fun h3 h =>
   dS h fk43 (xY9 x0 x1 x7 b4 b6) (oc4 h0 rfl h2 h3 on)
theorem vC9 {N : Nat} : ∀ n x0 x1 x7 b4 b6 r, xDT N n x0 x1 x7 b4 b6 = some r → RS Tryz.f43 I43 14 (xKy x0 x1 x7 b4 b6) (xBf r) := by
 intro n
 induction n with
 | zero => exact fun _ _ _ _ _ _ h => nE h
 | succ n ih =>
  exact fun x0 x1 x7 b4 b6 r h =>
   cE h (fun h0 h => iE h fun h1 h => bE h fun r1 h2 h => cE h (fun h3 h => tS fk43 (xVm x0 x1 x7 b4 b6 r1) (oc4 h0 h1 (xDv h2) h3 on) (ih _ _ _ _ _ _ h)) fun h3 h =>
   iE h fun h4 h => bE h fun r2 h5 h => cE h (fun h6 h => dS h fk43 (xVn x0 x1 x7 b4 b6 r1 r2) (oc8 h0 h1 (xDv h2) h3 h4 (xFi h5) h6 rfl on)) fun h6 h =>
   cE h (fun h7 h => dS h fk43 (xVo x0 x1 x7 b4 b6 r1 r2) (oc8 h0 h1 (xDv h2) h3 h4 (xFi h5) h6 h7 on)) fun h7 h =>
   dS h fk43 (xVp x0 x1 x7 b4 b6 r1 r2) (oc8 h0 h1 (xDv h2) h3 h4 (xFi h5) h6 h7 on)) fun h0 h =>
   iE h fun h2 h => bE h fun r1 h3 h => cE h (fun h4 h => dS h fk43 (xSn x0 x1 x7 b4 b6 r1) (oc6 h0 rfl h2 (xFi h3) h4 rfl on)) fun h4 h =>
   cE h (fun h5 h => dS h fk43 (xSo x0 x1 x7 b4 b6 r1) (oc6 h0 rfl h2 (xFi h3) h4 h5 on)) fun h5 h =>
   dS h fk43 (xSp x0 x1 x7 b4 b6 r1) (oc6 h0 rfl h2 (xFi h3) h4 h5 on)
theorem vDa {N : Nat} : ∀ n x0 x1 x7 b4 b6 r, xFO N n x0 x1 x7 b4 b6 = some r → RS Tryz.f43 I43 23 (xKz x0 x1 x7 b4 b6) (xBf r) := by
 intro n
 induction n with
 | zero => exact fun _ _ _ _ _ _ h => nE h
 | succ n ih =>
  exact fun x0 x1 x7 b4 b6 r h =>
   cE h (fun h0 h => iE h fun h1 h => cE h (fun h2 h => tS fk43 (xSq x0 x1 x7 b4 b6) (oc3 h0 h1 h2 on) (ih _ _ _ _ _ _ h)) fun h2 h =>
   iE h fun h3 h => cE h (fun h4 h => dS h fk43 (xSr x0 x1 x7 b4 b6) (oc6 h0 h1 h2 h3 h4 rfl on)) fun h4 h =>
   bE h fun r1 h5 h => cE h (fun h6 h => dS h fk43 (xSs x0 x1 x7 b4 b6 r1) (oc7 h0 h1 h2 h3 h4 (xE3 h5) h6 on)) fun h6 h =>
   dS h fk43 (xSt x0 x1 x7 b4 b6 r1) (oc7 h0 h1 h2 h3 h4 (xE3 h5) h6 on)) fun h0 h =>
   iE h fun h2 h => cE h (fun h3 h => dS h fk43 (xSu x0 x1 x7 b4 b6) (oc5 h0 rfl h2 h3 rfl on)) fun h3 h =>
   bE h fun r1 h4 h => cE h (fun h5 h => dS h fk43 (xSv x0 x1 x7 b4 b6 r1) (oc6 h0 rfl h2 h3 (xE3 h4) h5 on)) fun h5 h =>
   dS h fk43 (xSw x0 x1 x7 b4 b6 r1) (oc6 h0 rfl h2 h3 (xE3 h4) h5 on)
theorem vEg {N : Nat} : ∀ a0 a1 r, xIn N a0 a1 = some r → RE Tryz.f43 I43 (xEk a0 a1) (xBf r) := fun a0 a1 r h =>
 iE h fun h0 h => bE h fun r1 h1 h => cE h (fun h2 h => tE fk43 (xVq a0 a1 r1) (oc3 h0 (xD1 h1) h2 on) (vEf _ _ _ _ _ _ _ h)) fun h2 h =>
 bE h fun r2 h4 h => cE h (fun h5 h => tE fk43 (xVr a0 a1 r1 r2) (oc6 h0 (xD1 h1) h2 h0 (xDv h4) h5 on) (vC9 _ _ _ _ _ _ _ h)) fun h5 h =>
 cE h (fun h7 h => tE fk43 (xVs a0 a1 r1 r2) (oc8 h0 (xD1 h1) h2 h0 (xDv h4) h5 h0 h7 on) (vDa _ _ _ _ _ _ _ h)) fun h7 h =>
 bE h fun r3 h8 h => iE h fun h9 h => dE h fk43 (xVt a0 a1 r1 r2 r3) (oc10 h0 (xD1 h1) h2 h0 (xDv h4) h5 h0 h7 (xMd h8) h9 on)
theorem xIU {N : Nat} {a0 : Str} {a1 : Int} {r : Tok × Int} (h : xIn N  a0 a1 = some r) : AbC 43 (xEk a0 a1) (xBf r) :=
 AbsCalls.of_reach fk43 rfl rfl (Nat.le_of_ble_eq_true rfl) (vEg a0 a1 r h)
noncomputable def I23 : Info := { body := (Tryz.f23.body).getD .skip, nt := 46, results := [.tmp 2, .tmp 3], keep := [0, 4, 6, 8, 10, 12, 14, 20, 32, 40, 70, 13], live := [(5, [0, 8, 10])], modes := [(8, [(3, .take, false)]), (9, [(2, .take, false)]), (11, [(0, .take, false)]), (13, [(0, .take, false)])] }
theorem fk23 : FnOk Tryz.prog 23 Tryz.f23 I23 := ⟨Tryz.func23, by kernel_rfl, by kernel_rfl, by kernel_rfl, by kernel_rfl⟩
def xNk (x0 : Str) (x4 : List Tok) (x5 : Int) : St := [(0, .v false [.str x0]), (8, .v false [.sl .own .tok x4]), (10, .v false [.int .i64 x5])]
abbrev xPl (v0 : Str) (v1 : Int) := (((gD v0 (tN v1) 0).toNat : Int) : Int) == 32
def xXU (x0 : Str) (x4 : List Tok) (x5 : Int) : rS 5 I23 (xNk x0 x4 x5) [Y, Y] [] = st 5 I23 (xNk x0 x4 (W (x5 + 1))) [xDG x5 x0, xAC x5 x0, iY (xPl x0 x5)] := by kernel_rfl
abbrev xNb (v0 : Str) (v1 : Int) : Prop := iN (xPl v0 v1)
def xXV (x0 : Str) (x4 : List Tok) (x5 : Int) (r1 : Tok × Int) : rS 5 I23 (xNk x0 x4 x5) [Y, F, Y, Y] [xBf r1] = dn (xBd ([], x5)) [xDG x5 x0, xAC x5 x0, xNb x0 x5, AbC 43 (xEk x0 x5) (xBf r1), iY (r1.2 == 0), iY true] := by kernel_rfl
def xXW (x0 : Str) (x4 : List Tok) (x5 : Int) (r1 : Tok × Int) : rS 5 I23 (xNk x0 x4 x5) [Y, F, F, Y] [xBf r1] = dn (xBd ([], x5)) [xDG x5 x0, xAC x5 x0, xNb x0 x5, AbC 43 (xEk x0 x5) (xBf r1), iN (r1.2 == 0), iY ((Ln x4 : Int) == 60)] := by kernel_rfl
def xXX (x0 : Str) (x4 : List Tok) (x5 : Int) (r1 : Tok × Int) : rS 5 I23 (xNk x0 x4 x5) [Y, F, F, F] [xBf r1] = st 5 I23 (xNk x0 (x4 ++ [r1.1]) (W (x5 + r1.2))) [xDG x5 x0, xAC x5 x0, xNb x0 x5, AbC 43 (xEk x0 x5) (xBf r1), iN (r1.2 == 0), iN ((Ln x4 : Int) == 60), Ln x4 + Ln [r1.1] ≤ Lim] := by kernel_rfl
def xXY (x0 : Str) (x4 : List Tok) (x5 : Int) : rS 5 I23 (xNk x0 x4 x5) [F] [] = dn (xBd (x4, (-1))) [xI0 x5 x0] := by kernel_rfl
abbrev xNO (v0 : Str) := dc ((Ln v0 : Int) > 120)
def xXZ (a0 : Str) : rE I23 (xF2 a0) [Y] [] = dn (xBd ([], 120)) [iY (xNO a0)] := by kernel_rfl
def xX0 (a0 : Str) : rE I23 (xF2 a0) [F] [] = st 5 I23 (xNk a0 [] 0) [iN (xNO a0)] := by kernel_rfl
theorem vDU {N : Nat} : ∀ n x0 x4 x5 r, xED N n x0 x4 x5 = some r → RS Tryz.f23 I23 5 (xNk x0 x4 x5) (xBd r) := by
 intro n
 induction n with
 | zero => exact fun _ _ _ _ h => nE h
 | succ n ih =>
  exact fun x0 x4 x5 r h =>
   cE h (fun h0 h => iE h fun h1 h => cE h (fun h2 h => tS fk23 (xXU x0 x4 x5) (oc3 h0 h1 h2 on) (ih _ _ _ _ h)) fun h2 h =>
   bE h fun r1 h3 h => cE h (fun h4 h => dS h fk23 (xXV x0 x4 x5 r1) (oc6 h0 h1 h2 (xIU h3) h4 rfl on)) fun h4 h =>
   cE h (fun h5 h => dS h fk23 (xXW x0 x4 x5 r1) (oc6 h0 h1 h2 (xIU h3) h4 h5 on)) fun h5 h =>
   iE h fun h6 h => tS fk23 (xXX x0 x4 x5 r1) (oc7 h0 h1 h2 (xIU h3) h4 h5 h6 on) (ih _ _ _ _ h)) fun h0 h =>
   dS h fk23 (xXY x0 x4 x5) (oc h0 on)
theorem vDV {N : Nat} : ∀ a0 r, xGu N a0 = some r → RE Tryz.f23 I23 (xF2 a0) (xBd r) := fun a0 r h =>
 cE h (fun h0 h => dE h fk23 (xXZ a0) (oc h0 on)) fun h0 h =>
 tE fk23 (xX0 a0) (oc h0 on) (vDU _ _ _ _ _ h)
theorem xC2 {N : Nat} {a0 : Str} {r : (List Tok) × Int} (h : xGu N  a0 = some r) : AbC 23 (xF2 a0) (xBd r) :=
 AbsCalls.of_reach fk23 rfl rfl (Nat.le_of_ble_eq_true rfl) (vDV a0 r h)
noncomputable def I85 : Info := { body := (Tryz.f85.body).getD .skip, nt := 14, results := [.tmp 4], keep := [0, 2, 4, 8, 5], live := [], modes := [(1, [(3, .take, false)])] }
theorem fk85 : FnOk Tryz.prog 85 Tryz.f85 I85 := ⟨Tryz.func85, by kernel_rfl, by kernel_rfl, by kernel_rfl, by kernel_rfl⟩
def vBu (a0 : Tok) (a1 : Str) : rE I85 (xDX a0 a1) [Y] [] = dn (xAX (((Tok.text a0) : Str) == a1)) [iY ((Tok.kind a0) == 4)] := by kernel_rfl
def vBv (a0 : Tok) (a1 : Str) : rE I85 (xDX a0 a1) [F] [] = dn (xAX false) [iN ((Tok.kind a0) == 4)] := by kernel_rfl
theorem vE3 {N : Nat} : ∀ a0 a1 r, xDM N a0 a1 = some r → RE Tryz.f85 I85 (xDX a0 a1) (xAX r) := fun a0 a1 r h =>
 cE h (fun h0 h => dE h fk85 (vBu a0 a1) (oc h0 on)) fun h0 h =>
 dE h fk85 (vBv a0 a1) (oc h0 on)
theorem xCm {N : Nat} {a0 : Tok} {a1 : Str} {r : Bool} (h : xDM N  a0 a1 = some r) : AbC 85 (xDX a0 a1) (xAX r) :=
 AbsCalls.of_reach fk85 rfl rfl (Nat.le_of_ble_eq_true rfl) (vE3 a0 a1 r h)
noncomputable def I86 : Info := { body := (Tryz.f86.body).getD .skip, nt := 14, results := [.tmp 4], keep := [0, 2, 4, 8, 5], live := [], modes := [(1, [(3, .take, false)])] }
theorem fk86 : FnOk Tryz.prog 86 Tryz.f86 I86 := ⟨Tryz.func86, by kernel_rfl, by kernel_rfl, by kernel_rfl, by kernel_rfl⟩
def vBw (a0 : Tok) (a1 : Str) : rE I86 (xFJ a0 a1) [Y] [] = dn (xES (((Tok.text a0) : Str) == a1)) [iY ((Tok.kind a0) == 1)] := by kernel_rfl
def vBx (a0 : Tok) (a1 : Str) : rE I86 (xFJ a0 a1) [F] [] = dn (xES false) [iN ((Tok.kind a0) == 1)] := by kernel_rfl
theorem vE4 {N : Nat} : ∀ a0 a1 r, xGJ N a0 a1 = some r → RE Tryz.f86 I86 (xFJ a0 a1) (xES r) := fun a0 a1 r h =>
 cE h (fun h0 h => dE h fk86 (vBw a0 a1) (oc h0 on)) fun h0 h =>
 dE h fk86 (vBx a0 a1) (oc h0 on)
theorem xLT {N : Nat} {a0 : Tok} {a1 : Str} {r : Bool} (h : xGJ N  a0 a1 = some r) : AbC 86 (xFJ a0 a1) (xES r) :=
 AbsCalls.of_reach fk86 rfl rfl (Nat.le_of_ble_eq_true rfl) (vE4 a0 a1 r h)
noncomputable def I45 : Info := { body := (Tryz.f45.body).getD .skip, nt := 50, results := [.tmp 4], keep := [0, 2, 8, 1], live := [], modes := [(1, [(5, .take, false), (17, .take, false), (30, .take, false)])], ext := [0] }
theorem fk45 : FnOk Tryz.prog 45 Tryz.f45 I45 := ⟨Tryz.func45, by kernel_rfl, by kernel_rfl, by kernel_rfl, by kernel_rfl⟩
abbrev xMB (v0 : Rdr) : Prop := iY (dc ((Rdr.bad v0) < 0))
abbrev xPm (v0 : Rdr) := dc ((Rdr.i v0) < (Ln (Rdr.toks v0) : Int))
abbrev xRS (v0 : Rdr) : Prop := iY (xPm v0)
abbrev xHc (v0 : Rdr) : Prop := (0 : Int) ≤ (Rdr.i v0) ∧ (Rdr.i v0) < (Ln (Rdr.toks v0))
abbrev xKQ (v0 : Rdr) := gD (Rdr.toks v0) (tN (Rdr.i v0)) Ty.tok.dflt
def xZd (a0 : Rdr) (a1 : Str) (r1 : Bool) : rE I45 (xAH a0 a1) [Y, Y, Y] [xAX r1] = dn (xAe (true, a0)) [xMB a0, xRS a0, xHc a0, AbC 85 (xDX (xKQ a0) a1) (xAX r1), iY r1] := by kernel_rfl
def xZe (a0 : Rdr) (a1 : Str) (r1 r2 : Bool) : rE I45 (xAH a0 a1) [Y, Y, F] [xAX r1, xES r2] = dn (xAe (r2, a0)) [xMB a0, xRS a0, xHc a0, AbC 85 (xDX (xKQ a0) a1) (xAX r1), iN r1, xHc a0, AbC 86 (xFJ (xKQ a0) a1) (xES r2)] := by kernel_rfl
def xZf (a0 : Rdr) (a1 : Str) : rE I45 (xAH a0 a1) [Y, F] [] = dn (xAe (false, a0)) [xMB a0, iN (xPm a0)] := by kernel_rfl
def xZg (a0 : Rdr) (a1 : Str) : rE I45 (xAH a0 a1) [F, F] [] = dn (xAe (false, a0)) [iN (dc ((Rdr.bad a0) < 0)), iN false] := by kernel_rfl
theorem vEi {N : Nat} : ∀ a0 a1 r, xBJ N a0 a1 = some r → RE Tryz.f45 I45 (xAH a0 a1) (xAe r) := fun a0 a1 r h =>
 cE h (fun h0 h => cE h (fun h1 h => iE h fun h2 h => bE h fun r1 h3 h => cE h (fun h4 h => dE h fk45 (xZd a0 a1 r1) (oc5 h0 h1 h2 (xCm h3) h4 on)) fun h4 h =>
 bE h fun r2 h6 h => dE h fk45 (xZe a0 a1 r1 r2) (oc7 h0 h1 h2 (xCm h3) h4 h2 (xLT h6) on)) fun h1 h =>
 dE h fk45 (xZf a0 a1) (oc2 h0 h1 on)) fun h0 h =>
 dE h fk45 (xZg a0 a1) (oc2 h0 rfl on)
theorem xAq {N : Nat} {a0 : Rdr} {a1 : Str} {r : Bool × Rdr} (h : xBJ N  a0 a1 = some r) : AbC 45 (xAH a0 a1) (xAe r) :=
 AbsCalls.of_reach fk45 rfl rfl (Nat.le_of_ble_eq_true rfl) (vEi a0 a1 r h)
noncomputable def I108 : Info := { body := (Tryz.f108.body).getD .skip, nt := 45, results := [.tmp 2], keep := [0, 4, 6, 8, 10, 18, 82], live := [(2, [0, 6])], modes := [(4, [(4, .take, false)]), (5, [(4, .take, false)]), (6, [(0, .take, false), (2, .take, false), (5, .take, false), (6, .take, false)])] }
theorem xKH : FnOk Tryz.prog 108 Tryz.f108 I108 := ⟨Tryz.func108, by kernel_rfl, by kernel_rfl, by kernel_rfl, by kernel_rfl⟩
def xG3 (x0 : Str) (x3 : Int) : St := [(0, .v false [.str x0]), (6, .v false [.int .i64 x3])]
abbrev xFP (v0 : Str) (v1 : Int) : Prop := iY (dc ((xGC v0 v1) ≥ 97))
abbrev xGh (v0 : Str) (v1 : Int) : Prop := iY (dc ((xGC v0 v1) ≥ 48))
abbrev xMx (v0 : Str) (v1 : Int) := dc ((((gD v0 (tN v1) 0).toNat : Int) : Int) ≤ 122)
abbrev xLd (v0 : Str) (v1 : Int) : Prop := iY (!(xMx v0 v1))
def xTP (x0 : Str) (x3 : Int) : rS 2 I108 (xG3 x0 x3) [Y, Y, Y, Y, Y, Y] [] = dn (xBp false) [xDG x3 x0, xAC x3 x0, xFP x0 x3, xAC x3 x0, xAC x3 x0, xGh x0 x3, xAC x3 x0, xLd x0 x3, iY (x3 == 0), iY true] := by kernel_rfl
abbrev xLL (v0 : Str) (v1 : Int) := dc ((((gD v0 (tN v1) 0).toNat : Int) : Int) ≤ 57)
def xTQ (x0 : Str) (x3 : Int) : rS 2 I108 (xG3 x0 x3) [Y, Y, Y, Y, F, Y] [] = dn (xBp false) [xDG x3 x0, xAC x3 x0, xFP x0 x3, xAC x3 x0, xAC x3 x0, xGh x0 x3, xAC x3 x0, xLd x0 x3, xLw x3, iY (!(xLL x0 x3))] := by kernel_rfl
def xTR (x0 : Str) (x3 : Int) : rS 2 I108 (xG3 x0 x3) [Y, Y, Y, Y, F, F] [] = st 2 I108 (xG3 x0 (W (x3 + 1))) [xDG x3 x0, xAC x3 x0, xFP x0 x3, xAC x3 x0, xAC x3 x0, xGh x0 x3, xAC x3 x0, xLd x0 x3, xLw x3, iN (!(xLL x0 x3))] := by kernel_rfl
abbrev xRT (v0 : Str) (v1 : Int) : Prop := iN (!(xMx v0 v1))
def xTS (x0 : Str) (x3 : Int) : rS 2 I108 (xG3 x0 x3) [Y, Y, Y, F, F] [] = st 2 I108 (xG3 x0 (W (x3 + 1))) [xDG x3 x0, xAC x3 x0, xFP x0 x3, xAC x3 x0, xAC x3 x0, xGh x0 x3, xAC x3 x0, xRT x0 x3, iN false] := by kernel_rfl
abbrev xHS (v0 : Str) (v1 : Int) : Prop := iN (dc ((xGC v0 v1) ≥ 48))
def xTT (x0 : Str) (x3 : Int) : rS 2 I108 (xG3 x0 x3) [Y, Y, F, Y, Y, Y] [] = dn (xBp false) [xDG x3 x0, xAC x3 x0, xFP x0 x3, xAC x3 x0, xAC x3 x0, xHS x0 x3, xLd x0 x3, iY (x3 == 0), iY true] := by kernel_rfl
def xTU (x0 : Str) (x3 : Int) : rS 2 I108 (xG3 x0 x3) [Y, Y, F, Y, F, Y] [] = dn (xBp false) [xDG x3 x0, xAC x3 x0, xFP x0 x3, xAC x3 x0, xAC x3 x0, xHS x0 x3, xLd x0 x3, xLw x3, iY (!false)] := by kernel_rfl
def xTV (x0 : Str) (x3 : Int) : rS 2 I108 (xG3 x0 x3) [Y, Y, F, F, F] [] = st 2 I108 (xG3 x0 (W (x3 + 1))) [xDG x3 x0, xAC x3 x0, xFP x0 x3, xAC x3 x0, xAC x3 x0, xHS x0 x3, xRT x0 x3, iN false] := by kernel_rfl
abbrev xGG (v0 : Str) (v1 : Int) : Prop := iN (dc ((xGC v0 v1) ≥ 97))
def xTW (x0 : Str) (x3 : Int) : rS 2 I108 (xG3 x0 x3) [Y, F, Y, Y, Y, Y] [] = dn (xBp false) [xDG x3 x0, xAC x3 x0, xGG x0 x3, xAC x3 x0, xGh x0 x3, xAC x3 x0, iY (!false), iY (x3 == 0), iY true] := by kernel_rfl
def xTX (x0 : Str) (x3 : Int) : rS 2 I108 (xG3 x0 x3) [Y, F, Y, Y, F, Y] [] = dn (xBp false) [xDG x3 x0, xAC x3 x0, xGG x0 x3, xAC x3 x0, xGh x0 x3, xAC x3 x0, iY (!false), xLw x3, iY (!(xLL x0 x3))] := by kernel_rfl
def xTY (x0 : Str) (x3 : Int) : rS 2 I108 (xG3 x0 x3) [Y, F, Y, Y, F, F] [] = st 2 I108 (xG3 x0 (W (x3 + 1))) [xDG x3 x0, xAC x3 x0, xGG x0 x3, xAC x3 x0, xGh x0 x3, xAC x3 x0, iY (!false), xLw x3, iN (!(xLL x0 x3))] := by kernel_rfl
def xR8 (x0 : Str) (x3 : Int) : rS 2 I108 (xG3 x0 x3) [Y, F, F, Y, Y, Y] [] = dn (xBp false) [xDG x3 x0, xAC x3 x0, xGG x0 x3, xAC x3 x0, xHS x0 x3, iY (!false), iY (x3 == 0), iY true] := by kernel_rfl
def xR9 (x0 : Str) (x3 : Int) : rS 2 I108 (xG3 x0 x3) [Y, F, F, Y, F, Y] [] = dn (xBp false) [xDG x3 x0, xAC x3 x0, xGG x0 x3, xAC x3 x0, xHS x0 x3, iY (!false), xLw x3, iY (!false)] := by kernel_rfl
def xSa (x0 : Str) (x3 : Int) : rS 2 I108 (xG3 x0 x3) [F] [] = dn (xBp (xMv x0)) [xI0 x3 x0] := by kernel_rfl
def xSb (a0 : Str) : rE I108 (xFN a0) [] [] = st 2 I108 (xG3 a0 0) [] := by kernel_rfl
theorem vCI {N : Nat} : ∀ n x0 x3 r, xDu N n x0 x3 = some r → RS Tryz.f108 I108 2 (xG3 x0 x3) (xBp r) := by
 intro n
 induction n with
 | zero => exact fun _ _ _ h => nE h
 | succ n ih =>
  exact fun x0 x3 r h =>
   cE h (fun h0 h => iE h fun h1 h => cE h (fun h2 h => cE h (fun h5 h => cE h (fun h7 h => cE h (fun h8 h => dS h xKH (xTP x0 x3) (oc10 h0 h1 h2 h1 h1 h5 h1 h7 h8 rfl on)) fun h8 h =>
   cE h (fun h9 h => dS h xKH (xTQ x0 x3) (oc10 h0 h1 h2 h1 h1 h5 h1 h7 h8 h9 on)) fun h9 h =>
   tS xKH (xTR x0 x3) (oc10 h0 h1 h2 h1 h1 h5 h1 h7 h8 h9 on) (ih _ _ _ h)) fun h7 h =>
   tS xKH (xTS x0 x3) (oc9 h0 h1 h2 h1 h1 h5 h1 h7 rfl on) (ih _ _ _ h)) fun h5 h =>
   cE h (fun h6 h => cE h (fun h7 h => dS h xKH (xTT x0 x3) (oc9 h0 h1 h2 h1 h1 h5 h6 h7 rfl on)) fun h7 h =>
   dS h xKH (xTU x0 x3) (oc9 h0 h1 h2 h1 h1 h5 h6 h7 rfl on)) fun h6 h =>
   tS xKH (xTV x0 x3) (oc8 h0 h1 h2 h1 h1 h5 h6 rfl on) (ih _ _ _ h)) fun h2 h =>
   cE h (fun h4 h => cE h (fun h7 h => dS h xKH (xTW x0 x3) (oc9 h0 h1 h2 h1 h4 h1 rfl h7 rfl on)) fun h7 h =>
   cE h (fun h8 h => dS h xKH (xTX x0 x3) (oc9 h0 h1 h2 h1 h4 h1 rfl h7 h8 on)) fun h8 h =>
   tS xKH (xTY x0 x3) (oc9 h0 h1 h2 h1 h4 h1 rfl h7 h8 on) (ih _ _ _ h)) fun h4 h =>
   cE h (fun h6 h => dS h xKH (xR8 x0 x3) (oc8 h0 h1 h2 h1 h4 rfl h6 rfl on)) fun h6 h =>
   dS h xKH (xR9 x0 x3) (oc8 h0 h1 h2 h1 h4 rfl h6 rfl on)) fun h0 h =>
   dS h xKH (xSa x0 x3) (oc h0 on)
theorem vCJ {N : Nat} : ∀ a0 r, xIE N a0 = some r → RE Tryz.f108 I108 (xFN a0) (xBp r) := fun a0 r h =>
 tE xKH (xSb a0) on (vCI _ _ _ _ h)
theorem xIm {N : Nat} {a0 : Str} {r : Bool} (h : xIE N  a0 = some r) : AbC 108 (xFN a0) (xBp r) :=
 AbsCalls.of_reach xKH rfl rfl (Nat.le_of_ble_eq_true rfl) (vCJ a0 r h)
noncomputable def I126 : Info := { body := (Tryz.f126.body).getD .skip, nt := 2, results := [.tmp 0], keep := [0], live := [], modes := [] }
theorem vDj : FnOk Tryz.prog 126 Tryz.f126 I126 := ⟨Tryz.func126, by kernel_rfl, by kernel_rfl, by kernel_rfl, by kernel_rfl⟩
def xUU : rE I126 (xGd ) [] [] = dn (xFw [[108, 101, 116], [105, 110], [105, 102], [116, 104, 101, 110], [101, 108, 115, 101], [102, 111, 114], [100, 111], [108, 101, 110], [115, 117, 109], [116, 97, 107, 101], [115, 107, 105, 112], [114, 97, 110, 103, 101], [110, 116, 104], [119, 104, 101, 114, 101], [107, 101, 101, 112], [97, 100, 100], [103, 114, 111, 117, 112], [106, 111, 105, 110], [99, 111, 108, 117, 109, 110], [114, 111, 119, 115], [99, 108, 111, 99, 107], [99, 104, 97, 110, 99, 101], [102, 105, 108, 101], [116, 97, 98, 108, 101]]) [] := by kernel_rfl
theorem vC1 {N : Nat} : ∀ r, xHi N = some r → RE Tryz.f126 I126 (xGd ) (xFw r) := fun r h =>
 dE h vDj (xUU) on
theorem xLn {N : Nat} {r : (List Str)} (h : xHi N   = some r) : AbC 126 (xGd ) (xFw r) :=
 AbsCalls.of_reach vDj rfl rfl (Nat.le_of_ble_eq_true rfl) (vC1  r h)
noncomputable def I125 : Info := { body := (Tryz.f125.body).getD .skip, nt := 18, results := [.tmp 4], keep := [0, 2, 8, 10, 18, 34], live := [(2, [0, 2, 10])], modes := [] }
theorem xRa : FnOk Tryz.prog 125 Tryz.f125 I125 := ⟨Tryz.func125, by kernel_rfl, by kernel_rfl, by kernel_rfl, by kernel_rfl⟩
def xMZ (x0 : List Str) (x1 : Str) (x5 : Int) : St := [(0, .v false [.sl .ro .str x0]), (2, .v false [.str x1]), (10, .v false [.int .i64 x5])]
abbrev xLM (v0 : List Str) (v1 : Int) := gD v0 (tN v1) Ty.str.dflt
def xUQ (x0 : List Str) (x1 : Str) (x5 : Int) : rS 2 I125 (xMZ x0 x1 x5) [Y, Y] [] = dn (xFY true) [iY (dc (x5 < (Ln x0 : Int))), (0 : Int) ≤ x5 ∧ x5 < (Ln x0), iY (((xLM x0 x5) : Str) == x1)] := by kernel_rfl
def xUR (x0 : List Str) (x1 : Str) (x5 : Int) : rS 2 I125 (xMZ x0 x1 x5) [Y, F] [] = st 2 I125 (xMZ x0 x1 (W (x5 + 1))) [iY (dc (x5 < (Ln x0 : Int))), (0 : Int) ≤ x5 ∧ x5 < (Ln x0), iN (((xLM x0 x5) : Str) == x1)] := by kernel_rfl
def xUS (x0 : List Str) (x1 : Str) (x5 : Int) : rS 2 I125 (xMZ x0 x1 x5) [F] [] = dn (xFY false) [iN (dc (x5 < (Ln x0 : Int)))] := by kernel_rfl
def xUT (a0 : List Str) (a1 : Str) : rE I125 (xHW a0 a1) [] [] = st 2 I125 (xMZ a0 a1 0) [] := by kernel_rfl
theorem vCZ {N : Nat} : ∀ n x0 x1 x5 r, xFX N n x0 x1 x5 = some r → RS Tryz.f125 I125 2 (xMZ x0 x1 x5) (xFY r) := by
 intro n
 induction n with
 | zero => exact fun _ _ _ _ h => nE h
 | succ n ih =>
  exact fun x0 x1 x5 r h =>
   cE h (fun h0 h => iE h fun h1 h => cE h (fun h2 h => dS h xRa (xUQ x0 x1 x5) (oc3 h0 h1 h2 on)) fun h2 h =>
   tS xRa (xUR x0 x1 x5) (oc3 h0 h1 h2 on) (ih _ _ _ _ h)) fun h0 h =>
   dS h xRa (xUS x0 x1 x5) (oc h0 on)
theorem vC0 {N : Nat} : ∀ a0 a1 r, xKm N a0 a1 = some r → RE Tryz.f125 I125 (xHW a0 a1) (xFY r) := fun a0 a1 r h =>
 tE xRa (xUT a0 a1) on (vCZ _ _ _ _ _ h)
theorem xNX {N : Nat} {a0 : List Str} {a1 : Str} {r : Bool} (h : xKm N  a0 a1 = some r) : AbC 125 (xHW a0 a1) (xFY r) :=
 AbsCalls.of_reach xRa rfl rfl (Nat.le_of_ble_eq_true rfl) (vC0 a0 a1 r h)
noncomputable def I109 : Info := { body := (Tryz.f109.body).getD .skip, nt := 6, results := [.tmp 2], keep := [0, 4], live := [], modes := [] }
theorem vDg : FnOk Tryz.prog 109 Tryz.f109 I109 := ⟨Tryz.func109, by kernel_rfl, by kernel_rfl, by kernel_rfl, by kernel_rfl⟩
def xTZ (a0 : Str) (r1 : (List Str)) (r2 : Bool) : rE I109 (xGc a0) [] [xFw r1, xFY r2] = dn (xFt r2) [AbC 126 xGd (xFw r1), AbC 125 (xHW r1 a0) (xFY r2)] := by kernel_rfl
theorem vCK {N : Nat} : ∀ a0 r, xGi N a0 = some r → RE Tryz.f109 I109 (xGc a0) (xFt r) := fun a0 r h =>
 bE h fun r1 h0 h => bE h fun r2 h1 h => dE h vDg (xTZ a0 r1 r2) (oc2 (xLn h0) (xNX h1) on)
theorem xLl {N : Nat} {a0 : Str} {r : Bool} (h : xGi N  a0 = some r) : AbC 109 (xGc a0) (xFt r) :=
 AbsCalls.of_reach vDg rfl rfl (Nat.le_of_ble_eq_true rfl) (vCK a0 r h)
noncomputable def I87 : Info := { body := (Tryz.f87.body).getD .skip, nt := 15, results := [.tmp 2], keep := [0, 4], live := [], modes := [(1, [(2, .take, false), (7, .take, false)])] }
theorem fk87 : FnOk Tryz.prog 87 Tryz.f87 I87 := ⟨Tryz.func87, by kernel_rfl, by kernel_rfl, by kernel_rfl, by kernel_rfl⟩
def vBy (a0 : Str) (r1 r2 : Bool) : rE I87 (xCx a0) [Y, Y] [xBp r1, xFt r2] = dn (xAL (!r2)) [AbC 108 (xFN a0) (xBp r1), iY r1, iY (dc ((Ln a0 : Int) ≤ 8)), AbC 109 (xGc a0) (xFt r2)] := by kernel_rfl
def vBz (a0 : Str) (r1 : Bool) : rE I87 (xCx a0) [Y, F] [xBp r1] = dn (xAL false) [AbC 108 (xFN a0) (xBp r1), iY r1, iN (dc ((Ln a0 : Int) ≤ 8))] := by kernel_rfl
def vBA (a0 : Str) (r1 : Bool) : rE I87 (xCx a0) [F, F] [xBp r1] = dn (xAL false) [AbC 108 (xFN a0) (xBp r1), iN r1, iN false] := by kernel_rfl
theorem vE5 {N : Nat} : ∀ a0 r, xDz N a0 = some r → RE Tryz.f87 I87 (xCx a0) (xAL r) := fun a0 r h =>
 bE h fun r1 h0 h => cE h (fun h1 h => cE h (fun h2 h => bE h fun r2 h3 h => dE h fk87 (vBy a0 r1 r2) (oc4 (xIm h0) h1 h2 (xLl h3) on)) fun h2 h =>
 dE h fk87 (vBz a0 r1) (oc3 (xIm h0) h1 h2 on)) fun h1 h =>
 dE h fk87 (vBA a0 r1) (oc3 (xIm h0) h1 rfl on)
theorem xCb {N : Nat} {a0 : Str} {r : Bool} (h : xDz N  a0 = some r) : AbC 87 (xCx a0) (xAL r) :=
 AbsCalls.of_reach fk87 rfl rfl (Nat.le_of_ble_eq_true rfl) (vE5 a0 r h)
noncomputable def I29 : Info := { body := (Tryz.f29.body).getD .skip, nt := 40, results := [.cell 2 25], keep := [0, 4, 14, 48, 1, 5], live := [], modes := [], ext := [0] }
theorem fk29 : FnOk Tryz.prog 29 Tryz.f29 I29 := ⟨Tryz.func29, by kernel_rfl, by kernel_rfl, by kernel_rfl, by kernel_rfl⟩
def xYe (a0 : Rdr) : rE I29 (xDr a0) [Y, Y] [] = dn (xAW ((Exp.mk 0 0 [] []), (Rdr.mk (Rdr.toks a0) (Rdr.i a0) (Rdr.fin a0) (Tok.pos (xKQ a0))))) [xMB a0, xRS a0, xHc a0] := by kernel_rfl
def xYf (a0 : Rdr) : rE I29 (xDr a0) [Y, F] [] = dn (xAW ((Exp.mk 0 0 [] []), (Rdr.mk (Rdr.toks a0) (Rdr.i a0) (Rdr.fin a0) (Rdr.fin a0)))) [xMB a0, iN (xPm a0)] := by kernel_rfl
def xYg (a0 : Rdr) : rE I29 (xDr a0) [F] [] = dn (xAW ((Exp.mk 0 0 [] []), a0)) [iN (dc ((Rdr.bad a0) < 0))] := by kernel_rfl
theorem vD0 {N : Nat} : ∀ a0 r, xB7 N a0 = some r → RE Tryz.f29 I29 (xDr a0) (xAW r) := fun a0 r h =>
 cE h (fun h0 h => cE h (fun h1 h => iE h fun h2 h => dE h fk29 (xYe a0) (oc3 h0 h1 h2 on)) fun h1 h =>
 dE h fk29 (xYf a0) (oc2 h0 h1 on)) fun h0 h =>
 dE h fk29 (xYg a0) (oc h0 on)
theorem xCD {N : Nat} {a0 : Rdr} {r : Exp × Rdr} (h : xB7 N  a0 = some r) : AbC 29 (xDr a0) (xAW r) :=
 AbsCalls.of_reach fk29 rfl rfl (Nat.le_of_ble_eq_true rfl) (vD0 a0 r h)
noncomputable def I46 : Info := { body := (Tryz.f46.body).getD .skip, nt := 71, results := [.tmp 2], keep := [0, 4, 96, 1], live := [], modes := [(1, [(5, .take, false), (17, .take, false), (31, .take, false)])], ext := [0] }
theorem fk46 : FnOk Tryz.prog 46 Tryz.f46 I46 := ⟨Tryz.func46, by kernel_rfl, by kernel_rfl, by kernel_rfl, by kernel_rfl⟩
abbrev xLZ (v0 : Rdr) (v1 : Exp × Rdr) : Prop := AbC 29 (xDr v0) (xAW v1)
def xZh (a0 : Rdr) (r1 : Exp × Rdr) : rE I46 (xEr a0) [Y, Y, Y, Y] [xAW r1] = dn (xDs ([], r1.2)) [iY (dc ((Rdr.bad a0) ≥ 0)), iY true, iY true, iY true, xLZ a0 r1] := by kernel_rfl
abbrev xIc (v0 : Rdr) : Prop := iN (dc ((Rdr.bad v0) ≥ 0))
abbrev xPn (v0 : Rdr) := dc ((Rdr.i v0) ≥ (Ln (Rdr.toks v0) : Int))
def xZi (a0 : Rdr) (r1 : Exp × Rdr) : rE I46 (xEr a0) [F, Y, Y, Y] [xAW r1] = dn (xDs ([], r1.2)) [xIc a0, iY (xPn a0), iY true, iY true, xLZ a0 r1] := by kernel_rfl
abbrev xIZ (v0 : Rdr) : Prop := iN (xPn v0)
abbrev xRF (v0 : Rdr) := ((Tok.kind (gD (Rdr.toks v0) (tN (Rdr.i v0)) Ty.tok.dflt)) : Int) != 1
def xZj (a0 : Rdr) (r1 : Exp × Rdr) : rE I46 (xEr a0) [F, F, Y, Y] [xAW r1] = dn (xDs ([], r1.2)) [xIc a0, xIZ a0, xHc a0, iY (xRF a0), iY true, xLZ a0 r1] := by kernel_rfl
abbrev xWO (v0 : Rdr) : Prop := iN (xRF v0)
abbrev xMy (v0 : Rdr) := Tok.text (gD (Rdr.toks v0) (tN (Rdr.i v0)) Ty.tok.dflt)
abbrev xMC (v0 : Rdr) (v1 : Bool) : Prop := AbC 87 (xCx (xMy v0)) (xAL v1)
def xZk (a0 : Rdr) (r1 : Bool) (r2 : Exp × Rdr) : rE I46 (xEr a0) [F, F, F, Y] [xAL r1, xAW r2] = dn (xDs ([], r2.2)) [xIc a0, xIZ a0, xHc a0, xWO a0, xHc a0, xMC a0 r1, iY (!r1), xLZ a0 r2] := by kernel_rfl
abbrev xMz (v0 : Rdr) := Rdr.mk (Rdr.toks v0) (W ((Rdr.i v0) + 1)) (Rdr.fin v0) (Rdr.bad v0)
abbrev xPo (v0 : Rdr) := W ((Rdr.i v0) + 1)
def xZl (a0 : Rdr) (r1 : Bool) : rE I46 (xEr a0) [F, F, F, F] [xAL r1] = dn (xDs ((Tok.text (gD (Rdr.toks a0) (tN (W ((xPo a0) - 1))) Ty.tok.dflt)), (xMz a0))) [xIc a0, xIZ a0, xHc a0, xWO a0, xHc a0, xMC a0 r1, iN (!r1), (0 : Int) ≤ (W ((xPo a0) - 1)) ∧ (W ((xPo a0) - 1)) < (Ln (Rdr.toks a0))] := by kernel_rfl
theorem vEj {N : Nat} : ∀ a0 r, xDZ N a0 = some r → RE Tryz.f46 I46 (xEr a0) (xDs r) := fun a0 r h =>
 cE h (fun h0 h => bE h fun r1 h4 h => dE h fk46 (xZh a0 r1) (oc5 h0 rfl rfl rfl (xCD h4) on)) fun h0 h =>
 cE h (fun h1 h => bE h fun r1 h4 h => dE h fk46 (xZi a0 r1) (oc5 h0 h1 rfl rfl (xCD h4) on)) fun h1 h =>
 iE h fun h2 h => cE h (fun h3 h => bE h fun r1 h5 h => dE h fk46 (xZj a0 r1) (oc6 h0 h1 h2 h3 rfl (xCD h5) on)) fun h3 h =>
 bE h fun r1 h5 h => cE h (fun h6 h => bE h fun r2 h7 h => dE h fk46 (xZk a0 r1 r2) (oc8 h0 h1 h2 h3 h2 (xCb h5) h6 (xCD h7) on)) fun h6 h =>
 iE h fun h7 h => dE h fk46 (xZl a0 r1) (oc8 h0 h1 h2 h3 h2 (xCb h5) h6 h7 on)
theorem xKd {N : Nat} {a0 : Rdr} {r : Str × Rdr} (h : xDZ N  a0 = some r) : AbC 46 (xEr a0) (xDs r) :=
 AbsCalls.of_reach fk46 rfl rfl (Nat.le_of_ble_eq_true rfl) (vEj a0 r h)
noncomputable def I47 : Info := { body := (Tryz.f47.body).getD .skip, nt := 18, results := [], keep := [0, 2, 14, 1], live := [], modes := [], ext := [0] }
theorem fk47 : FnOk Tryz.prog 47 Tryz.f47 I47 := ⟨Tryz.func47, by kernel_rfl, by kernel_rfl, by kernel_rfl, by kernel_rfl⟩
def xZm (a0 : Rdr) (a1 : Str) (r1 : Bool × Rdr) (r2 : Exp × Rdr) : rE I47 (xBR a0 a1) [Y] [xAe r1, xAW r2] = dn (xAJ r2.2) [AbC 45 (xAH a0 a1) (xAe r1), iY (!r1.1), AbC 29 (xDr r1.2) (xAW r2)] := by kernel_rfl
abbrev xJ5 (v0 : Bool × Rdr) := Rdr.mk (Rdr.toks v0.2) (W ((Rdr.i v0.2) + 1)) (Rdr.fin v0.2) (Rdr.bad v0.2)
def xZn (a0 : Rdr) (a1 : Str) (r1 : Bool × Rdr) : rE I47 (xBR a0 a1) [F] [xAe r1] = dn (xAJ (xJ5 r1)) [AbC 45 (xAH a0 a1) (xAe r1), iN (!r1.1)] := by kernel_rfl
theorem vEk {N : Nat} : ∀ a0 a1 r, xBE N a0 a1 = some r → RE Tryz.f47 I47 (xBR a0 a1) (xAJ r) := fun a0 a1 r h =>
 bE h fun r1 h0 h => cE h (fun h1 h => bE h fun r2 h2 h => dE h fk47 (xZm a0 a1 r1 r2) (oc3 (xAq h0) h1 (xCD h2) on)) fun h1 h =>
 dE h fk47 (xZn a0 a1 r1) (oc2 (xAq h0) h1 on)
theorem xCZ {N : Nat} {a0 : Rdr} {a1 : Str} {r : Rdr} (h : xBE N  a0 a1 = some r) : AbC 47 (xBR a0 a1) (xAJ r) :=
 AbsCalls.of_reach fk47 rfl rfl (Nat.le_of_ble_eq_true rfl) (vEk a0 a1 r h)
noncomputable def I67 : Info := { body := (Tryz.f67.body).getD .skip, nt := 5, results := [.cell 2 25], keep := [0, 4, 5], live := [], modes := [] }
theorem fk67 : FnOk Tryz.prog 67 Tryz.f67 I67 := ⟨Tryz.func67, by kernel_rfl, by kernel_rfl, by kernel_rfl, by kernel_rfl⟩
def vAg (a0 : Int) : rE I67 (xF5 a0) [] [] = dn (xBC (Exp.mk 1 a0 [] [])) [] := by kernel_rfl
theorem vEH {N : Nat} : ∀ a0 r, xCY N a0 = some r → RE Tryz.f67 I67 (xF5 a0) (xBC r) := fun a0 r h =>
 dE h fk67 (vAg a0) on
theorem xC3 {N : Nat} {a0 : Int} {r : Exp} (h : xCY N  a0 = some r) : AbC 67 (xF5 a0) (xBC r) :=
 AbsCalls.of_reach fk67 rfl rfl (Nat.le_of_ble_eq_true rfl) (vEH a0 r h)
noncomputable def I101 : Info := { body := (Tryz.f101.body).getD .skip, nt := 5, results := [.cell 2 25], keep := [0, 4, 5], live := [], modes := [] }
theorem vDe : FnOk Tryz.prog 101 Tryz.f101 I101 := ⟨Tryz.func101, by kernel_rfl, by kernel_rfl, by kernel_rfl, by kernel_rfl⟩
def xTn (a0 : Str) : rE I101 (xGm a0) [] [] = dn (xE7 (Exp.mk 3 0 a0 [])) [] := by kernel_rfl
theorem vCB {N : Nat} : ∀ a0 r, xIA N a0 = some r → RE Tryz.f101 I101 (xGm a0) (xE7 r) := fun a0 r h =>
 dE h vDe (xTn a0) on
theorem xKc {N : Nat} {a0 : Str} {r : Exp} (h : xIA N  a0 = some r) : AbC 101 (xGm a0) (xE7 r) :=
 AbsCalls.of_reach vDe rfl rfl (Nat.le_of_ble_eq_true rfl) (vCB a0 r h)
noncomputable def I106 : Info := { body := (Tryz.f106.body).getD .skip, nt := 26, results := [.tmp 2], keep := [0, 4, 6, 8, 12, 24, 40, 48], live := [], modes := [] }
theorem xI9 : FnOk Tryz.prog 106 Tryz.f106 I106 := ⟨Tryz.func106, by kernel_rfl, by kernel_rfl, by kernel_rfl, by kernel_rfl⟩
abbrev xPp (v0 : Str) := (v0 : Str) == [99, 108, 111, 99, 107]
def xTv (a0 : Str) : rE I106 (xAt a0) [Y] [] = dn (xAl 0) [iY (xPp a0)] := by kernel_rfl
abbrev xEx (v0 : Str) : Prop := iN (xPp v0)
abbrev xPX (v0 : Str) : Prop := iY ((v0 : Str) == [108, 101, 110])
def xTw (a0 : Str) : rE I106 (xAt a0) [F, Y, Y] [] = dn (xAl 1) [xEx a0, xPX a0, xPX a0] := by kernel_rfl
abbrev xEM (v0 : Str) : Prop := iN ((v0 : Str) == [108, 101, 110])
abbrev xPY (v0 : Str) : Prop := iY ((v0 : Str) == [115, 117, 109])
def xTx (a0 : Str) : rE I106 (xAt a0) [F, F, Y, Y] [] = dn (xAl 1) [xEx a0, xEM a0, xPY a0, xPY a0] := by kernel_rfl
abbrev xFb (v0 : Str) : Prop := iN ((v0 : Str) == [115, 117, 109])
abbrev xPZ (v0 : Str) : Prop := iY ((v0 : Str) == [114, 111, 119, 115])
def xTy (a0 : Str) : rE I106 (xAt a0) [F, F, F, Y, Y] [] = dn (xAl 1) [xEx a0, xEM a0, xFb a0, xPZ a0, xPZ a0] := by kernel_rfl
abbrev xFD (v0 : Str) : Prop := iN ((v0 : Str) == [114, 111, 119, 115])
abbrev xP0 (v0 : Str) : Prop := iY ((v0 : Str) == [99, 104, 97, 110, 99, 101])
def xTz (a0 : Str) : rE I106 (xAt a0) [F, F, F, F, Y, Y] [] = dn (xAl 1) [xEx a0, xEM a0, xFb a0, xFD a0, xP0 a0, xP0 a0] := by kernel_rfl
abbrev xFQ (v0 : Str) : Prop := iN ((v0 : Str) == [99, 104, 97, 110, 99, 101])
abbrev xPq (v0 : Str) := (v0 : Str) == [102, 105, 108, 101]
def xTA (a0 : Str) : rE I106 (xAt a0) [F, F, F, F, F, Y] [] = dn (xAl 1) [xEx a0, xEM a0, xFb a0, xFD a0, xFQ a0, iY (xPq a0)] := by kernel_rfl
abbrev xGa (v0 : Str) : Prop := iN (xPq v0)
abbrev xP1 (v0 : Str) : Prop := iY ((v0 : Str) == [116, 97, 107, 101])
def xTB (a0 : Str) : rE I106 (xAt a0) [F, F, F, F, F, F, Y, Y] [] = dn (xAl 2) [xEx a0, xEM a0, xFb a0, xFD a0, xFQ a0, xGa a0, xP1 a0, xP1 a0] := by kernel_rfl
abbrev xGB (v0 : Str) : Prop := iN ((v0 : Str) == [116, 97, 107, 101])
abbrev xP2 (v0 : Str) : Prop := iY ((v0 : Str) == [115, 107, 105, 112])
def xTC (a0 : Str) : rE I106 (xAt a0) [F, F, F, F, F, F, F, Y, Y] [] = dn (xAl 2) [xEx a0, xEM a0, xFb a0, xFD a0, xFQ a0, xGa a0, xGB a0, xP2 a0, xP2 a0] := by kernel_rfl
abbrev xGZ (v0 : Str) : Prop := iN ((v0 : Str) == [115, 107, 105, 112])
abbrev xP3 (v0 : Str) : Prop := iY ((v0 : Str) == [114, 97, 110, 103, 101])
def xTD (a0 : Str) : rE I106 (xAt a0) [F, F, F, F, F, F, F, F, Y, Y] [] = dn (xAl 2) [xEx a0, xEM a0, xFb a0, xFD a0, xFQ a0, xGa a0, xGB a0, xGZ a0, xP3 a0, xP3 a0] := by kernel_rfl
abbrev xHm (v0 : Str) : Prop := iN ((v0 : Str) == [114, 97, 110, 103, 101])
abbrev xP4 (v0 : Str) : Prop := iY ((v0 : Str) == [110, 116, 104])
def xTE (a0 : Str) : rE I106 (xAt a0) [F, F, F, F, F, F, F, F, F, Y, Y] [] = dn (xAl 2) [xEx a0, xEM a0, xFb a0, xFD a0, xFQ a0, xGa a0, xGB a0, xGZ a0, xHm a0, xP4 a0, xP4 a0] := by kernel_rfl
abbrev xHT (v0 : Str) : Prop := iN ((v0 : Str) == [110, 116, 104])
abbrev xP5 (v0 : Str) : Prop := iY ((v0 : Str) == [107, 101, 101, 112])
def xRU (a0 : Str) : rE I106 (xAt a0) [F, F, F, F, F, F, F, F, F, F, Y, Y] [] = dn (xAl 2) [xEx a0, xEM a0, xFb a0, xFD a0, xFQ a0, xGa a0, xGB a0, xGZ a0, xHm a0, xHT a0, xP5 a0, xP5 a0] := by kernel_rfl
abbrev xIw (v0 : Str) : Prop := iN ((v0 : Str) == [107, 101, 101, 112])
abbrev xP6 (v0 : Str) : Prop := iY ((v0 : Str) == [99, 111, 108, 117, 109, 110])
def xRV (a0 : Str) : rE I106 (xAt a0) [F, F, F, F, F, F, F, F, F, F, F, Y, Y] [] = dn (xAl 2) [xEx a0, xEM a0, xFb a0, xFD a0, xFQ a0, xGa a0, xGB a0, xGZ a0, xHm a0, xHT a0, xIw a0, xP6 a0, xP6 a0] := by kernel_rfl
abbrev xJx (v0 : Str) : Prop := iN ((v0 : Str) == [99, 111, 108, 117, 109, 110])
abbrev xPr (v0 : Str) := (v0 : Str) == [116, 97, 98, 108, 101]
def xRW (a0 : Str) : rE I106 (xAt a0) [F, F, F, F, F, F, F, F, F, F, F, F, Y] [] = dn (xAl 2) [xEx a0, xEM a0, xFb a0, xFD a0, xFQ a0, xGa a0, xGB a0, xGZ a0, xHm a0, xHT a0, xIw a0, xJx a0, iY (xPr a0)] := by kernel_rfl
abbrev xKF (v0 : Str) : Prop := iN (xPr v0)
abbrev xP7 (v0 : Str) : Prop := iY ((v0 : Str) == [119, 104, 101, 114, 101])
def xRX (a0 : Str) : rE I106 (xAt a0) [F, F, F, F, F, F, F, F, F, F, F, F, F, Y, Y] [] = dn (xAl 3) [xEx a0, xEM a0, xFb a0, xFD a0, xFQ a0, xGa a0, xGB a0, xGZ a0, xHm a0, xHT a0, xIw a0, xJx a0, xKF a0, xP7 a0, xP7 a0] := by kernel_rfl
abbrev xL0 (v0 : Str) : Prop := iN ((v0 : Str) == [119, 104, 101, 114, 101])
abbrev xP8 (v0 : Str) : Prop := iY ((v0 : Str) == [103, 114, 111, 117, 112])
def xRY (a0 : Str) : rE I106 (xAt a0) [F, F, F, F, F, F, F, F, F, F, F, F, F, F, Y, Y] [] = dn (xAl 3) [xEx a0, xEM a0, xFb a0, xFD a0, xFQ a0, xGa a0, xGB a0, xGZ a0, xHm a0, xHT a0, xIw a0, xJx a0, xKF a0, xL0 a0, xP8 a0, xP8 a0] := by kernel_rfl
abbrev xNc (v0 : Str) : Prop := iN ((v0 : Str) == [103, 114, 111, 117, 112])
abbrev xPs (v0 : Str) := (v0 : Str) == [106, 111, 105, 110]
def xRZ (a0 : Str) : rE I106 (xAt a0) [F, F, F, F, F, F, F, F, F, F, F, F, F, F, F, Y] [] = dn (xAl 3) [xEx a0, xEM a0, xFb a0, xFD a0, xFQ a0, xGa a0, xGB a0, xGZ a0, xHm a0, xHT a0, xIw a0, xJx a0, xKF a0, xL0 a0, xNc a0, iY (xPs a0)] := by kernel_rfl
abbrev xP9 (v0 : Str) : Prop := iN (xPs v0)
abbrev xNP (v0 : Str) := (v0 : Str) == [97, 100, 100]
def xR0 (a0 : Str) : rE I106 (xAt a0) [F, F, F, F, F, F, F, F, F, F, F, F, F, F, F, F, Y] [] = dn (xAl 4) [xEx a0, xEM a0, xFb a0, xFD a0, xFQ a0, xGa a0, xGB a0, xGZ a0, xHm a0, xHT a0, xIw a0, xJx a0, xKF a0, xL0 a0, xNc a0, xP9 a0, iY (xNP a0)] := by kernel_rfl
def xR1 (a0 : Str) : rE I106 (xAt a0) [F, F, F, F, F, F, F, F, F, F, F, F, F, F, F, F, F] [] = dn (xAl (-1)) [xEx a0, xEM a0, xFb a0, xFD a0, xFQ a0, xGa a0, xGB a0, xGZ a0, xHm a0, xHT a0, xIw a0, xJx a0, xKF a0, xL0 a0, xNc a0, xP9 a0, iN (xNP a0)] := by kernel_rfl
theorem vCG {N : Nat} : ∀ a0 r, xB5 N a0 = some r → RE Tryz.f106 I106 (xAt a0) (xAl r) := fun a0 r h =>
 cE h (fun h0 h => dE h xI9 (xTv a0) (oc h0 on)) fun h0 h =>
 cE h (fun h1 h => dE h xI9 (xTw a0) (oc3 h0 h1 h1 on)) fun h1 h =>
 cE h (fun h2 h => dE h xI9 (xTx a0) (oc4 h0 h1 h2 h2 on)) fun h2 h =>
 cE h (fun h3 h => dE h xI9 (xTy a0) (oc5 h0 h1 h2 h3 h3 on)) fun h3 h =>
 cE h (fun h4 h => dE h xI9 (xTz a0) (oc6 h0 h1 h2 h3 h4 h4 on)) fun h4 h =>
 cE h (fun h5 h => dE h xI9 (xTA a0) (oc6 h0 h1 h2 h3 h4 h5 on)) fun h5 h =>
 cE h (fun h6 h => dE h xI9 (xTB a0) (oc8 h0 h1 h2 h3 h4 h5 h6 h6 on)) fun h6 h =>
 cE h (fun h7 h => dE h xI9 (xTC a0) (oc9 h0 h1 h2 h3 h4 h5 h6 h7 h7 on)) fun h7 h =>
 cE h (fun h8 h => dE h xI9 (xTD a0) (oc10 h0 h1 h2 h3 h4 h5 h6 h7 h8 h8 on)) fun h8 h =>
 cE h (fun h9 h => dE h xI9 (xTE a0) (oc11 h0 h1 h2 h3 h4 h5 h6 h7 h8 h9 h9 on)) fun h9 h =>
 cE h (fun h10 h => dE h xI9 (xRU a0) (oc12 h0 h1 h2 h3 h4 h5 h6 h7 h8 h9 h10 h10 on)) fun h10 h =>
 cE h (fun h11 h => dE h xI9 (xRV a0) (oc12 h0 h1 h2 h3 h4 h5 h6 h7 h8 h9 h10 h11 (oc h11 on))) fun h11 h =>
 cE h (fun h12 h => dE h xI9 (xRW a0) (oc12 h0 h1 h2 h3 h4 h5 h6 h7 h8 h9 h10 h11 (oc h12 on))) fun h12 h =>
 cE h (fun h13 h => dE h xI9 (xRX a0) (oc12 h0 h1 h2 h3 h4 h5 h6 h7 h8 h9 h10 h11 (oc3 h12 h13 h13 on))) fun h13 h =>
 cE h (fun h14 h => dE h xI9 (xRY a0) (oc12 h0 h1 h2 h3 h4 h5 h6 h7 h8 h9 h10 h11 (oc4 h12 h13 h14 h14 on))) fun h14 h =>
 cE h (fun h15 h => dE h xI9 (xRZ a0) (oc12 h0 h1 h2 h3 h4 h5 h6 h7 h8 h9 h10 h11 (oc4 h12 h13 h14 h15 on))) fun h15 h =>
 cE h (fun h16 h => dE h xI9 (xR0 a0) (oc12 h0 h1 h2 h3 h4 h5 h6 h7 h8 h9 h10 h11 (oc5 h12 h13 h14 h15 h16 on))) fun h16 h =>
 dE h xI9 (xR1 a0) (oc12 h0 h1 h2 h3 h4 h5 h6 h7 h8 h9 h10 h11 (oc5 h12 h13 h14 h15 h16 on))
theorem xEo {N : Nat} {a0 : Str} {r : Int} (h : xB5 N  a0 = some r) : AbC 106 (xAt a0) (xAl r) :=
 AbsCalls.of_reach xI9 rfl rfl (Nat.le_of_ble_eq_true rfl) (vCG a0 r h)
noncomputable def I66 : Info := { body := (Tryz.f66.body).getD .skip, nt := 12, results := [.cell 6 25], keep := [0, 2, 4, 8, 10, 12, 9, 11, 13], live := [], modes := [] }
theorem fk66 : FnOk Tryz.prog 66 Tryz.f66 I66 := ⟨Tryz.func66, by kernel_rfl, by kernel_rfl, by kernel_rfl, by kernel_rfl⟩
def vAf (a0 : Int) (a1 a2 : Exp) : rE I66 (xDB a0 a1 a2) [] [] = dn (xBv (Exp.mk 6 a0 [] [(Exp.re a1), (Exp.re a2)])) [] := by kernel_rfl
theorem vEG {N : Nat} : ∀ a0 a1 a2 r, xEc N a0 a1 a2 = some r → RE Tryz.f66 I66 (xDB a0 a1 a2) (xBv r) := fun a0 a1 a2 r h =>
 dE h fk66 (vAf a0 a1 a2) on
theorem xEJ {N : Nat} {a0 : Int} {a1 : Exp} {a2 : Exp} {r : Exp} (h : xEc N  a0 a1 a2 = some r) : AbC 66 (xDB a0 a1 a2) (xBv r) :=
 AbsCalls.of_reach fk66 rfl rfl (Nat.le_of_ble_eq_true rfl) (vEG a0 a1 a2 r h)
end Go.Ab.T
end
