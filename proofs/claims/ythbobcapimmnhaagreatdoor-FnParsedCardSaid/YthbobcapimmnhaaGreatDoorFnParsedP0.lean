/- The statement FnParsed holds: plain functions, certificates, laws. Conditions: none. -/
import Derived.LaidMore
import Derived.Lay
import Derived.Lib.AtoiErrMem
import Derived.Lib.LaidTab
import Derived.OpenVars
import Derived.SevenTiedAt
import Derived.Shelf.Abstract
import Derived.Shelf.Small.Strs
import Derived.Shelf.Strconv.ErrVarAll
import Derived.Shelf.Strconv.Itoa3
import Derived.Shelf.Strings.OnBuilder
import Derived.Shelf.Strings.Prefix
import Derived.Shelf.Strings.Search1
import Derived.Shelf.Strings.Split
import Derived.Stop.Joined
import Derived.Stop.LaidErr
import Derived.Test.YthbobcapimmnhaaGreatDoorCards
import Derived.Test.YthbobcapimmnhaaGreatDoorChecked
import Derived.Test.YthbobcapimmnhaaGreatDoorProg
import Derived.Test.YthbobcapimmnhaaGreatDoorRows
import Derived.Test.YthbobcapimmnhaaGreatDoorTie
import Derived.WalkKit
import Derived.Test.YthbobcapimmnhaaGreatDoorL2
set_option linter.all false
section
namespace Go.Ab
abbrev Ex (f : Fl) (e : Exp) : List CV := [.int .i64 (Exp.kind e), .int .i64 (Exp.n e), .str (Exp.text e), .sl f .exp (Exp.args e)]
abbrev Ps (f : Fl) (e : Psr) : List CV := [.sl f .tok (Psr.list e), .int .i64 (Psr.pos e), .int .i64 (Psr.bad e)]
abbrev Cu (f : Fl) (e : Cur) : List CV := [.sl f .byte (Cur.b e), .int .i64 (Cur.i e), .int .i64 (Cur.h e)]
end Go.Ab
end
section
namespace Go.Ab
def xFh (a0 : Int) : List Arg := [.val (.v false [.int .u8 a0])]
def xBJ (r : Bool) : CallO := ⟨.v false [.bool r], [], []⟩
def xFP (N : Nat) (a0 : Int) : Option (Bool) := bif (decide (a0 ≥ 97)) then (some (decide (a0 ≤ 122))) else (some false)
def xFF (a0 : Int) : List Arg := [.val (.v false [.int .u8 a0])]
def xBx (r : Bool) : CallO := ⟨.v false [.bool r], [], []⟩
def xFE (N : Nat) (a0 : Int) : Option (Bool) := bif (decide (a0 ≥ 48)) then (some (decide (a0 ≤ 57))) else (some false)
def xCH (a0 : Int) : List Arg := [.val (.v false [.int .i64 a0])]
def xA5 (r : Str) : CallO := ⟨.v false [.str r], [], []⟩
def xCb (N : Nat) : Nat → Int → Bool → Str → Option (Str)
 | 0, _, _, _ => none
 | n + 1, x0, x3, x4 => bif (x0 != 0) then (bif (decide ((Int.tmod x0 10) < 0)) then (if List.length (List.map (fun n => UInt8.ofNat (Int.toNat n)) [(IntKind.u8.wrap ((IntKind.i64.wrap (48 + (IntKind.i64.wrap (0 - (Int.tmod x0 10)))))))]) + List.length x4 ≤ Lim then (xCb N n (IntKind.i64.wrap (Int.tdiv x0 10)) x3 ((List.map (fun n => UInt8.ofNat (Int.toNat n)) [(IntKind.u8.wrap ((IntKind.i64.wrap (48 + (IntKind.i64.wrap (0 - (Int.tmod x0 10)))))))]) ++ x4)) else none) else (if List.length (List.map (fun n => UInt8.ofNat (Int.toNat n)) [(IntKind.u8.wrap ((IntKind.i64.wrap (48 + (Int.tmod x0 10)))))]) + List.length x4 ≤ Lim then (xCb N n (IntKind.i64.wrap (Int.tdiv x0 10)) x3 ((List.map (fun n => UInt8.ofNat (Int.toNat n)) [(IntKind.u8.wrap ((IntKind.i64.wrap (48 + (Int.tmod x0 10)))))]) ++ x4)) else none)) else (bif x3 then (if List.length [45] + List.length x4 ≤ Lim then some ([45] ++ x4) else none) else (some x4))
def xEG (N : Nat) (a0 : Int) : Option (Str) := bif (a0 == 0) then (some [48]) else ((xCb N N a0 (decide (a0 < 0)) []))
def xCF (a0 : Str) (a1 : Int) : List Arg := [.val (.v false [.str a0]), .val (.v false [.int .i64 a1])]
def xBq (r : Int × Bool) : CallO := ⟨.tup [(false, [.int .i64 r.1]), (false, [.bool r.2])], [], []⟩
def xDd (N : Nat) : Nat → Str → Bool → Str → Int → Int → Option (Int × Bool)
 | 0, _, _, _, _, _ => none
 | n + 1, x0, x6, x7, x8, x9 => bif (decide (x9 < (List.length x7 : Int))) then (if (0 : Int) ≤ x9 ∧ x9 < (List.length x7) then bif (decide ((((List.getD x7 (Int.toNat x9) 0).toNat : Int) : Int) < 48)) then (some (0, false)) else (bif (decide ((((List.getD x7 (Int.toNat x9) 0).toNat : Int) : Int) > 57)) then (some (0, false)) else ((xDd N n x0 x6 x7 (IntKind.i64.wrap ((IntKind.i64.wrap (10 * x8)) + (IntKind.i64.wrap ((IntKind.u8.wrap (((List.getD x7 (Int.toNat x9) 0).toNat : Int) - 48)))))) (IntKind.i64.wrap (x9 + 1))))) else none) else (bif x6 then ((xEG N (IntKind.i64.wrap (0 - x8))).bind fun r1 => bif (!((r1 : Str) == x0)) then (some (0, false)) else (some ((IntKind.i64.wrap (0 - x8)), true))) else ((xEG N x8).bind fun r1 => bif (!((r1 : Str) == x0)) then (some (0, false)) else (some (x8, true))))
def xHC (N : Nat) (a0 : Str) (a1 : Int) : Option (Int × Bool) := bif (decide ((List.length a0 : Int) > 0)) then (if (0 : Int) ≤ 0 ∧ (0 : Int) < (List.length a0) then bif ((((List.getD a0 (Int.toNat 0) 0).toNat : Int) : Int) == 45) then (if (0 : Int) ≤ (1 : Int) ∧ (1 : Int) ≤ (List.length a0) then bif (decide (((List.length (List.drop (Int.toNat (1 : Int)) a0) : Int) : Int) < 1)) then (some (0, false)) else (bif (decide (((List.length (List.drop (Int.toNat (1 : Int)) a0) : Int) : Int) > a1)) then (some (0, false)) else ((xDd N N a0 ((((List.getD a0 (Int.toNat 0) 0).toNat : Int) : Int) == 45) (List.drop (Int.toNat (1 : Int)) a0) 0 0))) else none) else (bif (decide ((List.length a0 : Int) < 1)) then (some (0, false)) else (bif (decide ((List.length a0 : Int) > a1)) then (some (0, false)) else ((xDd N N a0 ((((List.getD a0 (Int.toNat 0) 0).toNat : Int) : Int) == 45) a0 0 0)))) else none) else (bif (decide ((List.length a0 : Int) < 1)) then (some (0, false)) else (bif (decide ((List.length a0 : Int) > a1)) then (some (0, false)) else ((xDd N N a0 false a0 0 0))))
def xF7 (a0 : Str) : List Arg := [.val (.v false [.str a0])]
def xCB (r : Int × Bool) : CallO := ⟨.tup [(false, [.int .i64 r.1]), (false, [.bool r.2])], [], []⟩
def xE7 (N : Nat) (a0 : Str) : Option (Int × Bool) := (xHC N a0 12).bind fun r1 => some (r1.1, r1.2)
def xEg (a0 : Str) : List Arg := [.val (.v false [.str a0])]
def xA2 (r : Bool) : CallO := ⟨.v false [.bool r], [], []⟩
def xCx (N : Nat) : Nat → Str → Int → Option (Bool)
 | 0, _, _ => none
 | n + 1, x0, x3 => bif (decide (x3 < (List.length x0 : Int))) then (if (0 : Int) ≤ x3 ∧ x3 < (List.length x0) then bif (decide ((((List.getD x0 (Int.toNat x3) 0).toNat : Int) : Int) < 32)) then (some false) else (bif (decide ((((List.getD x0 (Int.toNat x3) 0).toNat : Int) : Int) > 126)) then (some false) else (bif ((((List.getD x0 (Int.toNat x3) 0).toNat : Int) : Int) == 34) then (some false) else ((xCx N n x0 (IntKind.i64.wrap (x3 + 1)))))) else none) else (some (decide ((List.length x0 : Int) ≤ 20)))
def xEp (N : Nat) (a0 : Str) : Option (Bool) := (xCx N N a0 0)
def xBf (a0 : Str) (a1 : Int) : List Arg := [.val (.v false [.str a0]), .val (.v false [.int .i64 a1])]
def xA7 (r : Int) : CallO := ⟨.v false [.int .i64 r], [], []⟩
def xGz (N : Nat) (a0 : Str) (a1 : Int) : Option (Int) := if (0 : Int) ≤ a1 ∧ a1 < (List.length a0) then bif ((((List.getD a0 (Int.toNat a1) 0).toNat : Int) : Int) == 40) then (some 1) else (bif ((((List.getD a0 (Int.toNat a1) 0).toNat : Int) : Int) == 41) then (some 1) else (bif ((((List.getD a0 (Int.toNat a1) 0).toNat : Int) : Int) == 91) then (some 1) else (bif ((((List.getD a0 (Int.toNat a1) 0).toNat : Int) : Int) == 93) then (some 1) else (bif ((((List.getD a0 (Int.toNat a1) 0).toNat : Int) : Int) == 44) then (some 1) else (bif ((((List.getD a0 (Int.toNat a1) 0).toNat : Int) : Int) == 43) then (some 1) else (bif ((((List.getD a0 (Int.toNat a1) 0).toNat : Int) : Int) == 45) then (some 1) else (bif ((((List.getD a0 (Int.toNat a1) 0).toNat : Int) : Int) == 42) then (some 1) else (bif ((((List.getD a0 (Int.toNat a1) 0).toNat : Int) : Int) == 60) then (some 1) else (bif ((((List.getD a0 (Int.toNat a1) 0).toNat : Int) : Int) == 61) then (bif (decide ((IntKind.i64.wrap (a1 + 1)) < (List.length a0 : Int))) then (if (0 : Int) ≤ (IntKind.i64.wrap (a1 + 1)) ∧ (IntKind.i64.wrap (a1 + 1)) < (List.length a0) then bif ((((List.getD a0 (Int.toNat (IntKind.i64.wrap (a1 + 1))) 0).toNat : Int) : Int) == 61) then (some 2) else (some 1) else none) else (some 1)) else (some 0)))))))))) else none
def xDI (a0 : Str) (a1 : Int) : List Arg := [.val (.v false [.str a0]), .val (.v false [.int .i64 a1])]
def xA0 (r : Tok × Int) : CallO := ⟨.tup [(true, [.int .i64 (Tok.kind r.1), .int .i64 (Tok.n r.1), .int .i64 (Tok.pos r.1), .str (Tok.text r.1)]), (false, [.int .i64 r.2])], [], []⟩
def xDJ (N : Nat) : Nat → Str → Int → Int → Tok → Tok → Option (Tok × Int)
 | 0, _, _, _, _, _ => none
 | n + 1, x0, x1, x7, b4, b6 => bif (decide (x7 < (List.length x0 : Int))) then (if (0 : Int) ≤ x7 ∧ x7 < (List.length x0) then (xFP N ((List.getD x0 (Int.toNat x7) 0).toNat : Int)).bind fun r1 => bif r1 then ((xDJ N n x0 x1 (IntKind.i64.wrap (x7 + 1)) b4 b6)) else ((xFE N ((List.getD x0 (Int.toNat x7) 0).toNat : Int)).bind fun r2 => bif r2 then ((xDJ N n x0 x1 (IntKind.i64.wrap (x7 + 1)) b4 b6)) else (if (0 : Int) ≤ x1 ∧ x1 ≤ x7 ∧ x7 ≤ (List.length x0) then bif (decide ((IntKind.i64.wrap (x7 - x1)) > 8)) then (some ((Tok.mk 1 (Tok.n b6) (Tok.pos b6) (List.drop (Int.toNat x1) (List.take (Int.toNat x7) x0))), 0)) else (some ((Tok.mk 1 (Tok.n b6) (Tok.pos b6) (List.drop (Int.toNat x1) (List.take (Int.toNat x7) x0))), (IntKind.i64.wrap (x7 - x1)))) else none)) else none) else (if (0 : Int) ≤ x1 ∧ x1 ≤ x7 ∧ x7 ≤ (List.length x0) then bif (decide ((IntKind.i64.wrap (x7 - x1)) > 8)) then (some ((Tok.mk 1 (Tok.n b6) (Tok.pos b6) (List.drop (Int.toNat x1) (List.take (Int.toNat x7) x0))), 0)) else (some ((Tok.mk 1 (Tok.n b6) (Tok.pos b6) (List.drop (Int.toNat x1) (List.take (Int.toNat x7) x0))), (IntKind.i64.wrap (x7 - x1)))) else none)
def xDm (N : Nat) : Nat → Str → Int → Int → Tok → Tok → Option (Tok × Int)
 | 0, _, _, _, _, _ => none
 | n + 1, x0, x1, x7, b4, b6 => bif (decide (x7 < (List.length x0 : Int))) then (if (0 : Int) ≤ x7 ∧ x7 < (List.length x0) then (xFE N ((List.getD x0 (Int.toNat x7) 0).toNat : Int)).bind fun r1 => bif r1 then ((xDm N n x0 x1 (IntKind.i64.wrap (x7 + 1)) b4 b6)) else (if (0 : Int) ≤ x1 ∧ x1 ≤ x7 ∧ x7 ≤ (List.length x0) then (xE7 N (List.drop (Int.toNat x1) (List.take (Int.toNat x7) x0))).bind fun r2 => bif (!r2.2) then (some ((Tok.mk 2 r2.1 (Tok.pos b6) (Tok.text b6)), 0)) else (bif (decide (r2.1 > 1000000000)) then (some ((Tok.mk 2 r2.1 (Tok.pos b6) (Tok.text b6)), 0)) else (some ((Tok.mk 2 r2.1 (Tok.pos b6) (Tok.text b6)), (IntKind.i64.wrap (x7 - x1))))) else none) else none) else (if (0 : Int) ≤ x1 ∧ x1 ≤ x7 ∧ x7 ≤ (List.length x0) then (xE7 N (List.drop (Int.toNat x1) (List.take (Int.toNat x7) x0))).bind fun r1 => bif (!r1.2) then (some ((Tok.mk 2 r1.1 (Tok.pos b6) (Tok.text b6)), 0)) else (bif (decide (r1.1 > 1000000000)) then (some ((Tok.mk 2 r1.1 (Tok.pos b6) (Tok.text b6)), 0)) else (some ((Tok.mk 2 r1.1 (Tok.pos b6) (Tok.text b6)), (IntKind.i64.wrap (x7 - x1))))) else none)
def xE1 (N : Nat) : Nat → Str → Int → Int → Tok → Tok → Option (Tok × Int)
 | 0, _, _, _, _, _ => none
 | n + 1, x0, x1, x7, b4, b6 => bif (decide (x7 < (List.length x0 : Int))) then (if (0 : Int) ≤ x7 ∧ x7 < (List.length x0) then bif ((((List.getD x0 (Int.toNat x7) 0).toNat : Int) : Int) != 34) then ((xE1 N n x0 x1 (IntKind.i64.wrap (x7 + 1)) b4 b6)) else (if (0 : Int) ≤ (IntKind.i64.wrap (x1 + 1)) ∧ (IntKind.i64.wrap (x1 + 1)) ≤ x7 ∧ x7 ≤ (List.length x0) then bif (x7 == (List.length x0 : Int)) then (some ((Tok.mk 3 (Tok.n b6) (Tok.pos b6) (List.drop (Int.toNat (IntKind.i64.wrap (x1 + 1))) (List.take (Int.toNat x7) x0))), 0)) else ((xEp N (List.drop (Int.toNat (IntKind.i64.wrap (x1 + 1))) (List.take (Int.toNat x7) x0))).bind fun r1 => bif (!r1) then (some ((Tok.mk 3 (Tok.n b6) (Tok.pos b6) (List.drop (Int.toNat (IntKind.i64.wrap (x1 + 1))) (List.take (Int.toNat x7) x0))), 0)) else (some ((Tok.mk 3 (Tok.n b6) (Tok.pos b6) (List.drop (Int.toNat (IntKind.i64.wrap (x1 + 1))) (List.take (Int.toNat x7) x0))), (IntKind.i64.wrap ((IntKind.i64.wrap (x7 + 1)) - x1))))) else none) else none) else (if (0 : Int) ≤ (IntKind.i64.wrap (x1 + 1)) ∧ (IntKind.i64.wrap (x1 + 1)) ≤ x7 ∧ x7 ≤ (List.length x0) then bif (x7 == (List.length x0 : Int)) then (some ((Tok.mk 3 (Tok.n b6) (Tok.pos b6) (List.drop (Int.toNat (IntKind.i64.wrap (x1 + 1))) (List.take (Int.toNat x7) x0))), 0)) else ((xEp N (List.drop (Int.toNat (IntKind.i64.wrap (x1 + 1))) (List.take (Int.toNat x7) x0))).bind fun r1 => bif (!r1) then (some ((Tok.mk 3 (Tok.n b6) (Tok.pos b6) (List.drop (Int.toNat (IntKind.i64.wrap (x1 + 1))) (List.take (Int.toNat x7) x0))), 0)) else (some ((Tok.mk 3 (Tok.n b6) (Tok.pos b6) (List.drop (Int.toNat (IntKind.i64.wrap (x1 + 1))) (List.take (Int.toNat x7) x0))), (IntKind.i64.wrap ((IntKind.i64.wrap (x7 + 1)) - x1))))) else none)
def xHE (N : Nat) (a0 : Str) (a1 : Int) : Option (Tok × Int) := if (0 : Int) ≤ a1 ∧ a1 < (List.length a0) then (xFP N ((List.getD a0 (Int.toNat a1) 0).toNat : Int)).bind fun r1 => bif r1 then ((xDJ N N a0 a1 a1 (Tok.mk 0 0 0 []) (Tok.mk 0 0 a1 []))) else ((xFE N ((List.getD a0 (Int.toNat a1) 0).toNat : Int)).bind fun r2 => bif r2 then ((xDm N N a0 a1 a1 (Tok.mk 0 0 0 []) (Tok.mk 0 0 a1 []))) else (bif ((((List.getD a0 (Int.toNat a1) 0).toNat : Int) : Int) == 34) then ((xE1 N N a0 a1 (IntKind.i64.wrap (a1 + 1)) (Tok.mk 0 0 0 []) (Tok.mk 0 0 a1 []))) else ((xGz N a0 a1).bind fun r3 => if (0 : Int) ≤ a1 ∧ a1 ≤ (IntKind.i64.wrap (a1 + r3)) ∧ (IntKind.i64.wrap (a1 + r3)) ≤ (List.length a0) then some ((Tok.mk 4 0 a1 (List.drop (Int.toNat a1) (List.take (Int.toNat (IntKind.i64.wrap (a1 + r3))) a0))), (IntKind.i64.wrap ((IntKind.i64.wrap (a1 + r3)) - a1))) else none))) else none
def xC0 (a0 : Str) : List Arg := [.val (.v false [.str a0])]
def xA6 (r : (List Tok) × Int) : CallO := ⟨.tup [(false, [.sl .own .tok r.1]), (false, [.int .i64 r.2])], [], []⟩
def xDT (N : Nat) : Nat → Str → (List Tok) → Int → Option ((List Tok) × Int)
 | 0, _, _, _ => none
 | n + 1, x0, x4, x5 => bif (decide (x5 < (List.length x0 : Int))) then (if (0 : Int) ≤ x5 ∧ x5 < (List.length x0) then bif ((((List.getD x0 (Int.toNat x5) 0).toNat : Int) : Int) == 32) then ((xDT N n x0 x4 (IntKind.i64.wrap (x5 + 1)))) else ((xHE N x0 x5).bind fun r1 => bif (r1.2 == 0) then (some ([], x5)) else (bif ((List.length x4 : Int) == 60) then (some ([], x5)) else (if List.length x4 + List.length [r1.1] ≤ Lim then (xDT N n x0 (x4 ++ [r1.1]) (IntKind.i64.wrap (x5 + r1.2))) else none))) else none) else (some (x4, (-1)))
def xE8 (N : Nat) (a0 : Str) : Option ((List Tok) × Int) := bif (decide ((List.length a0 : Int) > 120)) then (some ([], 120)) else ((xDT N N a0 [] 0))
def xDY (N : Nat) (a0 : Tok) (a1 : Str) : Option (Bool) := bif ((Tok.kind a0) == 4) then (some (((Tok.text a0) : Str) == a1)) else (some false)
def xH8 (N : Nat) (a0 : Tok) (a1 : Str) : Option (Bool) := bif ((Tok.kind a0) == 1) then (some (((Tok.text a0) : Str) == a1)) else (some false)
def xBN (N : Nat) (a0 : Rdr) (a1 : Str) : Option (Bool × Rdr) := bif (decide ((Rdr.bad a0) < 0)) then (bif (decide ((Rdr.i a0) < (List.length (Rdr.toks a0) : Int))) then (if (0 : Int) ≤ (Rdr.i a0) ∧ (Rdr.i a0) < (List.length (Rdr.toks a0)) then (xDY N (List.getD (Rdr.toks a0) (Int.toNat (Rdr.i a0)) Ty.tok.dflt) a1).bind fun r1 => bif r1 then (some (true, a0)) else ((xH8 N (List.getD (Rdr.toks a0) (Int.toNat (Rdr.i a0)) Ty.tok.dflt) a1).bind fun r2 => some (r2, a0)) else none) else (some (false, a0))) else (some (false, a0))
def xE0 (a0 : Str) : List Arg := [.val (.v false [.str a0])]
def xBa (r : Bool) : CallO := ⟨.v false [.bool r], [], []⟩
def xCU (N : Nat) : Nat → Str → Int → Option (Bool)
 | 0, _, _ => none
 | n + 1, x0, x3 => bif (decide (x3 < (List.length x0 : Int))) then (if (0 : Int) ≤ x3 ∧ x3 < (List.length x0) then bif (decide ((((List.getD x0 (Int.toNat x3) 0).toNat : Int) : Int) ≥ 97)) then (bif (decide ((((List.getD x0 (Int.toNat x3) 0).toNat : Int) : Int) ≥ 48)) then (bif (!(decide ((((List.getD x0 (Int.toNat x3) 0).toNat : Int) : Int) ≤ 122))) then (bif (x3 == 0) then (some false) else (bif (!(decide ((((List.getD x0 (Int.toNat x3) 0).toNat : Int) : Int) ≤ 57))) then (some false) else ((xCU N n x0 (IntKind.i64.wrap (x3 + 1)))))) else ((xCU N n x0 (IntKind.i64.wrap (x3 + 1))))) else (bif (!(decide ((((List.getD x0 (Int.toNat x3) 0).toNat : Int) : Int) ≤ 122))) then (bif (x3 == 0) then (some false) else (some false)) else ((xCU N n x0 (IntKind.i64.wrap (x3 + 1)))))) else (bif (decide ((((List.getD x0 (Int.toNat x3) 0).toNat : Int) : Int) ≥ 48)) then (bif (x3 == 0) then (some false) else (bif (!(decide ((((List.getD x0 (Int.toNat x3) 0).toNat : Int) : Int) ≤ 57))) then (some false) else ((xCU N n x0 (IntKind.i64.wrap (x3 + 1)))))) else (bif (x3 == 0) then (some false) else (some false))) else none) else (some (decide ((List.length x0 : Int) > 0)))
def xHU (N : Nat) (a0 : Str) : Option (Bool) := (xCU N N a0 0)
def xFo : List Arg := []
def xEE (r : (List Str)) : CallO := ⟨.v false [.sl .own .str r], [], []⟩
def xGy (N : Nat) : Option ((List Str)) := some [[108, 101, 116], [105, 110], [105, 102], [116, 104, 101, 110], [101, 108, 115, 101], [102, 111, 114], [100, 111], [108, 101, 110], [115, 117, 109], [116, 97, 107, 101], [115, 107, 105, 112], [114, 97, 110, 103, 101], [110, 116, 104], [119, 104, 101, 114, 101], [107, 101, 101, 112], [97, 100, 100], [103, 114, 111, 117, 112], [106, 111, 105, 110], [99, 111, 108, 117, 109, 110], [114, 111, 119, 115], [99, 108, 111, 99, 107], [99, 104, 97, 110, 99, 101], [102, 105, 108, 101], [116, 97, 98, 108, 101]]
def xHf (a0 : List Str) (a1 : Str) : List Arg := [.val (.v false [.sl .ro .str a0]), .val (.v false [.str a1])]
def xFb (r : Bool) : CallO := ⟨.v false [.bool r], [], []⟩
def xFa (N : Nat) : Nat → (List Str) → Str → Int → Option (Bool)
 | 0, _, _, _ => none
 | n + 1, x0, x1, x5 => bif (decide (x5 < (List.length x0 : Int))) then (if (0 : Int) ≤ x5 ∧ x5 < (List.length x0) then bif (((List.getD x0 (Int.toNat x5) Ty.str.dflt) : Str) == x1) then (some true) else ((xFa N n x0 x1 (IntKind.i64.wrap (x5 + 1)))) else none) else (some false)
def xJu (N : Nat) (a0 : List Str) (a1 : Str) : Option (Bool) := (xFa N N a0 a1 0)
def xFn (a0 : Str) : List Arg := [.val (.v false [.str a0])]
def xEC (r : Bool) : CallO := ⟨.v false [.bool r], [], []⟩
def xFu (N : Nat) (a0 : Str) : Option (Bool) := (xGy N).bind fun r1 => (xJu N r1 a0).bind fun r2 => some r2
def xCw (a0 : Str) : List Arg := [.val (.v false [.str a0])]
def xBv (r : Bool) : CallO := ⟨.v false [.bool r], [], []⟩
def xCZ (N : Nat) (a0 : Str) : Option (Bool) := (xHU N a0).bind fun r1 => bif r1 then (bif (decide ((List.length a0 : Int) ≤ 8)) then ((xFu N a0).bind fun r2 => some (!r2)) else (some false)) else (some false)
def xB7 (N : Nat) (a0 : Rdr) : Option (Exp × Rdr) := bif (decide ((Rdr.bad a0) < 0)) then (bif (decide ((Rdr.i a0) < (List.length (Rdr.toks a0) : Int))) then (if (0 : Int) ≤ (Rdr.i a0) ∧ (Rdr.i a0) < (List.length (Rdr.toks a0)) then some ((Exp.mk 0 0 [] []), (Rdr.mk (Rdr.toks a0) (Rdr.i a0) (Rdr.fin a0) (Tok.pos (List.getD (Rdr.toks a0) (Int.toNat (Rdr.i a0)) Ty.tok.dflt)))) else none) else (some ((Exp.mk 0 0 [] []), (Rdr.mk (Rdr.toks a0) (Rdr.i a0) (Rdr.fin a0) (Rdr.fin a0))))) else (some ((Exp.mk 0 0 [] []), a0))
def xD5 (N : Nat) (a0 : Rdr) : Option (Str × Rdr) := bif (decide ((Rdr.bad a0) ≥ 0)) then ((xB7 N a0).bind fun r1 => some ([], r1.2)) else (bif (decide ((Rdr.i a0) ≥ (List.length (Rdr.toks a0) : Int))) then ((xB7 N a0).bind fun r1 => some ([], r1.2)) else (if (0 : Int) ≤ (Rdr.i a0) ∧ (Rdr.i a0) < (List.length (Rdr.toks a0)) then bif (((Tok.kind (List.getD (Rdr.toks a0) (Int.toNat (Rdr.i a0)) Ty.tok.dflt)) : Int) != 1) then ((xB7 N a0).bind fun r1 => some ([], r1.2)) else ((xCZ N (Tok.text (List.getD (Rdr.toks a0) (Int.toNat (Rdr.i a0)) Ty.tok.dflt))).bind fun r1 => bif (!r1) then ((xB7 N a0).bind fun r2 => some ([], r2.2)) else (if (0 : Int) ≤ (IntKind.i64.wrap ((IntKind.i64.wrap ((Rdr.i a0) + 1)) - 1)) ∧ (IntKind.i64.wrap ((IntKind.i64.wrap ((Rdr.i a0) + 1)) - 1)) < (List.length (Rdr.toks a0)) then some ((Tok.text (List.getD (Rdr.toks a0) (Int.toNat (IntKind.i64.wrap ((IntKind.i64.wrap ((Rdr.i a0) + 1)) - 1))) Ty.tok.dflt)), (Rdr.mk (Rdr.toks a0) (IntKind.i64.wrap ((Rdr.i a0) + 1)) (Rdr.fin a0) (Rdr.bad a0))) else none)) else none))
def xBA (N : Nat) (a0 : Rdr) (a1 : Str) : Option (Rdr) := (xBN N a0 a1).bind fun r1 => bif (!r1.1) then ((xB7 N r1.2).bind fun r2 => some r2.2) else (some (Rdr.mk (Rdr.toks r1.2) (IntKind.i64.wrap ((Rdr.i r1.2) + 1)) (Rdr.fin r1.2) (Rdr.bad r1.2)))
def xFj (a0 : Int) : List Arg := [.val (.v false [.int .i64 a0])]
def xBj (r : Exp) : CallO := ⟨.v true (Ex .own r), [], []⟩
def xB9 (N : Nat) (a0 : Int) : Option (Exp) := some (Exp.mk 1 a0 [] [])
def xGw (a0 : Str) : List Arg := [.val (.v false [.str a0])]
def xFA (r : Exp) : CallO := ⟨.v true (Ex .own r), [], []⟩
def xHS (N : Nat) (a0 : Str) : Option (Exp) := some (Exp.mk 3 0 a0 [])
def xAq (a0 : Str) : List Arg := [.val (.v false [.str a0])]
def xAo (r : Int) : CallO := ⟨.v false [.int .i64 r], [], []⟩
def xBL (N : Nat) (a0 : Str) : Option (Int) := bif ((a0 : Str) == [99, 108, 111, 99, 107]) then (some 0) else (bif ((a0 : Str) == [108, 101, 110]) then (some 1) else (bif ((a0 : Str) == [115, 117, 109]) then (some 1) else (bif ((a0 : Str) == [114, 111, 119, 115]) then (some 1) else (bif ((a0 : Str) == [99, 104, 97, 110, 99, 101]) then (some 1) else (bif ((a0 : Str) == [102, 105, 108, 101]) then (some 1) else (bif ((a0 : Str) == [116, 97, 107, 101]) then (some 2) else (bif ((a0 : Str) == [115, 107, 105, 112]) then (some 2) else (bif ((a0 : Str) == [114, 97, 110, 103, 101]) then (some 2) else (bif ((a0 : Str) == [110, 116, 104]) then (some 2) else (bif ((a0 : Str) == [107, 101, 101, 112]) then (some 2) else (bif ((a0 : Str) == [99, 111, 108, 117, 109, 110]) then (some 2) else (bif ((a0 : Str) == [116, 97, 98, 108, 101]) then (some 2) else (bif ((a0 : Str) == [119, 104, 101, 114, 101]) then (some 3) else (bif ((a0 : Str) == [103, 114, 111, 117, 112]) then (some 3) else (bif ((a0 : Str) == [106, 111, 105, 110]) then (some 3) else (bif ((a0 : Str) == [97, 100, 100]) then (some 4) else (some (-1))))))))))))))))))
def xFK (a0 : Int) (a1 : Exp) (a2 : Exp) : List Arg := [.val (.v false [.int .i64 a0]), .val (.v true (Ex .tip a1)), .val (.v true (Ex .tip a2))]
def xDZ (r : Exp) : CallO := ⟨.v true (Ex .tip r), [], []⟩
def xDb (N : Nat) (a0 : Int) (a1 : Exp) (a2 : Exp) : Option (Exp) := some (Exp.mk 6 a0 [] [(Exp.re a1), (Exp.re a2)])
def xFB (N : Nat) (q0 : Rdr → Str → Option ((List Exp) × Rdr)) (q1 : Rdr → Option (Exp × Rdr)) (q2 : Rdr → Option (Exp × Rdr)) (q3 : Rdr → Option (Exp × Rdr)) (q4 : Rdr → Option (Exp × Rdr)) (q5 : Rdr → Option (Exp × Rdr)) : Nat → Str → (List Exp) → Rdr → Option ((List Exp) × Rdr)
 | 0, _, _, _ => none
 | n + 1, x1, x5, b0 => bif (decide ((Rdr.bad b0) < 0)) then ((q3 b0).bind fun r1 => if List.length x5 + List.length [(Exp.re r1.1)] ≤ Lim then (xBN N r1.2 [44]).bind fun r2 => bif (!r2.1) then ((xBA N r2.2 x1).bind fun r3 => some ((x5 ++ [(Exp.re r1.1)]), r3)) else ((xFB N q0 q1 q2 q3 q4 q5 n x1 (x5 ++ [(Exp.re r1.1)]) (Rdr.mk (Rdr.toks r2.2) (IntKind.i64.wrap ((Rdr.i r2.2) + 1)) (Rdr.fin r2.2) (Rdr.bad r2.2)))) else none) else ((xBA N b0 x1).bind fun r1 => some (x5, r1))
def xEV (N : Nat) (q0 : Rdr → Str → Option ((List Exp) × Rdr)) (q1 : Rdr → Option (Exp × Rdr)) (q2 : Rdr → Option (Exp × Rdr)) (q3 : Rdr → Option (Exp × Rdr)) (q4 : Rdr → Option (Exp × Rdr)) (q5 : Rdr → Option (Exp × Rdr)) (a0 : Rdr) (a1 : Str) : Option ((List Exp) × Rdr) := (xBN N a0 a1).bind fun r1 => bif r1.1 then (some ([], (Rdr.mk (Rdr.toks r1.2) (IntKind.i64.wrap ((Rdr.i r1.2) + 1)) (Rdr.fin r1.2) (Rdr.bad r1.2)))) else ((xFB N q0 q1 q2 q3 q4 q5 N a1 [] r1.2))
def xEW (N : Nat) (q0 : Rdr → Str → Option ((List Exp) × Rdr)) (q1 : Rdr → Option (Exp × Rdr)) (q2 : Rdr → Option (Exp × Rdr)) (q3 : Rdr → Option (Exp × Rdr)) (q4 : Rdr → Option (Exp × Rdr)) (q5 : Rdr → Option (Exp × Rdr)) (a0 : Rdr) : Option (Exp × Rdr) := bif (decide ((Rdr.bad a0) ≥ 0)) then ((xB7 N a0).bind fun r1 => some (r1.1, r1.2)) else (bif (decide ((Rdr.i a0) ≥ (List.length (Rdr.toks a0) : Int))) then ((xB7 N a0).bind fun r1 => some (r1.1, r1.2)) else (if (0 : Int) ≤ (Rdr.i a0) ∧ (Rdr.i a0) < (List.length (Rdr.toks a0)) then bif (((Tok.kind (List.getD (Rdr.toks a0) (Int.toNat (Rdr.i a0)) Ty.tok.dflt)) : Int) == 2) then ((xB9 N (Tok.n (List.getD (Rdr.toks a0) (Int.toNat (Rdr.i a0)) Ty.tok.dflt))).bind fun r1 => some (r1, (Rdr.mk (Rdr.toks a0) (IntKind.i64.wrap ((Rdr.i a0) + 1)) (Rdr.fin a0) (Rdr.bad a0)))) else (bif (((Tok.kind (List.getD (Rdr.toks a0) (Int.toNat (Rdr.i a0)) Ty.tok.dflt)) : Int) == 3) then (some ((Exp.mk 2 0 (Tok.text (List.getD (Rdr.toks a0) (Int.toNat (Rdr.i a0)) Ty.tok.dflt)) []), (Rdr.mk (Rdr.toks a0) (IntKind.i64.wrap ((Rdr.i a0) + 1)) (Rdr.fin a0) (Rdr.bad a0)))) else (bif (((Tok.kind (List.getD (Rdr.toks a0) (Int.toNat (Rdr.i a0)) Ty.tok.dflt)) : Int) == 1) then ((xCZ N (Tok.text (List.getD (Rdr.toks a0) (Int.toNat (Rdr.i a0)) Ty.tok.dflt))).bind fun r1 => bif r1 then ((xHS N (Tok.text (List.getD (Rdr.toks a0) (Int.toNat (Rdr.i a0)) Ty.tok.dflt))).bind fun r2 => some (r2, (Rdr.mk (Rdr.toks a0) (IntKind.i64.wrap ((Rdr.i a0) + 1)) (Rdr.fin a0) (Rdr.bad a0)))) else ((xBL N (Tok.text (List.getD (Rdr.toks a0) (Int.toNat (Rdr.i a0)) Ty.tok.dflt))).bind fun r2 => bif (decide (r2 ≥ 0)) then ((xBA N (Rdr.mk (Rdr.toks a0) (IntKind.i64.wrap ((Rdr.i a0) + 1)) (Rdr.fin a0) (Rdr.bad a0)) [40]).bind fun r3 => (q0 r3 [41]).bind fun r4 => some ((Exp.mk 5 0 (Tok.text (List.getD (Rdr.toks a0) (Int.toNat (Rdr.i a0)) Ty.tok.dflt)) r4.1), r4.2)
     ) else ((xDY N (List.getD (Rdr.toks a0) (Int.toNat (Rdr.i a0)) Ty.tok.dflt) [91]).bind fun r3 => bif r3 then ((q0 (Rdr.mk (Rdr.toks a0) (IntKind.i64.wrap ((Rdr.i a0) + 1)) (Rdr.fin a0) (Rdr.bad a0)) [93]).bind fun r4 => some ((Exp.mk 4 0 [] r4.1), r4.2)) else ((xDY N (List.getD (Rdr.toks a0) (Int.toNat (Rdr.i a0)) Ty.tok.dflt) [40]).bind fun r4 => bif r4 then ((q3 (Rdr.mk (Rdr.toks a0) (IntKind.i64.wrap ((Rdr.i a0) + 1)) (Rdr.fin a0) (Rdr.bad a0))).bind fun r5 => (xBA N r5.2 [41]).bind fun r6 => some (r5.1, r6)) else ((xB7 N a0).bind fun r5 => some (r5.1, r5.2)))))) else ((xDY N (List.getD (Rdr.toks a0) (Int.toNat (Rdr.i a0)) Ty.tok.dflt) [91]).bind fun r1 => bif r1 then ((q0 (Rdr.mk (Rdr.toks a0) (IntKind.i64.wrap ((Rdr.i a0) + 1)) (Rdr.fin a0) (Rdr.bad a0)) [93]).bind fun r2 => some ((Exp.mk 4 0 [] r2.1), r2.2)) else ((xDY N (List.getD (Rdr.toks a0) (Int.toNat (Rdr.i a0)) Ty.tok.dflt) [40]).bind fun r2 => bif r2 then ((q3 (Rdr.mk (Rdr.toks a0) (IntKind.i64.wrap ((Rdr.i a0) + 1)) (Rdr.fin a0) (Rdr.bad a0))).bind fun r3 => (xBA N r3.2 [41]).bind fun r4 => some (r3.1, r4)) else ((xB7 N a0).bind fun r3 => some (r3.1, r3.2)))))) else none))
def xDV (N : Nat) (q0 : Rdr → Str → Option ((List Exp) × Rdr)) (q1 : Rdr → Option (Exp × Rdr)) (q2 : Rdr → Option (Exp × Rdr)) (q3 : Rdr → Option (Exp × Rdr)) (q4 : Rdr → Option (Exp × Rdr)) (q5 : Rdr → Option (Exp × Rdr)) (a0 : Rdr) : Option (Exp × Rdr) := (q5 a0).bind fun r1 => (xBN N r1.2 [60]).bind fun r2 => bif r2.1 then ((q5 (Rdr.mk (Rdr.toks r2.2) (IntKind.i64.wrap ((Rdr.i r2.2) + 1)) (Rdr.fin r2.2) (Rdr.bad r2.2))).bind fun r3 => (xDb N 4 r1.1 r3.1).bind fun r4 => some (r4, r3.2)) else ((xBN N r2.2 [61, 61]).bind fun r3 => bif r3.1 then ((q5 (Rdr.mk (Rdr.toks r3.2) (IntKind.i64.wrap ((Rdr.i r3.2) + 1)) (Rdr.fin r3.2) (Rdr.bad r3.2))).bind fun r4 => (xDb N 5 r1.1 r4.1).bind fun r5 => some (r5, r4.2)) else (some (r1.1, r3.2)))
def xEX (N : Nat) (q0 : Rdr → Str → Option ((List Exp) × Rdr)) (q1 : Rdr → Option (Exp × Rdr)) (q2 : Rdr → Option (Exp × Rdr)) (q3 : Rdr → Option (Exp × Rdr)) (q4 : Rdr → Option (Exp × Rdr)) (q5 : Rdr → Option (Exp × Rdr)) (a0 : Rdr) : Option (Exp × Rdr) := (xBN N a0 [108, 101, 116]).bind fun r1 => bif r1.1 then ((xD5 N (Rdr.mk (Rdr.toks r1.2) (IntKind.i64.wrap ((Rdr.i r1.2) + 1)) (Rdr.fin r1.2) (Rdr.bad r1.2))).bind fun r2 => (xBA N r2.2 [61]).bind fun r3 => (q3 r3).bind fun r4 => (xBA N r4.2 [105, 110]).bind fun r5 => (q3 r5).bind fun r6 => some ((Exp.mk 7 0 r2.1 [(Exp.re r4.1), (Exp.re r6.1)]), r6.2)) else ((xBN N r1.2 [105, 102]).bind fun r2 => bif r2.1 then ((q3 (Rdr.mk (Rdr.toks r2.2) (IntKind.i64.wrap ((Rdr.i r2.2) + 1)) (Rdr.fin r2.2) (Rdr.bad r2.2))).bind fun r3 => (xBA N r3.2 [116, 104, 101, 110]).bind fun r4 => (q3 r4).bind fun r5 => (xBA N r5.2 [101, 108, 115, 101]).bind fun r6 => (q3 r6).bind fun r7 => some ((Exp.mk 8 0 [] [(Exp.re r3.1), (Exp.re r5.1), (Exp.re r7.1)]), r7.2)) else ((xBN N r2.2 [102, 111, 114]).bind fun r3 => bif r3.1 then ((xD5 N (Rdr.mk (Rdr.toks r3.2) (IntKind.i64.wrap ((Rdr.i r3.2) + 1)) (Rdr.fin r3.2) (Rdr.bad r3.2))).bind fun r4 => (xBA N r4.2 [105, 110]).bind fun r5 => (q3 r5).bind fun r6 => (xBA N r6.2 [100, 111]).bind fun r7 => (q3 r7).bind fun r8 => some ((Exp.mk 9 0 r4.1 [(Exp.re r6.1), (Exp.re r8.1)]), r8.2)) else ((q2 r3.2).bind fun r4 => some (r4.1, r4.2))))
def xDj (N : Nat) (q0 : Rdr → Str → Option ((List Exp) × Rdr)) (q1 : Rdr → Option (Exp × Rdr)) (q2 : Rdr → Option (Exp × Rdr)) (q3 : Rdr → Option (Exp × Rdr)) (q4 : Rdr → Option (Exp × Rdr)) (q5 : Rdr → Option (Exp × Rdr)) : Nat → Rdr → Exp → Exp → Option (Exp × Rdr)
 | 0, _, _, _ => none
 | n + 1, b0, b2, b3 => (xBN N b0 [42]).bind fun r1 => bif r1.1 then ((q1 (Rdr.mk (Rdr.toks r1.2) (IntKind.i64.wrap ((Rdr.i r1.2) + 1)) (Rdr.fin r1.2) (Rdr.bad r1.2))).bind fun r2 => (xDb N 3 b3 r2.1).bind fun r3 => (xDj N q0 q1 q2 q3 q4 q5 n r2.2 b2 r3)) else (some (b3, r1.2))
def xDW (N : Nat) (q0 : Rdr → Str → Option ((List Exp) × Rdr)) (q1 : Rdr → Option (Exp × Rdr)) (q2 : Rdr → Option (Exp × Rdr)) (q3 : Rdr → Option (Exp × Rdr)) (q4 : Rdr → Option (Exp × Rdr)) (q5 : Rdr → Option (Exp × Rdr)) (a0 : Rdr) : Option (Exp × Rdr) := (q1 a0).bind fun r1 => (xDj N q0 q1 q2 q3 q4 q5 N r1.2 (Exp.mk 0 0 [] []) r1.1)
def xCS (N : Nat) (q0 : Rdr → Str → Option ((List Exp) × Rdr)) (q1 : Rdr → Option (Exp × Rdr)) (q2 : Rdr → Option (Exp × Rdr)) (q3 : Rdr → Option (Exp × Rdr)) (q4 : Rdr → Option (Exp × Rdr)) (q5 : Rdr → Option (Exp × Rdr)) : Nat → Rdr → Exp → Exp → Option (Exp × Rdr)
 | 0, _, _, _ => none
 | n + 1, b0, b2, b3 => (xBN N b0 [43]).bind fun r1 => bif r1.1 then ((xBN N r1.2 [45]).bind fun r2 => bif r2.1 then ((q4 (Rdr.mk (Rdr.toks r2.2) (IntKind.i64.wrap ((Rdr.i r2.2) + 1)) (Rdr.fin r2.2) (Rdr.bad r2.2))).bind fun r3 => (xDb N 2 b3 r3.1).bind fun r4 => (xCS N q0 q1 q2 q3 q4 q5 n r3.2 b2 r4)) else ((q4 (Rdr.mk (Rdr.toks r2.2) (IntKind.i64.wrap ((Rdr.i r2.2) + 1)) (Rdr.fin r2.2) (Rdr.bad r2.2))).bind fun r3 => (xDb N 1 b3 r3.1).bind fun r4 => (xCS N q0 q1 q2 q3 q4 q5 n r3.2 b2 r4))) else ((xBN N r1.2 [45]).bind fun r2 => bif r2.1 then ((xBN N r2.2 [45]).bind fun r3 => bif r3.1 then ((q4 (Rdr.mk (Rdr.toks r3.2) (IntKind.i64.wrap ((Rdr.i r3.2) + 1)) (Rdr.fin r3.2) (Rdr.bad r3.2))).bind fun r4 => (xDb N 2 b3 r4.1).bind fun r5 => (xCS N q0 q1 q2 q3 q4 q5 n r4.2 b2 r5)) else ((q4 (Rdr.mk (Rdr.toks r3.2) (IntKind.i64.wrap ((Rdr.i r3.2) + 1)) (Rdr.fin r3.2) (Rdr.bad r3.2))).bind fun r4 => (xDb N 1 b3 r4.1).bind fun r5 => (xCS N q0 q1 q2 q3 q4 q5 n r4.2 b2 r5))) else (some (b3, r2.2)))
def xFg (N : Nat) (q0 : Rdr → Str → Option ((List Exp) × Rdr)) (q1 : Rdr → Option (Exp × Rdr)) (q2 : Rdr → Option (Exp × Rdr)) (q3 : Rdr → Option (Exp × Rdr)) (q4 : Rdr → Option (Exp × Rdr)) (q5 : Rdr → Option (Exp × Rdr)) (a0 : Rdr) : Option (Exp × Rdr) := (q4 a0).bind fun r1 => (xCS N q0 q1 q2 q3 q4 q5 N r1.2 (Exp.mk 0 0 [] []) r1.1)
structure spec_l11Args_rec where
 c_spec_l11Args : Rdr → Str → Option ((List Exp) × Rdr)
 c_spec_l11Atom : Rdr → Option (Exp × Rdr)
 c_spec_l11Compare : Rdr → Option (Exp × Rdr)
 c_spec_l11Expr : Rdr → Option (Exp × Rdr)
 c_spec_l11Product : Rdr → Option (Exp × Rdr)
 c_spec_l11Sum : Rdr → Option (Exp × Rdr)
def xAb (N : Nat) : Nat → spec_l11Args_rec
 | 0 => ⟨fun _ _ => none, fun _ => none, fun _ => none, fun _ => none, fun _ => none, fun _ => none⟩
 | d + 1 => ⟨xEV N (xAb N d).c_spec_l11Args (xAb N d).c_spec_l11Atom (xAb N d).c_spec_l11Compare (xAb N d).c_spec_l11Expr (xAb N d).c_spec_l11Product (xAb N d).c_spec_l11Sum, xEW N (xAb N d).c_spec_l11Args (xAb N d).c_spec_l11Atom (xAb N d).c_spec_l11Compare (xAb N d).c_spec_l11Expr (xAb N d).c_spec_l11Product (xAb N d).c_spec_l11Sum, xDV N (xAb N d).c_spec_l11Args (xAb N d).c_spec_l11Atom (xAb N d).c_spec_l11Compare (xAb N d).c_spec_l11Expr (xAb N d).c_spec_l11Product (xAb N d).c_spec_l11Sum, xEX N (xAb N d).c_spec_l11Args (xAb N d).c_spec_l11Atom (xAb N d).c_spec_l11Compare (xAb N d).c_spec_l11Expr (xAb N d).c_spec_l11Product (xAb N d).c_spec_l11Sum, xDW N (xAb N d).c_spec_l11Args (xAb N d).c_spec_l11Atom (xAb N d).c_spec_l11Compare (xAb N d).c_spec_l11Expr (xAb N d).c_spec_l11Product (xAb N d).c_spec_l11Sum, xFg N (xAb N d).c_spec_l11Args (xAb N d).c_spec_l11Atom (xAb N d).c_spec_l11Compare (xAb N d).c_spec_l11Expr (xAb N d).c_spec_l11Product (xAb N d).c_spec_l11Sum⟩
def xJk (N : Nat) (a0 : Rdr) : Option (Exp × Rdr) := (xAb N N).c_spec_l11Expr a0
def xDi (a0 : Exp) (a1 : Int) : List Arg := [.val (.v true (Ex .ro a0)), .val (.v false [.int .i64 a1])]
def xBw (r : Int) : CallO := ⟨.v false [.int .i64 r], [], []⟩
def xDK (N : Nat) (q0 : Exp → Int → Option (Int)) : Nat → Int → Int → Exp → Option (Int)
 | 0, _, _, _ => none
 | n + 1, x1, x5, b2 => bif (decide (x5 < (List.length (Exp.args b2) : Int))) then (bif (decide (x1 ≥ 0)) then (if (0 : Int) ≤ x5 ∧ x5 < (List.length (Exp.args b2)) then (q0 (List.getD (Exp.args b2) (Int.toNat x5) Ty.exp.dflt) x1).bind fun r1 => (xDK N q0 n r1 (IntKind.i64.wrap (x5 + 1)) b2) else none) else (some x1)) else (some x1)
def xGN (N : Nat) (q0 : Exp → Int → Option (Int)) (a0 : Exp) (a1 : Int) : Option (Int) := (xDK N q0 N (IntKind.i64.wrap (a1 - 1)) 0 a0)
def xEs (N : Nat) : Nat → Exp → Int → Option (Int)
 | 0, _, _ => none
 | d + 1, a0, a1 => xGN N (xEs N d) a0 a1
def xJh (N : Nat) (a0 : Exp) (a1 : Int) : Option (Int) := xEs N N a0 a1
def xGx (a0 : Int) (a1 : Int) : List Arg := [.val (.v false [.int .i64 a0]), .val (.v false [.int .i64 a1])]
def xFM (r : Int) : CallO := ⟨.v false [.int .i64 r], [], []⟩
def xIl (N : Nat) (a0 : Int) (a1 : Int) : Option (Int) := bif (decide (a0 > a1)) then (some a0) else (some a1)
def xDa (a0 : Exp) : List Arg := [.val (.v true (Ex .ro a0))]
def xBH (r : Int) : CallO := ⟨.v false [.int .i64 r], [], []⟩
def xD8 (N : Nat) (q0 : Exp → Option (Int)) : Nat → Int → Int → Exp → Option (Int)
 | 0, _, _, _ => none
 | n + 1, x3, x4, b1 => bif (decide (x4 < (List.length (Exp.args b1) : Int))) then (if (0 : Int) ≤ x4 ∧ x4 < (List.length (Exp.args b1)) then (q0 (List.getD (Exp.args b1) (Int.toNat x4) Ty.exp.dflt)).bind fun r1 => (xIl N x3 r1).bind fun r2 => (xD8 N q0 n r2 (IntKind.i64.wrap (x4 + 1)) b1) else none) else (some (IntKind.i64.wrap (x3 + 1)))
def xGf (N : Nat) (q0 : Exp → Option (Int)) (a0 : Exp) : Option (Int) := (xD8 N q0 N 0 0 a0)
def xED (N : Nat) : Nat → Exp → Option (Int)
 | 0, _ => none
 | d + 1, a0 => xGf N (xED N d) a0
def xH9 (N : Nat) (a0 : Exp) : Option (Int) := xED N N a0
def xE4 (a0 : Int) (a1 : Int) (a2 : Int) : List Arg := [.val (.v false [.int .i64 a0]), .val (.v false [.int .i64 a1]), .val (.v false [.int .i64 a2])]
def xDs (r : Bool) : CallO := ⟨.v false [.bool r], [], []⟩
def xHB (N : Nat) (a0 : Int) (a1 : Int) (a2 : Int) : Option (Bool) := bif (decide (a0 ≥ a1)) then (some (decide (a0 ≤ a2))) else (some false)
def xAu (a0 : Exp) : List Arg := [.val (.v true (Ex .ro a0))]
def xAt (r : Bool) : CallO := ⟨.v false [.bool r], [], []⟩
def xG4 (N : Nat) (a0 : Exp) : Option (Bool) := bif ((Exp.kind a0) == 1) then (bif ((List.length (Exp.args a0) : Int) == 0) then (bif (((Exp.text a0) : Str) == []) then ((xHB N (Exp.n a0) 0 1000000000).bind fun r1 => some r1) else (some false)) else (some false)) else (bif ((Exp.kind a0) == 2) then (bif ((List.length (Exp.args a0) : Int) == 0) then (bif ((Exp.n a0) == 0) then ((xEp N (Exp.text a0)).bind fun r1 => some r1) else (some false)) else (some false)) else (bif ((Exp.kind a0) == 3) then (bif ((List.length (Exp.args a0) : Int) == 0) then (bif ((Exp.n a0) == 0) then ((xCZ N (Exp.text a0)).bind fun r1 => some r1) else (some false)) else (some false)) else (bif ((Exp.kind a0) == 4) then (bif ((Exp.n a0) == 0) then (bif (((Exp.text a0) : Str) == []) then (some (decide ((List.length (Exp.args a0) : Int) ≤ 8))) else (some false)) else (some false)) else (bif ((Exp.kind a0) == 5) then (bif ((Exp.n a0) == 0) then ((xBL N (Exp.text a0)).bind fun r1 => some ((List.length (Exp.args a0) : Int) == r1)) else (some false)) else (bif ((Exp.kind a0) == 6) then (bif (((Exp.text a0) : Str) == []) then (bif ((List.length (Exp.args a0) : Int) == 2) then ((xHB N (Exp.n a0) 1 5).bind fun r1 => some r1) else (some false)) else (some false)) else (bif ((Exp.kind a0) == 7) then (bif ((Exp.n a0) == 0) then (bif ((List.length (Exp.args a0) : Int) == 2) then ((xCZ N (Exp.text a0)).bind fun r1 => some r1) else (some false)) else (some false)) else (bif ((Exp.kind a0) == 9) then (bif ((Exp.n a0) == 0) then (bif ((List.length (Exp.args a0) : Int) == 2) then ((xCZ N (Exp.text a0)).bind fun r1 => some r1) else (some false)) else (some false)) else (bif ((Exp.kind a0) == 8) then (bif ((Exp.n a0) == 0) then (bif (((Exp.text a0) : Str) == []) then (some ((List.length (Exp.args a0) : Int) == 3)
            ) else (some false)) else (some false)) else (some false)))))))))
def xD4 (a0 : Exp) : List Arg := [.val (.v true (Ex .ro a0))]
def xCc (r : Bool) : CallO := ⟨.v false [.bool r], [], []⟩
def xEH (N : Nat) (q0 : Exp → Option (Bool)) : Nat → Int → Exp → Option (Bool)
 | 0, _, _ => none
 | n + 1, x3, b1 => bif (decide (x3 < (List.length (Exp.args b1) : Int))) then (if (0 : Int) ≤ x3 ∧ x3 < (List.length (Exp.args b1)) then (q0 (List.getD (Exp.args b1) (Int.toNat x3) Ty.exp.dflt)).bind fun r1 => bif (!r1) then (some false) else ((xEH N q0 n (IntKind.i64.wrap (x3 + 1)) b1)) else none) else ((xG4 N b1).bind fun r1 => some r1)
def xG8 (N : Nat) (q0 : Exp → Option (Bool)) (a0 : Exp) : Option (Bool) := (xEH N q0 N 0 a0)
def xFw (N : Nat) : Nat → Exp → Option (Bool)
 | 0, _ => none
 | d + 1, a0 => xG8 N (xFw N d) a0
def xJ3 (N : Nat) (a0 : Exp) : Option (Bool) := xFw N N a0
def xCv (a0 : Exp) : List Arg := [.val (.v true (Ex .ro a0))]
def xAz (r : Bool) : CallO := ⟨.v false [.bool r], [], []⟩
def xBY (N : Nat) (a0 : Exp) : Option (Bool) := (xJh N a0 40).bind fun r1 => bif (decide (r1 ≥ 0)) then ((xH9 N a0).bind fun r2 => bif (decide (r2 ≤ 8)) then ((xJ3 N a0).bind fun r3 => some r3) else (some false)) else (some false)
def xGS (N : Nat) (a0 : Str) : Option (Exp × Int) := (xE8 N a0).bind fun r1 => bif (decide (r1.2 ≥ 0)) then (some ((Exp.mk 0 0 [] []), r1.2)) else ((xJk N (Rdr.mk r1.1 0 (List.length a0 : Int) (-1))).bind fun r2 => bif (decide ((Rdr.bad r2.2) < 0)) then (bif (decide ((Rdr.i r2.2) < (List.length r1.1 : Int))) then ((xB7 N r2.2).bind fun r3 => bif (decide ((Rdr.bad r3.2) ≥ 0)) then (some ((Exp.mk 0 0 [] []), (Rdr.bad r3.2))) else ((xBY N r2.1).bind fun r4 => bif (!r4) then (some ((Exp.mk 0 0 [] []), 0)) else (some (r2.1, (-1))))) else (bif (decide ((Rdr.bad r2.2) ≥ 0)) then (some ((Exp.mk 0 0 [] []), (Rdr.bad r2.2))) else ((xBY N r2.1).bind fun r3 => bif (!r3) then (some ((Exp.mk 0 0 [] []), 0)) else (some (r2.1, (-1)))))) else (bif (decide ((Rdr.bad r2.2) ≥ 0)) then (some ((Exp.mk 0 0 [] []), (Rdr.bad r2.2))) else ((xBY N r2.1).bind fun r3 => bif (!r3) then (some ((Exp.mk 0 0 [] []), 0)) else (some (r2.1, (-1))))))
def xKd (a0 : Str) (a1 : Int) (a2 : Int) : List Arg := [.val (.v false [.str a0]), .val (.v false [.int .i64 a1]), .val (.v false [.int .i64 a2])]
def xGm (r : Int × Bool) : CallO := ⟨.tup [(false, [.int .i64 r.1]), (false, [.bool r.2])], [], []⟩
def xHk (N : Nat) (a0 : Str) (a1 a2 : Int) : Option (Int × Bool) := zEB a0 a1 a2
def xFU (a0 : Str) (a1 : Int) : List Arg := [.val (.v false [.str a0]), .val (.v false [.int .u8 a1])]
def xAP (r : Int) : CallO := ⟨.v false [.int .i64 r], [], []⟩
def strings_IndexByte (N : Nat) (a0 : Str) (a1 : Int) : Option Int := zFV a0 a1
def xDx (a0 : Str) : List Arg := [.val (.v false [.str a0])]
def xAO (r : Bool) : CallO := ⟨.v false [.bool r], [], []⟩
def xEb (N : Nat) : Nat → Str → Int → Option (Bool)
 | 0, _, _ => none
 | n + 1, x0, x3 => bif (decide (x3 < (List.length x0 : Int))) then (if (0 : Int) ≤ x3 ∧ x3 < (List.length x0) then bif (decide ((((List.getD x0 (Int.toNat x3) 0).toNat : Int) : Int) < 32)) then (some false) else (bif (decide ((((List.getD x0 (Int.toNat x3) 0).toNat : Int) : Int) > 126)) then (some false) else (bif ((((List.getD x0 (Int.toNat x3) 0).toNat : Int) : Int) == 34) then (some false) else ((xEb N n x0 (IntKind.i64.wrap (x3 + 1)))))) else none) else (some (decide ((List.length x0 : Int) ≤ 20)))
def xCX (N : Nat) (a0 : Str) : Option (Bool) := (xEb N N a0 0)
def xHd (a0 : Str) (a1 : Str) : List Arg := [.val (.v false [.str a0]), .val (.v false [.str a1])]
def xBB (r : Bool) : CallO := ⟨.v false [.bool r], [], []⟩
def strings_HasPrefix (N : Nat) (a0 a1 : Str) : Option Bool := zFU a0 a1
def xAH (a0 : Str) (a1 : Int) : List Arg := [.val (.v false [.str a0]), .val (.v false [.int .i64 a1])]
def xAR (r : Tok × Int × Bool) : CallO := ⟨.tup [(true, [.int .i64 (Tok.kind r.1), .int .i64 (Tok.n r.1), .int .i64 (Tok.pos r.1), .str (Tok.text r.1)]), (false, [.int .i64 r.2.1]), (false, [.bool r.2.2])], [], []⟩
def xCu (N : Nat) : Nat → Str → Int → Int → Tok → Option (Tok × Int × Bool)
 | 0, _, _, _, _ => none
 | n + 1, x0, x1, x7, b4 => bif (decide (x7 < (List.length x0 : Int))) then (if (0 : Int) ≤ x7 ∧ x7 < (List.length x0) then bif (decide ((((List.getD x0 (Int.toNat x7) 0).toNat : Int) : Int) ≥ 97)) then (bif (decide ((((List.getD x0 (Int.toNat x7) 0).toNat : Int) : Int) ≤ 122)) then ((xCu N n x0 x1 (IntKind.i64.wrap (x7 + 1)) b4)) else (bif (decide ((((List.getD x0 (Int.toNat x7) 0).toNat : Int) : Int) ≥ 48)) then (bif (decide ((((List.getD x0 (Int.toNat x7) 0).toNat : Int) : Int) ≤ 57)) then ((xCu N n x0 x1 (IntKind.i64.wrap (x7 + 1)) b4)) else (if (0 : Int) ≤ x1 ∧ x1 ≤ x7 ∧ x7 ≤ (List.length x0) then some ((Tok.mk 1 0 x1 (List.drop (Int.toNat x1) (List.take (Int.toNat x7) x0))), x7, (decide ((IntKind.i64.wrap (x7 - x1)) ≤ 8))) else none)) else (if (0 : Int) ≤ x1 ∧ x1 ≤ x7 ∧ x7 ≤ (List.length x0) then some ((Tok.mk 1 0 x1 (List.drop (Int.toNat x1) (List.take (Int.toNat x7) x0))), x7, (decide ((IntKind.i64.wrap (x7 - x1)) ≤ 8))) else none))) else (bif (decide ((((List.getD x0 (Int.toNat x7) 0).toNat : Int) : Int) ≥ 48)) then (bif (decide ((((List.getD x0 (Int.toNat x7) 0).toNat : Int) : Int) ≤ 57)) then ((xCu N n x0 x1 (IntKind.i64.wrap (x7 + 1)) b4)) else (if (0 : Int) ≤ x1 ∧ x1 ≤ x7 ∧ x7 ≤ (List.length x0) then some ((Tok.mk 1 0 x1 (List.drop (Int.toNat x1) (List.take (Int.toNat x7) x0))), x7, (decide ((IntKind.i64.wrap (x7 - x1)) ≤ 8))) else none)) else (if (0 : Int) ≤ x1 ∧ x1 ≤ x7 ∧ x7 ≤ (List.length x0) then some ((Tok.mk 1 0 x1 (List.drop (Int.toNat x1) (List.take (Int.toNat x7) x0))), x7, (decide ((IntKind.i64.wrap (x7 - x1)) ≤ 8))) else none)) else none) else (if (0 : Int) ≤ x1 ∧ x1 ≤ x7 ∧ x7 ≤ (List.length x0) then some ((Tok.mk 1 0 x1 (List.drop (Int.toNat x1) (List.take (Int.toNat x7) x0))), x7, (decide ((IntKind.i64.wrap (x7 - x1)) ≤ 8))) else none)
def xCO (N : Nat) : Nat → Str → Int → Int → Tok → Option (Tok × Int × Bool)
 | 0, _, _, _, _ => none
 | n + 1, x0, x1, x7, b4 => bif (decide (x7 < (List.length x0 : Int))) then (if (0 : Int) ≤ x7 ∧ x7 < (List.length x0) then bif (decide ((((List.getD x0 (Int.toNat x7) 0).toNat : Int) : Int) ≥ 48)) then (bif (decide ((((List.getD x0 (Int.toNat x7) 0).toNat : Int) : Int) ≤ 57)) then ((xCO N n x0 x1 (IntKind.i64.wrap (x7 + 1)) b4)) else (if (0 : Int) ≤ x1 ∧ x1 ≤ x7 ∧ x7 ≤ (List.length x0) then (xHk N (List.drop (Int.toNat x1) (List.take (Int.toNat x7) x0)) 0 1000000000).bind fun r1 => some ((Tok.mk 2 r1.1 x1 []), x7, r1.2) else none)) else (if (0 : Int) ≤ x1 ∧ x1 ≤ x7 ∧ x7 ≤ (List.length x0) then (xHk N (List.drop (Int.toNat x1) (List.take (Int.toNat x7) x0)) 0 1000000000).bind fun r1 => some ((Tok.mk 2 r1.1 x1 []), x7, r1.2) else none) else none) else (if (0 : Int) ≤ x1 ∧ x1 ≤ x7 ∧ x7 ≤ (List.length x0) then (xHk N (List.drop (Int.toNat x1) (List.take (Int.toNat x7) x0)) 0 1000000000).bind fun r1 => some ((Tok.mk 2 r1.1 x1 []), x7, r1.2) else none)
def xG0 (N : Nat) (a0 : Str) (a1 : Int) : Option (Tok × Int × Bool) := if (0 : Int) ≤ a1 ∧ a1 < (List.length a0) then bif (decide ((((List.getD a0 (Int.toNat a1) 0).toNat : Int) : Int) ≥ 97)) then (bif (decide ((((List.getD a0 (Int.toNat a1) 0).toNat : Int) : Int) ≤ 122)) then ((xCu N N a0 a1 a1 (Tok.mk 0 0 0 []))) else (bif (decide ((((List.getD a0 (Int.toNat a1) 0).toNat : Int) : Int) ≥ 48)) then (bif (decide ((((List.getD a0 (Int.toNat a1) 0).toNat : Int) : Int) ≤ 57)) then ((xCO N N a0 a1 a1 (Tok.mk 0 0 0 []))) else (bif ((((List.getD a0 (Int.toNat a1) 0).toNat : Int) : Int) == 34) then (if (0 : Int) ≤ (IntKind.i64.wrap (a1 + 1)) ∧ (IntKind.i64.wrap (a1 + 1)) ≤ (List.length a0) then (strings_IndexByte N (List.drop (Int.toNat (IntKind.i64.wrap (a1 + 1))) a0) 34).bind fun r1 => bif (decide (r1 < 0)) then (some ((Tok.mk 0 0 0 []), 0, false)) else (if (0 : Int) ≤ (IntKind.i64.wrap (a1 + 1)) ∧ (IntKind.i64.wrap (a1 + 1)) ≤ (IntKind.i64.wrap ((IntKind.i64.wrap (a1 + 1)) + r1)) ∧ (IntKind.i64.wrap ((IntKind.i64.wrap (a1 + 1)) + r1)) ≤ (List.length a0) then (xCX N (List.drop (Int.toNat (IntKind.i64.wrap (a1 + 1))) (List.take (Int.toNat (IntKind.i64.wrap ((IntKind.i64.wrap (a1 + 1)) + r1))) a0))).bind fun r2 => some ((Tok.mk 3 0 a1 (List.drop (Int.toNat (IntKind.i64.wrap (a1 + 1))) (List.take (Int.toNat (IntKind.i64.wrap ((IntKind.i64.wrap (a1 + 1)) + r1))) a0))), (IntKind.i64.wrap ((IntKind.i64.wrap (a1 + r1)) + 2)), r2) else none) else none) else (if (0 : Int) ≤ a1 ∧ a1 ≤ (List.length a0) then (strings_HasPrefix N (List.drop (Int.toNat a1) a0) [61, 61]).bind fun r1 => bif r1 then (some ((Tok.mk 4 0 a1 [61, 61]), (IntKind.i64.wrap (a1 + 2)), true)) else (if (0 : Int) ≤ a1 ∧ a1 ≤ (IntKind.i64.wrap (a1 + 1)) ∧ (IntKind.i64.wrap (a1 + 1)) ≤ (List.length a0) then (strings_IndexByte N [40, 41, 91, 93, 44, 43, 45, 42, 60, 61] ((List.getD a0 (Int.toNat a1) 0).toNat : Int)).bind fun r2 =>
     some ((Tok.mk 4 0 a1 (List.drop (Int.toNat a1) (List.take (Int.toNat (IntKind.i64.wrap (a1 + 1))) a0))), (IntKind.i64.wrap (a1 + 1)), (decide (r2 ≥ 0))) else none) else none))) else (bif ((((List.getD a0 (Int.toNat a1) 0).toNat : Int) : Int) == 34) then (if (0 : Int) ≤ (IntKind.i64.wrap (a1 + 1)) ∧ (IntKind.i64.wrap (a1 + 1)) ≤ (List.length a0) then (strings_IndexByte N (List.drop (Int.toNat (IntKind.i64.wrap (a1 + 1))) a0) 34).bind fun r1 => bif (decide (r1 < 0)) then (some ((Tok.mk 0 0 0 []), 0, false)) else (if (0 : Int) ≤ (IntKind.i64.wrap (a1 + 1)) ∧ (IntKind.i64.wrap (a1 + 1)) ≤ (IntKind.i64.wrap ((IntKind.i64.wrap (a1 + 1)) + r1)) ∧ (IntKind.i64.wrap ((IntKind.i64.wrap (a1 + 1)) + r1)) ≤ (List.length a0) then (xCX N (List.drop (Int.toNat (IntKind.i64.wrap (a1 + 1))) (List.take (Int.toNat (IntKind.i64.wrap ((IntKind.i64.wrap (a1 + 1)) + r1))) a0))).bind fun r2 => some ((Tok.mk 3 0 a1 (List.drop (Int.toNat (IntKind.i64.wrap (a1 + 1))) (List.take (Int.toNat (IntKind.i64.wrap ((IntKind.i64.wrap (a1 + 1)) + r1))) a0))), (IntKind.i64.wrap ((IntKind.i64.wrap (a1 + r1)) + 2)), r2) else none) else none) else (if (0 : Int) ≤ a1 ∧ a1 ≤ (List.length a0) then (strings_HasPrefix N (List.drop (Int.toNat a1) a0) [61, 61]).bind fun r1 => bif r1 then (some ((Tok.mk 4 0 a1 [61, 61]), (IntKind.i64.wrap (a1 + 2)), true)) else (if (0 : Int) ≤ a1 ∧ a1 ≤ (IntKind.i64.wrap (a1 + 1)) ∧ (IntKind.i64.wrap (a1 + 1)) ≤ (List.length a0) then (strings_IndexByte N [40, 41, 91, 93, 44, 43, 45, 42, 60, 61] ((List.getD a0 (Int.toNat a1) 0).toNat : Int)).bind fun r2 => some ((Tok.mk 4 0 a1 (List.drop (Int.toNat a1) (List.take (Int.toNat (IntKind.i64.wrap (a1 + 1))) a0))), (IntKind.i64.wrap (a1 + 1)), (decide (r2 ≥ 0))) else none) else none)))) else (bif (decide ((((List.getD a0 (Int.toNat a1) 0).toNat : Int) : Int) ≥ 48)) then (bif (decide ((((List.getD a0 (Int.toNat a1) 0).toNat : Int) : Int) ≤ 57)) then ((xCO N N a0 a1 a1 (Tok.mk 0 0 0 []))
     ) else (bif ((((List.getD a0 (Int.toNat a1) 0).toNat : Int) : Int) == 34) then (if (0 : Int) ≤ (IntKind.i64.wrap (a1 + 1)) ∧ (IntKind.i64.wrap (a1 + 1)) ≤ (List.length a0) then (strings_IndexByte N (List.drop (Int.toNat (IntKind.i64.wrap (a1 + 1))) a0) 34).bind fun r1 => bif (decide (r1 < 0)) then (some ((Tok.mk 0 0 0 []), 0, false)) else (if (0 : Int) ≤ (IntKind.i64.wrap (a1 + 1)) ∧ (IntKind.i64.wrap (a1 + 1)) ≤ (IntKind.i64.wrap ((IntKind.i64.wrap (a1 + 1)) + r1)) ∧ (IntKind.i64.wrap ((IntKind.i64.wrap (a1 + 1)) + r1)) ≤ (List.length a0) then (xCX N (List.drop (Int.toNat (IntKind.i64.wrap (a1 + 1))) (List.take (Int.toNat (IntKind.i64.wrap ((IntKind.i64.wrap (a1 + 1)) + r1))) a0))).bind fun r2 => some ((Tok.mk 3 0 a1 (List.drop (Int.toNat (IntKind.i64.wrap (a1 + 1))) (List.take (Int.toNat (IntKind.i64.wrap ((IntKind.i64.wrap (a1 + 1)) + r1))) a0))), (IntKind.i64.wrap ((IntKind.i64.wrap (a1 + r1)) + 2)), r2) else none) else none) else (if (0 : Int) ≤ a1 ∧ a1 ≤ (List.length a0) then (strings_HasPrefix N (List.drop (Int.toNat a1) a0) [61, 61]).bind fun r1 => bif r1 then (some ((Tok.mk 4 0 a1 [61, 61]), (IntKind.i64.wrap (a1 + 2)), true)) else (if (0 : Int) ≤ a1 ∧ a1 ≤ (IntKind.i64.wrap (a1 + 1)) ∧ (IntKind.i64.wrap (a1 + 1)) ≤ (List.length a0) then (strings_IndexByte N [40, 41, 91, 93, 44, 43, 45, 42, 60, 61] ((List.getD a0 (Int.toNat a1) 0).toNat : Int)).bind fun r2 => some ((Tok.mk 4 0 a1 (List.drop (Int.toNat a1) (List.take (Int.toNat (IntKind.i64.wrap (a1 + 1))) a0))), (IntKind.i64.wrap (a1 + 1)), (decide (r2 ≥ 0))) else none) else none))) else (bif ((((List.getD a0 (Int.toNat a1) 0).toNat : Int) : Int) == 34) then (if (0 : Int) ≤ (IntKind.i64.wrap (a1 + 1)) ∧ (IntKind.i64.wrap (a1 + 1)) ≤ (List.length a0) then (strings_IndexByte N (List.drop (Int.toNat (IntKind.i64.wrap (a1 + 1))) a0) 34).bind fun r1 => bif (decide (r1 < 0)) then (some ((Tok.mk 0 0 0 []), 0, false)) else (if (0 : Int) ≤ (IntKind.i64.wrap (a1 + 1)) ∧ (IntKind.i64.wrap (a1 + 1)) ≤ (IntKind.i64.wrap ((IntKind.i64.wrap (a1 + 1)) + r1)) ∧ (IntKind.i64.wrap ((IntKind.i64.wrap (a1 + 1)) + r1)) ≤ (List.length a0) then
        (xCX N (List.drop (Int.toNat (IntKind.i64.wrap (a1 + 1))) (List.take (Int.toNat (IntKind.i64.wrap ((IntKind.i64.wrap (a1 + 1)) + r1))) a0))).bind fun r2 => some ((Tok.mk 3 0 a1 (List.drop (Int.toNat (IntKind.i64.wrap (a1 + 1))) (List.take (Int.toNat (IntKind.i64.wrap ((IntKind.i64.wrap (a1 + 1)) + r1))) a0))), (IntKind.i64.wrap ((IntKind.i64.wrap (a1 + r1)) + 2)), r2) else none) else none) else (if (0 : Int) ≤ a1 ∧ a1 ≤ (List.length a0) then (strings_HasPrefix N (List.drop (Int.toNat a1) a0) [61, 61]).bind fun r1 => bif r1 then (some ((Tok.mk 4 0 a1 [61, 61]), (IntKind.i64.wrap (a1 + 2)), true)) else (if (0 : Int) ≤ a1 ∧ a1 ≤ (IntKind.i64.wrap (a1 + 1)) ∧ (IntKind.i64.wrap (a1 + 1)) ≤ (List.length a0) then (strings_IndexByte N [40, 41, 91, 93, 44, 43, 45, 42, 60, 61] ((List.getD a0 (Int.toNat a1) 0).toNat : Int)).bind fun r2 => some ((Tok.mk 4 0 a1 (List.drop (Int.toNat a1) (List.take (Int.toNat (IntKind.i64.wrap (a1 + 1))) a0))), (IntKind.i64.wrap (a1 + 1)), (decide (r2 ≥ 0))) else none) else none))) else none
def xFd (a0 : Str) : List Arg := [.val (.v false [.str a0])]
def xAL (r : (List Tok) × Int) : CallO := ⟨.tup [(false, [.sl .own .tok r.1]), (false, [.int .i64 r.2])], [], []⟩
def xDQ (N : Nat) : Nat → Str → (List Tok) → Int → Option ((List Tok) × Int)
 | 0, _, _, _ => none
 | n + 1, x0, x4, x5 => bif (decide (x5 < (List.length x0 : Int))) then (if (0 : Int) ≤ x5 ∧ x5 < (List.length x0) then bif ((((List.getD x0 (Int.toNat x5) 0).toNat : Int) : Int) == 32) then ((xDQ N n x0 x4 (IntKind.i64.wrap (x5 + 1)))) else ((xG0 N x0 x5).bind fun r1 => bif (!r1.2.2) then (some ([], x5)) else (bif ((List.length x4 : Int) == 60) then (some ([], x5)) else (if List.length x4 + List.length [r1.1] ≤ Lim then (xDQ N n x0 (x4 ++ [r1.1]) r1.2.1) else none))) else none) else (some (x4, (-1)))
def xFJ (N : Nat) (a0 : Str) : Option ((List Tok) × Int) := bif (decide ((List.length a0 : Int) > 120)) then (some ([], 120)) else ((xDQ N N a0 [] 0))
def xC3 (a0 : Psr) : List Arg := [.box (Ps .ro a0)]
def xAf (r : Tok × Psr) : CallO := ⟨.v true [.int .i64 (Tok.kind r.1), .int .i64 (Tok.n r.1), .int .i64 (Tok.pos r.1), .str (Tok.text r.1)], [(Ps .ro r.2)], []⟩
def xBu (N : Nat) (a0 : Psr) : Option (Tok × Psr) := bif (decide ((Psr.bad a0) < 0)) then (bif (decide ((Psr.pos a0) < (List.length (Psr.list a0) : Int))) then (if (0 : Int) ≤ (Psr.pos a0) ∧ (Psr.pos a0) < (List.length (Psr.list a0)) then some ((List.getD (Psr.list a0) (Int.toNat (Psr.pos a0)) Ty.tok.dflt), a0) else none) else (some ((Tok.mk 0 0 0 []), a0))) else (some ((Tok.mk 0 0 0 []), a0))
def xBs (a0 : Tok) (a1 : Str) : List Arg := [.val (.v true [.int .i64 (Tok.kind a0), .int .i64 (Tok.n a0), .int .i64 (Tok.pos a0), .str (Tok.text a0)]), .val (.v false [.str a1])]
def xAv (r : Bool) : CallO := ⟨.v false [.bool r], [], []⟩
def xD1 (N : Nat) (a0 : Tok) (a1 : Str) : Option (Bool) := bif ((Tok.kind a0) == 1) then (some (((Tok.text a0) : Str) == a1)) else (some false)
def xCP (a0 : Int) (a1 : Int) (a2 : Int) : List Arg := [.val (.v false [.int .i64 a0]), .val (.v false [.int .i64 a1]), .val (.v false [.int .i64 a2])]
def xA8 (r : Bool) : CallO := ⟨.v false [.bool r], [], []⟩
def xFq (N : Nat) (a0 : Int) (a1 : Int) (a2 : Int) : Option (Bool) := bif (decide (a1 ≤ a0)) then (some (decide (a0 ≤ a2))) else (some false)
def xFX (a0 : Str) : List Arg := [.val (.v false [.str a0])]
def xB2 (r : Bool) : CallO := ⟨.v false [.bool r], [], []⟩
def xDE (N : Nat) : Nat → Str → Int → Option (Bool)
 | 0, _, _ => none
 | n + 1, x0, x3 => bif (decide (x3 < (List.length x0 : Int))) then (if (0 : Int) ≤ x3 ∧ x3 < (List.length x0) then bif (decide ((((List.getD x0 (Int.toNat x3) 0).toNat : Int) : Int) ≥ 97)) then (bif (!(decide ((((List.getD x0 (Int.toNat x3) 0).toNat : Int) : Int) ≤ 122))) then (bif (x3 == 0) then (some false) else (bif (decide ((((List.getD x0 (Int.toNat x3) 0).toNat : Int) : Int) < 48)) then (some false) else (bif (decide ((((List.getD x0 (Int.toNat x3) 0).toNat : Int) : Int) > 57)) then (some false) else ((xDE N n x0 (IntKind.i64.wrap (x3 + 1))))))) else ((xDE N n x0 (IntKind.i64.wrap (x3 + 1))))) else (bif (x3 == 0) then (some false) else (bif (decide ((((List.getD x0 (Int.toNat x3) 0).toNat : Int) : Int) < 48)) then (some false) else (bif (decide ((((List.getD x0 (Int.toNat x3) 0).toNat : Int) : Int) > 57)) then (some false) else ((xDE N n x0 (IntKind.i64.wrap (x3 + 1))))))) else none) else ((xFq N (List.length x0 : Int) 1 8).bind fun r1 => some r1)
def xIq (N : Nat) (a0 : Str) : Option (Bool) := (xDE N N a0 0)
def xAl (a0 : Str) : List Arg := [.val (.v false [.str a0])]
def xAg (r : Int) : CallO := ⟨.v false [.int .i64 r], [], []⟩
def xCM (N : Nat) (a0 : Str) : Option (Int) := bif ((a0 : Str) == [99, 108, 111, 99, 107]) then (some 0) else (bif ((a0 : Str) == [108, 101, 110]) then (some 1) else (bif ((a0 : Str) == [115, 117, 109]) then (some 1) else (bif ((a0 : Str) == [114, 111, 119, 115]) then (some 1) else (bif ((a0 : Str) == [99, 104, 97, 110, 99, 101]) then (some 1) else (bif ((a0 : Str) == [102, 105, 108, 101]) then (some 1) else (bif ((a0 : Str) == [116, 97, 107, 101]) then (some 2) else (bif ((a0 : Str) == [115, 107, 105, 112]) then (some 2) else (bif ((a0 : Str) == [114, 97, 110, 103, 101]) then (some 2) else (bif ((a0 : Str) == [110, 116, 104]) then (some 2) else (bif ((a0 : Str) == [107, 101, 101, 112]) then (some 2) else (bif ((a0 : Str) == [99, 111, 108, 117, 109, 110]) then (some 2) else (bif ((a0 : Str) == [116, 97, 98, 108, 101]) then (some 2) else (bif ((a0 : Str) == [119, 104, 101, 114, 101]) then (some 3) else (bif ((a0 : Str) == [103, 114, 111, 117, 112]) then (some 3) else (bif ((a0 : Str) == [106, 111, 105, 110]) then (some 3) else (bif ((a0 : Str) == [97, 100, 100]) then (some 4) else (some (-1))))))))))))))))))
def xBK (a0 : Str) : List Arg := [.val (.v false [.str a0])]
def xBt (r : Bool) : CallO := ⟨.v false [.bool r], [], []⟩
def xFp (N : Nat) (a0 : Str) : Option (Bool) := bif ((a0 : Str) == [108, 101, 116]) then (some true) else (bif ((a0 : Str) == [105, 110]) then (some true) else (bif ((a0 : Str) == [105, 102]) then (some true) else (bif ((a0 : Str) == [116, 104, 101, 110]) then (some true) else (bif ((a0 : Str) == [101, 108, 115, 101]) then (some true) else (bif ((a0 : Str) == [102, 111, 114]) then (some true) else (bif ((a0 : Str) == [100, 111]) then (some true) else ((xCM N a0).bind fun r1 => some (decide (r1 ≥ 0)))))))))
def xDw (a0 : Str) : List Arg := [.val (.v false [.str a0])]
def xAE (r : Bool) : CallO := ⟨.v false [.bool r], [], []⟩
def xCW (N : Nat) (a0 : Str) : Option (Bool) := (xIq N a0).bind fun r1 => bif r1 then ((xFp N a0).bind fun r2 => some (!r2)) else (some false)
def xB8 (a0 : Psr) : List Arg := [.box (Ps .ro a0)]
def xA1 (r : Exp × Psr) : CallO := ⟨.v true (Ex .own r.1), [(Ps .ro r.2)], []⟩
def xBT (N : Nat) (a0 : Psr) : Option (Exp × Psr) := bif (decide ((Psr.bad a0) < 0)) then (some ((Exp.mk 0 0 [] []), (Psr.mk (Psr.list a0) (Psr.pos a0) (Psr.pos a0)))) else (some ((Exp.mk 0 0 [] []), a0))
def xDA (a0 : Psr) : List Arg := [.box (Ps .ro a0)]
def xCt (r : Str × Psr) : CallO := ⟨.v false [.str r.1], [(Ps .ro r.2)], []⟩
def xBU (N : Nat) (a0 : Psr) : Option (Str × Psr) := (xBu N a0).bind fun r1 => bif ((Tok.kind r1.1) != 1) then ((xBT N r1.2).bind fun r2 => some ([], r2.2)) else ((xCW N (Tok.text r1.1)).bind fun r2 => bif (!r2) then ((xBT N r1.2).bind fun r3 => some ([], r3.2)) else (some ((Tok.text r1.1), (Psr.mk (Psr.list r1.2) (IntKind.i64.wrap ((Psr.pos r1.2) + 1)) (Psr.bad r1.2)))))
def xDo (a0 : Tok) (a1 : Str) : List Arg := [.val (.v true [.int .i64 (Tok.kind a0), .int .i64 (Tok.n a0), .int .i64 (Tok.pos a0), .str (Tok.text a0)]), .val (.v false [.str a1])]
def xBR (r : Bool) : CallO := ⟨.v false [.bool r], [], []⟩
def xFI (N : Nat) (a0 : Tok) (a1 : Str) : Option (Bool) := bif ((Tok.kind a0) == 4) then (some (((Tok.text a0) : Str) == a1)) else (some false)
def xAU (a0 : Psr) (a1 : Str) : List Arg := [.box (Ps .ro a0), .val (.v false [.str a1])]
def xAp (r : Psr) : CallO := ⟨.tup [], [(Ps .ro r)], []⟩
def xAC (N : Nat) (a0 : Psr) (a1 : Str) : Option (Psr) := (xBu N a0).bind fun r1 => (xD1 N r1.1 a1).bind fun r2 => bif r2 then (some (Psr.mk (Psr.list r1.2) (IntKind.i64.wrap ((Psr.pos r1.2) + 1)) (Psr.bad r1.2))) else ((xBu N r1.2).bind fun r3 => (xFI N r3.1 a1).bind fun r4 => bif r4 then (some (Psr.mk (Psr.list r3.2) (IntKind.i64.wrap ((Psr.pos r3.2) + 1)) (Psr.bad r3.2))) else ((xBT N r3.2).bind fun r5 => some r5.2))
def xAn (a0 : Psr) (a1 : Str) : List Arg := [.box (Ps .ro a0), .val (.v false [.str a1])]
def xAd (r : Bool × Psr) : CallO := ⟨.v false [.bool r.1], [(Ps .ro r.2)], []⟩
def xAF (N : Nat) (a0 : Psr) (a1 : Str) : Option (Bool × Psr) := (xBu N a0).bind fun r1 => (xFI N r1.1 a1).bind fun r2 => bif r2 then (some (true, (Psr.mk (Psr.list r1.2) (IntKind.i64.wrap ((Psr.pos r1.2) + 1)) (Psr.bad r1.2)))) else (some (false, r1.2))
def xDp (a0 : Int) : List Arg := [.val (.v false [.int .i64 a0])]
def xBS (r : Str) : CallO := ⟨.v false [.str r], [], []⟩
def xEx (N : Nat) (a0 : Int) : Option (Str) := (xFq N a0 1 5).bind fun r1 => bif (!r1) then (some [63]) else (if (0 : Int) ≤ (IntKind.i64.wrap (a0 - 1)) ∧ (IntKind.i64.wrap (a0 - 1)) < (List.length [[43], [45], [42], [60], [61, 61]]) then some (List.getD [[43], [45], [42], [60], [61, 61]] (Int.toNat (IntKind.i64.wrap (a0 - 1))) Ty.str.dflt) else none)
def xAT (a0 : Psr) : List Arg := [.box (Ps .ro a0)]
def xAI (r : Exp × Psr) : CallO := ⟨.v true (Ex .own r.1), [(Ps .ro r.2)], []⟩
def xCr (N : Nat) (q0 : Psr → Option (Exp × Psr)) (q1 : Psr → Option (Exp × Psr)) (q2 : Psr → Str → Option ((List Exp) × Psr)) (q3 : Psr → Option (Exp × Psr)) (q4 : Psr → Option (Exp × Psr)) (a0 : Psr) : Option (Exp × Psr) := (xBu N a0).bind fun r1 => bif ((Tok.kind r1.1) == 2) then (some ((Exp.mk 1 (Tok.n r1.1) [] []), (Psr.mk (Psr.list r1.2) (IntKind.i64.wrap ((Psr.pos r1.2) + 1)) (Psr.bad r1.2)))) else (bif ((Tok.kind r1.1) == 3) then (some ((Exp.mk 2 0 (Tok.text r1.1) []), (Psr.mk (Psr.list r1.2) (IntKind.i64.wrap ((Psr.pos r1.2) + 1)) (Psr.bad r1.2)))) else (bif ((Tok.kind r1.1) == 1) then ((xCW N (Tok.text r1.1)).bind fun r2 => bif r2 then (some ((Exp.mk 3 0 (Tok.text r1.1) []), (Psr.mk (Psr.list r1.2) (IntKind.i64.wrap ((Psr.pos r1.2) + 1)) (Psr.bad r1.2)))) else ((xCM N (Tok.text r1.1)).bind fun r3 => bif (decide (r3 ≥ 0)) then ((xAC N (Psr.mk (Psr.list r1.2) (IntKind.i64.wrap ((Psr.pos r1.2) + 1)) (Psr.bad r1.2)) [40]).bind fun r4 => (q2 r4 [41]).bind fun r5 => some ((Exp.mk 5 0 (Tok.text r1.1) r5.1), r5.2)) else ((xAF N r1.2 [91]).bind fun r4 => bif r4.1 then ((q2 r4.2 [93]).bind fun r5 => some ((Exp.mk 4 0 [] r5.1), r5.2)) else ((xAF N r4.2 [40]).bind fun r5 => bif r5.1 then ((q1 r5.2).bind fun r6 => (xAC N r6.2 [41]).bind fun r7 => some (r6.1, r7)) else ((xBT N r5.2).bind fun r6 => some (r6.1, r6.2)))))) else ((xAF N r1.2 [91]).bind fun r2 => bif r2.1 then ((q2 r2.2 [93]).bind fun r3 => some ((Exp.mk 4 0 [] r3.1), r3.2)) else ((xAF N r2.2 [40]).bind fun r3 => bif r3.1 then ((q1 r3.2).bind fun r4 => (xAC N r4.2 [41]).bind fun r5 => some (r4.1, r5)) else ((xBT N r3.2).bind fun r4 => some (r4.1, r4.2))))))
def xBe (a0 : Psr) : List Arg := [.box (Ps .ro a0)]
def xAe (r : Exp × Psr) : CallO := ⟨.v true (Ex .own r.1), [(Ps .ro r.2)], []⟩
def xCK (N : Nat) (q0 : Psr → Option (Exp × Psr)) (q1 : Psr → Option (Exp × Psr)) (q2 : Psr → Str → Option ((List Exp) × Psr)) (q3 : Psr → Option (Exp × Psr)) (q4 : Psr → Option (Exp × Psr)) : Nat → (List Int) → Int → Int → Psr → Exp → Exp → Option (Exp × Psr)
 | 0, _, _, _, _, _, _ => none
 | n + 1, x115, x116, x117, b0, b2, b6 => bif (decide (x117 < x116)) then (if (0 : Int) ≤ x117 ∧ x117 < (List.length x115) then (xEx N (List.getD x115 (Int.toNat x117) Ty.int.dflt)).bind fun r1 => (xAF N b0 r1).bind fun r2 => bif r2.1 then ((q4 r2.2).bind fun r3 => some ((Exp.mk 6 (List.getD x115 (Int.toNat x117) Ty.int.dflt) [] [(Exp.re b6), (Exp.re r3.1)]), r3.2)) else ((xCK N q0 q1 q2 q3 q4 n x115 x116 (IntKind.i64.wrap (x117 + 1)) r2.2 b2 b6)) else none) else (some (b6, b0))
def xCs (N : Nat) (q0 : Psr → Option (Exp × Psr)) (q1 : Psr → Option (Exp × Psr)) (q2 : Psr → Str → Option ((List Exp) × Psr)) (q3 : Psr → Option (Exp × Psr)) (q4 : Psr → Option (Exp × Psr)) (a0 : Psr) : Option (Exp × Psr) := (xBu N a0).bind fun r1 => (xD1 N r1.1 [108, 101, 116]).bind fun r2 => bif r2 then ((xBU N (Psr.mk (Psr.list r1.2) (IntKind.i64.wrap ((Psr.pos r1.2) + 1)) (Psr.bad r1.2))).bind fun r3 => (xAC N r3.2 [61]).bind fun r4 => (q1 r4).bind fun r5 => if 0 + List.length [(Exp.re r5.1)] ≤ Lim then (xAC N r5.2 [105, 110]).bind fun r6 => (q1 r6).bind fun r7 => if List.length ([] ++ [(Exp.re r5.1)]) + List.length [(Exp.re r7.1)] ≤ Lim then some ((Exp.mk 7 0 r3.1 (([] ++ [(Exp.re r5.1)]) ++ [(Exp.re r7.1)])), r7.2) else none else none) else ((xBu N r1.2).bind fun r3 => (xD1 N r3.1 [105, 102]).bind fun r4 => bif r4 then ((q1 (Psr.mk (Psr.list r3.2) (IntKind.i64.wrap ((Psr.pos r3.2) + 1)) (Psr.bad r3.2))).bind fun r5 => if 0 + List.length [(Exp.re r5.1)] ≤ Lim then (xAC N r5.2 [116, 104, 101, 110]).bind fun r6 => (q1 r6).bind fun r7 => if List.length ([] ++ [(Exp.re r5.1)]) + List.length [(Exp.re r7.1)] ≤ Lim then (xAC N r7.2 [101, 108, 115, 101]).bind fun r8 => (q1 r8).bind fun r9 => if List.length (([] ++ [(Exp.re r5.1)]) ++ [(Exp.re r7.1)]) + List.length [(Exp.re r9.1)] ≤ Lim then some ((Exp.mk 8 0 [] ((([] ++ [(Exp.re r5.1)]) ++ [(Exp.re r7.1)]) ++ [(Exp.re r9.1)])), r9.2) else none else none else none) else ((xBu N r3.2).bind fun r5 => (xD1 N r5.1 [102, 111, 114]).bind fun r6 => bif r6 then ((xBU N (Psr.mk (Psr.list r5.2) (IntKind.i64.wrap ((Psr.pos r5.2) + 1)) (Psr.bad r5.2))).bind fun r7 => (xAC N r7.2 [105, 110]).bind fun r8 => (q1 r8).bind fun r9 =>
     if 0 + List.length [(Exp.re r9.1)] ≤ Lim then (xAC N r9.2 [100, 111]).bind fun r10 => (q1 r10).bind fun r11 => if List.length ([] ++ [(Exp.re r9.1)]) + List.length [(Exp.re r11.1)] ≤ Lim then some ((Exp.mk 9 0 r7.1 (([] ++ [(Exp.re r9.1)]) ++ [(Exp.re r11.1)])), r11.2) else none else none) else ((q4 r5.2).bind fun r7 => (xCK N q0 q1 q2 q3 q4 N [4, 5] (List.length [4, 5] : Int) 0 r7.2 (Exp.mk 0 0 [] []) r7.1))))
def xCd (a0 : Psr) (a1 : Str) : List Arg := [.box (Ps .ro a0), .val (.v false [.str a1])]
def xA4 (r : (List Exp) × Psr) : CallO := ⟨.v false [.sl .own .exp r.1], [(Ps .ro r.2)], []⟩
def xCe (N : Nat) (q0 : Psr → Option (Exp × Psr)) (q1 : Psr → Option (Exp × Psr)) (q2 : Psr → Str → Option ((List Exp) × Psr)) (q3 : Psr → Option (Exp × Psr)) (q4 : Psr → Option (Exp × Psr)) : Nat → Str → (List Exp) → Psr → Option ((List Exp) × Psr)
 | 0, _, _, _ => none
 | n + 1, x1, x5, b0 => bif (decide ((Psr.bad b0) < 0)) then ((q1 b0).bind fun r1 => if List.length x5 + List.length [(Exp.re r1.1)] ≤ Lim then (xAF N r1.2 x1).bind fun r2 => bif r2.1 then (some ((x5 ++ [(Exp.re r1.1)]), r2.2)) else ((xAC N r2.2 [44]).bind fun r3 => (xCe N q0 q1 q2 q3 q4 n x1 (x5 ++ [(Exp.re r1.1)]) r3)) else none) else (some (x5, b0))
def xCi (N : Nat) (q0 : Psr → Option (Exp × Psr)) (q1 : Psr → Option (Exp × Psr)) (q2 : Psr → Str → Option ((List Exp) × Psr)) (q3 : Psr → Option (Exp × Psr)) (q4 : Psr → Option (Exp × Psr)) (a0 : Psr) (a1 : Str) : Option ((List Exp) × Psr) := (xAF N a0 a1).bind fun r1 => bif r1.1 then (some ([], r1.2)) else ((xCe N q0 q1 q2 q3 q4 N a1 [] r1.2))
def xCj (a0 : Psr) : List Arg := [.box (Ps .ro a0)]
def xA9 (r : Exp × Psr) : CallO := ⟨.v true (Ex .own r.1), [(Ps .ro r.2)], []⟩
def xBQ (N : Nat) (q0 : Psr → Option (Exp × Psr)) (q1 : Psr → Option (Exp × Psr)) (q2 : Psr → Str → Option ((List Exp) × Psr)) (q3 : Psr → Option (Exp × Psr)) (q4 : Psr → Option (Exp × Psr)) : Nat → Psr → Exp → Exp → Option (Exp × Psr)
 | 0, _, _, _ => none
 | n + 1, b0, b2, b3 => (xAF N b0 [42]).bind fun r1 => bif r1.1 then ((q0 r1.2).bind fun r2 => (xBQ N q0 q1 q2 q3 q4 n r2.2 b2 (Exp.mk 6 3 [] [(Exp.re b3), (Exp.re r2.1)]))) else (some (b3, r1.2))
def xBZ (N : Nat) (q0 : Psr → Option (Exp × Psr)) (q1 : Psr → Option (Exp × Psr)) (q2 : Psr → Str → Option ((List Exp) × Psr)) (q3 : Psr → Option (Exp × Psr)) (q4 : Psr → Option (Exp × Psr)) (a0 : Psr) : Option (Exp × Psr) := (q0 a0).bind fun r1 => (xBQ N q0 q1 q2 q3 q4 N r1.2 (Exp.mk 0 0 [] []) r1.1)
def xDN (a0 : Psr) : List Arg := [.box (Ps .ro a0)]
def xB4 (r : Exp × Psr) : CallO := ⟨.v true (Ex .own r.1), [(Ps .ro r.2)], []⟩
def xB3 (N : Nat) (q0 : Psr → Option (Exp × Psr)) (q1 : Psr → Option (Exp × Psr)) (q2 : Psr → Str → Option ((List Exp) × Psr)) (q3 : Psr → Option (Exp × Psr)) (q4 : Psr → Option (Exp × Psr)) : Nat → Psr → Exp → Exp → Option (Exp × Psr)
 | 0, _, _, _ => none
 | n + 1, b0, b2, b3 => bif (decide ((Psr.bad b0) < 0)) then ((xAF N b0 [43]).bind fun r1 => bif (!r1.1) then ((xAF N r1.2 [45]).bind fun r2 => bif (!r2.1) then (some (b3, r2.2)) else ((q3 r2.2).bind fun r3 => (xB3 N q0 q1 q2 q3 q4 n r3.2 b2 (Exp.mk 6 2 [] [(Exp.re b3), (Exp.re r3.1)])))) else ((q3 r1.2).bind fun r2 => (xB3 N q0 q1 q2 q3 q4 n r2.2 b2 (Exp.mk 6 1 [] [(Exp.re b3), (Exp.re r2.1)])))) else (some (b3, b0))
def xCL (N : Nat) (q0 : Psr → Option (Exp × Psr)) (q1 : Psr → Option (Exp × Psr)) (q2 : Psr → Str → Option ((List Exp) × Psr)) (q3 : Psr → Option (Exp × Psr)) (q4 : Psr → Option (Exp × Psr)) (a0 : Psr) : Option (Exp × Psr) := (q3 a0).bind fun r1 => (xB3 N q0 q1 q2 q3 q4 N r1.2 (Exp.mk 0 0 [] []) r1.1)
structure impl_parser_atom_rec where
 c_impl_parser_atom : Psr → Option (Exp × Psr)
 c_impl_parser_expr : Psr → Option (Exp × Psr)
 c_impl_parser_list2 : Psr → Str → Option ((List Exp) × Psr)
 c_impl_parser_product : Psr → Option (Exp × Psr)
 c_impl_parser_sum : Psr → Option (Exp × Psr)
def xAa (N : Nat) : Nat → impl_parser_atom_rec
 | 0 => ⟨fun _ => none, fun _ => none, fun _ _ => none, fun _ => none, fun _ => none⟩
 | d + 1 => ⟨xCr N (xAa N d).c_impl_parser_atom (xAa N d).c_impl_parser_expr (xAa N d).c_impl_parser_list2 (xAa N d).c_impl_parser_product (xAa N d).c_impl_parser_sum, xCs N (xAa N d).c_impl_parser_atom (xAa N d).c_impl_parser_expr (xAa N d).c_impl_parser_list2 (xAa N d).c_impl_parser_product (xAa N d).c_impl_parser_sum, xCi N (xAa N d).c_impl_parser_atom (xAa N d).c_impl_parser_expr (xAa N d).c_impl_parser_list2 (xAa N d).c_impl_parser_product (xAa N d).c_impl_parser_sum, xBZ N (xAa N d).c_impl_parser_atom (xAa N d).c_impl_parser_expr (xAa N d).c_impl_parser_list2 (xAa N d).c_impl_parser_product (xAa N d).c_impl_parser_sum, xCL N (xAa N d).c_impl_parser_atom (xAa N d).c_impl_parser_expr (xAa N d).c_impl_parser_list2 (xAa N d).c_impl_parser_product (xAa N d).c_impl_parser_sum⟩
def xF3 (N : Nat) (a0 : Psr) : Option (Exp × Psr) := (xAa N N).c_impl_parser_expr a0
def xCG (a0 : Exp) : List Arg := [.val (.v true (Ex .ro a0))]
def xBi (r : Int) : CallO := ⟨.v false [.int .i64 r], [], []⟩
def xDz (N : Nat) (q0 : Exp → Option (Int)) : Nat → Int → (List Exp) → Int → Int → Option (Int)
 | 0, _, _, _, _ => none
 | n + 1, x3, x7, x8, x9 => bif (decide (x9 < x8)) then (if (0 : Int) ≤ x9 ∧ x9 < (List.length x7) then (q0 (List.getD x7 (Int.toNat x9) Ty.exp.dflt)).bind fun r1 => (xDz N q0 n (IntKind.i64.wrap (x3 + r1)) x7 x8 (IntKind.i64.wrap (x9 + 1))) else none) else (some x3)
def xGb (N : Nat) (q0 : Exp → Option (Int)) (a0 : Exp) : Option (Int) := (xDz N q0 N 1 (Exp.args a0) (List.length (Exp.args a0) : Int) 0)
def xDM (N : Nat) : Nat → Exp → Option (Int)
 | 0, _ => none
 | d + 1, a0 => xGb N (xDM N d) a0
def xHY (N : Nat) (a0 : Exp) : Option (Int) := xDM N N a0
def xC6 (a0 : Exp) : List Arg := [.val (.v true (Ex .ro a0))]
def xBD (r : Int) : CallO := ⟨.v false [.int .i64 r], [], []⟩
def xD7 (N : Nat) (q0 : Exp → Option (Int)) : Nat → Int → (List Exp) → Int → Int → Option (Int)
 | 0, _, _, _, _ => none
 | n + 1, x3, x7, x8, x9 => bif (decide (x9 < x8)) then (if (0 : Int) ≤ x9 ∧ x9 < (List.length x7) then (q0 (List.getD x7 (Int.toNat x9) Ty.exp.dflt)).bind fun r1 => (xD7 N q0 n (if r1 > x3 then r1 else x3) x7 x8 (IntKind.i64.wrap (x9 + 1))) else none) else (some (IntKind.i64.wrap (x3 + 1)))
def xGa (N : Nat) (q0 : Exp → Option (Int)) (a0 : Exp) : Option (Int) := (xD7 N q0 N 0 (Exp.args a0) (List.length (Exp.args a0) : Int) 0)
def xEw (N : Nat) : Nat → Exp → Option (Int)
 | 0, _ => none
 | d + 1, a0 => xGa N (xEw N d) a0
def xHX (N : Nat) (a0 : Exp) : Option (Int) := xEw N N a0
def xAy (a0 : Exp) : List Arg := [.val (.v true (Ex .ro a0))]
def xAG (r : Bool) : CallO := ⟨.v false [.bool r], [], []⟩
def xHo (N : Nat) (a0 : Exp) : Option (Bool) := bif ((Exp.kind a0) == 1) then ((xFq N (Exp.n a0) 0 1000000000).bind fun r1 => bif r1 then (bif (((Exp.text a0) : Str) == []) then (some ((List.length (Exp.args a0) : Int) == 0)) else (some false)) else (some false)) else (bif ((Exp.kind a0) == 2) then (bif ((Exp.n a0) == 0) then ((xCX N (Exp.text a0)).bind fun r1 => bif r1 then (some ((List.length (Exp.args a0) : Int) == 0)) else (some false)) else (some false)) else (bif ((Exp.kind a0) == 3) then (bif ((Exp.n a0) == 0) then ((xCW N (Exp.text a0)).bind fun r1 => bif r1 then (some ((List.length (Exp.args a0) : Int) == 0)) else (some false)) else (some false)) else (bif ((Exp.kind a0) == 4) then (bif ((Exp.n a0) == 0) then (bif (((Exp.text a0) : Str) == []) then (some (decide ((List.length (Exp.args a0) : Int) ≤ 8))) else (some false)) else (some false)) else (bif ((Exp.kind a0) == 5) then (bif ((Exp.n a0) == 0) then ((xCM N (Exp.text a0)).bind fun r1 => some ((List.length (Exp.args a0) : Int) == r1)) else (some false)) else (bif ((Exp.kind a0) == 6) then ((xFq N (Exp.n a0) 1 5).bind fun r1 => bif r1 then (bif (((Exp.text a0) : Str) == []) then (some ((List.length (Exp.args a0) : Int) == 2)) else (some false)) else (some false)) else (bif ((Exp.kind a0) == 7) then (bif ((Exp.n a0) == 0) then ((xCW N (Exp.text a0)).bind fun r1 => bif r1 then (some ((List.length (Exp.args a0) : Int) == 2)) else (some false)) else (some false)) else (bif ((Exp.kind a0) == 9) then (bif ((Exp.n a0) == 0) then ((xCW N (Exp.text a0)).bind fun r1 => bif r1 then (some ((List.length (Exp.args a0) : Int) == 2)) else (some false)) else (some false)) else (bif ((Exp.kind a0) == 8) then (bif ((Exp.n a0) == 0) then (bif (((Exp.text a0) : Str) == []) then (some ((List.length (Exp.args a0) : Int) == 3)
             ) else (some false)) else (some false)) else (some false)))))))))
def xDq (a0 : Exp) : List Arg := [.val (.v true (Ex .ro a0))]
def xBF (r : Bool) : CallO := ⟨.v false [.bool r], [], []⟩
def xDR (N : Nat) (q0 : Exp → Option (Bool)) : Nat → (List Exp) → Int → Int → Exp → Option (Bool)
 | 0, _, _, _, _ => none
 | n + 1, x6, x7, x8, b1 => bif (decide (x8 < x7)) then (if (0 : Int) ≤ x8 ∧ x8 < (List.length x6) then (q0 (List.getD x6 (Int.toNat x8) Ty.exp.dflt)).bind fun r1 => bif (!r1) then (some false) else ((xDR N q0 n x6 x7 (IntKind.i64.wrap (x8 + 1)) b1)) else none) else ((xHo N b1).bind fun r1 => some r1)
def xGl (N : Nat) (q0 : Exp → Option (Bool)) (a0 : Exp) : Option (Bool) := (xDR N q0 N (Exp.args a0) (List.length (Exp.args a0) : Int) 0 a0)
def xEO (N : Nat) : Nat → Exp → Option (Bool)
 | 0, _ => none
 | d + 1, a0 => xGl N (xEO N d) a0
def xIp (N : Nat) (a0 : Exp) : Option (Bool) := xEO N N a0
def xCp (a0 : Exp) : List Arg := [.val (.v true (Ex .ro a0))]
def xAN (r : Bool) : CallO := ⟨.v false [.bool r], [], []⟩
def xCA (N : Nat) (a0 : Exp) : Option (Bool) := (xHY N a0).bind fun r1 => bif (decide (r1 ≤ 40)) then ((xHX N a0).bind fun r2 => bif (decide (r2 ≤ 8)) then ((xIp N a0).bind fun r3 => some r3) else (some false)) else (some false)
def xA3 (a0 : Str) : List Arg := [.val (.v false [.str a0])]
def xAD (r : Exp × Int) : CallO := ⟨.tup [(true, (Ex .own r.1)), (false, [.int .i64 r.2])], [], []⟩
def xDD (N : Nat) (a0 : Str) : Option (Exp × Int) := (xFJ N a0).bind fun r1 => bif (decide (r1.2 ≥ 0)) then (some ((Exp.mk 0 0 [] []), r1.2)) else ((xF3 N (Psr.mk r1.1 0 (-1))).bind fun r2 => bif (decide ((Psr.bad r2.2) < 0)) then (bif (decide ((Psr.pos r2.2) < (List.length r1.1 : Int))) then (bif (decide ((Psr.pos r2.2) ≥ (List.length r1.1 : Int))) then (some ((Exp.mk 0 0 [] []), (List.length a0 : Int))) else (bif (decide ((Psr.pos r2.2) ≥ 0)) then (if (0 : Int) ≤ (Psr.pos r2.2) ∧ (Psr.pos r2.2) < (List.length r1.1) then some ((Exp.mk 0 0 [] []), (Tok.pos (List.getD r1.1 (Int.toNat (Psr.pos r2.2)) Ty.tok.dflt))) else none) else ((xCA N r2.1).bind fun r3 => bif (!r3) then (some ((Exp.mk 0 0 [] []), 0)) else (some (r2.1, (-1)))))) else (bif (decide ((Psr.bad r2.2) ≥ (List.length r1.1 : Int))) then (some ((Exp.mk 0 0 [] []), (List.length a0 : Int))) else (bif (decide ((Psr.bad r2.2) ≥ 0)) then (if (0 : Int) ≤ (Psr.bad r2.2) ∧ (Psr.bad r2.2) < (List.length r1.1) then some ((Exp.mk 0 0 [] []), (Tok.pos (List.getD r1.1 (Int.toNat (Psr.bad r2.2)) Ty.tok.dflt))) else none) else ((xCA N r2.1).bind fun r3 => bif (!r3) then (some ((Exp.mk 0 0 [] []), 0)) else (some (r2.1, (-1))))))) else (bif (decide ((Psr.bad r2.2) ≥ (List.length r1.1 : Int))) then (some ((Exp.mk 0 0 [] []), (List.length a0 : Int))) else (bif (decide ((Psr.bad r2.2) ≥ 0)) then (if (0 : Int) ≤ (Psr.bad r2.2) ∧ (Psr.bad r2.2) < (List.length r1.1) then some ((Exp.mk 0 0 [] []), (Tok.pos (List.getD r1.1 (Int.toNat (Psr.bad r2.2)) Ty.tok.dflt))) else none) else ((xCA N r2.1).bind fun r3 => bif (!r3) then (some ((Exp.mk 0 0 [] []), 0)) else (some (r2.1, (-1)))))))
def xEy (a0 : Str) : List Arg := [.val (.v false [.str a0])]
def xDe (r : Bool) : CallO := ⟨.v false [.bool r], [], []⟩
def xEN (N : Nat) (a0 : Str) : Option (Bool) := (xDD N a0).bind fun r1 => some (decide (r1.2 ≥ 0))
def xHO (a0 : List Str) (a1 : Str) : List Arg := [.val (.v false [.sl .ro .str a0]), .val (.v false [.str a1])]
def xGi (r : Str) : CallO := ⟨.v false [.str r], [], []⟩
def xD3 (N : Nat) : Nat → (List Str) → Str → (List Int) → Int → Option (Str)
 | 0, _, _, _, _ => none
 | n + 1, x0, x1, x5, x6 => bif (decide (x6 < (List.length x0 : Int))) then (bif (decide (x6 > 0)) then (if List.length x5 + List.length x1 ≤ Lim then if (0 : Int) ≤ x6 ∧ x6 < (List.length x0) then if List.length (x5 ++ List.map (fun c => (c.toNat : Int)) x1) + List.length (List.getD x0 (Int.toNat x6) Ty.str.dflt) ≤ Lim then (xD3 N n x0 x1 ((x5 ++ List.map (fun c => (c.toNat : Int)) x1) ++ List.map (fun c => (c.toNat : Int)) (List.getD x0 (Int.toNat x6) Ty.str.dflt)) (IntKind.i64.wrap (x6 + 1))) else none else none else none) else (if (0 : Int) ≤ x6 ∧ x6 < (List.length x0) then if List.length x5 + List.length (List.getD x0 (Int.toNat x6) Ty.str.dflt) ≤ Lim then (xD3 N n x0 x1 (x5 ++ List.map (fun c => (c.toNat : Int)) (List.getD x0 (Int.toNat x6) Ty.str.dflt)) (IntKind.i64.wrap (x6 + 1))) else none else none)) else (some (List.map (fun n => UInt8.ofNat (Int.toNat n)) x5))
def xJg (N : Nat) (a0 : List Str) (a1 : Str) : Option (Str) := (xD3 N N a0 a1 [] 0)
def xBn (a0 : Exp) : List Arg := [.val (.v true (Ex .ro a0))]
def xAX (r : Int) : CallO := ⟨.v false [.int .i64 r], [], []⟩
def xFv (N : Nat) (a0 : Exp) : Option (Int) := bif ((Exp.kind a0) == 7) then (some 0) else (bif ((Exp.kind a0) == 8) then (some 0) else (bif ((Exp.kind a0) == 9) then (some 0) else (bif ((Exp.kind a0) == 6) then (bif ((Exp.n a0) == 4) then (some 1) else (bif ((Exp.n a0) == 5) then (some 1) else (bif ((Exp.n a0) == 1) then (some 2) else (bif ((Exp.n a0) == 2) then (some 2) else (bif ((Exp.n a0) == 3) then (some 3) else (some 4)))))) else (some 4))))
def xEq (a0 : Int) : List Arg := [.val (.v false [.int .i64 a0])]
def xDr (r : Str) : CallO := ⟨.v false [.str r], [], []⟩
def xGt (N : Nat) (a0 : Int) : Option (Str) := (xHB N a0 1 5).bind fun r1 => bif (!r1) then (some [63]) else (if (0 : Int) ≤ a0 ∧ a0 < (List.length [[], [43], [45], [42], [60], [61, 61]]) then some (List.getD [[], [43], [45], [42], [60], [61, 61]] (Int.toNat a0) Ty.str.dflt) else none)
def xD0 (a0 : Exp) (a1 : Int) : List Arg := [.val (.v true (Ex .ro a0)), .val (.v false [.int .i64 a1])]
def xCJ (r : Str) : CallO := ⟨.v false [.str r], [], []⟩
def xFC (N : Nat) (q0 : Exp → Int → Option (Str)) (q1 : (List Exp) → Option (Str)) (q2 : Exp → Option (Str)) (a0 : Exp) (a1 : Int) : Option (Str) := (q2 a0).bind fun r1 => (xFv N a0).bind fun r2 => bif (decide (r2 < a1)) then (if List.length [40] + List.length r1 ≤ Lim then if List.length ([40] ++ r1) + List.length [41] ≤ Lim then some (([40] ++ r1) ++ [41]) else none else none) else (some r1)
def xEY (a0 : List Exp) : List Arg := [.val (.v false [.sl .ro .exp a0])]
def xDk (r : Str) : CallO := ⟨.v false [.str r], [], []⟩
def xEk (N : Nat) (q0 : Exp → Int → Option (Str)) (q1 : (List Exp) → Option (Str)) (q2 : Exp → Option (Str)) : Nat → (List Exp) → (List Str) → Int → Option (Str)
 | 0, _, _, _ => none
 | n + 1, x0, x3, x4 => bif (decide (x4 < (List.length x0 : Int))) then (if (0 : Int) ≤ x4 ∧ x4 < (List.length x0) then (q2 (List.getD x0 (Int.toNat x4) Ty.exp.dflt)).bind fun r1 => if List.length x3 + List.length [r1] ≤ Lim then (xEk N q0 q1 q2 n x0 (x3 ++ [r1]) (IntKind.i64.wrap (x4 + 1))) else none else none) else ((xJg N x3 [44, 32]).bind fun r1 => some r1)
def xGO (N : Nat) (q0 : Exp → Int → Option (Str)) (q1 : (List Exp) → Option (Str)) (q2 : Exp → Option (Str)) (a0 : List Exp) : Option (Str) := (xEk N q0 q1 q2 N a0 [] 0)
def xAS (a0 : Exp) : List Arg := [.val (.v true (Ex .ro a0))]
def xAs (r : Str) : CallO := ⟨.v false [.str r], [], []⟩
def xBI (N : Nat) (q0 : Exp → Int → Option (Str)) (q1 : (List Exp) → Option (Str)) (q2 : Exp → Option (Str)) (a0 : Exp) : Option (Str) := bif ((Exp.kind a0) == 1) then ((xEG N (Exp.n a0)).bind fun r1 => some r1) else (bif ((Exp.kind a0) == 2) then (if List.length [34] + List.length (Exp.text a0) ≤ Lim then if List.length ([34] ++ (Exp.text a0)) + List.length [34] ≤ Lim then some (([34] ++ (Exp.text a0)) ++ [34]) else none else none) else (bif ((Exp.kind a0) == 3) then (some (Exp.text a0)) else (bif ((Exp.kind a0) == 4) then ((q1 (Exp.args a0)).bind fun r1 => if List.length [91] + List.length r1 ≤ Lim then if List.length ([91] ++ r1) + List.length [93] ≤ Lim then some (([91] ++ r1) ++ [93]) else none else none) else (bif ((Exp.kind a0) == 5) then (if List.length (Exp.text a0) + List.length [40] ≤ Lim then (q1 (Exp.args a0)).bind fun r1 => if List.length ((Exp.text a0) ++ [40]) + List.length r1 ≤ Lim then if List.length (((Exp.text a0) ++ [40]) ++ r1) + List.length [41] ≤ Lim then some ((((Exp.text a0) ++ [40]) ++ r1) ++ [41]) else none else none else none) else (bif ((Exp.kind a0) == 7) then (if List.length [108, 101, 116, 32] + List.length (Exp.text a0) ≤ Lim then if List.length ([108, 101, 116, 32] ++ (Exp.text a0)) + List.length [32, 61, 32] ≤ Lim then if (0 : Int) ≤ 0 ∧ (0 : Int) < (List.length (Exp.args a0)) then (q2 (List.getD (Exp.args a0) (Int.toNat 0) Ty.exp.dflt)).bind fun r1 => if List.length (([108, 101, 116, 32] ++ (Exp.text a0)) ++ [32, 61, 32]) + List.length r1 ≤ Lim then if List.length ((([108, 101, 116, 32] ++ (Exp.text a0)) ++ [32, 61, 32]) ++ r1) + List.length [32, 105, 110, 32] ≤ Lim then if (0 : Int) ≤ 1 ∧ (1 : Int) < (List.length (Exp.args a0)) then (q2 (List.getD (Exp.args a0) (Int.toNat 1) Ty.exp.dflt)).bind fun r2 => if List.length (((([108, 101, 116, 32] ++ (Exp.text a0)) ++ [32, 61, 32]) ++ r1) ++ [32, 105, 110, 32]) + List.length r2 ≤ Lim then some ((((([108, 101, 116, 32] ++ (Exp.text a0)) ++ [32, 61, 32]) ++ r1) ++ [32, 105, 110, 32]) ++ r2)
     else none else none else none else none else none else none else none) else (bif ((Exp.kind a0) == 9) then (if List.length [102, 111, 114, 32] + List.length (Exp.text a0) ≤ Lim then if List.length ([102, 111, 114, 32] ++ (Exp.text a0)) + List.length [32, 105, 110, 32] ≤ Lim then if (0 : Int) ≤ 0 ∧ (0 : Int) < (List.length (Exp.args a0)) then (q2 (List.getD (Exp.args a0) (Int.toNat 0) Ty.exp.dflt)).bind fun r1 => if List.length (([102, 111, 114, 32] ++ (Exp.text a0)) ++ [32, 105, 110, 32]) + List.length r1 ≤ Lim then if List.length ((([102, 111, 114, 32] ++ (Exp.text a0)) ++ [32, 105, 110, 32]) ++ r1) + List.length [32, 100, 111, 32] ≤ Lim then if (0 : Int) ≤ 1 ∧ (1 : Int) < (List.length (Exp.args a0)) then (q2 (List.getD (Exp.args a0) (Int.toNat 1) Ty.exp.dflt)).bind fun r2 => if List.length (((([102, 111, 114, 32] ++ (Exp.text a0)) ++ [32, 105, 110, 32]) ++ r1) ++ [32, 100, 111, 32]) + List.length r2 ≤ Lim then some ((((([102, 111, 114, 32] ++ (Exp.text a0)) ++ [32, 105, 110, 32]) ++ r1) ++ [32, 100, 111, 32]) ++ r2) else none else none else none else none else none else none else none) else (bif ((Exp.kind a0) == 8) then (if (0 : Int) ≤ 0 ∧ (0 : Int) < (List.length (Exp.args a0)) then (q2 (List.getD (Exp.args a0) (Int.toNat 0) Ty.exp.dflt)).bind fun r1 => if List.length [105, 102, 32] + List.length r1 ≤ Lim then if List.length ([105, 102, 32] ++ r1) + List.length [32, 116, 104, 101, 110, 32] ≤ Lim then if (0 : Int) ≤ 1 ∧ (1 : Int) < (List.length (Exp.args a0)) then (q2 (List.getD (Exp.args a0) (Int.toNat 1) Ty.exp.dflt)).bind fun r2 => if List.length (([105, 102, 32] ++ r1) ++ [32, 116, 104, 101, 110, 32]) + List.length r2 ≤ Lim then if List.length ((([105, 102, 32] ++ r1) ++ [32, 116, 104, 101, 110, 32]) ++ r2) + List.length [32, 101, 108, 115, 101, 32] ≤ Lim then if (0 : Int) ≤ 2 ∧ (2 : Int) < (List.length (Exp.args a0)) then (q2 (List.getD (Exp.args a0) (Int.toNat 2) Ty.exp.dflt)).bind fun r3 => if List.length (((([105, 102, 32] ++ r1) ++ [32, 116, 104, 101, 110, 32]) ++ r2) ++ [32, 101, 108, 115, 101, 32]) + List.length r3 ≤ Lim then
      some ((((([105, 102, 32] ++ r1) ++ [32, 116, 104, 101, 110, 32]) ++ r2) ++ [32, 101, 108, 115, 101, 32]) ++ r3) else none else none else none else none else none else none else none else none) else ((xFv N a0).bind fun r1 => bif (r1 == 1) then (if (0 : Int) ≤ 0 ∧ (0 : Int) < (List.length (Exp.args a0)) then (q0 (List.getD (Exp.args a0) (Int.toNat 0) Ty.exp.dflt) 2).bind fun r2 => if List.length r2 + List.length [32] ≤ Lim then (xGt N (Exp.n a0)).bind fun r3 => if List.length (r2 ++ [32]) + List.length r3 ≤ Lim then if List.length ((r2 ++ [32]) ++ r3) + List.length [32] ≤ Lim then if (0 : Int) ≤ 1 ∧ (1 : Int) < (List.length (Exp.args a0)) then (q0 (List.getD (Exp.args a0) (Int.toNat 1) Ty.exp.dflt) (IntKind.i64.wrap (r1 + 1))).bind fun r4 => if List.length (((r2 ++ [32]) ++ r3) ++ [32]) + List.length r4 ≤ Lim then some ((((r2 ++ [32]) ++ r3) ++ [32]) ++ r4) else none else none else none else none else none else none) else (if (0 : Int) ≤ 0 ∧ (0 : Int) < (List.length (Exp.args a0)) then (q0 (List.getD (Exp.args a0) (Int.toNat 0) Ty.exp.dflt) r1).bind fun r2 => if List.length r2 + List.length [32] ≤ Lim then (xGt N (Exp.n a0)).bind fun r3 => if List.length (r2 ++ [32]) + List.length r3 ≤ Lim then if List.length ((r2 ++ [32]) ++ r3) + List.length [32] ≤ Lim then if (0 : Int) ≤ 1 ∧ (1 : Int) < (List.length (Exp.args a0)) then (q0 (List.getD (Exp.args a0) (Int.toNat 1) Ty.exp.dflt) (IntKind.i64.wrap (r1 + 1))).bind fun r4 => if List.length (((r2 ++ [32]) ++ r3) ++ [32]) + List.length r4 ≤ Lim then some ((((r2 ++ [32]) ++ r3) ++ [32]) ++ r4) else none else none else none else none else none else none)))))))))
structure spec_l12At_rec where
 c_spec_l12At : Exp → Int → Option (Str)
 c_spec_l12List : (List Exp) → Option (Str)
 c_spec_l12Text : Exp → Option (Str)
def xAr (N : Nat) : Nat → spec_l12At_rec
 | 0 => ⟨fun _ _ => none, fun _ => none, fun _ => none⟩
 | d + 1 => ⟨xFC N (xAr N d).c_spec_l12At (xAr N d).c_spec_l12List (xAr N d).c_spec_l12Text, xGO N (xAr N d).c_spec_l12At (xAr N d).c_spec_l12List (xAr N d).c_spec_l12Text, xBI N (xAr N d).c_spec_l12At (xAr N d).c_spec_l12List (xAr N d).c_spec_l12Text⟩
def xJl (N : Nat) (a0 : Exp) : Option (Str) := (xAr N N).c_spec_l12Text a0
def xEB (a0 : Exp) : List Arg := [.val (.v true (Ex .ro a0))]
def xBc (r : Str) : CallO := ⟨.v false [.str r], [], []⟩
def xES (N : Nat) (a0 : Exp) : Option (Str) := (xBY N a0).bind fun r1 => bif (!r1) then (some []) else ((xJl N a0).bind fun r2 => some r2)
def xJm (a0 : Int) : List Arg := [.val (.v false [.int .i64 a0])]
def xHF (r : Str) : CallO := ⟨.v false [.str r], [], []⟩
def strconv_Itoa (N : Nat) (a0 : Int) : Option Str := zIj a0
def xFH (a0 : Int) : List Arg := [.val (.v false [.int .i64 a0])]
def xEM (r : Str) : CallO := ⟨.v false [.str r], [], []⟩
def xFW (N : Nat) (a0 : Int) : Option (Str) := (strconv_Itoa N a0).bind fun r1 => some r1
def xJn (a0 : List Str) (a1 : Str) : List Arg := [.val (.v false [.sl .ro .str a0]), .val (.v false [.str a1])]
def xHG (r : Str) : CallO := ⟨.v false [.str r], [], []⟩
def strings_Join (N : Nat) (a0 : List Str) (a1 : Str) : Option Str := zIk a0 a1
def xHJ (a0 : List Str) (a1 : Str) : List Arg := [.val (.v false [.sl .ro .str a0]), .val (.v false [.str a1])]
def xGX (r : Str) : CallO := ⟨.v false [.str r], [], []⟩
def xIT (N : Nat) (a0 : List Str) (a1 : Str) : Option (Str) := (strings_Join N a0 a1).bind fun r1 => some r1
def xBm (a0 : Exp) : List Arg := [.val (.v true (Ex .ro a0))]
def xAW (r : Int) : CallO := ⟨.v false [.int .i64 r], [], []⟩
def xGg (N : Nat) (a0 : Exp) : Option (Int) := bif ((Exp.kind a0) == 7) then (some 0) else (bif ((Exp.kind a0) == 8) then (some 0) else (bif ((Exp.kind a0) == 9) then (some 0) else (bif ((Exp.kind a0) == 6) then (bif ((Exp.n a0) == 4) then (some 1) else (bif ((Exp.n a0) == 5) then (some 1) else (bif ((Exp.n a0) == 1) then (some 2) else (bif ((Exp.n a0) == 2) then (some 2) else (bif ((Exp.n a0) == 3) then (some 3) else (some 4)))))) else (some 4))))
def xCY (a0 : Exp) (a1 : Int) : List Arg := [.val (.v true (Ex .ro a0)), .val (.v false [.int .i64 a1])]
def xBG (r : Str) : CallO := ⟨.v false [.str r], [], []⟩
def xEz (N : Nat) (q0 : Exp → Int → Option (Str)) (q1 : Exp → Option (Str)) (q2 : (List Exp) → Option (Str)) (a0 : Exp) (a1 : Int) : Option (Str) := (q1 a0).bind fun r1 => (xGg N a0).bind fun r2 => bif (decide (r2 < a1)) then (if List.length [40] + List.length r1 ≤ Lim then if List.length ([40] ++ r1) + List.length [41] ≤ Lim then some (([40] ++ r1) ++ [41]) else none else none) else (some r1)
def xAY (a0 : Exp) : List Arg := [.val (.v true (Ex .ro a0))]
def xAw (r : Str) : CallO := ⟨.v false [.str r], [], []⟩
def xBV (N : Nat) (q0 : Exp → Int → Option (Str)) (q1 : Exp → Option (Str)) (q2 : (List Exp) → Option (Str)) (a0 : Exp) : Option (Str) := bif ((Exp.kind a0) == 1) then ((xFW N (Exp.n a0)).bind fun r1 => some r1) else (bif ((Exp.kind a0) == 2) then (if List.length [34] + List.length (Exp.text a0) ≤ Lim then if List.length ([34] ++ (Exp.text a0)) + List.length [34] ≤ Lim then some (([34] ++ (Exp.text a0)) ++ [34]) else none else none) else (bif ((Exp.kind a0) == 3) then (some (Exp.text a0)) else (bif ((Exp.kind a0) == 4) then ((q2 (Exp.args a0)).bind fun r1 => if List.length [91] + List.length r1 ≤ Lim then if List.length ([91] ++ r1) + List.length [93] ≤ Lim then some (([91] ++ r1) ++ [93]) else none else none) else (bif ((Exp.kind a0) == 5) then (if List.length (Exp.text a0) + List.length [40] ≤ Lim then (q2 (Exp.args a0)).bind fun r1 => if List.length ((Exp.text a0) ++ [40]) + List.length r1 ≤ Lim then if List.length (((Exp.text a0) ++ [40]) ++ r1) + List.length [41] ≤ Lim then some ((((Exp.text a0) ++ [40]) ++ r1) ++ [41]) else none else none else none) else (bif ((Exp.kind a0) == 7) then (if List.length [108, 101, 116, 32] + List.length (Exp.text a0) ≤ Lim then if List.length ([108, 101, 116, 32] ++ (Exp.text a0)) + List.length [32, 61, 32] ≤ Lim then if (0 : Int) ≤ 0 ∧ (0 : Int) < (List.length (Exp.args a0)) then (q1 (List.getD (Exp.args a0) (Int.toNat 0) Ty.exp.dflt)).bind fun r1 => if List.length (([108, 101, 116, 32] ++ (Exp.text a0)) ++ [32, 61, 32]) + List.length r1 ≤ Lim then if List.length ((([108, 101, 116, 32] ++ (Exp.text a0)) ++ [32, 61, 32]) ++ r1) + List.length [32, 105, 110, 32] ≤ Lim then if (0 : Int) ≤ 1 ∧ (1 : Int) < (List.length (Exp.args a0)) then (q1 (List.getD (Exp.args a0) (Int.toNat 1) Ty.exp.dflt)).bind fun r2 => if List.length (((([108, 101, 116, 32] ++ (Exp.text a0)) ++ [32, 61, 32]) ++ r1) ++ [32, 105, 110, 32]) + List.length r2 ≤ Lim then some ((((([108, 101, 116, 32] ++ (Exp.text a0)) ++ [32, 61, 32]) ++ r1) ++ [32, 105, 110, 32]) ++ r2)
     else none else none else none else none else none else none else none) else (bif ((Exp.kind a0) == 8) then (if (0 : Int) ≤ 0 ∧ (0 : Int) < (List.length (Exp.args a0)) then (q1 (List.getD (Exp.args a0) (Int.toNat 0) Ty.exp.dflt)).bind fun r1 => if List.length [105, 102, 32] + List.length r1 ≤ Lim then if List.length ([105, 102, 32] ++ r1) + List.length [32, 116, 104, 101, 110, 32] ≤ Lim then if (0 : Int) ≤ 1 ∧ (1 : Int) < (List.length (Exp.args a0)) then (q1 (List.getD (Exp.args a0) (Int.toNat 1) Ty.exp.dflt)).bind fun r2 => if List.length (([105, 102, 32] ++ r1) ++ [32, 116, 104, 101, 110, 32]) + List.length r2 ≤ Lim then if List.length ((([105, 102, 32] ++ r1) ++ [32, 116, 104, 101, 110, 32]) ++ r2) + List.length [32, 101, 108, 115, 101, 32] ≤ Lim then if (0 : Int) ≤ 2 ∧ (2 : Int) < (List.length (Exp.args a0)) then (q1 (List.getD (Exp.args a0) (Int.toNat 2) Ty.exp.dflt)).bind fun r3 => if List.length (((([105, 102, 32] ++ r1) ++ [32, 116, 104, 101, 110, 32]) ++ r2) ++ [32, 101, 108, 115, 101, 32]) + List.length r3 ≤ Lim then some ((((([105, 102, 32] ++ r1) ++ [32, 116, 104, 101, 110, 32]) ++ r2) ++ [32, 101, 108, 115, 101, 32]) ++ r3) else none else none else none else none else none else none else none else none) else (bif ((Exp.kind a0) == 9) then (if List.length [102, 111, 114, 32] + List.length (Exp.text a0) ≤ Lim then if List.length ([102, 111, 114, 32] ++ (Exp.text a0)) + List.length [32, 105, 110, 32] ≤ Lim then if (0 : Int) ≤ 0 ∧ (0 : Int) < (List.length (Exp.args a0)) then (q1 (List.getD (Exp.args a0) (Int.toNat 0) Ty.exp.dflt)).bind fun r1 => if List.length (([102, 111, 114, 32] ++ (Exp.text a0)) ++ [32, 105, 110, 32]) + List.length r1 ≤ Lim then if List.length ((([102, 111, 114, 32] ++ (Exp.text a0)) ++ [32, 105, 110, 32]) ++ r1) + List.length [32, 100, 111, 32] ≤ Lim then if (0 : Int) ≤ 1 ∧ (1 : Int) < (List.length (Exp.args a0)) then (q1 (List.getD (Exp.args a0) (Int.toNat 1) Ty.exp.dflt)).bind fun r2 =>
      if List.length (((([102, 111, 114, 32] ++ (Exp.text a0)) ++ [32, 105, 110, 32]) ++ r1) ++ [32, 100, 111, 32]) + List.length r2 ≤ Lim then some ((((([102, 111, 114, 32] ++ (Exp.text a0)) ++ [32, 105, 110, 32]) ++ r1) ++ [32, 100, 111, 32]) ++ r2) else none else none else none else none else none else none else none) else ((xGg N a0).bind fun r1 => bif (r1 == 1) then (if (0 : Int) ≤ 0 ∧ (0 : Int) < (List.length (Exp.args a0)) then (q0 (List.getD (Exp.args a0) (Int.toNat 0) Ty.exp.dflt) 2).bind fun r2 => if List.length r2 + List.length [32] ≤ Lim then (xEx N (Exp.n a0)).bind fun r3 => if List.length (r2 ++ [32]) + List.length r3 ≤ Lim then if List.length ((r2 ++ [32]) ++ r3) + List.length [32] ≤ Lim then if (0 : Int) ≤ 1 ∧ (1 : Int) < (List.length (Exp.args a0)) then (q0 (List.getD (Exp.args a0) (Int.toNat 1) Ty.exp.dflt) (IntKind.i64.wrap (r1 + 1))).bind fun r4 => if List.length (((r2 ++ [32]) ++ r3) ++ [32]) + List.length r4 ≤ Lim then some ((((r2 ++ [32]) ++ r3) ++ [32]) ++ r4) else none else none else none else none else none else none) else (if (0 : Int) ≤ 0 ∧ (0 : Int) < (List.length (Exp.args a0)) then (q0 (List.getD (Exp.args a0) (Int.toNat 0) Ty.exp.dflt) r1).bind fun r2 => if List.length r2 + List.length [32] ≤ Lim then (xEx N (Exp.n a0)).bind fun r3 => if List.length (r2 ++ [32]) + List.length r3 ≤ Lim then if List.length ((r2 ++ [32]) ++ r3) + List.length [32] ≤ Lim then if (0 : Int) ≤ 1 ∧ (1 : Int) < (List.length (Exp.args a0)) then (q0 (List.getD (Exp.args a0) (Int.toNat 1) Ty.exp.dflt) (IntKind.i64.wrap (r1 + 1))).bind fun r4 => if List.length (((r2 ++ [32]) ++ r3) ++ [32]) + List.length r4 ≤ Lim then some ((((r2 ++ [32]) ++ r3) ++ [32]) ++ r4) else none else none else none else none else none else none)))))))))
def xEP (a0 : List Exp) : List Arg := [.val (.v false [.sl .ro .exp a0])]
def xDf (r : Str) : CallO := ⟨.v false [.str r], [], []⟩
def xEd (N : Nat) (q0 : Exp → Int → Option (Str)) (q1 : Exp → Option (Str)) (q2 : (List Exp) → Option (Str)) : Nat → (List Str) → (List Exp) → Int → Int → Option (Str)
 | 0, _, _, _, _ => none
 | n + 1, x3, x7, x8, x9 => bif (decide (x9 < x8)) then (if (0 : Int) ≤ x9 ∧ x9 < (List.length x7) then (q1 (List.getD x7 (Int.toNat x9) Ty.exp.dflt)).bind fun r1 => if List.length x3 + List.length [r1] ≤ Lim then (xEd N q0 q1 q2 n (x3 ++ [r1]) x7 x8 (IntKind.i64.wrap (x9 + 1))) else none else none) else ((xIT N x3 [44, 32]).bind fun r1 => some r1)
def xGH (N : Nat) (q0 : Exp → Int → Option (Str)) (q1 : Exp → Option (Str)) (q2 : (List Exp) → Option (Str)) (a0 : List Exp) : Option (Str) := (xEd N q0 q1 q2 N [] a0 (List.length a0 : Int) 0)
structure impl_enclosed_rec where
 c_impl_enclosed : Exp → Int → Option (Str)
 c_impl_source : Exp → Option (Str)
 c_impl_sources : (List Exp) → Option (Str)
def xAj (N : Nat) : Nat → impl_enclosed_rec
 | 0 => ⟨fun _ _ => none, fun _ => none, fun _ => none⟩
 | d + 1 => ⟨xEz N (xAj N d).c_impl_enclosed (xAj N d).c_impl_source (xAj N d).c_impl_sources, xBV N (xAj N d).c_impl_enclosed (xAj N d).c_impl_source (xAj N d).c_impl_sources, xGH N (xAj N d).c_impl_enclosed (xAj N d).c_impl_source (xAj N d).c_impl_sources⟩
def xJQ (N : Nat) (a0 : Exp) : Option (Str) := (xAj N N).c_impl_source a0
def xEv (a0 : Exp) : List Arg := [.val (.v true (Ex .ro a0))]
def xBb (r : Str) : CallO := ⟨.v false [.str r], [], []⟩
def xEL (N : Nat) (a0 : Exp) : Option (Str) := (xCA N a0).bind fun r1 => bif (!r1) then (some []) else ((xJQ N a0).bind fun r2 => some r2)
def xIu (a0 : List Int) : List Arg := [.val (.v false [.sl .ro .byte a0])]
def xDg (r : Bool) : CallO := ⟨.v false [.bool r], [], []⟩
def xJr (N : Nat) (a0 : List Int) : Option (Bool) := some (decide ((List.length a0 : Int) > 1048576))
def xHg (a0 : List Int) : List Arg := [.val (.v false [.sl .ro .byte a0])]
def xFc (r : Cur) : CallO := ⟨.tup [(false, [.ptr 0 0]), (true, (Cu .ro r))], [], []⟩
def xFN (N : Nat) : Nat → (List Int) → Int → Int → Option (Cur)
 | 0, _, _, _ => none
 | n + 1, x0, x3, x4 => bif (decide (x4 < (List.length x0 : Int))) then (bif (decide (x4 < 4000)) then (if (0 : Int) ≤ x4 ∧ x4 < (List.length x0) then (xFN N n x0 (andI .i64 (IntKind.i64.wrap ((IntKind.i64.wrap ((IntKind.i64.wrap (x3 * 131)) + (IntKind.i64.wrap ((List.getD x0 (Int.toNat x4) Ty.byte.dflt))))) + 7)) 1073741823) (IntKind.i64.wrap (x4 + 1))) else none) else (some (Cur.mk x0 0 x3))) else (some (Cur.mk x0 0 x3))
def xGP (N : Nat) (a0 : List Int) : Option (Cur) := (xFN N N a0 (IntKind.i64.wrap (26583 + (List.length a0 : Int))) 0)
def xDG (a0 : Cur) : List Arg := [.box (Cu .ro a0)]
def xB5 (r : Int × Cur) : CallO := ⟨.v false [.int .i64 r.1], [(Cu .ro r.2)], []⟩
def xE9 (N : Nat) (a0 : Cur) : Option (Int × Cur) := bif (decide ((Cur.i a0) < (List.length (Cur.b a0) : Int))) then (if (0 : Int) ≤ (Cur.i a0) ∧ (Cur.i a0) < (List.length (Cur.b a0)) then some ((andI .i64 (IntKind.i64.wrap ((andI .i64 (xorI .i64 (Int.fdiv (IntKind.i64.wrap ((IntKind.i64.wrap ((Cur.h a0) * 6364136223846793005)) + 1442695040888963407)) ((2 : Int) ^ (Int.toNat 33))) (Int.fdiv (IntKind.i64.wrap ((IntKind.i64.wrap ((Cur.h a0) * 6364136223846793005)) + 1442695040888963407)) ((2 : Int) ^ (Int.toNat 45)))) 255) + (IntKind.i64.wrap ((List.getD (Cur.b a0) (Int.toNat (Cur.i a0)) Ty.byte.dflt))))) 255), (Cur.mk (Cur.b a0) (IntKind.i64.wrap ((Cur.i a0) + 1)) (IntKind.i64.wrap ((IntKind.i64.wrap ((Cur.h a0) * 6364136223846793005)) + 1442695040888963407)))) else none) else (some ((andI .i64 (xorI .i64 (Int.fdiv (IntKind.i64.wrap ((IntKind.i64.wrap ((Cur.h a0) * 6364136223846793005)) + 1442695040888963407)) ((2 : Int) ^ (Int.toNat 33))) (Int.fdiv (IntKind.i64.wrap ((IntKind.i64.wrap ((Cur.h a0) * 6364136223846793005)) + 1442695040888963407)) ((2 : Int) ^ (Int.toNat 45)))) 255), (Cur.mk (Cur.b a0) (Cur.i a0) (IntKind.i64.wrap ((IntKind.i64.wrap ((Cur.h a0) * 6364136223846793005)) + 1442695040888963407)))))
def xAB (a0 : Cur) (a1 : Int) : List Arg := [.box (Cu .ro a0), .val (.v false [.int .i64 a1])]
def xAc (r : Int × Cur) : CallO := ⟨.v false [.int .i64 r.1], [(Cu .ro r.2)], []⟩
def xAK (N : Nat) (a0 : Cur) (a1 : Int) : Option (Int × Cur) := bif (decide (a1 ≤ 0)) then (some (0, a0)) else (bif (decide (a1 ≤ 256)) then ((xE9 N a0).bind fun r1 => if a1 ≠ (0 : Int) then some ((Int.tmod r1.1 a1), r1.2) else none) else ((xE9 N a0).bind fun r1 => (xE9 N r1.2).bind fun r2 => (xE9 N r2.2).bind fun r3 => (xE9 N r3.2).bind fun r4 => if a1 ≠ (0 : Int) then some ((Int.tmod (IntKind.i64.wrap ((IntKind.i64.wrap ((IntKind.i64.wrap ((IntKind.i64.wrap (r1.1 * 16777216)) + (IntKind.i64.wrap (r2.1 * 65536)))) + (IntKind.i64.wrap (r3.1 * 256)))) + r4.1)) a1), r4.2) else none))
def xCE (a0 : Cur) (a1 : List Str) : List Arg := [.box (Cu .ro a0), .val (.v false [.sl .ro .str a1])]
def xAZ (r : Str × Cur) : CallO := ⟨.v false [.str r.1], [(Cu .ro r.2)], []⟩
def xC4 (N : Nat) (a0 : Cur) (a1 : List Str) : Option (Str × Cur) := (xAK N a0 (List.length a1 : Int)).bind fun r1 => if (0 : Int) ≤ r1.1 ∧ r1.1 < (List.length a1) then some ((List.getD a1 (Int.toNat r1.1) Ty.str.dflt), r1.2) else none
def xCR (a0 : Cur) (a1 : List Str) : List Arg := [.box (Cu .ro a0), .val (.v false [.sl .ro .str a1])]
def xBM (r : Exp × Cur) : CallO := ⟨.v true (Ex .own r.1), [(Cu .ro r.2)], []⟩
def xFy (N : Nat) (a0 : Cur) (a1 : List Str) : Option (Exp × Cur) := (xAK N a0 5).bind fun r1 => bif (r1.1 == 0) then ((xC4 N r1.2 [[97], [97, 98], [], [98]]).bind fun r2 => some ((Exp.mk 2 0 r2.1 []), r2.2)) else (bif (r1.1 == 1) then ((xAK N r1.2 6).bind fun r2 => (xB9 N r2.1).bind fun r3 => some (r3, r2.2)) else (bif (r1.1 == 2) then ((xAK N r1.2 6).bind fun r2 => (xB9 N r2.1).bind fun r3 => some (r3, r2.2)) else ((xC4 N r1.2 a1).bind fun r2 => (xHS N r2.1).bind fun r3 => some (r3, r2.2))))
def xEI (a0 : Cur) (a1 : Int) : List Arg := [.box (Cu .ro a0), .val (.v false [.int .i64 a1])]
def xCT (r : Bool × Cur) : CallO := ⟨.v false [.bool r.1], [(Cu .ro r.2)], []⟩
def xFD (N : Nat) (a0 : Cur) (a1 : Int) : Option (Bool × Cur) := (xAK N a0 a1).bind fun r1 => some ((r1.1 == 0), r1.2)
def xEi (a0 : Cur) (a1 : List Str) : List Arg := [.box (Cu .ro a0), .val (.v false [.sl .ro .str a1])]
def xCa (r : Exp × Cur) : CallO := ⟨.v true (Ex .own r.1), [(Cu .ro r.2)], []⟩
def xEj (N : Nat) : Nat → (List Str) → Int → Int → Cur → Exp → Exp → Option (Exp × Cur)
 | 0, _, _, _, _, _, _ => none
 | n + 1, x1, x6, x7, b0, b4, b5 => bif (decide (x7 < x6)) then ((xAK N b0 5).bind fun r1 => (xB9 N r1.1).bind fun r2 => if List.length (Exp.args b5) + List.length [(Exp.re r2)] ≤ Lim then (xFD N r1.2 4).bind fun r3 => bif r3.1 then ((xFy N r3.2 x1).bind fun r4 => if (0 : Int) ≤ x7 ∧ x7 < (List.length ((Exp.args b5) ++ [(Exp.re r2)])) then (xEj N n x1 x6 (IntKind.i64.wrap (x7 + 1)) r4.2 b4 (Exp.mk (Exp.kind b5) (Exp.n b5) (Exp.text b5) ((fun (z2 : List Exp) => List.set z2 (Int.toNat x7) (Exp.re r4.1)) ((Exp.args b5) ++ [(Exp.re r2)])))) else none) else ((xEj N n x1 x6 (IntKind.i64.wrap (x7 + 1)) r3.2 b4 (Exp.mk (Exp.kind b5) (Exp.n b5) (Exp.text b5) ((Exp.args b5) ++ [(Exp.re r2)])))) else none) else (some (b5, b0))
def xFz (N : Nat) (a0 : Cur) (a1 : List Str) : Option (Exp × Cur) := (xAK N a0 4).bind fun r1 => (xEj N N a1 r1.1 0 r1.2 (Exp.mk 0 0 [] []) (Exp.mk 4 0 [] []))
def xB6 (a0 : Cur) (a1 : Exp) (a2 : Exp) : List Arg := [.box (Cu .ro a0), .val (.v true (Ex .tip a1)), .val (.v true (Ex .tip a2))]
def xAV (r : Exp × Cur) : CallO := ⟨.v true (Ex .tip r.1), [(Cu .ro r.2)], []⟩
def xDl (N : Nat) (a0 : Cur) (a1 : Exp) (a2 : Exp) : Option (Exp × Cur) := (xFD N a0 2).bind fun r1 => bif r1.1 then (some (a1, r1.2)) else (some (a2, r1.2))
def xB0 (a0 : Str) (a1 : List Exp) : List Arg := [.val (.v false [.str a0]), .val (.v false [.sl .tip .exp a1])]
def xAJ (r : Exp) : CallO := ⟨.v true (Ex .tip r), [], []⟩
def xCN (N : Nat) (a0 : Str) (a1 : List Exp) : Option (Exp) := some (Exp.mk 5 0 a0 a1)
def xD9 (a0 : Cur) : List Arg := [.box (Cu .ro a0)]
def xCI (r : Exp × Cur) : CallO := ⟨.v true (Ex .own r.1), [(Cu .ro r.2)], []⟩
def xFi (N : Nat) (a0 : Cur) : Option (Exp × Cur) := (xC4 N a0 [[97], [97], [98], [99], [120]]).bind fun r1 => some ((Exp.mk 2 0 r1.1 []), r1.2)
def xEt (a0 : Cur) : List Arg := [.box (Cu .ro a0)]
def xCD (r : Exp × Cur) : CallO := ⟨.v true (Ex .tip r.1), [(Cu .ro r.2)], []⟩
def xEu (N : Nat) : Nat → Int → Int → Cur → Exp → Exp → Option (Exp × Cur)
 | 0, _, _, _, _, _ => none
 | n + 1, x4, x5, b0, b2, b3 => bif (decide (x5 < x4)) then ((xAK N b0 3).bind fun r1 => (xB9 N r1.1).bind fun r2 => (xAK N r1.2 4).bind fun r3 => (xB9 N r3.1).bind fun r4 => if List.length (Exp.args b3) + List.length [(Exp.mk 4 0 [] [(Exp.re r2), (Exp.re r4)])] ≤ Lim then (xEu N n x4 (IntKind.i64.wrap (x5 + 1)) r3.2 b2 (Exp.mk (Exp.kind b3) (Exp.n b3) (Exp.text b3) ((Exp.args b3) ++ [(Exp.mk 4 0 [] [(Exp.re r2), (Exp.re r4)])]))) else none) else ((xCN N [116, 97, 98, 108, 101] [(Exp.mk 2 0 [97, 32, 98] []), (Exp.re b3)]).bind fun r1 => some (r1, b0))
def xFL (N : Nat) (a0 : Cur) : Option (Exp × Cur) := (xAK N a0 4).bind fun r1 => (xEu N N r1.1 0 r1.2 (Exp.mk 0 0 [] []) (Exp.mk 4 0 [] []))
def xAA (a0 : Cur) (a1 : List Str) (a2 : Int) : List Arg := [.box (Cu .ro a0), .val (.v false [.sl .ro .str a1]), .val (.v false [.int .i64 a2])]
def xAi (r : Exp × Cur) : CallO := ⟨.v true (Ex .tip r.1), [(Cu .ro r.2)], []⟩
def xDB (N : Nat) (q0 : Cur → (List Str) → Int → Option (Exp × Cur)) (a0 : Cur) (a1 : List Str) (a2 : Int) : Option (Exp × Cur) := bif (decide (a2 < 2)) then ((xFy N a0 a1).bind fun r1 => some (r1.1, r1.2)) else ((xAK N a0 13).bind fun r1 => bif (r1.1 == 0) then ((xAK N r1.2 5).bind fun r2 => (q0 r2.2 a1 (IntKind.i64.wrap (a2 - 1))).bind fun r3 => (q0 r3.2 a1 (IntKind.i64.wrap (a2 - 1))).bind fun r4 => (xDb N (IntKind.i64.wrap (1 + r2.1)) r3.1 r4.1).bind fun r5 => some (r5, r4.2)) else (bif (r1.1 == 1) then ((xAK N r1.2 5).bind fun r2 => (q0 r2.2 a1 (IntKind.i64.wrap (a2 - 1))).bind fun r3 => (q0 r3.2 a1 (IntKind.i64.wrap (a2 - 1))).bind fun r4 => (xDb N (IntKind.i64.wrap (1 + r2.1)) r3.1 r4.1).bind fun r5 => some (r5, r4.2)) else (bif (r1.1 == 2) then (if (0 : Int) ≤ 0 ∧ (0 : Int) < (List.length a1) then (xC4 N r1.2 [[117], [118], (List.getD a1 (Int.toNat 0) Ty.str.dflt)]).bind fun r2 => (q0 r2.2 a1 (IntKind.i64.wrap (a2 - 1))).bind fun r3 => if List.length [r2.1] + List.length a1 ≤ Lim then (q0 r3.2 ([r2.1] ++ a1) (IntKind.i64.wrap (a2 - 1))).bind fun r4 => some ((Exp.mk 7 0 r2.1 [(Exp.re r3.1), (Exp.re r4.1)]), r4.2) else none else none) else (bif (r1.1 == 3) then ((q0 r1.2 a1 (IntKind.i64.wrap (a2 - 1))).bind fun r2 => (q0 r2.2 a1 (IntKind.i64.wrap (a2 - 1))).bind fun r3 => (q0 r3.2 a1 (IntKind.i64.wrap (a2 - 1))).bind fun r4 => some ((Exp.mk 8 0 [] [(Exp.re r2.1), (Exp.re r3.1), (Exp.re r4.1)]), r4.2)) else (bif (r1.1 == 4) then (if (0 : Int) ≤ 0 ∧ (0 : Int) < (List.length a1) then (xC4 N r1.2 [[117], [118], (List.getD a1 (Int.toNat 0) Ty.str.dflt)]).bind fun r2 => (xFz N r2.2 a1).bind fun r3 => if List.length [r2.1, r2.1] + List.length a1 ≤ Lim then (q0 r3.2 ([r2.1, r2.1] ++ a1) (IntKind.i64.wrap (a2 - 1))).bind fun r4 => some ((Exp.mk 9 0 r2.1 [(Exp.re r3.1), (Exp.re r4.1)]), r4.2)
     else none else none) else (bif (r1.1 == 5) then ((xFz N r1.2 a1).bind fun r2 => some (r2.1, r2.2)) else (bif (r1.1 == 6) then ((xC4 N r1.2 [[108, 101, 110], [115, 117, 109]]).bind fun r2 => (xFz N r2.2 a1).bind fun r3 => (q0 r3.2 a1 (IntKind.i64.wrap (a2 - 1))).bind fun r4 => (xDl N r4.2 r3.1 r4.1).bind fun r5 => (xCN N r2.1 [(Exp.re r5.1)]).bind fun r6 => some (r6, r5.2)) else (bif (r1.1 == 7) then ((xC4 N r1.2 [[116, 97, 107, 101], [115, 107, 105, 112], [110, 116, 104], [116, 97, 107, 101]]).bind fun r2 => (xAK N r2.2 4).bind fun r3 => (xB9 N r3.1).bind fun r4 => (xFz N r3.2 a1).bind fun r5 => (xAK N r5.2 9).bind fun r6 => (xB9 N r6.1).bind fun r7 => (xAK N r6.2 4).bind fun r8 => (xB9 N r8.1).bind fun r9 => (xCN N [114, 97, 110, 103, 101] [(Exp.re r7), (Exp.re r9)]).bind fun r10 => (xDl N r8.2 r5.1 r10).bind fun r11 => (xCN N r2.1 [(Exp.re r4), (Exp.re r11.1)]).bind fun r12 => some (r12, r11.2)) else (bif (r1.1 == 8) then ((xFi N r1.2).bind fun r2 => (xAK N r2.2 3).bind fun r3 => (xB9 N r3.1).bind fun r4 => (xFL N r3.2).bind fun r5 => (q0 r5.2 a1 (IntKind.i64.wrap (a2 - 1))).bind fun r6 => (xDl N r6.2 r5.1 r6.1).bind fun r7 => (xCN N [119, 104, 101, 114, 101] [(Exp.re r2.1), (Exp.re r4), (Exp.re r7.1)]).bind fun r8 => some (r8, r7.2)) else (bif (r1.1 == 9) then ((xFi N r1.2).bind fun r2 => (xFi N r2.2).bind fun r3 => (xFL N r3.2).bind fun r4 => (q0 r4.2 a1 (IntKind.i64.wrap (a2 - 1))).bind fun r5 => (xDl N r5.2 r4.1 r5.1).bind fun r6 => (xCN N [103, 114, 111, 117, 112] [(Exp.re r2.1), (Exp.re r3.1), (Exp.re r6.1)]).bind fun r7 =>
               some (r7, r6.2)) else (bif (r1.1 == 10) then ((xFL N r1.2).bind fun r2 => (q0 r2.2 a1 (IntKind.i64.wrap (a2 - 1))).bind fun r3 => (xDl N r3.2 r2.1 r3.1).bind fun r4 => (xCN N [114, 111, 119, 115] [(Exp.re r4.1)]).bind fun r5 => some (r5, r4.2)) else (bif (r1.1 == 11) then ((xAK N r1.2 6).bind fun r2 => (xB9 N (IntKind.i64.wrap (1 + r2.1))).bind fun r3 => (xCN N [99, 104, 97, 110, 99, 101] [(Exp.re r3)]).bind fun r4 => some (r4, r2.2)) else ((xCN N [99, 108, 111, 99, 107] []).bind fun r2 => (xC4 N r1.2 [[102], [103], [104]]).bind fun r3 => (xCN N [102, 105, 108, 101] [(Exp.mk 2 0 r3.1 [])]).bind fun r4 => (xDl N r3.2 r2 r4).bind fun r5 => some (r5.1, r5.2))))))))))))))
def xC1 (N : Nat) : Nat → Cur → (List Str) → Int → Option (Exp × Cur)
 | 0, _, _, _ => none
 | d + 1, a0, a1, a2 => xDB N (xC1 N d) a0 a1 a2
def xJi (N : Nat) (a0 : Cur) (a1 : List Str) (a2 : Int) : Option (Exp × Cur) := xC1 N N a0 a1 a2
def xFx (a0 : Cur) : List Arg := [.box (Cu .ro a0)]
def xCz (r : Exp × Cur) : CallO := ⟨.v true (Ex .tip r.1), [(Cu .ro r.2)], []⟩
def xHR (N : Nat) (a0 : Cur) : Option (Exp × Cur) := (xAK N a0 4).bind fun r1 => (xJi N r1.2 [[97], [98], [99]] (IntKind.i64.wrap (1 + r1.1))).bind fun r2 => (xBY N r2.1).bind fun r3 => bif (!r3) then ((xFy N r2.2 [[97], [98], [99]]).bind fun r4 => some (r4.1, r4.2)) else (some (r2.1, r2.2))
def xIi (N : Nat) (q0 : Exp → Exp → Option (Bool)) : Nat → Int → Exp → Exp → Option (Bool)
 | 0, _, _, _ => none
 | n + 1, x5, b2, b3 => bif (decide (x5 < (List.length (Exp.args b2) : Int))) then (if (0 : Int) ≤ x5 ∧ x5 < (List.length (Exp.args b2)) then if (0 : Int) ≤ x5 ∧ x5 < (List.length (Exp.args b3)) then (q0 (List.getD (Exp.args b2) (Int.toNat x5) Ty.exp.dflt) (List.getD (Exp.args b3) (Int.toNat x5) Ty.exp.dflt)).bind fun r1 => bif (!r1) then (some false) else ((xIi N q0 n (IntKind.i64.wrap (x5 + 1)) b2 b3)) else none else none) else (some true)
def xJ1 (N : Nat) (q0 : Exp → Exp → Option (Bool)) (a0 : Exp) (a1 : Exp) : Option (Bool) := bif ((Exp.kind a0) != (Exp.kind a1)) then (some false) else (bif ((Exp.n a0) != (Exp.n a1)) then (some false) else (bif (!(((Exp.text a0) : Str) == (Exp.text a1))) then (some false) else (bif ((List.length (Exp.args a0) : Int) != (List.length (Exp.args a1) : Int)) then (some false) else ((xIi N q0 N 0 a0 a1)))))
def xKk (N : Nat) : Nat → Exp → Exp → Option (Bool)
 | 0, _, _ => none
 | d + 1, a0, a1 => xJ1 N (xKk N d) a0 a1
def xBr (a0 : Exp) (a1 : Exp) : List Arg := [.val (.v true (Ex .ro a0)), .val (.v true (Ex .ro a1))]
def xAM (r : Bool) : CallO := ⟨.v false [.bool r], [], []⟩
def xD6 (N : Nat) (q0 : Exp → Exp → Option (Bool)) : Nat → Int → Int → Exp → Exp → Option (Bool)
 | 0, _, _, _, _ => none
 | n + 1, x36, x37, b2, b3 => bif (decide (x37 < x36)) then (if (0 : Int) ≤ x37 ∧ x37 < (List.length (Exp.args b2)) then if (0 : Int) ≤ x37 ∧ x37 < (List.length (Exp.args b3)) then (q0 (List.getD (Exp.args b2) (Int.toNat x37) Ty.exp.dflt) (List.getD (Exp.args b3) (Int.toNat x37) Ty.exp.dflt)).bind fun r1 => bif (!r1) then (some false) else ((xD6 N q0 n x36 (IntKind.i64.wrap (x37 + 1)) b2 b3)) else none else none) else (some true)
def xEa (N : Nat) (q0 : Exp → Exp → Option (Bool)) (a0 : Exp) (a1 : Exp) : Option (Bool) := bif ((Exp.kind a0) != (Exp.kind a1)) then (some false) else (bif ((Exp.n a0) != (Exp.n a1)) then (some false) else (bif (!(((Exp.text a0) : Str) == (Exp.text a1))) then (some false) else (bif ((List.length (Exp.args a0) : Int) != (List.length (Exp.args a1) : Int)) then (some false) else ((xD6 N q0 N (List.length (Exp.args a0) : Int) 0 a0 a1)))))
def xDL (N : Nat) : Nat → Exp → Exp → Option (Bool)
 | 0, _, _ => none
 | d + 1, a0, a1 => xEa N (xDL N d) a0 a1
def xHW (N : Nat) (a0 : Exp) (a1 : Exp) : Option (Bool) := xDL N N a0 a1
def xFO (a0 : Cur) (a1 : List Int) : List Arg := [.box (Cu .ro a0), .val (.v false [.sl .ro .int a1])]
def xEZ (r : Int × Cur) : CallO := ⟨.v false [.int .i64 r.1], [(Cu .ro r.2)], []⟩
def xGU (N : Nat) (a0 : Cur) (a1 : List Int) : Option (Int × Cur) := (xAK N a0 (List.length a1 : Int)).bind fun r1 => if (0 : Int) ≤ r1.1 ∧ r1.1 < (List.length a1) then some ((List.getD a1 (Int.toNat r1.1) Ty.int.dflt), r1.2) else none
def xDh (a0 : Cur) : List Arg := [.box (Cu .ro a0)]
def xCy (r : Exp × Cur) : CallO := ⟨.v true (Ex .tip r.1), [(Cu .ro r.2)], []⟩
def xDU (N : Nat) : Nat → Int → Cur → Exp → Exp → Option (Exp × Cur)
 | 0, _, _, _, _ => none
 | n + 1, x4, b0, b2, b3 => bif (decide (x4 < 7)) then ((xB9 N x4).bind fun r1 => (xDb N 1 b3 r1).bind fun r2 => (xDU N n (IntKind.i64.wrap (x4 + 1)) b0 b2 r2)) else (some (b3, b0))
def xHQ (N : Nat) (a0 : Cur) : Option (Exp × Cur) := (xHR N a0).bind fun r1 => (xAK N r1.2 12).bind fun r2 => bif (r2.1 == 0) then ((xAK N r2.2 11).bind fun r3 => some ((Exp.mk r3.1 (Exp.n r1.1) (Exp.text r1.1) (Exp.args r1.1)), r3.2)) else (bif (r2.1 == 1) then ((xFy N r2.2 [[97]]).bind fun r3 => if List.length (Exp.args r1.1) + List.length [(Exp.re r3.1)] ≤ Lim then some ((Exp.mk (Exp.kind r1.1) (Exp.n r1.1) (Exp.text r1.1) ((Exp.args r1.1) ++ [(Exp.re r3.1)])), r3.2) else none) else (bif (r2.1 == 2) then ((xC4 N r2.2 [[108, 101, 116], [115, 117, 109], [], [120]]).bind fun r3 => some ((Exp.mk (Exp.kind r1.1) (Exp.n r1.1) r3.1 (Exp.args r1.1)), r3.2)) else (bif (r2.1 == 3) then ((xGU N r2.2 [(-1), 7, 1000000001]).bind fun r3 => some ((Exp.mk (Exp.kind r1.1) r3.1 (Exp.text r1.1) (Exp.args r1.1)), r3.2)) else (bif (r2.1 == 4) then ((xDU N N 0 r2.2 (Exp.mk 0 0 [] []) r1.1)) else (some (r1.1, r2.2))))))
def xEl (a0 : List Int) : List Arg := [.val (.v false [.sl .ro .byte a0])]
def xAQ (r : Exp) : CallO := ⟨.v true (Ex .tip r), [], []⟩
def xEf (N : Nat) (a0 : List Int) : Option (Exp) := (xGP N a0).bind fun r1 => (xHQ N r1).bind fun r2 => some r2.1
def xBW (a0 : List Int) : List Arg := [.val (.v false [.sl .ro .byte a0])]
def xBX (r : Bool) : CallO := ⟨.v false [.bool r], [], []⟩
def xGo (N : Nat) (a0 : List Int) : Option (Bool) := (xJr N a0).bind fun r1 => bif r1 then (some true) else ((xEf N a0).bind fun r2 => (xEL N r2).bind fun r3 => (xES N r2).bind fun r4 => bif (!((r3 : Str) == r4)) then (some false) else ((xBY N r2).bind fun r5 => bif (!(((!((r3 : Str) == [])) : Bool) == r5)) then (some false) else ((xDD N r3).bind fun r6 => bif ((r3 : Str) == []) then (bif (decide (r6.2 ≥ 0)) then ((xEN N r3).bind fun r7 => some r7) else (some false)) else ((xE8 N r3).bind fun r7 => bif (decide ((List.length r3 : Int) > 120)) then (some (decide (r6.2 ≥ 0))) else (bif ((List.length r7.1 : Int) == 0) then (some (decide (r6.2 ≥ 0))) else (bif (r6.2 == (-1)) then ((xHW N r6.1 r2).bind fun r8 => bif r8 then ((xEN N r3).bind fun r9 => some (!r9)) else (some false)) else (some false)))))))
end Go.Ab
end
section
namespace Go.Ab
theorem xZH {P : Program} {w : World} {nm : String} {k : IntKind} {zs : List Int} (h : Lib.TabIs P w nm k zs) : ∃ (g : Nat) (o : Obj), w.heap[g]? = some o ∧ ∀ w' : World, w'.heap[g]? = some o → Lib.TabIs P w' nm k zs := by
 unfold Lib.TabIs World.var? at h
 obtain ⟨g, hg, h⟩ := Option.bind_eq_some_iff.1 h
 split at h
 · rename_i cs ty fr hh
   refine ⟨g, _, hh, fun w' hw => ?_⟩
   unfold Lib.TabIs World.var?
   rw [hg, jS, hw]
   exact h
 · cases h
end Go.Ab
namespace Go.Ab
variable [Inhabited Lb]
open Go.Proofs Go.Shelf Go.RowKit Go.Lib
variable {P : Program} {ρ : Ren}
theorem xPb (L : Lays.n156 P ρ) : ∀ args w, (callFunc (ρ.f 156) args).run P w = .ok (.enter (ρ.f 156) args) w := enters_of L.f156 (by kernel_rfl) rfl
theorem xLj (L : Lays.n137 P ρ) : ∀ args w, (callFunc (ρ.f 137) args).run P w = .ok (.enter (ρ.f 137) args) w := enters_of L.f137 (by kernel_rfl) rfl
theorem xLi (L : Lays.n99 P ρ) : ∀ args w, (callFunc (ρ.f 99) args).run P w = .ok (.enter (ρ.f 99) args) w := enters_of L.f99 (by kernel_rfl) rfl
theorem xPa (L : LaysM.n171 P ρ) : ∀ args w, (callFunc (ρ.f 171) args).run P w = .ok (.enter (ρ.f 171) args) w := enters_of L.f171 (by kernel_rfl) rfl
theorem xVa {A : World → Prop} {f : FuncId} (hc : ∀ n : Int, -9223372036854775808 ≤ n → n ≤ 9223372036854775807 → ∀ w : World, A w → Calls P f #[.int .i64 n] w fun e w' => e = .returned (.string ⟨(Lib.itoa n).toArray⟩) ∧ ∃ k os, w' = Go.Sort.grow (w.drewN k) os)
 (ht : ∀ w : World, (∀ x ∈ zD0, w.heap[x.1]? = some x.2) → A w) (n : Int) (w : World) (h0 : -9223372036854775808 ≤ n) (h1 : n ≤ 9223372036854775807) (hw : ∀ x ∈ zD0, w.heap[x.1]? = some x.2) :
 Calls P f #[.int .i64 n] w fun e w' => e = .returned (.string ⟨(Lib.itoa n).toArray⟩) ∧ Go.RowKit.Below w.heap.size w w' := by
 refine (hc n h0 h1 w (ht w hw)).mono ?_
 rintro e w' ⟨he, k, os, rfl⟩
 refine ⟨he, rfl, rfl, rfl, ?_, fun j hj => ?_⟩
 · show w.heap.size ≤ (w.heap ++ os).size
   rw [Array.size_append]; omega
 · show (w.heap ++ os)[j]? = _
   rw [Array.getElem?_append_left hj]
end Go.Ab
end
section
namespace Go.Ab
open Go.Proofs Go.Shelf Go.RowKit Go.Lib
variable {P : Program} {ρ : Ren}
def xUY (s : Str) (e : Ending) : Prop :=
 (∃ v, Lib.atoiAll s = .ok v ∧ e = .returned (.tuple #[.int .i64 v, .nilIface])) ∨ ((∀ v, Lib.atoiAll s ≠ .ok v) ∧ ∃ n t b, e = .returned (.tuple #[.int .i64 n, .iface t (.pointer (some ⟨b, 0, none⟩))]))
theorem xRq (L : LaysC.n172 P ρ) (s : ByteArray) (hl : s.size ≤ 1000000) (w : World) (he : (∃ t1 p1, w.var? P "strconv.ErrSyntax" = some #[.iface t1 p1]) ∧ ∃ t2 p2, w.var? P "strconv.ErrRange" = some #[.iface t2 p2]) :
 Calls P (ρ.f 172) #[.string s] w fun e w' => xUY s.data.toList e ∧ Below w.heap.size w w' := by
 obtain ⟨⟨t1, p1, h1⟩, t2, p2, h2⟩ := he
 cases hc : Lib.atoiAll s.data.toList with
 | ok v =>
   refine (Any.strconv_Atoi_ok L s (by omega) v hc w).mono ?_
   rintro e w' ⟨rfl, hw⟩
   refine ⟨.inl ⟨v, hc, rfl⟩, ?_⟩
   rcases hw with rfl | ⟨t, rfl⟩
   · exact Below.refl _ _
   · exact Lib.bytesWorld_below w _ t
 | range =>
   refine (Any.strconv_Atoi_range_var L s (by omega) hc t2 p2 w h2).mono ?_
   rintro e w' ⟨N, rfl, _, _, hb⟩
   exact ⟨.inr ⟨fun v h => (by rw [hc] at h; cases h), _, _, _, rfl⟩, hb⟩
 | _ =>
   refine (Any.strconv_Atoi_syntax_var L s (by omega) hc t1 p1 w h1).mono ?_
   rintro e w' ⟨N, rfl, _, _, hb⟩
   exact ⟨.inr ⟨fun v h => (by rw [hc] at h; cases h), _, _, _, rfl⟩, hb⟩
theorem xRC (L : LaysM.n171 P ρ) (n : Int) (h0 : -9223372036854775808 ≤ n) (h1 : n ≤ 9223372036854775807) (w : World) (ht : Lib.TabIs P w "internal/strconv.uint64pow10" .u64 Lib.pow10Tab) :
 Calls P (ρ.f 171) #[.int .i64 n] w fun e w' => e = .returned (.string ⟨(Lib.itoa n).toArray⟩) ∧ Below w.heap.size w w' := by
 refine (Any.strconv_Itoa L n h0 h1 w ht).mono ?_
 rintro e w' ⟨he, k, os, rfl⟩
 refine ⟨he, rfl, rfl, rfl, ?_, fun j hj => ?_⟩
 · show w.heap.size ≤ (w.heap ++ os).size
   rw [Array.size_append]; omega
 · show (w.heap ++ os)[j]? = _
   rw [Array.getElem?_append_left hj]
theorem xRm {w : World} {nm : String} {cs : Array Value} (h : w.var? P nm = some cs) : ∃ (g : Nat) (o : Obj), w.heap[g]? = some o ∧ ∀ w' : World, w'.heap[g]? = some o → w'.var? P nm = some cs := by
 unfold World.var? at h
 obtain ⟨g, hg, h⟩ := Option.bind_eq_some_iff.1 h
 split at h
 · rename_i cs ty fr hh
   refine ⟨g, _, hh, fun w' hw => ?_⟩
   unfold World.var?
   rw [hg, jS, hw]
   exact h
 · cases h
end Go.Ab
end
section
namespace Go.Proofs
open Go.Shelf
def Tryz.lays156_ren : Go.Shelf.Ren := ⟨fun | 156 => 124 | 165 => 134 | 166 => 135 | 169 => 136 | 240 => 147 | 241 => 148 | 276 => 157 | 277 => 158 | n => n, fun | 31 => 73 | 9 => 9 | 3 => 3 | 4 => 4 | 0 => 0 | 20 => 20 | 72 => 113 | 76 => 100 | 70 => 111 | 37 => 32 | 75 => 99 | 127 => 128 | 164 => 142 | 5 => 5 | 80 => 67 | n => n, fun | n => n⟩
theorem Tryz.lays156 : Go.Proofs.Lays.n156 Tryz.prog Tryz.lays156_ren := {
 mixed := by kernel_rfl
 f156 := Tryz.func124.trans (congrArg some (by kernel_rfl))
 f165 := Tryz.func134.trans (congrArg some (by kernel_rfl))
 f166 := Tryz.func135.trans (congrArg some (by kernel_rfl))
 f169 := Tryz.func136.trans (congrArg some (by kernel_rfl))
 f240 := Tryz.func147.trans (congrArg some (by kernel_rfl))
 f241 := Tryz.func148.trans (congrArg some (by kernel_rfl))
 f276 := Tryz.func157.trans (congrArg some (by kernel_rfl))
 f277 := Tryz.func158.trans (congrArg some (by kernel_rfl))
 t0 := Tryz.underlying0
 a0 := Tryz.isAgg0
 z0 := Tryz.sizeOf0
 v0 := Tryz.zeroValue0
 t3 := Tryz.underlying3
 a3 := Tryz.isAgg3
 z3 := Tryz.sizeOf3
 v3 := Tryz.zeroValue3
 t4 := Tryz.underlying4
 a4 := Tryz.isAgg4
 z4 := Tryz.sizeOf4
 v4 := Tryz.zeroValue4
 t9 := Tryz.underlying9
 a9 := Tryz.isAgg9
 z9 := Tryz.sizeOf9
 v9 := Tryz.zeroValue9
 t20 := Tryz.underlying20
 a20 := Tryz.isAgg20
 z20 := Tryz.sizeOf20
 v20 := Tryz.zeroValue20
 t31 := Tryz.underlying73
 a31 := Tryz.isAgg73
 z31 := Tryz.sizeOf73
 v31 := Tryz.zeroValue73
 t37 := Tryz.underlying32
 a37 := Tryz.isAgg32
 z37 := Tryz.sizeOf32
 v37 := Tryz.zeroValue32
 t70 := Tryz.underlying111
 a70 := Tryz.isAgg111
 z70 := Tryz.sizeOf111
 v70 := Tryz.zeroValue111
 t72 := Tryz.underlying113
 a72 := Tryz.isAgg113
 z72 := Tryz.sizeOf113
 v72 := Tryz.zeroValue113
 t75 := Tryz.underlying99
 a75 := Tryz.isAgg99
 z75 := Tryz.sizeOf99
 v75 := Tryz.zeroValue99
 t76 := Tryz.underlying100
 a76 := Tryz.isAgg100
 z76 := Tryz.sizeOf100
 v76 := Tryz.zeroValue100
 t127 := Tryz.underlying128
 a127 := Tryz.isAgg128
 z127 := Tryz.sizeOf128
 v127 := Tryz.zeroValue128
 t164 := Tryz.underlying142
 a164 := Tryz.isAgg142
 z164 := Tryz.sizeOf142
 v164 := Tryz.zeroValue142 }
theorem Tryz.Builder_Extra_156 : Builder.Extra Tryz.prog Tryz.lays156_ren := {
 sizeBuilder := by kernel_rfl
 liesBuilder := by kernel_rfl
 t5 := Tryz.underlying5
 a5 := Tryz.isAgg5
 z5 := Tryz.sizeOf5
 v5 := Tryz.zeroValue5
 infoByte := by kernel_rfl
 cellsByte := by kernel_rfl
 sizeByte := by kernel_rfl
 neB5 := by decide }
def Tryz.lays137_ren : Go.Shelf.Ren := ⟨fun | 137 => 90 | 217 => 112 | 266 => 130 | n => n, fun | 9 => 9 | 5 => 5 | 3 => 3 | n => n, fun | n => n⟩
theorem Tryz.lays137 : Go.Proofs.Lays.n137 Tryz.prog Tryz.lays137_ren := {
 mixed := by kernel_rfl
 f137 := Tryz.func90.trans (congrArg some (by kernel_rfl))
 f217 := Tryz.func112.trans (congrArg some (by kernel_rfl))
 f266 := Tryz.func130.trans (congrArg some (by kernel_rfl))
 t3 := Tryz.underlying3
 a3 := Tryz.isAgg3
 z3 := Tryz.sizeOf3
 v3 := Tryz.zeroValue3
 t5 := Tryz.underlying5
 a5 := Tryz.isAgg5
 z5 := Tryz.sizeOf5
 v5 := Tryz.zeroValue5
 t9 := Tryz.underlying9
 a9 := Tryz.isAgg9
 z9 := Tryz.sizeOf9
 v9 := Tryz.zeroValue9 }
def Tryz.laysM171_ren : Go.Shelf.Ren := ⟨fun | 171 => 102 | 243 => 123 | 246 => 133 | 283 => 143 | 284 => 144 | 285 => 145 | 286 => 146 | 129 => 153 | 317 => 152 | 318 => 154 | 319 => 155 | 320 => 156 | 337 => 161 | 338 => 162 | n => n, fun | 3 => 3 | 9 => 9 | 2 => 2 | 4 => 4 | 171 => 122 | 0 => 0 | 53 => 123 | 37 => 32 | 5 => 5 | 173 => 126 | 212 => 137 | 51 => 138 | 20 => 20 | 213 => 139 | 46 => 104 | 232 => 150 | 233 => 151 | n => n, fun | 17 => 3 | 18 => 4 | 19 => 5 | n => n⟩
theorem Tryz.laysM171 : Go.Proofs.LaysM.n171 Tryz.prog Tryz.laysM171_ren := {
 mixed := by kernel_rfl
 f129 := Tryz.func153.trans (congrArg some (by kernel_rfl))
 f171 := Tryz.func102.trans (congrArg some (by kernel_rfl))
 f243 := Tryz.func123.trans (congrArg some (by kernel_rfl))
 f246 := Tryz.func133.trans (congrArg some (by kernel_rfl))
 f283 := Tryz.func143.trans (congrArg some (by kernel_rfl))
 f284 := Tryz.func144.trans (congrArg some (by kernel_rfl))
 f285 := Tryz.func145.trans (congrArg some (by kernel_rfl))
 f286 := Tryz.func146.trans (congrArg some (by kernel_rfl))
 f317 := Tryz.func152.trans (congrArg some (by kernel_rfl))
 f318 := Tryz.func154.trans (congrArg some (by kernel_rfl))
 f319 := Tryz.func155.trans (congrArg some (by kernel_rfl))
 f320 := Tryz.func156.trans (congrArg some (by kernel_rfl))
 f337 := Tryz.func161.trans (congrArg some (by kernel_rfl))
 f338 := Tryz.func162.trans (congrArg some (by kernel_rfl))
 t0 := Tryz.underlying0
 a0 := Tryz.isAgg0
 z0 := Tryz.sizeOf0
 v0 := Tryz.zeroValue0
 t2 := Tryz.underlying2
 a2 := Tryz.isAgg2
 z2 := Tryz.sizeOf2
 v2 := Tryz.zeroValue2
 t3 := Tryz.underlying3
 a3 := Tryz.isAgg3
 z3 := Tryz.sizeOf3
 v3 := Tryz.zeroValue3
 t4 := Tryz.underlying4
 a4 := Tryz.isAgg4
 z4 := Tryz.sizeOf4
 v4 := Tryz.zeroValue4
 t5 := Tryz.underlying5
 a5 := Tryz.isAgg5
 z5 := Tryz.sizeOf5
 v5 := Tryz.zeroValue5
 t9 := Tryz.underlying9
 a9 := Tryz.isAgg9
 z9 := Tryz.sizeOf9
 v9 := Tryz.zeroValue9
 t20 := Tryz.underlying20
 a20 := Tryz.isAgg20
 z20 := Tryz.sizeOf20
 v20 := Tryz.zeroValue20
 t37 := Tryz.underlying32
 a37 := Tryz.isAgg32
 z37 := Tryz.sizeOf32
 v37 := Tryz.zeroValue32
 t46 := Tryz.underlying104
 a46 := Tryz.isAgg104
 z46 := Tryz.sizeOf104
 v46 := Tryz.zeroValue104
 t51 := Tryz.underlying138
 a51 := Tryz.isAgg138
 z51 := Tryz.sizeOf138
 v51 := Tryz.zeroValue138
 t53 := Tryz.underlying123
 a53 := Tryz.isAgg123
 z53 := Tryz.sizeOf123
 v53 := Tryz.zeroValue123
 t171 := Tryz.underlying122
 a171 := Tryz.isAgg122
 z171 := Tryz.sizeOf122
 v171 := Tryz.zeroValue122
 t173 := Tryz.underlying126
 a173 := Tryz.isAgg126
 z173 := Tryz.sizeOf126
 v173 := Tryz.zeroValue126
 t212 := Tryz.underlying137
 a212 := Tryz.isAgg137
 z212 := Tryz.sizeOf137
 v212 := Tryz.zeroValue137
 t213 := Tryz.underlying139
 a213 := Tryz.isAgg139
 z213 := Tryz.sizeOf139
 t232 := Tryz.underlying150
 a232 := Tryz.isAgg150
 z232 := Tryz.sizeOf150
 v232 := Tryz.zeroValue150
 t233 := Tryz.underlying151
 a233 := Tryz.isAgg151
 z233 := Tryz.sizeOf151
 v233 := Tryz.zeroValue151
 g17 := by kernel_rfl
 g18 := by kernel_rfl
 g19 := by kernel_rfl
 i0 := by kernel_rfl
 i2 := by kernel_rfl
 i3 := by kernel_rfl
 i4 := by kernel_rfl
 i5 := by kernel_rfl
 i9 := by kernel_rfl
 i20 := by kernel_rfl
 i37 := by kernel_rfl
 i46 := by kernel_rfl
 i51 := by kernel_rfl
 i53 := by kernel_rfl
 i171 := by kernel_rfl
 i173 := by kernel_rfl
 i212 := by kernel_rfl
 i232 := by kernel_rfl
 i233 := by kernel_rfl
 m17 := by kernel_rfl
 m18 := by kernel_rfl
 m19 := by kernel_rfl }
def Tryz.laysC172_ren : Go.Shelf.Ren := ⟨fun | 172 => 111 | 244 => 128 | 245 => 129 | 247 => 138 | 279 => 139 | 280 => 140 | 281 => 141 | 282 => 142 | 287 => 149 | 316 => 150 | 171 => 102 | 205 => 151 | 321 => 159 | 322 => 160 | 243 => 123 | 246 => 133 | 283 => 143 | 284 => 144 | 285 => 145 | 286 => 146 | 129 => 153 | 317 => 152 | 318 => 154 | 319 => 155 | 320 => 156 | 337 => 161 | 338 => 162 | n => n, fun | 9 => 9 | 3 => 3 | 75 => 99 | 76 => 100 | 4 => 4 | 5 => 5 | 167 => 116 | 37 => 32 | 0 => 0 | 85 => 117 | 2 => 2 | 168 => 119 | 53 => 123 | 175 => 129 | 46 => 104 | 210 => 133 | 127 => 128 | 145 => 148 | 143 => 146 | 21 => 21 | 171 => 122 | 173 => 126 | 212 => 137 | 51 => 138 | 20 => 20 | 213 => 139 | 232 => 150 | 233 => 151 | 80 => 67 | n => n, fun | 15 => 1 | 16 => 2 | 17 => 3 | 18 => 4 | 19 => 5 | n => n⟩
theorem Tryz.laysC172 : Go.Proofs.LaysC.n172 Tryz.prog Tryz.laysC172_ren := {
 mixed := by kernel_rfl
 f129 := Tryz.func153.trans (congrArg some (by kernel_rfl))
 f171 := Tryz.func102.trans (congrArg some (by kernel_rfl))
 f172 := Tryz.func111.trans (congrArg some (by kernel_rfl))
 f205 := Tryz.func151.trans (congrArg some (by kernel_rfl))
 f243 := Tryz.func123.trans (congrArg some (by kernel_rfl))
 f244 := Tryz.func128.trans (congrArg some (by kernel_rfl))
 f245 := Tryz.func129.trans (congrArg some (by kernel_rfl))
 f246 := Tryz.func133.trans (congrArg some (by kernel_rfl))
 f247 := Tryz.func138.trans (congrArg some (by kernel_rfl))
 f279 := Tryz.func139.trans (congrArg some (by kernel_rfl))
 f280 := Tryz.func140.trans (congrArg some (by kernel_rfl))
 f281 := Tryz.func141.trans (congrArg some (by kernel_rfl))
 f282 := Tryz.func142.trans (congrArg some (by kernel_rfl))
 f283 := Tryz.func143.trans (congrArg some (by kernel_rfl))
 f284 := Tryz.func144.trans (congrArg some (by kernel_rfl))
 f285 := Tryz.func145.trans (congrArg some (by kernel_rfl))
 f286 := Tryz.func146.trans (congrArg some (by kernel_rfl))
 f287 := Tryz.func149.trans (congrArg some (by kernel_rfl))
 f316 := Tryz.func150.trans (congrArg some (by kernel_rfl))
 f317 := Tryz.func152.trans (congrArg some (by kernel_rfl))
 f318 := Tryz.func154.trans (congrArg some (by kernel_rfl))
 f319 := Tryz.func155.trans (congrArg some (by kernel_rfl))
 f320 := Tryz.func156.trans (congrArg some (by kernel_rfl))
 f321 := Tryz.func159.trans (congrArg some (by kernel_rfl))
 f322 := Tryz.func160.trans (congrArg some (by kernel_rfl))
 f337 := Tryz.func161.trans (congrArg some (by kernel_rfl))
 f338 := Tryz.func162.trans (congrArg some (by kernel_rfl))
 t0 := Tryz.underlying0
 a0 := Tryz.isAgg0
 z0 := Tryz.sizeOf0
 v0 := Tryz.zeroValue0
 t2 := Tryz.underlying2
 a2 := Tryz.isAgg2
 z2 := Tryz.sizeOf2
 v2 := Tryz.zeroValue2
 t3 := Tryz.underlying3
 a3 := Tryz.isAgg3
 z3 := Tryz.sizeOf3
 v3 := Tryz.zeroValue3
 t4 := Tryz.underlying4
 a4 := Tryz.isAgg4
 z4 := Tryz.sizeOf4
 v4 := Tryz.zeroValue4
 t5 := Tryz.underlying5
 a5 := Tryz.isAgg5
 z5 := Tryz.sizeOf5
 v5 := Tryz.zeroValue5
 t9 := Tryz.underlying9
 a9 := Tryz.isAgg9
 z9 := Tryz.sizeOf9
 v9 := Tryz.zeroValue9
 t20 := Tryz.underlying20
 a20 := Tryz.isAgg20
 z20 := Tryz.sizeOf20
 v20 := Tryz.zeroValue20
 t21 := Tryz.underlying21
 a21 := Tryz.isAgg21
 z21 := Tryz.sizeOf21
 v21 := Tryz.zeroValue21
 t37 := Tryz.underlying32
 a37 := Tryz.isAgg32
 z37 := Tryz.sizeOf32
 v37 := Tryz.zeroValue32
 t46 := Tryz.underlying104
 a46 := Tryz.isAgg104
 z46 := Tryz.sizeOf104
 v46 := Tryz.zeroValue104
 t51 := Tryz.underlying138
 a51 := Tryz.isAgg138
 z51 := Tryz.sizeOf138
 v51 := Tryz.zeroValue138
 t53 := Tryz.underlying123
 a53 := Tryz.isAgg123
 z53 := Tryz.sizeOf123
 v53 := Tryz.zeroValue123
 t75 := Tryz.underlying99
 a75 := Tryz.isAgg99
 z75 := Tryz.sizeOf99
 v75 := Tryz.zeroValue99
 t76 := Tryz.underlying100
 a76 := Tryz.isAgg100
 z76 := Tryz.sizeOf100
 v76 := Tryz.zeroValue100
 t85 := Tryz.underlying117
 a85 := Tryz.isAgg117
 z85 := Tryz.sizeOf117
 v85 := Tryz.zeroValue117
 t127 := Tryz.underlying128
 a127 := Tryz.isAgg128
 z127 := Tryz.sizeOf128
 v127 := Tryz.zeroValue128
 t143 := Tryz.underlying146
 a143 := Tryz.isAgg146
 z143 := Tryz.sizeOf146
 v143 := Tryz.zeroValue146
 t145 := Tryz.underlying148
 a145 := Tryz.isAgg148
 z145 := Tryz.sizeOf148
 v145 := Tryz.zeroValue148
 t167 := Tryz.underlying116
 a167 := Tryz.isAgg116
 z167 := Tryz.sizeOf116
 v167 := Tryz.zeroValue116
 t168 := Tryz.underlying119
 a168 := Tryz.isAgg119
 z168 := Tryz.sizeOf119
 v168 := Tryz.zeroValue119
 t171 := Tryz.underlying122
 a171 := Tryz.isAgg122
 z171 := Tryz.sizeOf122
 v171 := Tryz.zeroValue122
 t173 := Tryz.underlying126
 a173 := Tryz.isAgg126
 z173 := Tryz.sizeOf126
 v173 := Tryz.zeroValue126
 t175 := Tryz.underlying129
 a175 := Tryz.isAgg129
 z175 := Tryz.sizeOf129
 v175 := Tryz.zeroValue129
 t210 := Tryz.underlying133
 a210 := Tryz.isAgg133
 z210 := Tryz.sizeOf133
 v210 := Tryz.zeroValue133
 t212 := Tryz.underlying137
 a212 := Tryz.isAgg137
 z212 := Tryz.sizeOf137
 v212 := Tryz.zeroValue137
 t213 := Tryz.underlying139
 a213 := Tryz.isAgg139
 z213 := Tryz.sizeOf139
 t232 := Tryz.underlying150
 a232 := Tryz.isAgg150
 z232 := Tryz.sizeOf150
 v232 := Tryz.zeroValue150
 t233 := Tryz.underlying151
 a233 := Tryz.isAgg151
 z233 := Tryz.sizeOf151
 v233 := Tryz.zeroValue151
 g15 := by kernel_rfl
 g16 := by kernel_rfl
 g17 := by kernel_rfl
 g18 := by kernel_rfl
 g19 := by kernel_rfl
 t80 := Tryz.underlying67
 a80 := Tryz.isAgg67
 z80 := Tryz.sizeOf67
 v80 := Tryz.zeroValue67
 i0 := by kernel_rfl
 i2 := by kernel_rfl
 i3 := by kernel_rfl
 i4 := by kernel_rfl
 i5 := by kernel_rfl
 i9 := by kernel_rfl
 i20 := by kernel_rfl
 i21 := by kernel_rfl
 i37 := by kernel_rfl
 i46 := by kernel_rfl
 i51 := by kernel_rfl
 i53 := by kernel_rfl
 i75 := by kernel_rfl
 i76 := by kernel_rfl
 i80 := by kernel_rfl
 i85 := by kernel_rfl
 i127 := by kernel_rfl
 i143 := by kernel_rfl
 i145 := by kernel_rfl
 i167 := by kernel_rfl
 i168 := by kernel_rfl
 i171 := by kernel_rfl
 i173 := by kernel_rfl
 i175 := by kernel_rfl
 i210 := by kernel_rfl
 i212 := by kernel_rfl
 i232 := by kernel_rfl
 i233 := by kernel_rfl
 m15 := by kernel_rfl
 m16 := by kernel_rfl
 m17 := by kernel_rfl
 m18 := by kernel_rfl
 m19 := by kernel_rfl
 c0 := by kernel_rfl
 c2 := by kernel_rfl
 c3 := by kernel_rfl
 c4 := by kernel_rfl
 c5 := by kernel_rfl
 c9 := by kernel_rfl
 c20 := by kernel_rfl
 c21 := by kernel_rfl
 c37 := by kernel_rfl
 c46 := by kernel_rfl
 c51 := by kernel_rfl
 c53 := by kernel_rfl
 c75 := by kernel_rfl
 c76 := by kernel_rfl
 c80 := by kernel_rfl
 c85 := by kernel_rfl
 c127 := by kernel_rfl
 c143 := by kernel_rfl
 c145 := by kernel_rfl
 c167 := by kernel_rfl
 c168 := by kernel_rfl
 c171 := by kernel_rfl
 c173 := by kernel_rfl
 c175 := by kernel_rfl
 c210 := by kernel_rfl
 c212 := by kernel_rfl
 c213 := by kernel_rfl
 c232 := by kernel_rfl
 c233 := by kernel_rfl }
def Tryz.lays99_ren : Go.Shelf.Ren := ⟨fun | 99 => 92 | 206 => 113 | n => n, fun | 9 => 9 | 4 => 4 | 3 => 3 | n => n, fun | n => n⟩
theorem Tryz.lays99 : Go.Proofs.Lays.n99 Tryz.prog Tryz.lays99_ren := {
 mixed := by kernel_rfl
 f99 := Tryz.func92.trans (congrArg some (by kernel_rfl))
 f206 := Tryz.func113.trans (congrArg some (by kernel_rfl))
 t3 := Tryz.underlying3
 a3 := Tryz.isAgg3
 z3 := Tryz.sizeOf3
 v3 := Tryz.zeroValue3
 t4 := Tryz.underlying4
 a4 := Tryz.isAgg4
 z4 := Tryz.sizeOf4
 v4 := Tryz.zeroValue4
 t9 := Tryz.underlying9
 a9 := Tryz.isAgg9
 z9 := Tryz.sizeOf9
 v9 := Tryz.zeroValue9 }
end Go.Proofs
end
section
namespace Go.Ab
open Go.Proofs Go.RowKit Go.Shelf
theorem xNC : ∀ args w, (callFunc 89 args).run Tryz.prog w = .ok (.enter 89 args) w := enters_of Tryz.func89 (by kernel_rfl) rfl
theorem xO9 : Enters Tryz.prog 111 := enters_of Tryz.func111 (by kernel_rfl) rfl
theorem xNB : Enters Tryz.prog 102 := enters_of Tryz.func102 (by kernel_rfl) rfl
set_option maxRecDepth 100000 in
set_option maxHeartbeats 4000000 in
theorem xOe (s : ByteArray) (lo hi : Int) (hl : s.size ≤ 1000000) {Q : World → Prop} (hQ : ∀ w w', Q w → Below w.heap.size w w' → Q w') (ht : ∀ w, Q w → Lib.TabIs Tryz.prog w "internal/strconv.uint64pow10" .u64 Lib.pow10Tab)
 (he : ∀ w, Q w → (∃ t1 p1, w.var? Tryz.prog "strconv.ErrSyntax" = some #[.iface t1 p1]) ∧ ∃ t2 p2, w.var? Tryz.prog "strconv.ErrRange" = some #[.iface t2 p2]) (w : World) (hw : Q w) :
 Calls Tryz.prog 89 #[.string s, .int .i64 lo, .int .i64 hi] w fun e w' => e = .returned (.tuple #[.int .i64 (zHZ s.data.toList lo hi).1, .bool (zHZ s.data.toList lo hi).2]) ∧ Below w.heap.size w w' := by
 have hA := xRq Tryz.laysC172 s hl w (he w hw)
 change Calls Tryz.prog 111 _ _ _ at hA
 have e1 := xO9
 have e2 := xNB
 by_cases hok : ∃ v, Lib.atoiAll s.data.toList = .ok v
 · obtain ⟨v, hv⟩ := hok
   obtain ⟨vb0, vb1⟩ := Lib.atoiAll_bounds hv
   have hA : Calls Tryz.prog 111 #[.string s] w fun e w' => e = .returned (.tuple #[.int .i64 v, .nilIface]) ∧ Below w.heap.size w w' := hA.mono fun e w' ⟨h, hb⟩ => ⟨by
    rcases h with ⟨v', h1, h2⟩ | ⟨h1, _⟩
    · rw [hv] at h1; cases h1; exact h2
    · exact absurd hv (h1 v), hb⟩
   have hI : ∀ W, Below w.heap.size w W → ∀ (f : Ending → World → Prop), (∀ W', Below w.heap.size w W' → f (.returned (.string ⟨(Lib.itoa v).toArray⟩)) W') → Calls Tryz.prog 102 #[.int .i64 v] W f := fun W hb f hf =>
    (xRC Tryz.laysM171 v vb0 vb1 W (ht W (hQ w W hw hb))).mono fun e W' ⟨h1, h2⟩ => by rw [h1]; exact hf W' (hb.trans (h2.mono hb.size))
   have hN : zHZ s.data.toList lo hi = if v < lo then (0, false) else if v > hi then (0, false) else if Lib.itoa v = s.data.toList then (v, true) else (0, false) := by unfold zHZ; rw [hv]
   rw [hN]
   clear hN hv
   by_cases h1 : v < lo
   · rw [if_pos h1]
     go_enter Tryz.func89, Tryz.ntmps89
     go_wp2_with (go_at_call 111; refine hA.mono ?_; rintro e W1 ⟨rfl, hb⟩)
     go_wp2
     go_ret2
     exact ⟨rfl, hb⟩
   · rw [if_neg h1]
     by_cases h2 : v > hi
     · rw [if_pos h2]
       go_enter Tryz.func89, Tryz.ntmps89
       go_wp2_with (go_at_call 111; refine hA.mono ?_; rintro e W1 ⟨rfl, hb⟩)
       go_wp2
       go_ret2
       exact ⟨rfl, hb⟩
     · rw [if_neg h2]
       go_enter Tryz.func89, Tryz.ntmps89
       go_wp2_with (go_at_call 111; refine hA.mono ?_; rintro e W1 ⟨rfl, hb⟩)
       go_wp2_with (go_at_call 102; refine hI _ (by assumption) _ ?_; intro W2 hb2)
       all_goals first
        | (go_ret2; exact ⟨rfl, hb2⟩)
        | (exfalso; simp_all [ByteArray.toList_eq]; done)
        | (exfalso; rename_i hx; rw [ByteArray.toList_eq, h] at hx; rcases hx with (hx | hx) | hx <;> first | omega | (simp at hx; done))
 · have hN : zHZ s.data.toList lo hi = (0, false) := by
    unfold zHZ
    cases hc : Lib.atoiAll s.data.toList with
    | ok v => exact absurd ⟨v, hc⟩ hok
    | _ => rfl
   have hA : Calls Tryz.prog 111 #[.string s] w fun e w' => (∃ n t b, e = .returned (.tuple #[.int .i64 n, .iface t (.pointer (some ⟨b, 0, none⟩))])) ∧ Below w.heap.size w w' := hA.mono fun e w' ⟨h, hb⟩ => ⟨by
    rcases h with ⟨v', h1, h2⟩ | ⟨_, h1⟩
    · exact absurd ⟨v', h1⟩ hok
    · exact h1, hb⟩
   rw [hN]
   clear hN hok
   go_enter Tryz.func89, Tryz.ntmps89
   go_wp2_with (go_at_call 111; refine hA.mono ?_; rintro e W1 ⟨⟨n, t, b, rfl⟩, hb⟩)
   go_wp2
   go_ret2
   exact ⟨rfl, hb⟩
end Go.Ab
end
section
open Go.Proofs
namespace Go.Ab.T
variable [Inhabited Lb]
abbrev AbC (f : FuncId) (a : List Arg) (r : CallO) : Prop := AbsCalls Tryz.prog f a r
abbrev W (x : Int) : Int := IntKind.i64.wrap x
abbrev Ln {α : Type} (l : List α) : Nat := List.length l
abbrev tN (x : Int) : Nat := Int.toNat x
abbrev gD {α : Type} (l : List α) (i : Nat) (d : α) : α := List.getD l i d
abbrev iY (b : Bool) : Prop := b = true
abbrev iN (b : Bool) : Prop := b = false
abbrev dc (p : Prop) [Decidable p] : Bool := decide p
abbrev vd : Val := Ty.val.dflt
abbrev rd : Rowd := Ty.row.dflt
end Go.Ab.T
end
section
open Go.Proofs
namespace Go.Ab.T
set_option maxRecDepth 100000
variable [Inhabited Lb]
def p10 : String := ((Go.Proofs.YthbobcapimmnhaaGreatDoor.Rows.fnExactParseErrorRow.laid[2]?).map fun x => x.1).getD ""
def Tab10 : Prop := ∀ w : World, (∀ x ∈ zD0, w.heap[x.1]? = some x.2) → Lib.TabIs Tryz.prog w p10 .u64 Lib.pow10Tab
variable [Nonempty Tab10]
theorem vAN : Tab10 := (inferInstance : Nonempty Tab10).elim fun h => h
def ErrVars : Prop := ∀ w : World, (∀ x ∈ zD0, w.heap[x.1]? = some x.2) → (∃ t1 p1, w.var? Tryz.prog "strconv.ErrSyntax" = some #[.iface t1 p1]) ∧ ∃ t2 p2, w.var? Tryz.prog "strconv.ErrRange" = some #[.iface t2 p2]
variable [Nonempty ErrVars]
theorem xU3 : ErrVars := (inferInstance : Nonempty ErrVars).elim fun h => h
def tt : TT := [(3, { zero := some [.int .i64 0], ik := some .i64 }),
 (4, { zero := some [.bool false], isBool := true }),
 (5, { zero := some [.int .u8 0], ik := some .u8 }),
 (9, { zero := some [.str []], isStr := true }),
 (23, { zero := some [.sl .own .exp []], elem := some (25, .exp) }),
 (25, { sz := 4, agg := true, zero := some [.int .i64 0, .int .i64 0, .str [], .sl .own .exp []], offs := [0, 1, 2, 3], fsz := [1, 1, 1, 1] }),
 (32, { zero := some [.sl .own .byte []], elem := some (5, .byte) }),
 (37, { zero := some [.sl .own .tok []], elem := some (50, .tok) }),
 (43, { sz := 4, agg := true, zero := some [.sl .own .tok [], .int .i64 0, .int .i64 0, .int .i64 0], offs := [0, 1, 2, 3], fsz := [1, 1, 1, 1] }),
 (47, { sz := 3, agg := true, zero := some [.sl .own .tok [], .int .i64 0, .int .i64 0], offs := [0, 1, 2], fsz := [1, 1, 1] }),
 (50, { sz := 4, agg := true, zero := some [.int .i64 0, .int .i64 0, .int .i64 0, .str []], offs := [0, 1, 2, 3], fsz := [1, 1, 1, 1] }),
 (69, { zero := some [.sl .own .int []], elem := some (3, .int) }),
 (73, { zero := some [.sl .own .str []], elem := some (9, .str) }),
 (79, { sz := 3, agg := true, zero := some [.sl .own .byte [], .int .i64 0, .int .i64 0], offs := [0, 1, 2], fsz := [1, 1, 1] })]
theorem ttok : TTok Tryz.prog tt := zIy (by kernel_rfl)
theorem mix : Tryz.prog.follows .mixedOrders = true := by kernel_rfl
def F : Bool := false
def Y : Bool := true
noncomputable def rE (I : Info) (ag : List Arg) (bs : List Bool) (cs : List CallO) : Option Res := run tt (AbsCalls Tryz.prog) I 3000 false [.code I.body] ⟨zBv 0 ag, bs, cs, []⟩
noncomputable def rS (k : Nat) (I : Info) (σ : St) (bs : List Bool) (cs : List CallO) : Option Res := run tt (AbsCalls Tryz.prog) I 3000 true (stkAt k I.body) ⟨σ, bs, cs, []⟩
noncomputable def dn (r : CallO) (ob : List Prop) : Option Res := some (.done r ob)
noncomputable def st (k : Nat) (I : Info) (σ : St) (ob : List Prop) : Option Res := some (.stop (stkAt k I.body) σ ob)
def RE (fn : Func) (I : Info) (ag : List Arg) (r : CallO) : Prop := Reach Tryz.prog fn I [.code I.body] (zBv 0 ag) r
def RS (fn : Func) (I : Info) (k : Nat) (σ : St) (r : CallO) : Prop := Reach Tryz.prog fn I (stkAt k I.body) σ r
section
variable {ρ : Type} {f : FuncId} {fn : Func} {I : Info} {ag : List Arg} {bs : List Bool} {cs : List CallO} {k j : Nat} {σ σ' : St} {ob : List Prop} {ro : ρ → CallO} {x r : ρ} {q : CallO}
theorem dE (e : some x = some r) (hf : FnOk Tryz.prog f fn I) (h : rE I ag bs cs = dn (ro x) ob) (o : ∀ p ∈ ob, p) : RE fn I ag (ro r) := by
 cases e; exact Reach.done ttok mix hf h o
theorem dS (e : some x = some r) (hf : FnOk Tryz.prog f fn I) (h : rS k I σ bs cs = dn (ro x) ob) (o : ∀ p ∈ ob, p) : RS fn I k σ (ro r) := by
 cases e; exact Reach.done ttok mix hf h o
theorem tE (hf : FnOk Tryz.prog f fn I) (h : rE I ag bs cs = st k I σ ob) (o : ∀ p ∈ ob, p) (t : RS fn I k σ q) : RE fn I ag q := Reach.stop ttok mix hf h o t
theorem tS (hf : FnOk Tryz.prog f fn I) (h : rS j I σ' bs cs = st k I σ ob) (o : ∀ p ∈ ob, p) (t : RS fn I k σ q) : RS fn I j σ' q := Reach.stop ttok mix hf h o t
end
theorem oc {p : Prop} {l : List Prop} (h : p) (t : ∀ q ∈ l, q) : ∀ q ∈ p :: l, q := zIx h t
theorem on : ∀ q ∈ ([] : List Prop), q := zIB
theorem oc2 {p0 p1 : Prop} {l : List Prop} (h0 : p0) (h1 : p1) (t : ∀ q ∈ l, q) : ∀ q ∈ p0 :: p1 :: l, q := oc h0 (oc h1 t)
theorem oc3 {p0 p1 p2 : Prop} {l : List Prop} (h0 : p0) (h1 : p1) (h2 : p2) (t : ∀ q ∈ l, q) : ∀ q ∈ p0 :: p1 :: p2 :: l, q := oc h0 (oc2 h1 h2 t)
theorem oc4 {p0 p1 p2 p3 : Prop} {l : List Prop} (h0 : p0) (h1 : p1) (h2 : p2) (h3 : p3) (t : ∀ q ∈ l, q) : ∀ q ∈ p0 :: p1 :: p2 :: p3 :: l, q := oc h0 (oc3 h1 h2 h3 t)
theorem oc5 {p0 p1 p2 p3 p4 : Prop} {l : List Prop} (h0 : p0) (h1 : p1) (h2 : p2) (h3 : p3) (h4 : p4) (t : ∀ q ∈ l, q) : ∀ q ∈ p0 :: p1 :: p2 :: p3 :: p4 :: l, q := oc h0 (oc4 h1 h2 h3 h4 t)
theorem oc6 {p0 p1 p2 p3 p4 p5 : Prop} {l : List Prop} (h0 : p0) (h1 : p1) (h2 : p2) (h3 : p3) (h4 : p4) (h5 : p5) (t : ∀ q ∈ l, q) : ∀ q ∈ p0 :: p1 :: p2 :: p3 :: p4 :: p5 :: l, q := oc h0 (oc5 h1 h2 h3 h4 h5 t)
theorem oc7 {p0 p1 p2 p3 p4 p5 p6 : Prop} {l : List Prop} (h0 : p0) (h1 : p1) (h2 : p2) (h3 : p3) (h4 : p4) (h5 : p5) (h6 : p6) (t : ∀ q ∈ l, q) : ∀ q ∈ p0 :: p1 :: p2 :: p3 :: p4 :: p5 :: p6 :: l, q := oc h0 (oc6 h1 h2 h3 h4 h5 h6 t)
theorem oc8 {p0 p1 p2 p3 p4 p5 p6 p7 : Prop} {l : List Prop} (h0 : p0) (h1 : p1) (h2 : p2) (h3 : p3) (h4 : p4) (h5 : p5) (h6 : p6) (h7 : p7) (t : ∀ q ∈ l, q) : ∀ q ∈ p0 :: p1 :: p2 :: p3 :: p4 :: p5 :: p6 :: p7 :: l, q := oc h0 (oc7 h1 h2 h3 h4 h5 h6 h7 t)
theorem oc9 {p0 p1 p2 p3 p4 p5 p6 p7 p8 : Prop} {l : List Prop} (h0 : p0) (h1 : p1) (h2 : p2) (h3 : p3) (h4 : p4) (h5 : p5) (h6 : p6) (h7 : p7) (h8 : p8) (t : ∀ q ∈ l, q) : ∀ q ∈ p0 :: p1 :: p2 :: p3 :: p4 :: p5 :: p6 :: p7 :: p8 :: l, q := oc h0 (oc8 h1 h2 h3 h4 h5 h6 h7 h8 t)
theorem oc10 {p0 p1 p2 p3 p4 p5 p6 p7 p8 p9 : Prop} {l : List Prop} (h0 : p0) (h1 : p1) (h2 : p2) (h3 : p3) (h4 : p4) (h5 : p5) (h6 : p6) (h7 : p7) (h8 : p8) (h9 : p9) (t : ∀ q ∈ l, q) : ∀ q ∈ p0 :: p1 :: p2 :: p3 :: p4 :: p5 :: p6 :: p7 :: p8 :: p9 :: l, q := oc h0 (oc9 h1 h2 h3 h4 h5 h6 h7 h8 h9 t)
theorem oc11 {p0 p1 p2 p3 p4 p5 p6 p7 p8 p9 p10 : Prop} {l : List Prop} (h0 : p0) (h1 : p1) (h2 : p2) (h3 : p3) (h4 : p4) (h5 : p5) (h6 : p6) (h7 : p7) (h8 : p8) (h9 : p9) (h10 : p10) (t : ∀ q ∈ l, q) : ∀ q ∈ p0 :: p1 :: p2 :: p3 :: p4 :: p5 :: p6 :: p7 :: p8 :: p9 :: p10 :: l, q := oc h0 (oc10 h1 h2 h3 h4 h5 h6 h7 h8 h9 h10 t)
theorem oc12 {p0 p1 p2 p3 p4 p5 p6 p7 p8 p9 p10 p11 : Prop} {l : List Prop} (h0 : p0) (h1 : p1) (h2 : p2) (h3 : p3) (h4 : p4) (h5 : p5) (h6 : p6) (h7 : p7) (h8 : p8) (h9 : p9) (h10 : p10) (h11 : p11) (t : ∀ q ∈ l, q) : ∀ q ∈ p0 :: p1 :: p2 :: p3 :: p4 :: p5 :: p6 :: p7 :: p8 :: p9 :: p10 :: p11 :: l, q := oc h0 (oc11 h1 h2 h3 h4 h5 h6 h7 h8 h9 h10 h11 t)
theorem cE {α : Type} {C : Prop} {b : Bool} {x y : Option α} {r : α} (h : cond b x y = some r) (f : b = true → x = some r → C) (g : b = false → y = some r → C) : C := (zIu h).elim (fun h => f h.1 h.2) fun h => g h.1 h.2
theorem bE {α β : Type} {C : Prop} {o : Option α} {f : α → Option β} {r : β} (h : Option.bind o f = some r) (g : ∀ a, o = some a → f a = some r → C) : C := (zIs h).elim fun a h => g a h.1 h.2
theorem iE {α : Type} {C p : Prop} [Decidable p] {x : Option α} {r : α} (h : (if p then x else none) = some r) (g : p → x = some r → C) : C := (zIz h).elim g
theorem nE {α : Type} {C : Prop} {r : α} (h : none = some r) : C := nomatch h
noncomputable def I79 : Info := { body := (Tryz.f79.body).getD .skip, nt := 9, results := [.tmp 2], keep := [0, 4], live := [], modes := [(1, [(2, .take, false)])] }
theorem fk79 : FnOk Tryz.prog 79 Tryz.f79 I79 := ⟨Tryz.func79, by kernel_rfl, by kernel_rfl, by kernel_rfl, by kernel_rfl⟩
def xYz (a0 : Int) : rE I79 (xFh a0) [Y] [] = dn (xBJ (dc (a0 ≤ 122))) [iY (dc (a0 ≥ 97))] := by kernel_rfl
def xYA (a0 : Int) : rE I79 (xFh a0) [F] [] = dn (xBJ false) [iN (dc (a0 ≥ 97))] := by kernel_rfl
theorem vBZ {N : Nat} : ∀ a0 r, xFP N a0 = some r → RE Tryz.f79 I79 (xFh a0) (xBJ r) := fun a0 r h =>
 cE h (fun h0 h => dE h fk79 (xYz a0) (oc h0 on)) fun h0 h =>
 dE h fk79 (xYA a0) (oc h0 on)
theorem xDt {N : Nat} {a0 : Int} {r : Bool} (h : xFP N  a0 = some r) : AbC 79 (xFh a0) (xBJ r) :=
 AbsCalls.of_reach fk79 rfl rfl (Nat.le_of_ble_eq_true rfl) (vBZ a0 r h)
noncomputable def I80 : Info := { body := (Tryz.f80.body).getD .skip, nt := 9, results := [.tmp 2], keep := [0, 4], live := [], modes := [(1, [(2, .take, false)])] }
theorem fk80 : FnOk Tryz.prog 80 Tryz.f80 I80 := ⟨Tryz.func80, by kernel_rfl, by kernel_rfl, by kernel_rfl, by kernel_rfl⟩
def xYB (a0 : Int) : rE I80 (xFF a0) [Y] [] = dn (xBx (dc (a0 ≤ 57))) [iY (dc (a0 ≥ 48))] := by kernel_rfl
def xYC (a0 : Int) : rE I80 (xFF a0) [F] [] = dn (xBx false) [iN (dc (a0 ≥ 48))] := by kernel_rfl
theorem vB0 {N : Nat} : ∀ a0 r, xFE N a0 = some r → RE Tryz.f80 I80 (xFF a0) (xBx r) := fun a0 r h =>
 cE h (fun h0 h => dE h fk80 (xYB a0) (oc h0 on)) fun h0 h =>
 dE h fk80 (xYC a0) (oc h0 on)
theorem xCV {N : Nat} {a0 : Int} {r : Bool} (h : xFE N  a0 = some r) : AbC 80 (xFF a0) (xBx r) :=
 AbsCalls.of_reach fk80 rfl rfl (Nat.le_of_ble_eq_true rfl) (vB0 a0 r h)
noncomputable def I72 : Info := { body := (Tryz.f72.body).getD .skip, nt := 31, results := [.tmp 2], keep := [0, 4, 6, 8, 10, 14, 22, 30, 54], live := [(5, [0, 6, 8])], modes := [(11, [(0, .take, false)])] }
theorem fk72 : FnOk Tryz.prog 72 Tryz.f72 I72 := ⟨Tryz.func72, by kernel_rfl, by kernel_rfl, by kernel_rfl, by kernel_rfl⟩
def xMV (x0 : Int) (x3 : Bool) (x4 : Str) : St := [(0, .v false [.int .i64 x0]), (6, .v false [.bool x3]), (8, .v false [.str x4])]
abbrev xQb (v0 : Int) := List.map (fun n => UInt8.ofNat (tN n)) [(IntKind.u8.wrap ((W (48 + (W (0 - (Int.tmod v0 10)))))))]
def xX0 (x0 : Int) (x3 : Bool) (x4 : Str) : rS 5 I72 (xMV x0 x3 x4) [Y, Y] [] = st 5 I72 (xMV (W (Int.tdiv x0 10)) x3 ((xQb x0) ++ x4)) [iY (x0 != 0), 10 ≠ (0 : Int), iY (dc ((Int.tmod x0 10) < 0)), Ln (xQb x0) + Ln x4 ≤ Lim, 10 ≠ (0 : Int)] := by kernel_rfl
abbrev xQc (v0 : Int) := List.map (fun n => UInt8.ofNat (tN n)) [(IntKind.u8.wrap ((W (48 + (Int.tmod v0 10)))))]
def xX1 (x0 : Int) (x3 : Bool) (x4 : Str) : rS 5 I72 (xMV x0 x3 x4) [Y, F] [] = st 5 I72 (xMV (W (Int.tdiv x0 10)) x3 ((xQc x0) ++ x4)) [iY (x0 != 0), 10 ≠ (0 : Int), iN (dc ((Int.tmod x0 10) < 0)), Ln (xQc x0) + Ln x4 ≤ Lim, 10 ≠ (0 : Int)] := by kernel_rfl
def xX2 (x0 : Int) (x3 : Bool) (x4 : Str) : rS 5 I72 (xMV x0 x3 x4) [F, Y] [] = dn (xA5 ([45] ++ x4)) [iN (x0 != 0), iY x3, Ln [45] + Ln x4 ≤ Lim] := by kernel_rfl
def xX3 (x0 : Int) (x3 : Bool) (x4 : Str) : rS 5 I72 (xMV x0 x3 x4) [F, F] [] = dn (xA5 x4) [iN (x0 != 0), iN x3] := by kernel_rfl
def xX4 (a0 : Int) : rE I72 (xCH a0) [Y] [] = dn (xA5 [48]) [iY (a0 == 0)] := by kernel_rfl
abbrev xKv (v0 : Int) : Prop := iN (v0 == 0)
def xX5 (a0 : Int) : rE I72 (xCH a0) [F] [] = st 5 I72 (xMV a0 (dc (a0 < 0)) []) [xKv a0] := by kernel_rfl
theorem vBQ {N : Nat} : ∀ n x0 x3 x4 r, xCb N n x0 x3 x4 = some r → RS Tryz.f72 I72 5 (xMV x0 x3 x4) (xA5 r) := by
 intro n
 induction n with
 | zero => exact fun _ _ _ _ h => nE h
 | succ n ih =>
  exact fun x0 x3 x4 r h =>
   cE h (fun h0 h => cE h (fun h2 h => iE h fun h3 h => tS fk72 (xX0 x0 x3 x4) (oc5 h0 (by decide) h2 h3 (by decide) on) (ih _ _ _ _ h)) fun h2 h =>
   iE h fun h3 h => tS fk72 (xX1 x0 x3 x4) (oc5 h0 (by decide) h2 h3 (by decide) on) (ih _ _ _ _ h)) fun h0 h =>
   cE h (fun h1 h => iE h fun h2 h => dS h fk72 (xX2 x0 x3 x4) (oc3 h0 h1 h2 on)) fun h1 h =>
   dS h fk72 (xX3 x0 x3 x4) (oc2 h0 h1 on)
theorem vBR {N : Nat} : ∀ a0 r, xEG N a0 = some r → RE Tryz.f72 I72 (xCH a0) (xA5 r) := fun a0 r h =>
 cE h (fun h0 h => dE h fk72 (xX4 a0) (oc h0 on)) fun h0 h =>
 tE fk72 (xX5 a0) (oc h0 on) (vBQ _ _ _ _ _ h)
theorem xET {N : Nat} {a0 : Int} {r : Str} (h : xEG N  a0 = some r) : AbC 72 (xCH a0) (xA5 r) :=
 AbsCalls.of_reach fk72 rfl rfl (Nat.le_of_ble_eq_true rfl) (vBR a0 r h)
noncomputable def I107 : Info := { body := (Tryz.f107.body).getD .skip, nt := 63, results := [.tmp 4, .tmp 5], keep := [0, 2, 8, 10, 12, 14, 16, 18, 38, 60, 68, 92, 110, 122], live := [(9, [0, 12, 14, 16, 18])], modes := [(1, [(3, .take, false)]), (5, [(3, .take, false)]), (11, [(4, .take, false)])] }
theorem xIS : FnOk Tryz.prog 107 Tryz.f107 I107 := ⟨Tryz.func107, by kernel_rfl, by kernel_rfl, by kernel_rfl, by kernel_rfl⟩
def xIE (x0 : Str) (x6 : Bool) (x7 : Str) (x8 x9 : Int) : St := [(0, .v false [.str x0]), (12, .v false [.bool x6]), (14, .v false [.str x7]), (16, .v false [.int .i64 x8]), (18, .v false [.int .i64 x9])]
abbrev xC9 (v0 : Int) (v1 : Str) : Prop := iY (dc (v0 < (Ln v1 : Int)))
abbrev xAx (v0 : Int) (v1 : Str) : Prop := (0 : Int) ≤ v0 ∧ v0 < (Ln v1)
abbrev xFT (v0 : Str) (v1 : Int) := (((gD v0 (tN v1) 0).toNat : Int) : Int)
abbrev xVg (v0 : Str) (v1 : Int) : Prop := iY (dc ((xFT v0 v1) < 48))
def xR5 (x0 : Str) (x6 : Bool) (x7 : Str) (x8 x9 : Int) : rS 9 I107 (xIE x0 x6 x7 x8 x9) [Y, Y, Y] [] = dn (xBq (0, false)) [xC9 x9 x7, xAx x9 x7, xVg x7 x9, iY true] := by kernel_rfl
abbrev xPg (v0 : Str) (v1 : Int) : Prop := iN (dc ((xFT v0 v1) < 48))
abbrev xVh (v0 : Str) (v1 : Int) : Prop := iY (dc ((xFT v0 v1) > 57))
def xR6 (x0 : Str) (x6 : Bool) (x7 : Str) (x8 x9 : Int) : rS 9 I107 (xIE x0 x6 x7 x8 x9) [Y, F, Y] [] = dn (xBq (0, false)) [xC9 x9 x7, xAx x9 x7, xPg x7 x9, xAx x9 x7, xVh x7 x9] := by kernel_rfl
abbrev xVi (v0 : Str) (v1 : Int) : Prop := iN (dc ((xFT v0 v1) > 57))
abbrev xMx (v0 : Str) (v1 : Int) := ((gD v0 (tN v1) 0).toNat : Int)
def xR7 (x0 : Str) (x6 : Bool) (x7 : Str) (x8 x9 : Int) : rS 9 I107 (xIE x0 x6 x7 x8 x9) [Y, F, F] [] = st 9 I107 (xIE x0 x6 x7 (W ((W (10 * x8)) + (W ((IntKind.u8.wrap ((xMx x7 x9) - 48)))))) (W (x9 + 1))) [xC9 x9 x7, xAx x9 x7, xPg x7 x9, xAx x9 x7, xVi x7 x9, xAx x9 x7] := by kernel_rfl
abbrev xIg (v0 : Int) (v1 : Str) : Prop := iN (dc (v0 < (Ln v1 : Int)))
def xR8 (x0 : Str) (x6 : Bool) (x7 : Str) (x8 x9 : Int) (r1 : Str) : rS 9 I107 (xIE x0 x6 x7 x8 x9) [F, Y, Y] [xA5 r1] = dn (xBq (0, false)) [xIg x9 x7, iY x6, AbC 72 (xCH (W (0 - x8))) (xA5 r1), iY (!((r1 : Str) == x0))] := by kernel_rfl
abbrev xLO (v0 v1 : Str) : Prop := iN (!((v0 : Str) == v1))
def xR9 (x0 : Str) (x6 : Bool) (x7 : Str) (x8 x9 : Int) (r1 : Str) : rS 9 I107 (xIE x0 x6 x7 x8 x9) [F, Y, F] [xA5 r1] = dn (xBq ((W (0 - x8)), true)) [xIg x9 x7, iY x6, AbC 72 (xCH (W (0 - x8))) (xA5 r1), xLO r1 x0] := by kernel_rfl
def xSa (x0 : Str) (x6 : Bool) (x7 : Str) (x8 x9 : Int) (r1 : Str) : rS 9 I107 (xIE x0 x6 x7 x8 x9) [F, F, Y] [xA5 r1] = dn (xBq (0, false)) [xIg x9 x7, iN x6, AbC 72 (xCH x8) (xA5 r1), iY (!((r1 : Str) == x0))] := by kernel_rfl
def xSb (x0 : Str) (x6 : Bool) (x7 : Str) (x8 x9 : Int) (r1 : Str) : rS 9 I107 (xIE x0 x6 x7 x8 x9) [F, F, F] [xA5 r1] = dn (xBq (x8, true)) [xIg x9 x7, iN x6, AbC 72 (xCH x8) (xA5 r1), xLO r1 x0] := by kernel_rfl
abbrev xLs (v0 : Str) := dc ((Ln v0 : Int) > 0)
abbrev xPh (v0 : Str) : Prop := iY (xLs v0)
abbrev xLY (v0 : Str) : Prop := (0 : Int) ≤ 0 ∧ (0 : Int) < (Ln v0)
abbrev xMy (v0 : Str) := (((gD v0 (tN 0) 0).toNat : Int) : Int) == 45
abbrev xPV (v0 : Str) : Prop := iY (xMy v0)
abbrev xPW (v0 : Str) : Prop := (0 : Int) ≤ (1 : Int) ∧ (1 : Int) ≤ (Ln v0)
abbrev xMz (v0 : Str) := ((Ln (List.drop (tN (1 : Int)) v0) : Int) : Int)
def xSc (a0 : Str) (a1 : Int) : rE I107 (xCF a0 a1) [Y, Y, Y, Y] [] = dn (xBq (0, false)) [xPh a0, xLY a0, xPV a0, xPW a0, iY (dc ((xMz a0) < 1)), iY true] := by kernel_rfl
abbrev xUU (v0 : Str) : Prop := iN (dc ((xMz v0) < 1))
def xSd (a0 : Str) (a1 : Int) : rE I107 (xCF a0 a1) [Y, Y, F, Y] [] = dn (xBq (0, false)) [xPh a0, xLY a0, xPV a0, xPW a0, xUU a0, iY (dc ((xMz a0) > a1))] := by kernel_rfl
abbrev xVd (v0 : Str) := List.drop (tN (1 : Int)) v0
def xSe (a0 : Str) (a1 : Int) : rE I107 (xCF a0 a1) [Y, Y, F, F] [] = st 9 I107 (xIE a0 (xMy a0) (xVd a0) 0 0) [xPh a0, xLY a0, xPV a0, xPW a0, xUU a0, iN (dc ((xMz a0) > a1))] := by kernel_rfl
abbrev xPY (v0 : Str) : Prop := iN (xMy v0)
def xQA (a0 : Str) (a1 : Int) : rE I107 (xCF a0 a1) [Y, F, Y, Y] [] = dn (xBq (0, false)) [xPh a0, xLY a0, xPY a0, iY (dc ((Ln a0 : Int) < 1)), iY true] := by kernel_rfl
abbrev xOA (v0 : Str) : Prop := iN (dc ((Ln v0 : Int) < 1))
def xQB (a0 : Str) (a1 : Int) : rE I107 (xCF a0 a1) [Y, F, F, Y] [] = dn (xBq (0, false)) [xPh a0, xLY a0, xPY a0, xOA a0, iY (dc ((Ln a0 : Int) > a1))] := by kernel_rfl
def xQC (a0 : Str) (a1 : Int) : rE I107 (xCF a0 a1) [Y, F, F, F] [] = st 9 I107 (xIE a0 (xMy a0) a0 0 0) [xPh a0, xLY a0, xPY a0, xOA a0, iN (dc ((Ln a0 : Int) > a1))] := by kernel_rfl
def xQD (a0 : Str) (a1 : Int) : rE I107 (xCF a0 a1) [F, F, Y, Y] [] = dn (xBq (0, false)) [iN (xLs a0), iN false, iY (dc ((Ln a0 : Int) < 1)), iY true] := by kernel_rfl
def xQE (a0 : Str) (a1 : Int) : rE I107 (xCF a0 a1) [F, F, F, Y] [] = dn (xBq (0, false)) [iN (xLs a0), iN false, xOA a0, iY (dc ((Ln a0 : Int) > a1))] := by kernel_rfl
def xQF (a0 : Str) (a1 : Int) : rE I107 (xCF a0 a1) [F, F, F, F] [] = st 9 I107 (xIE a0 false a0 0 0) [iN (xLs a0), iN false, xOA a0, iN (dc ((Ln a0 : Int) > a1))] := by kernel_rfl
theorem xPB {N : Nat} : ∀ n x0 x6 x7 x8 x9 r, xDd N n x0 x6 x7 x8 x9 = some r → RS Tryz.f107 I107 9 (xIE x0 x6 x7 x8 x9) (xBq r) := by
 intro n
 induction n with
 | zero => exact fun _ _ _ _ _ _ h => nE h
 | succ n ih =>
  exact fun x0 x6 x7 x8 x9 r h =>
   cE h (fun h0 h => iE h fun h1 h => cE h (fun h2 h => dS h xIS (xR5 x0 x6 x7 x8 x9) (oc4 h0 h1 h2 rfl on)) fun h2 h =>
   cE h (fun h4 h => dS h xIS (xR6 x0 x6 x7 x8 x9) (oc5 h0 h1 h2 h1 h4 on)) fun h4 h =>
   tS xIS (xR7 x0 x6 x7 x8 x9) (oc6 h0 h1 h2 h1 h4 h1 on) (ih _ _ _ _ _ _ h)) fun h0 h =>
   cE h (fun h1 h => bE h fun r1 h2 h => cE h (fun h3 h => dS h xIS (xR8 x0 x6 x7 x8 x9 r1) (oc4 h0 h1 (xET h2) h3 on)) fun h3 h =>
   dS h xIS (xR9 x0 x6 x7 x8 x9 r1) (oc4 h0 h1 (xET h2) h3 on)) fun h1 h =>
   bE h fun r1 h2 h => cE h (fun h3 h => dS h xIS (xSa x0 x6 x7 x8 x9 r1) (oc4 h0 h1 (xET h2) h3 on)) fun h3 h =>
   dS h xIS (xSb x0 x6 x7 x8 x9 r1) (oc4 h0 h1 (xET h2) h3 on)
theorem xZU {N : Nat} : ∀ a0 a1 r, xHC N a0 a1 = some r → RE Tryz.f107 I107 (xCF a0 a1) (xBq r) := fun a0 a1 r h =>
 cE h (fun h0 h => iE h fun h1 h => cE h (fun h2 h => iE h fun h3 h => cE h (fun h4 h => dE h xIS (xSc a0 a1) (oc6 h0 h1 h2 h3 h4 rfl on)) fun h4 h =>
 cE h (fun h5 h => dE h xIS (xSd a0 a1) (oc6 h0 h1 h2 h3 h4 h5 on)) fun h5 h =>
 tE xIS (xSe a0 a1) (oc6 h0 h1 h2 h3 h4 h5 on) (xPB _ _ _ _ _ _ _ h)) fun h2 h =>
 cE h (fun h3 h => dE h xIS (xQA a0 a1) (oc5 h0 h1 h2 h3 rfl on)) fun h3 h =>
 cE h (fun h4 h => dE h xIS (xQB a0 a1) (oc5 h0 h1 h2 h3 h4 on)) fun h4 h =>
 tE xIS (xQC a0 a1) (oc5 h0 h1 h2 h3 h4 on) (xPB _ _ _ _ _ _ _ h)) fun h0 h =>
 cE h (fun h2 h => dE h xIS (xQD a0 a1) (oc4 h0 rfl h2 rfl on)) fun h2 h =>
 cE h (fun h3 h => dE h xIS (xQE a0 a1) (oc4 h0 rfl h2 h3 on)) fun h3 h =>
 tE xIS (xQF a0 a1) (oc4 h0 rfl h2 h3 on) (xPB _ _ _ _ _ _ _ h)
theorem xLR {N : Nat} {a0 : Str} {a1 : Int} {r : Int × Bool} (h : xHC N  a0 a1 = some r) : AbC 107 (xCF a0 a1) (xBq r) :=
 AbsCalls.of_reach xIS rfl rfl (Nat.le_of_ble_eq_true rfl) (xZU a0 a1 r h)
noncomputable def I81 : Info := { body := (Tryz.f81.body).getD .skip, nt := 8, results := [.tmp 2, .tmp 3], keep := [0, 4, 6], live := [], modes := [] }
theorem fk81 : FnOk Tryz.prog 81 Tryz.f81 I81 := ⟨Tryz.func81, by kernel_rfl, by kernel_rfl, by kernel_rfl, by kernel_rfl⟩
def xYD (a0 : Str) (r1 : Int × Bool) : rE I81 (xF7 a0) [] [xBq r1] = dn (xCB (r1.1, r1.2)) [AbC 107 (xCF a0 12) (xBq r1)] := by kernel_rfl
theorem vB1 {N : Nat} : ∀ a0 r, xE7 N a0 = some r → RE Tryz.f81 I81 (xF7 a0) (xCB r) := fun a0 r h =>
 bE h fun r1 h0 h => dE h fk81 (xYD a0 r1) (oc (xLR h0) on)
theorem xEr {N : Nat} {a0 : Str} {r : Int × Bool} (h : xE7 N  a0 = some r) : AbC 81 (xF7 a0) (xCB r) :=
 AbsCalls.of_reach fk81 rfl rfl (Nat.le_of_ble_eq_true rfl) (vB1 a0 r h)
noncomputable def I82 : Info := { body := (Tryz.f82.body).getD .skip, nt := 29, results := [.tmp 2], keep := [0, 4, 6, 14, 50], live := [(2, [0, 6])], modes := [(4, [(4, .take, false), (10, .take, false)])] }
theorem fk82 : FnOk Tryz.prog 82 Tryz.f82 I82 := ⟨Tryz.func82, by kernel_rfl, by kernel_rfl, by kernel_rfl, by kernel_rfl⟩
def xMW (x0 : Str) (x3 : Int) : St := [(0, .v false [.str x0]), (6, .v false [.int .i64 x3])]
abbrev xNR (v0 : Str) (v1 : Int) := dc ((((gD v0 (tN v1) 0).toNat : Int) : Int) < 32)
def xYE (x0 : Str) (x3 : Int) : rS 2 I82 (xMW x0 x3) [Y, Y, Y, Y] [] = dn (xA2 false) [xC9 x3 x0, xAx x3 x0, iY (xNR x0 x3), iY true, iY true] := by kernel_rfl
abbrev xLZ (v0 : Str) (v1 : Int) : Prop := iN (xNR v0 v1)
abbrev xNS (v0 : Str) (v1 : Int) := dc ((((gD v0 (tN v1) 0).toNat : Int) : Int) > 126)
def xYF (x0 : Str) (x3 : Int) : rS 2 I82 (xMW x0 x3) [Y, F, Y, Y] [] = dn (xA2 false) [xC9 x3 x0, xAx x3 x0, xLZ x0 x3, xAx x3 x0, iY (xNS x0 x3), iY true] := by kernel_rfl
abbrev xOB (v0 : Str) (v1 : Int) : Prop := iN (xNS v0 v1)
abbrev xI8 (v0 : Str) (v1 : Int) : Prop := iY ((xFT v0 v1) == 34)
def xYG (x0 : Str) (x3 : Int) : rS 2 I82 (xMW x0 x3) [Y, F, F, Y] [] = dn (xA2 false) [xC9 x3 x0, xAx x3 x0, xLZ x0 x3, xAx x3 x0, xOB x0 x3, xAx x3 x0, xI8 x0 x3] := by kernel_rfl
abbrev xI9 (v0 : Str) (v1 : Int) : Prop := iN ((xFT v0 v1) == 34)
def xYH (x0 : Str) (x3 : Int) : rS 2 I82 (xMW x0 x3) [Y, F, F, F] [] = st 2 I82 (xMW x0 (W (x3 + 1))) [xC9 x3 x0, xAx x3 x0, xLZ x0 x3, xAx x3 x0, xOB x0 x3, xAx x3 x0, xI9 x0 x3] := by kernel_rfl
def xYI (x0 : Str) (x3 : Int) : rS 2 I82 (xMW x0 x3) [F] [] = dn (xA2 (dc ((Ln x0 : Int) ≤ 20))) [xIg x3 x0] := by kernel_rfl
def xYJ (a0 : Str) : rE I82 (xEg a0) [] [] = st 2 I82 (xMW a0 0) [] := by kernel_rfl
theorem vB2 {N : Nat} : ∀ n x0 x3 r, xCx N n x0 x3 = some r → RS Tryz.f82 I82 2 (xMW x0 x3) (xA2 r) := by
 intro n
 induction n with
 | zero => exact fun _ _ _ h => nE h
 | succ n ih =>
  exact fun x0 x3 r h =>
   cE h (fun h0 h => iE h fun h1 h => cE h (fun h2 h => dS h fk82 (xYE x0 x3) (oc5 h0 h1 h2 rfl rfl on)) fun h2 h =>
   cE h (fun h4 h => dS h fk82 (xYF x0 x3) (oc6 h0 h1 h2 h1 h4 rfl on)) fun h4 h =>
   cE h (fun h6 h => dS h fk82 (xYG x0 x3) (oc7 h0 h1 h2 h1 h4 h1 h6 on)) fun h6 h =>
   tS fk82 (xYH x0 x3) (oc7 h0 h1 h2 h1 h4 h1 h6 on) (ih _ _ _ h)) fun h0 h =>
   dS h fk82 (xYI x0 x3) (oc h0 on)
theorem vB3 {N : Nat} : ∀ a0 r, xEp N a0 = some r → RE Tryz.f82 I82 (xEg a0) (xA2 r) := fun a0 r h =>
 tE fk82 (xYJ a0) on (vB2 _ _ _ _ h)
theorem xEh {N : Nat} {a0 : Str} {r : Bool} (h : xEp N  a0 = some r) : AbC 82 (xEg a0) (xA2 r) :=
 AbsCalls.of_reach fk82 rfl rfl (Nat.le_of_ble_eq_true rfl) (vB3 a0 r h)
noncomputable def I83 : Info := { body := (Tryz.f83.body).getD .skip, nt := 32, results := [.tmp 4], keep := [0, 2, 8, 14, 16, 36, 62], live := [], modes := [(13, [(5, .take, false)])] }
theorem fk83 : FnOk Tryz.prog 83 Tryz.f83 I83 := ⟨Tryz.func83, by kernel_rfl, by kernel_rfl, by kernel_rfl, by kernel_rfl⟩
abbrev xNT (v0 : Str) (v1 : Int) := (((gD v0 (tN v1) 0).toNat : Int) : Int) == 40
def xYK (a0 : Str) (a1 : Int) : rE I83 (xBf a0 a1) [Y, Y] [] = dn (xA7 1) [xAx a1 a0, iY (xNT a0 a1), iY (xNT a0 a1)] := by kernel_rfl
abbrev xIF (v0 : Str) (v1 : Int) : Prop := iN (xNT v0 v1)
abbrev xNU (v0 : Str) (v1 : Int) := (((gD v0 (tN v1) 0).toNat : Int) : Int) == 41
def xYL (a0 : Str) (a1 : Int) : rE I83 (xBf a0 a1) [F, Y, Y] [] = dn (xA7 1) [xAx a1 a0, xIF a0 a1, iY (xNU a0 a1), iY (xNU a0 a1)] := by kernel_rfl
abbrev xJa (v0 : Str) (v1 : Int) : Prop := iN (xNU v0 v1)
abbrev xNV (v0 : Str) (v1 : Int) := (((gD v0 (tN v1) 0).toNat : Int) : Int) == 91
def xYM (a0 : Str) (a1 : Int) : rE I83 (xBf a0 a1) [F, F, Y, Y] [] = dn (xA7 1) [xAx a1 a0, xIF a0 a1, xJa a0 a1, iY (xNV a0 a1), iY (xNV a0 a1)] := by kernel_rfl
abbrev xJI (v0 : Str) (v1 : Int) : Prop := iN (xNV v0 v1)
abbrev xNW (v0 : Str) (v1 : Int) := (((gD v0 (tN v1) 0).toNat : Int) : Int) == 93
def xYN (a0 : Str) (a1 : Int) : rE I83 (xBf a0 a1) [F, F, F, Y, Y] [] = dn (xA7 1) [xAx a1 a0, xIF a0 a1, xJa a0 a1, xJI a0 a1, iY (xNW a0 a1), iY (xNW a0 a1)] := by kernel_rfl
abbrev xKg (v0 : Str) (v1 : Int) : Prop := iN (xNW v0 v1)
abbrev xNX (v0 : Str) (v1 : Int) := (((gD v0 (tN v1) 0).toNat : Int) : Int) == 44
def xYO (a0 : Str) (a1 : Int) : rE I83 (xBf a0 a1) [F, F, F, F, Y, Y] [] = dn (xA7 1) [xAx a1 a0, xIF a0 a1, xJa a0 a1, xJI a0 a1, xKg a0 a1, iY (xNX a0 a1), iY (xNX a0 a1)] := by kernel_rfl
abbrev xKU (v0 : Str) (v1 : Int) : Prop := iN (xNX v0 v1)
abbrev xNY (v0 : Str) (v1 : Int) := (((gD v0 (tN v1) 0).toNat : Int) : Int) == 43
def xYP (a0 : Str) (a1 : Int) : rE I83 (xBf a0 a1) [F, F, F, F, F, Y, Y] [] = dn (xA7 1) [xAx a1 a0, xIF a0 a1, xJa a0 a1, xJI a0 a1, xKg a0 a1, xKU a0 a1, iY (xNY a0 a1), iY (xNY a0 a1)] := by kernel_rfl
abbrev xLv (v0 : Str) (v1 : Int) : Prop := iN (xNY v0 v1)
abbrev xNZ (v0 : Str) (v1 : Int) := (((gD v0 (tN v1) 0).toNat : Int) : Int) == 45
def xYQ (a0 : Str) (a1 : Int) : rE I83 (xBf a0 a1) [F, F, F, F, F, F, Y, Y] [] = dn (xA7 1) [xAx a1 a0, xIF a0 a1, xJa a0 a1, xJI a0 a1, xKg a0 a1, xKU a0 a1, xLv a0 a1, iY (xNZ a0 a1), iY (xNZ a0 a1)] := by kernel_rfl
abbrev xL0 (v0 : Str) (v1 : Int) : Prop := iN (xNZ v0 v1)
abbrev xN0 (v0 : Str) (v1 : Int) := (((gD v0 (tN v1) 0).toNat : Int) : Int) == 42
def xYR (a0 : Str) (a1 : Int) : rE I83 (xBf a0 a1) [F, F, F, F, F, F, F, Y, Y] [] = dn (xA7 1) [xAx a1 a0, xIF a0 a1, xJa a0 a1, xJI a0 a1, xKg a0 a1, xKU a0 a1, xLv a0 a1, xL0 a0 a1, iY (xN0 a0 a1), iY (xN0 a0 a1)] := by kernel_rfl
abbrev xM9 (v0 : Str) (v1 : Int) : Prop := iN (xN0 v0 v1)
def xYS (a0 : Str) (a1 : Int) : rE I83 (xBf a0 a1) [F, F, F, F, F, F, F, F, Y] [] = dn (xA7 1) [xAx a1 a0, xIF a0 a1, xJa a0 a1, xJI a0 a1, xKg a0 a1, xKU a0 a1, xLv a0 a1, xL0 a0 a1, xM9 a0 a1, iY ((xFT a0 a1) == 60)] := by kernel_rfl
abbrev xOC (v0 : Str) (v1 : Int) : Prop := iN ((xFT v0 v1) == 60)
abbrev xQm (v0 : Str) (v1 : Int) : Prop := iY ((xFT v0 v1) == 61)
abbrev xN1 (v0 : Int) := tN (W (v0 + 1))
def xYT (a0 : Str) (a1 : Int) : rE I83 (xBf a0 a1) [F, F, F, F, F, F, F, F, F, Y, Y, Y] [] = dn (xA7 2) [xAx a1 a0, xIF a0 a1, xJa a0 a1, xJI a0 a1, xKg a0 a1, xKU a0 a1, xLv a0 a1, xL0 a0 a1, xM9 a0 a1, xOC a0 a1, xQm a0 a1, iY (dc ((W (a1 + 1)) < (Ln a0 : Int))), (0 : Int) ≤ (W (a1 + 1)) ∧ (W (a1 + 1)) < (Ln a0), iY ((((gD a0 (xN1 a1) 0).toNat : Int) : Int) == 61)] := by kernel_rfl
def xUg (a0 : Str) (a1 : Int) : rE I83 (xBf a0 a1) [F, F, F, F, F, F, F, F, F, Y, Y, F] [] = dn (xA7 1) [xAx a1 a0, xIF a0 a1, xJa a0 a1, xJI a0 a1, xKg a0 a1, xKU a0 a1, xLv a0 a1, xL0 a0 a1, xM9 a0 a1, xOC a0 a1, xQm a0 a1, iY (dc ((W (a1 + 1)) < (Ln a0 : Int))), (0 : Int) ≤ (W (a1 + 1)) ∧ (W (a1 + 1)) < (Ln a0), iN ((((gD a0 (xN1 a1) 0).toNat : Int) : Int) == 61)] := by kernel_rfl
def xUh (a0 : Str) (a1 : Int) : rE I83 (xBf a0 a1) [F, F, F, F, F, F, F, F, F, Y, F, F] [] = dn (xA7 1) [xAx a1 a0, xIF a0 a1, xJa a0 a1, xJI a0 a1, xKg a0 a1, xKU a0 a1, xLv a0 a1, xL0 a0 a1, xM9 a0 a1, xOC a0 a1, xQm a0 a1, iN (dc ((W (a1 + 1)) < (Ln a0 : Int))), iN false] := by kernel_rfl
def xUi (a0 : Str) (a1 : Int) : rE I83 (xBf a0 a1) [F, F, F, F, F, F, F, F, F, F] [] = dn (xA7 0) [xAx a1 a0, xIF a0 a1, xJa a0 a1, xJI a0 a1, xKg a0 a1, xKU a0 a1, xLv a0 a1, xL0 a0 a1, xM9 a0 a1, xOC a0 a1, iN ((xFT a0 a1) == 61)] := by kernel_rfl
theorem vB4 {N : Nat} : ∀ a0 a1 r, xGz N a0 a1 = some r → RE Tryz.f83 I83 (xBf a0 a1) (xA7 r) := fun a0 a1 r h =>
 iE h fun h0 h => cE h (fun h1 h => dE h fk83 (xYK a0 a1) (oc3 h0 h1 h1 on)) fun h1 h =>
 cE h (fun h2 h => dE h fk83 (xYL a0 a1) (oc4 h0 h1 h2 h2 on)) fun h2 h =>
 cE h (fun h3 h => dE h fk83 (xYM a0 a1) (oc5 h0 h1 h2 h3 h3 on)) fun h3 h =>
 cE h (fun h4 h => dE h fk83 (xYN a0 a1) (oc6 h0 h1 h2 h3 h4 h4 on)) fun h4 h =>
 cE h (fun h5 h => dE h fk83 (xYO a0 a1) (oc7 h0 h1 h2 h3 h4 h5 h5 on)) fun h5 h =>
 cE h (fun h6 h => dE h fk83 (xYP a0 a1) (oc8 h0 h1 h2 h3 h4 h5 h6 h6 on)) fun h6 h =>
 cE h (fun h7 h => dE h fk83 (xYQ a0 a1) (oc9 h0 h1 h2 h3 h4 h5 h6 h7 h7 on)) fun h7 h =>
 cE h (fun h8 h => dE h fk83 (xYR a0 a1) (oc10 h0 h1 h2 h3 h4 h5 h6 h7 h8 h8 on)) fun h8 h =>
 cE h (fun h9 h => dE h fk83 (xYS a0 a1) (oc10 h0 h1 h2 h3 h4 h5 h6 h7 h8 h9 on)) fun h9 h =>
 cE h (fun h10 h => cE h (fun h11 h => iE h fun h12 h => cE h (fun h13 h => dE h fk83 (xYT a0 a1) (oc12 h0 h1 h2 h3 h4 h5 h6 h7 h8 h9 h10 h11 (oc2 h12 h13 on))) fun h13 h =>
 dE h fk83 (xUg a0 a1) (oc12 h0 h1 h2 h3 h4 h5 h6 h7 h8 h9 h10 h11 (oc2 h12 h13 on))) fun h11 h =>
 dE h fk83 (xUh a0 a1) (oc12 h0 h1 h2 h3 h4 h5 h6 h7 h8 h9 h10 h11 (oc rfl on))) fun h10 h =>
 dE h fk83 (xUi a0 a1) (oc11 h0 h1 h2 h3 h4 h5 h6 h7 h8 h9 h10 on)
theorem xLa {N : Nat} {a0 : Str} {a1 : Int} {r : Int} (h : xGz N  a0 a1 = some r) : AbC 83 (xBf a0 a1) (xA7 r) :=
 AbsCalls.of_reach fk83 rfl rfl (Nat.le_of_ble_eq_true rfl) (vB4 a0 a1 r h)
noncomputable def I43 : Info := { body := (Tryz.f43.body).getD .skip, nt := 136, results := [.cell 4 50, .tmp 5], keep := [0, 2, 8, 10, 12, 14, 16, 18, 48, 88, 112, 116, 144, 182, 186, 218, 256, 9, 13], live := [(7, [0, 2, 8, 12, 14, 9, 13]), (14, [0, 2, 8, 12, 14, 9, 13]), (23, [0, 2, 8, 12, 14, 9, 13])], modes := [(7, [(4, .take, false), (9, .take, false)]), (14, [(4, .take, false)]), (16, [(5, .take, false)]), (19, [(0, .take, false), (2, .take, false)]), (23, [(4, .take, false)]), (27, [(4, .take, false)])] }
theorem fk43 : FnOk Tryz.prog 43 Tryz.f43 I43 := ⟨Tryz.func43, by kernel_rfl, by kernel_rfl, by kernel_rfl, by kernel_rfl⟩
def xLJ (x0 : Str) (x1 x7 : Int) (b4 b6 : Tok) : St := [(0, .v false [.str x0]), (2, .v false [.int .i64 x1]), (8, .v false [.ptr 4 0]), (12, .v false [.ptr 6 0]), (14, .v false [.int .i64 x7]), (9, .v true [.int .i64 (Tok.kind b4), .int .i64 (Tok.n b4), .int .i64 (Tok.pos b4), .str (Tok.text b4)]), (13, .v true [.int .i64 (Tok.kind b6), .int .i64 (Tok.n b6), .int .i64 (Tok.pos b6), .str (Tok.text b6)])]
def xJD (x0 : Str) (x1 x7 : Int) (b4 b6 : Tok) : St := [(0, .v false [.str x0]), (2, .v false [.int .i64 x1]), (8, .v false [.ptr 4 0]), (12, .v false [.ptr 6 0]), (14, .v false [.int .i64 x7]), (9, .v true [.int .i64 (Tok.kind b4), .int .i64 (Tok.n b4), .int .i64 (Tok.pos b4), .str (Tok.text b4)]), (13, .v true [.int .i64 (Tok.kind b6), .int .i64 (Tok.n b6), .int .i64 (Tok.pos b6), .str (Tok.text b6)])]
def xJE (x0 : Str) (x1 x7 : Int) (b4 b6 : Tok) : St := [(0, .v false [.str x0]), (2, .v false [.int .i64 x1]), (8, .v false [.ptr 4 0]), (12, .v false [.ptr 6 0]), (14, .v false [.int .i64 x7]), (9, .v true [.int .i64 (Tok.kind b4), .int .i64 (Tok.n b4), .int .i64 (Tok.pos b4), .str (Tok.text b4)]), (13, .v true [.int .i64 (Tok.kind b6), .int .i64 (Tok.n b6), .int .i64 (Tok.pos b6), .str (Tok.text b6)])]
abbrev xKV (v0 : Str) (v1 : Int) (v2 : Bool) : Prop := AbC 79 (xFh (xMx v0 v1)) (xBJ v2)
def xWN (x0 : Str) (x1 x7 : Int) (b4 b6 : Tok) (r1 : Bool) : rS 7 I43 (xLJ x0 x1 x7 b4 b6) [Y, Y, Y] [xBJ r1] = st 7 I43 (xLJ x0 x1 (W (x7 + 1)) b4 b6) [xC9 x7 x0, xAx x7 x0, xKV x0 x7 r1, iY r1, iY true] := by kernel_rfl
abbrev xJJ (v0 : Str) (v1 : Int) (v2 : Bool) : Prop := AbC 80 (xFF (xMx v0 v1)) (xBx v2)
def xWO (x0 : Str) (x1 x7 : Int) (b4 b6 : Tok) (r1 r2 : Bool) : rS 7 I43 (xLJ x0 x1 x7 b4 b6) [Y, F, Y] [xBJ r1, xBx r2] = st 7 I43 (xLJ x0 x1 (W (x7 + 1)) b4 b6) [xC9 x7 x0, xAx x7 x0, xKV x0 x7 r1, iN r1, xAx x7 x0, xJJ x0 x7 r2, iY r2] := by kernel_rfl
abbrev xGC (v0 v1 : Int) (v2 : Str) : Prop := (0 : Int) ≤ v0 ∧ v0 ≤ v1 ∧ v1 ≤ (Ln v2)
abbrev xMA (v0 : Tok) (v1 v2 : Int) (v3 : Str) := Tok.mk 1 (Tok.n v0) (Tok.pos v0) (List.drop (tN v1) (List.take (tN v2) v3))
def xWP (x0 : Str) (x1 x7 : Int) (b4 b6 : Tok) (r1 r2 : Bool) : rS 7 I43 (xLJ x0 x1 x7 b4 b6) [Y, F, F, Y] [xBJ r1, xBx r2] = dn (xA0 ((xMA b6 x1 x7 x0), 0)) [xC9 x7 x0, xAx x7 x0, xKV x0 x7 r1, iN r1, xAx x7 x0, xJJ x0 x7 r2, iN r2, xGC x1 x7 x0, iY (dc ((W (x7 - x1)) > 8))] := by kernel_rfl
def xWQ (x0 : Str) (x1 x7 : Int) (b4 b6 : Tok) (r1 r2 : Bool) : rS 7 I43 (xLJ x0 x1 x7 b4 b6) [Y, F, F, F] [xBJ r1, xBx r2] = dn (xA0 ((xMA b6 x1 x7 x0), (W (x7 - x1)))) [xC9 x7 x0, xAx x7 x0, xKV x0 x7 r1, iN r1, xAx x7 x0, xJJ x0 x7 r2, iN r2, xGC x1 x7 x0, iN (dc ((W (x7 - x1)) > 8))] := by kernel_rfl
def xWR (x0 : Str) (x1 x7 : Int) (b4 b6 : Tok) : rS 7 I43 (xLJ x0 x1 x7 b4 b6) [F, F, Y] [] = dn (xA0 ((xMA b6 x1 x7 x0), 0)) [xIg x7 x0, iN false, xGC x1 x7 x0, iY (dc ((W (x7 - x1)) > 8))] := by kernel_rfl
def xWS (x0 : Str) (x1 x7 : Int) (b4 b6 : Tok) : rS 7 I43 (xLJ x0 x1 x7 b4 b6) [F, F, F] [] = dn (xA0 ((xMA b6 x1 x7 x0), (W (x7 - x1)))) [xIg x7 x0, iN false, xGC x1 x7 x0, iN (dc ((W (x7 - x1)) > 8))] := by kernel_rfl
def xTw (x0 : Str) (x1 x7 : Int) (b4 b6 : Tok) (r1 : Bool) : rS 14 I43 (xJD x0 x1 x7 b4 b6) [Y, Y] [xBx r1] = st 14 I43 (xJD x0 x1 (W (x7 + 1)) b4 b6) [xC9 x7 x0, xAx x7 x0, xJJ x0 x7 r1, iY r1] := by kernel_rfl
abbrev xQd (v0 v1 : Int) (v2 : Str) := List.drop (tN v0) (List.take (tN v1) v2)
abbrev xL1 (v0 v1 : Int) (v2 : Str) (v3 : Int × Bool) : Prop := AbC 81 (xF7 (xQd v0 v1 v2)) (xCB v3)
abbrev xMB (v0 : Int × Bool) (v1 : Tok) := xA0 ((Tok.mk 2 v0.1 (Tok.pos v1) (Tok.text v1)), 0)
def xTx (x0 : Str) (x1 x7 : Int) (b4 b6 : Tok) (r1 : Bool) (r2 : Int × Bool) : rS 14 I43 (xJD x0 x1 x7 b4 b6) [Y, F, Y, Y] [xBx r1, xCB r2] = dn (xMB r2 b6) [xC9 x7 x0, xAx x7 x0, xJJ x0 x7 r1, iN r1, xGC x1 x7 x0, xL1 x1 x7 x0 r2, iY (!r2.2), iY true] := by kernel_rfl
def xTy (x0 : Str) (x1 x7 : Int) (b4 b6 : Tok) (r1 : Bool) (r2 : Int × Bool) : rS 14 I43 (xJD x0 x1 x7 b4 b6) [Y, F, F, Y] [xBx r1, xCB r2] = dn (xMB r2 b6) [xC9 x7 x0, xAx x7 x0, xJJ x0 x7 r1, iN r1, xGC x1 x7 x0, xL1 x1 x7 x0 r2, iN (!r2.2), iY (dc (r2.1 > 1000000000))] := by kernel_rfl
abbrev xQe (v0 : Int × Bool) (v1 : Tok) := Tok.mk 2 v0.1 (Tok.pos v1) (Tok.text v1)
def xTz (x0 : Str) (x1 x7 : Int) (b4 b6 : Tok) (r1 : Bool) (r2 : Int × Bool) : rS 14 I43 (xJD x0 x1 x7 b4 b6) [Y, F, F, F] [xBx r1, xCB r2] = dn (xA0 ((xQe r2 b6), (W (x7 - x1)))) [xC9 x7 x0, xAx x7 x0, xJJ x0 x7 r1, iN r1, xGC x1 x7 x0, xL1 x1 x7 x0 r2, iN (!r2.2), iN (dc (r2.1 > 1000000000))] := by kernel_rfl
def xQT (x0 : Str) (x1 x7 : Int) (b4 b6 : Tok) (r1 : Int × Bool) : rS 14 I43 (xJD x0 x1 x7 b4 b6) [F, F, Y, Y] [xCB r1] = dn (xMB r1 b6) [xIg x7 x0, iN false, xGC x1 x7 x0, xL1 x1 x7 x0 r1, iY (!r1.2), iY true] := by kernel_rfl
def xQU (x0 : Str) (x1 x7 : Int) (b4 b6 : Tok) (r1 : Int × Bool) : rS 14 I43 (xJD x0 x1 x7 b4 b6) [F, F, F, Y] [xCB r1] = dn (xMB r1 b6) [xIg x7 x0, iN false, xGC x1 x7 x0, xL1 x1 x7 x0 r1, iN (!r1.2), iY (dc (r1.1 > 1000000000))] := by kernel_rfl
def xQV (x0 : Str) (x1 x7 : Int) (b4 b6 : Tok) (r1 : Int × Bool) : rS 14 I43 (xJD x0 x1 x7 b4 b6) [F, F, F, F] [xCB r1] = dn (xA0 ((xQe r1 b6), (W (x7 - x1)))) [xIg x7 x0, iN false, xGC x1 x7 x0, xL1 x1 x7 x0 r1, iN (!r1.2), iN (dc (r1.1 > 1000000000))] := by kernel_rfl
def xQW (x0 : Str) (x1 x7 : Int) (b4 b6 : Tok) : rS 23 I43 (xJE x0 x1 x7 b4 b6) [Y, Y] [] = st 23 I43 (xJE x0 x1 (W (x7 + 1)) b4 b6) [xC9 x7 x0, xAx x7 x0, iY ((xFT x0 x7) != 34)] := by kernel_rfl
abbrev xQn (v0 : Str) (v1 : Int) : Prop := iN ((xFT v0 v1) != 34)
abbrev xL2 (v0 v1 : Int) (v2 : Str) : Prop := (0 : Int) ≤ (W (v0 + 1)) ∧ (W (v0 + 1)) ≤ v1 ∧ v1 ≤ (Ln v2)
abbrev xMC (v0 : Tok) (v1 v2 : Int) (v3 : Str) := xA0 ((Tok.mk 3 (Tok.n v0) (Tok.pos v0) (List.drop (tN (W (v1 + 1))) (List.take (tN v2) v3))), 0)
def xQX (x0 : Str) (x1 x7 : Int) (b4 b6 : Tok) : rS 23 I43 (xJE x0 x1 x7 b4 b6) [Y, F, Y, Y] [] = dn (xMC b6 x1 x7 x0) [xC9 x7 x0, xAx x7 x0, xQn x0 x7, xL2 x1 x7 x0, iY (x7 == (Ln x0 : Int)), iY true] := by kernel_rfl
abbrev xVe (v0 v1 : Int) (v2 : Str) := List.drop (tN (W (v0 + 1))) (List.take (tN v1) v2)
abbrev xOD (v0 v1 : Int) (v2 : Str) (v3 : Bool) : Prop := AbC 82 (xEg (xVe v0 v1 v2)) (xA2 v3)
def xQY (x0 : Str) (x1 x7 : Int) (b4 b6 : Tok) (r1 : Bool) : rS 23 I43 (xJE x0 x1 x7 b4 b6) [Y, F, F, Y] [xA2 r1] = dn (xMC b6 x1 x7 x0) [xC9 x7 x0, xAx x7 x0, xQn x0 x7, xL2 x1 x7 x0, iN (x7 == (Ln x0 : Int)), xOD x1 x7 x0 r1, iY (!r1)] := by kernel_rfl
abbrev xQf (v0 : Tok) (v1 v2 : Int) (v3 : Str) := xA0 ((Tok.mk 3 (Tok.n v0) (Tok.pos v0) (List.drop (tN (W (v1 + 1))) (List.take (tN v2) v3))), (W ((W (v2 + 1)) - v1)))
def xQZ (x0 : Str) (x1 x7 : Int) (b4 b6 : Tok) (r1 : Bool) : rS 23 I43 (xJE x0 x1 x7 b4 b6) [Y, F, F, F] [xA2 r1] = dn (xQf b6 x1 x7 x0) [xC9 x7 x0, xAx x7 x0, xQn x0 x7, xL2 x1 x7 x0, iN (x7 == (Ln x0 : Int)), xOD x1 x7 x0 r1, iN (!r1)] := by kernel_rfl
def xQ0 (x0 : Str) (x1 x7 : Int) (b4 b6 : Tok) : rS 23 I43 (xJE x0 x1 x7 b4 b6) [F, F, Y, Y] [] = dn (xMC b6 x1 x7 x0) [xIg x7 x0, iN false, xL2 x1 x7 x0, iY (x7 == (Ln x0 : Int)), iY true] := by kernel_rfl
def xQ1 (x0 : Str) (x1 x7 : Int) (b4 b6 : Tok) (r1 : Bool) : rS 23 I43 (xJE x0 x1 x7 b4 b6) [F, F, F, Y] [xA2 r1] = dn (xMC b6 x1 x7 x0) [xIg x7 x0, iN false, xL2 x1 x7 x0, iN (x7 == (Ln x0 : Int)), xOD x1 x7 x0 r1, iY (!r1)] := by kernel_rfl
def xQ2 (x0 : Str) (x1 x7 : Int) (b4 b6 : Tok) (r1 : Bool) : rS 23 I43 (xJE x0 x1 x7 b4 b6) [F, F, F, F] [xA2 r1] = dn (xQf b6 x1 x7 x0) [xIg x7 x0, iN false, xL2 x1 x7 x0, iN (x7 == (Ln x0 : Int)), xOD x1 x7 x0 r1, iN (!r1)] := by kernel_rfl
def xTA (a0 : Str) (a1 : Int) (r1 : Bool) : rE I43 (xDI a0 a1) [Y] [xBJ r1] = st 7 I43 (xLJ a0 a1 a1 (Tok.mk 0 0 0 []) (Tok.mk 0 0 a1 [])) [xAx a1 a0, xKV a0 a1 r1, iY r1] := by kernel_rfl
def xTB (a0 : Str) (a1 : Int) (r1 r2 : Bool) : rE I43 (xDI a0 a1) [F, Y] [xBJ r1, xBx r2] = st 14 I43 (xJD a0 a1 a1 (Tok.mk 0 0 0 []) (Tok.mk 0 0 a1 [])) [xAx a1 a0, xKV a0 a1 r1, iN r1, xAx a1 a0, xJJ a0 a1 r2, iY r2] := by kernel_rfl
def xTC (a0 : Str) (a1 : Int) (r1 r2 : Bool) : rE I43 (xDI a0 a1) [F, F, Y] [xBJ r1, xBx r2] = st 23 I43 (xJE a0 a1 (W (a1 + 1)) (Tok.mk 0 0 0 []) (Tok.mk 0 0 a1 [])) [xAx a1 a0, xKV a0 a1 r1, iN r1, xAx a1 a0, xJJ a0 a1 r2, iN r2, xAx a1 a0, xI8 a0 a1] := by kernel_rfl
def xTD (a0 : Str) (a1 : Int) (r1 r2 : Bool) (r3 : Int) : rE I43 (xDI a0 a1) [F, F, F] [xBJ r1, xBx r2, xA7 r3] = dn (xA0 ((Tok.mk 4 0 a1 (List.drop (tN a1) (List.take (tN (W (a1 + r3))) a0))), (W ((W (a1 + r3)) - a1)))) [xAx a1 a0, xKV a0 a1 r1, iN r1, xAx a1 a0, xJJ a0 a1 r2, iN r2, xAx a1 a0, xI9 a0 a1, AbC 83 (xBf a0 a1) (xA7 r3), (0 : Int) ≤ a1 ∧ a1 ≤ (W (a1 + r3)) ∧ (W (a1 + r3)) ≤ (Ln a0)] := by kernel_rfl
theorem vBm {N : Nat} : ∀ n x0 x1 x7 b4 b6 r, xDJ N n x0 x1 x7 b4 b6 = some r → RS Tryz.f43 I43 7 (xLJ x0 x1 x7 b4 b6) (xA0 r) := by
 intro n
 induction n with
 | zero => exact fun _ _ _ _ _ _ h => nE h
 | succ n ih =>
  exact fun x0 x1 x7 b4 b6 r h =>
   cE h (fun h0 h => iE h fun h1 h => bE h fun r1 h2 h => cE h (fun h3 h => tS fk43 (xWN x0 x1 x7 b4 b6 r1) (oc5 h0 h1 (xDt h2) h3 rfl on) (ih _ _ _ _ _ _ h)) fun h3 h =>
   bE h fun r2 h5 h => cE h (fun h6 h => tS fk43 (xWO x0 x1 x7 b4 b6 r1 r2) (oc7 h0 h1 (xDt h2) h3 h1 (xCV h5) h6 on) (ih _ _ _ _ _ _ h)) fun h6 h =>
   iE h fun h7 h => cE h (fun h8 h => dS h fk43 (xWP x0 x1 x7 b4 b6 r1 r2) (oc9 h0 h1 (xDt h2) h3 h1 (xCV h5) h6 h7 h8 on)) fun h8 h =>
   dS h fk43 (xWQ x0 x1 x7 b4 b6 r1 r2) (oc9 h0 h1 (xDt h2) h3 h1 (xCV h5) h6 h7 h8 on)) fun h0 h =>
   iE h fun h2 h => cE h (fun h3 h => dS h fk43 (xWR x0 x1 x7 b4 b6) (oc4 h0 rfl h2 h3 on)) fun h3 h =>
   dS h fk43 (xWS x0 x1 x7 b4 b6) (oc4 h0 rfl h2 h3 on)
theorem vAi {N : Nat} : ∀ n x0 x1 x7 b4 b6 r, xDm N n x0 x1 x7 b4 b6 = some r → RS Tryz.f43 I43 14 (xJD x0 x1 x7 b4 b6) (xA0 r) := by
 intro n
 induction n with
 | zero => exact fun _ _ _ _ _ _ h => nE h
 | succ n ih =>
  exact fun x0 x1 x7 b4 b6 r h =>
   cE h (fun h0 h => iE h fun h1 h => bE h fun r1 h2 h => cE h (fun h3 h => tS fk43 (xTw x0 x1 x7 b4 b6 r1) (oc4 h0 h1 (xCV h2) h3 on) (ih _ _ _ _ _ _ h)) fun h3 h =>
   iE h fun h4 h => bE h fun r2 h5 h => cE h (fun h6 h => dS h fk43 (xTx x0 x1 x7 b4 b6 r1 r2) (oc8 h0 h1 (xCV h2) h3 h4 (xEr h5) h6 rfl on)) fun h6 h =>
   cE h (fun h7 h => dS h fk43 (xTy x0 x1 x7 b4 b6 r1 r2) (oc8 h0 h1 (xCV h2) h3 h4 (xEr h5) h6 h7 on)) fun h7 h =>
   dS h fk43 (xTz x0 x1 x7 b4 b6 r1 r2) (oc8 h0 h1 (xCV h2) h3 h4 (xEr h5) h6 h7 on)) fun h0 h =>
   iE h fun h2 h => bE h fun r1 h3 h => cE h (fun h4 h => dS h fk43 (xQT x0 x1 x7 b4 b6 r1) (oc6 h0 rfl h2 (xEr h3) h4 rfl on)) fun h4 h =>
   cE h (fun h5 h => dS h fk43 (xQU x0 x1 x7 b4 b6 r1) (oc6 h0 rfl h2 (xEr h3) h4 h5 on)) fun h5 h =>
   dS h fk43 (xQV x0 x1 x7 b4 b6 r1) (oc6 h0 rfl h2 (xEr h3) h4 h5 on)
theorem vAj {N : Nat} : ∀ n x0 x1 x7 b4 b6 r, xE1 N n x0 x1 x7 b4 b6 = some r → RS Tryz.f43 I43 23 (xJE x0 x1 x7 b4 b6) (xA0 r) := by
 intro n
 induction n with
 | zero => exact fun _ _ _ _ _ _ h => nE h
 | succ n ih =>
  exact fun x0 x1 x7 b4 b6 r h =>
   cE h (fun h0 h => iE h fun h1 h => cE h (fun h2 h => tS fk43 (xQW x0 x1 x7 b4 b6) (oc3 h0 h1 h2 on) (ih _ _ _ _ _ _ h)) fun h2 h =>
   iE h fun h3 h => cE h (fun h4 h => dS h fk43 (xQX x0 x1 x7 b4 b6) (oc6 h0 h1 h2 h3 h4 rfl on)) fun h4 h =>
   bE h fun r1 h5 h => cE h (fun h6 h => dS h fk43 (xQY x0 x1 x7 b4 b6 r1) (oc7 h0 h1 h2 h3 h4 (xEh h5) h6 on)) fun h6 h =>
   dS h fk43 (xQZ x0 x1 x7 b4 b6 r1) (oc7 h0 h1 h2 h3 h4 (xEh h5) h6 on)) fun h0 h =>
   iE h fun h2 h => cE h (fun h3 h => dS h fk43 (xQ0 x0 x1 x7 b4 b6) (oc5 h0 rfl h2 h3 rfl on)) fun h3 h =>
   bE h fun r1 h4 h => cE h (fun h5 h => dS h fk43 (xQ1 x0 x1 x7 b4 b6 r1) (oc6 h0 rfl h2 h3 (xEh h4) h5 on)) fun h5 h =>
   dS h fk43 (xQ2 x0 x1 x7 b4 b6 r1) (oc6 h0 rfl h2 h3 (xEh h4) h5 on)
theorem vBn {N : Nat} : ∀ a0 a1 r, xHE N a0 a1 = some r → RE Tryz.f43 I43 (xDI a0 a1) (xA0 r) := fun a0 a1 r h =>
 iE h fun h0 h => bE h fun r1 h1 h => cE h (fun h2 h => tE fk43 (xTA a0 a1 r1) (oc3 h0 (xDt h1) h2 on) (vBm _ _ _ _ _ _ _ h)) fun h2 h =>
 bE h fun r2 h4 h => cE h (fun h5 h => tE fk43 (xTB a0 a1 r1 r2) (oc6 h0 (xDt h1) h2 h0 (xCV h4) h5 on) (vAi _ _ _ _ _ _ _ h)) fun h5 h =>
 cE h (fun h7 h => tE fk43 (xTC a0 a1 r1 r2) (oc8 h0 (xDt h1) h2 h0 (xCV h4) h5 h0 h7 on) (vAj _ _ _ _ _ _ _ h)) fun h7 h =>
 bE h fun r3 h8 h => iE h fun h9 h => dE h fk43 (xTD a0 a1 r1 r2 r3) (oc10 h0 (xDt h1) h2 h0 (xCV h4) h5 h0 h7 (xLa h8) h9 on)
theorem xIa {N : Nat} {a0 : Str} {a1 : Int} {r : Tok × Int} (h : xHE N  a0 a1 = some r) : AbC 43 (xDI a0 a1) (xA0 r) :=
 AbsCalls.of_reach fk43 rfl rfl (Nat.le_of_ble_eq_true rfl) (vBn a0 a1 r h)
noncomputable def I23 : Info := { body := (Tryz.f23.body).getD .skip, nt := 46, results := [.tmp 2, .tmp 3], keep := [0, 4, 6, 8, 10, 12, 14, 20, 32, 40, 70, 13], live := [(5, [0, 8, 10])], modes := [(8, [(3, .take, false)]), (9, [(2, .take, false)]), (11, [(0, .take, false)]), (13, [(0, .take, false)])] }
theorem fk23 : FnOk Tryz.prog 23 Tryz.f23 I23 := ⟨Tryz.func23, by kernel_rfl, by kernel_rfl, by kernel_rfl, by kernel_rfl⟩
def xMb (x0 : Str) (x4 : List Tok) (x5 : Int) : St := [(0, .v false [.str x0]), (8, .v false [.sl .own .tok x4]), (10, .v false [.int .i64 x5])]
abbrev xN2 (v0 : Str) (v1 : Int) := (((gD v0 (tN v1) 0).toNat : Int) : Int) == 32
def xVF (x0 : Str) (x4 : List Tok) (x5 : Int) : rS 5 I23 (xMb x0 x4 x5) [Y, Y] [] = st 5 I23 (xMb x0 x4 (W (x5 + 1))) [xC9 x5 x0, xAx x5 x0, iY (xN2 x0 x5)] := by kernel_rfl
abbrev xL3 (v0 : Str) (v1 : Int) : Prop := iN (xN2 v0 v1)
def xVG (x0 : Str) (x4 : List Tok) (x5 : Int) (r1 : Tok × Int) : rS 5 I23 (xMb x0 x4 x5) [Y, F, Y, Y] [xA0 r1] = dn (xA6 ([], x5)) [xC9 x5 x0, xAx x5 x0, xL3 x0 x5, AbC 43 (xDI x0 x5) (xA0 r1), iY (r1.2 == 0), iY true] := by kernel_rfl
def xVH (x0 : Str) (x4 : List Tok) (x5 : Int) (r1 : Tok × Int) : rS 5 I23 (xMb x0 x4 x5) [Y, F, F, Y] [xA0 r1] = dn (xA6 ([], x5)) [xC9 x5 x0, xAx x5 x0, xL3 x0 x5, AbC 43 (xDI x0 x5) (xA0 r1), iN (r1.2 == 0), iY ((Ln x4 : Int) == 60)] := by kernel_rfl
def xVI (x0 : Str) (x4 : List Tok) (x5 : Int) (r1 : Tok × Int) : rS 5 I23 (xMb x0 x4 x5) [Y, F, F, F] [xA0 r1] = st 5 I23 (xMb x0 (x4 ++ [r1.1]) (W (x5 + r1.2))) [xC9 x5 x0, xAx x5 x0, xL3 x0 x5, AbC 43 (xDI x0 x5) (xA0 r1), iN (r1.2 == 0), iN ((Ln x4 : Int) == 60), Ln x4 + Ln [r1.1] ≤ Lim] := by kernel_rfl
def xVJ (x0 : Str) (x4 : List Tok) (x5 : Int) : rS 5 I23 (xMb x0 x4 x5) [F] [] = dn (xA6 (x4, (-1))) [xIg x5 x0] := by kernel_rfl
abbrev xMD (v0 : Str) := dc ((Ln v0 : Int) > 120)
def xVK (a0 : Str) : rE I23 (xC0 a0) [Y] [] = dn (xA6 ([], 120)) [iY (xMD a0)] := by kernel_rfl
abbrev xL4 (v0 : Str) : Prop := iN (xMD v0)
def xVL (a0 : Str) : rE I23 (xC0 a0) [F] [] = st 5 I23 (xMb a0 [] 0) [xL4 a0] := by kernel_rfl
theorem vA3 {N : Nat} : ∀ n x0 x4 x5 r, xDT N n x0 x4 x5 = some r → RS Tryz.f23 I23 5 (xMb x0 x4 x5) (xA6 r) := by
 intro n
 induction n with
 | zero => exact fun _ _ _ _ h => nE h
 | succ n ih =>
  exact fun x0 x4 x5 r h =>
   cE h (fun h0 h => iE h fun h1 h => cE h (fun h2 h => tS fk23 (xVF x0 x4 x5) (oc3 h0 h1 h2 on) (ih _ _ _ _ h)) fun h2 h =>
   bE h fun r1 h3 h => cE h (fun h4 h => dS h fk23 (xVG x0 x4 x5 r1) (oc6 h0 h1 h2 (xIa h3) h4 rfl on)) fun h4 h =>
   cE h (fun h5 h => dS h fk23 (xVH x0 x4 x5 r1) (oc6 h0 h1 h2 (xIa h3) h4 h5 on)) fun h5 h =>
   iE h fun h6 h => tS fk23 (xVI x0 x4 x5 r1) (oc7 h0 h1 h2 (xIa h3) h4 h5 h6 on) (ih _ _ _ _ h)) fun h0 h =>
   dS h fk23 (xVJ x0 x4 x5) (oc h0 on)
theorem vA4 {N : Nat} : ∀ a0 r, xE8 N a0 = some r → RE Tryz.f23 I23 (xC0 a0) (xA6 r) := fun a0 r h =>
 cE h (fun h0 h => dE h fk23 (xVK a0) (oc h0 on)) fun h0 h =>
 tE fk23 (xVL a0) (oc h0 on) (vA3 _ _ _ _ _ h)
theorem xFf {N : Nat} {a0 : Str} {r : (List Tok) × Int} (h : xE8 N  a0 = some r) : AbC 23 (xC0 a0) (xA6 r) :=
 AbsCalls.of_reach fk23 rfl rfl (Nat.le_of_ble_eq_true rfl) (vA4 a0 r h)
noncomputable def I108 : Info := { body := (Tryz.f108.body).getD .skip, nt := 45, results := [.tmp 2], keep := [0, 4, 6, 8, 10, 18, 82], live := [(2, [0, 6])], modes := [(4, [(4, .take, false)]), (5, [(4, .take, false)]), (6, [(0, .take, false), (2, .take, false), (5, .take, false), (6, .take, false)])] }
theorem xJO : FnOk Tryz.prog 108 Tryz.f108 I108 := ⟨Tryz.func108, by kernel_rfl, by kernel_rfl, by kernel_rfl, by kernel_rfl⟩
def xGj (x0 : Str) (x3 : Int) : St := [(0, .v false [.str x0]), (6, .v false [.int .i64 x3])]
abbrev xE2 (v0 : Str) (v1 : Int) : Prop := iY (dc ((xFT v0 v1) ≥ 97))
abbrev xFs (v0 : Str) (v1 : Int) : Prop := iY (dc ((xFT v0 v1) ≥ 48))
abbrev xLt (v0 : Str) (v1 : Int) := dc ((((gD v0 (tN v1) 0).toNat : Int) : Int) ≤ 122)
abbrev xKh (v0 : Str) (v1 : Int) : Prop := iY (!(xLt v0 v1))
def xSf (x0 : Str) (x3 : Int) : rS 2 I108 (xGj x0 x3) [Y, Y, Y, Y, Y, Y] [] = dn (xBa false) [xC9 x3 x0, xAx x3 x0, xE2 x0 x3, xAx x3 x0, xAx x3 x0, xFs x0 x3, xAx x3 x0, xKh x0 x3, iY (x3 == 0), iY true] := by kernel_rfl
abbrev xKH (v0 : Str) (v1 : Int) := dc ((((gD v0 (tN v1) 0).toNat : Int) : Int) ≤ 57)
def xSg (x0 : Str) (x3 : Int) : rS 2 I108 (xGj x0 x3) [Y, Y, Y, Y, F, Y] [] = dn (xBa false) [xC9 x3 x0, xAx x3 x0, xE2 x0 x3, xAx x3 x0, xAx x3 x0, xFs x0 x3, xAx x3 x0, xKh x0 x3, xKv x3, iY (!(xKH x0 x3))] := by kernel_rfl
def xSh (x0 : Str) (x3 : Int) : rS 2 I108 (xGj x0 x3) [Y, Y, Y, Y, F, F] [] = st 2 I108 (xGj x0 (W (x3 + 1))) [xC9 x3 x0, xAx x3 x0, xE2 x0 x3, xAx x3 x0, xAx x3 x0, xFs x0 x3, xAx x3 x0, xKh x0 x3, xKv x3, iN (!(xKH x0 x3))] := by kernel_rfl
abbrev xQo (v0 : Str) (v1 : Int) : Prop := iN (!(xLt v0 v1))
def xSi (x0 : Str) (x3 : Int) : rS 2 I108 (xGj x0 x3) [Y, Y, Y, F, F] [] = st 2 I108 (xGj x0 (W (x3 + 1))) [xC9 x3 x0, xAx x3 x0, xE2 x0 x3, xAx x3 x0, xAx x3 x0, xFs x0 x3, xAx x3 x0, xQo x0 x3, iN false] := by kernel_rfl
abbrev xHb (v0 : Str) (v1 : Int) : Prop := iN (dc ((xFT v0 v1) ≥ 48))
def xSj (x0 : Str) (x3 : Int) : rS 2 I108 (xGj x0 x3) [Y, Y, F, Y, Y, Y] [] = dn (xBa false) [xC9 x3 x0, xAx x3 x0, xE2 x0 x3, xAx x3 x0, xAx x3 x0, xHb x0 x3, xKh x0 x3, iY (x3 == 0), iY true] := by kernel_rfl
def xSk (x0 : Str) (x3 : Int) : rS 2 I108 (xGj x0 x3) [Y, Y, F, Y, F, Y] [] = dn (xBa false) [xC9 x3 x0, xAx x3 x0, xE2 x0 x3, xAx x3 x0, xAx x3 x0, xHb x0 x3, xKh x0 x3, xKv x3, iY (!false)] := by kernel_rfl
def xSl (x0 : Str) (x3 : Int) : rS 2 I108 (xGj x0 x3) [Y, Y, F, F, F] [] = st 2 I108 (xGj x0 (W (x3 + 1))) [xC9 x3 x0, xAx x3 x0, xE2 x0 x3, xAx x3 x0, xAx x3 x0, xHb x0 x3, xQo x0 x3, iN false] := by kernel_rfl
abbrev xFY (v0 : Str) (v1 : Int) : Prop := iN (dc ((xFT v0 v1) ≥ 97))
def xSm (x0 : Str) (x3 : Int) : rS 2 I108 (xGj x0 x3) [Y, F, Y, Y, Y, Y] [] = dn (xBa false) [xC9 x3 x0, xAx x3 x0, xFY x0 x3, xAx x3 x0, xFs x0 x3, xAx x3 x0, iY (!false), iY (x3 == 0), iY true] := by kernel_rfl
def xSn (x0 : Str) (x3 : Int) : rS 2 I108 (xGj x0 x3) [Y, F, Y, Y, F, Y] [] = dn (xBa false) [xC9 x3 x0, xAx x3 x0, xFY x0 x3, xAx x3 x0, xFs x0 x3, xAx x3 x0, iY (!false), xKv x3, iY (!(xKH x0 x3))] := by kernel_rfl
def xSo (x0 : Str) (x3 : Int) : rS 2 I108 (xGj x0 x3) [Y, F, Y, Y, F, F] [] = st 2 I108 (xGj x0 (W (x3 + 1))) [xC9 x3 x0, xAx x3 x0, xFY x0 x3, xAx x3 x0, xFs x0 x3, xAx x3 x0, iY (!false), xKv x3, iN (!(xKH x0 x3))] := by kernel_rfl
def xQG (x0 : Str) (x3 : Int) : rS 2 I108 (xGj x0 x3) [Y, F, F, Y, Y, Y] [] = dn (xBa false) [xC9 x3 x0, xAx x3 x0, xFY x0 x3, xAx x3 x0, xHb x0 x3, iY (!false), iY (x3 == 0), iY true] := by kernel_rfl
def xQH (x0 : Str) (x3 : Int) : rS 2 I108 (xGj x0 x3) [Y, F, F, Y, F, Y] [] = dn (xBa false) [xC9 x3 x0, xAx x3 x0, xFY x0 x3, xAx x3 x0, xHb x0 x3, iY (!false), xKv x3, iY (!false)] := by kernel_rfl
def xQI (x0 : Str) (x3 : Int) : rS 2 I108 (xGj x0 x3) [F] [] = dn (xBa (xLs x0)) [xIg x3 x0] := by kernel_rfl
def xQJ (a0 : Str) : rE I108 (xE0 a0) [] [] = st 2 I108 (xGj a0 0) [] := by kernel_rfl
theorem xZV {N : Nat} : ∀ n x0 x3 r, xCU N n x0 x3 = some r → RS Tryz.f108 I108 2 (xGj x0 x3) (xBa r) := by
 intro n
 induction n with
 | zero => exact fun _ _ _ h => nE h
 | succ n ih =>
  exact fun x0 x3 r h =>
   cE h (fun h0 h => iE h fun h1 h => cE h (fun h2 h => cE h (fun h5 h => cE h (fun h7 h => cE h (fun h8 h => dS h xJO (xSf x0 x3) (oc10 h0 h1 h2 h1 h1 h5 h1 h7 h8 rfl on)) fun h8 h =>
   cE h (fun h9 h => dS h xJO (xSg x0 x3) (oc10 h0 h1 h2 h1 h1 h5 h1 h7 h8 h9 on)) fun h9 h =>
   tS xJO (xSh x0 x3) (oc10 h0 h1 h2 h1 h1 h5 h1 h7 h8 h9 on) (ih _ _ _ h)) fun h7 h =>
   tS xJO (xSi x0 x3) (oc9 h0 h1 h2 h1 h1 h5 h1 h7 rfl on) (ih _ _ _ h)) fun h5 h =>
   cE h (fun h6 h => cE h (fun h7 h => dS h xJO (xSj x0 x3) (oc9 h0 h1 h2 h1 h1 h5 h6 h7 rfl on)) fun h7 h =>
   dS h xJO (xSk x0 x3) (oc9 h0 h1 h2 h1 h1 h5 h6 h7 rfl on)) fun h6 h =>
   tS xJO (xSl x0 x3) (oc8 h0 h1 h2 h1 h1 h5 h6 rfl on) (ih _ _ _ h)) fun h2 h =>
   cE h (fun h4 h => cE h (fun h7 h => dS h xJO (xSm x0 x3) (oc9 h0 h1 h2 h1 h4 h1 rfl h7 rfl on)) fun h7 h =>
   cE h (fun h8 h => dS h xJO (xSn x0 x3) (oc9 h0 h1 h2 h1 h4 h1 rfl h7 h8 on)) fun h8 h =>
   tS xJO (xSo x0 x3) (oc9 h0 h1 h2 h1 h4 h1 rfl h7 h8 on) (ih _ _ _ h)) fun h4 h =>
   cE h (fun h6 h => dS h xJO (xQG x0 x3) (oc8 h0 h1 h2 h1 h4 rfl h6 rfl on)) fun h6 h =>
   dS h xJO (xQH x0 x3) (oc8 h0 h1 h2 h1 h4 rfl h6 rfl on)) fun h0 h =>
   dS h xJO (xQI x0 x3) (oc h0 on)
theorem xZW {N : Nat} : ∀ a0 r, xHU N a0 = some r → RE Tryz.f108 I108 (xE0 a0) (xBa r) := fun a0 r h =>
 tE xJO (xQJ a0) on (xZV _ _ _ _ h)
theorem xHD {N : Nat} {a0 : Str} {r : Bool} (h : xHU N  a0 = some r) : AbC 108 (xE0 a0) (xBa r) :=
 AbsCalls.of_reach xJO rfl rfl (Nat.le_of_ble_eq_true rfl) (xZW a0 r h)
noncomputable def I126 : Info := { body := (Tryz.f126.body).getD .skip, nt := 2, results := [.tmp 0], keep := [0], live := [], modes := [] }
theorem vAr : FnOk Tryz.prog 126 Tryz.f126 I126 := ⟨Tryz.func126, by kernel_rfl, by kernel_rfl, by kernel_rfl, by kernel_rfl⟩
def xTh : rE I126 (xFo ) [] [] = dn (xEE [[108, 101, 116], [105, 110], [105, 102], [116, 104, 101, 110], [101, 108, 115, 101], [102, 111, 114], [100, 111], [108, 101, 110], [115, 117, 109], [116, 97, 107, 101], [115, 107, 105, 112], [114, 97, 110, 103, 101], [110, 116, 104], [119, 104, 101, 114, 101], [107, 101, 101, 112], [97, 100, 100], [103, 114, 111, 117, 112], [106, 111, 105, 110], [99, 111, 108, 117, 109, 110], [114, 111, 119, 115], [99, 108, 111, 99, 107], [99, 104, 97, 110, 99, 101], [102, 105, 108, 101], [116, 97, 98, 108, 101]]) [] := by kernel_rfl
theorem vAc {N : Nat} : ∀ r, xGy N = some r → RE Tryz.f126 I126 (xFo ) (xEE r) := fun r h =>
 dE h vAr (xTh) on
theorem xKo {N : Nat} {r : (List Str)} (h : xGy N   = some r) : AbC 126 (xFo ) (xEE r) :=
 AbsCalls.of_reach vAr rfl rfl (Nat.le_of_ble_eq_true rfl) (vAc  r h)
noncomputable def I125 : Info := { body := (Tryz.f125.body).getD .skip, nt := 18, results := [.tmp 4], keep := [0, 2, 8, 10, 18, 34], live := [(2, [0, 2, 10])], modes := [] }
theorem xPI : FnOk Tryz.prog 125 Tryz.f125 I125 := ⟨Tryz.func125, by kernel_rfl, by kernel_rfl, by kernel_rfl, by kernel_rfl⟩
def xLS (x0 : List Str) (x1 : Str) (x5 : Int) : St := [(0, .v false [.sl .ro .str x0]), (2, .v false [.str x1]), (10, .v false [.int .i64 x5])]
abbrev xKI (v0 : List Str) (v1 : Int) := gD v0 (tN v1) Ty.str.dflt
def xTd (x0 : List Str) (x1 : Str) (x5 : Int) : rS 2 I125 (xLS x0 x1 x5) [Y, Y] [] = dn (xFb true) [iY (dc (x5 < (Ln x0 : Int))), (0 : Int) ≤ x5 ∧ x5 < (Ln x0), iY (((xKI x0 x5) : Str) == x1)] := by kernel_rfl
def xTe (x0 : List Str) (x1 : Str) (x5 : Int) : rS 2 I125 (xLS x0 x1 x5) [Y, F] [] = st 2 I125 (xLS x0 x1 (W (x5 + 1))) [iY (dc (x5 < (Ln x0 : Int))), (0 : Int) ≤ x5 ∧ x5 < (Ln x0), iN (((xKI x0 x5) : Str) == x1)] := by kernel_rfl
def xTf (x0 : List Str) (x1 : Str) (x5 : Int) : rS 2 I125 (xLS x0 x1 x5) [F] [] = dn (xFb false) [iN (dc (x5 < (Ln x0 : Int)))] := by kernel_rfl
def xTg (a0 : List Str) (a1 : Str) : rE I125 (xHf a0 a1) [] [] = st 2 I125 (xLS a0 a1 0) [] := by kernel_rfl
theorem vAa {N : Nat} : ∀ n x0 x1 x5 r, xFa N n x0 x1 x5 = some r → RS Tryz.f125 I125 2 (xLS x0 x1 x5) (xFb r) := by
 intro n
 induction n with
 | zero => exact fun _ _ _ _ h => nE h
 | succ n ih =>
  exact fun x0 x1 x5 r h =>
   cE h (fun h0 h => iE h fun h1 h => cE h (fun h2 h => dS h xPI (xTd x0 x1 x5) (oc3 h0 h1 h2 on)) fun h2 h =>
   tS xPI (xTe x0 x1 x5) (oc3 h0 h1 h2 on) (ih _ _ _ _ h)) fun h0 h =>
   dS h xPI (xTf x0 x1 x5) (oc h0 on)
theorem vAb {N : Nat} : ∀ a0 a1 r, xJu N a0 a1 = some r → RE Tryz.f125 I125 (xHf a0 a1) (xFb r) := fun a0 a1 r h =>
 tE xPI (xTg a0 a1) on (vAa _ _ _ _ _ h)
theorem xML {N : Nat} {a0 : List Str} {a1 : Str} {r : Bool} (h : xJu N  a0 a1 = some r) : AbC 125 (xHf a0 a1) (xFb r) :=
 AbsCalls.of_reach xPI rfl rfl (Nat.le_of_ble_eq_true rfl) (vAb a0 a1 r h)
noncomputable def I109 : Info := { body := (Tryz.f109.body).getD .skip, nt := 6, results := [.tmp 2], keep := [0, 4], live := [], modes := [] }
theorem vAo : FnOk Tryz.prog 109 Tryz.f109 I109 := ⟨Tryz.func109, by kernel_rfl, by kernel_rfl, by kernel_rfl, by kernel_rfl⟩
def xSp (a0 : Str) (r1 : (List Str)) (r2 : Bool) : rE I109 (xFn a0) [] [xEE r1, xFb r2] = dn (xEC r2) [AbC 126 xFo (xEE r1), AbC 125 (xHf r1 a0) (xFb r2)] := by kernel_rfl
theorem xZX {N : Nat} : ∀ a0 r, xFu N a0 = some r → RE Tryz.f109 I109 (xFn a0) (xEC r) := fun a0 r h =>
 bE h fun r1 h0 h => bE h fun r2 h1 h => dE h vAo (xSp a0 r1 r2) (oc2 (xKo h0) (xML h1) on)
theorem xKm {N : Nat} {a0 : Str} {r : Bool} (h : xFu N  a0 = some r) : AbC 109 (xFn a0) (xEC r) :=
 AbsCalls.of_reach vAo rfl rfl (Nat.le_of_ble_eq_true rfl) (xZX a0 r h)
noncomputable def I87 : Info := { body := (Tryz.f87.body).getD .skip, nt := 15, results := [.tmp 2], keep := [0, 4], live := [], modes := [(1, [(2, .take, false), (7, .take, false)])] }
theorem fk87 : FnOk Tryz.prog 87 Tryz.f87 I87 := ⟨Tryz.func87, by kernel_rfl, by kernel_rfl, by kernel_rfl, by kernel_rfl⟩
def xYU (a0 : Str) (r1 r2 : Bool) : rE I87 (xCw a0) [Y, Y] [xBa r1, xEC r2] = dn (xBv (!r2)) [AbC 108 (xE0 a0) (xBa r1), iY r1, iY (dc ((Ln a0 : Int) ≤ 8)), AbC 109 (xFn a0) (xEC r2)] := by kernel_rfl
def xYV (a0 : Str) (r1 : Bool) : rE I87 (xCw a0) [Y, F] [xBa r1] = dn (xBv false) [AbC 108 (xE0 a0) (xBa r1), iY r1, iN (dc ((Ln a0 : Int) ≤ 8))] := by kernel_rfl
def xYW (a0 : Str) (r1 : Bool) : rE I87 (xCw a0) [F, F] [xBa r1] = dn (xBv false) [AbC 108 (xE0 a0) (xBa r1), iN r1, iN false] := by kernel_rfl
theorem vB5 {N : Nat} : ∀ a0 r, xCZ N a0 = some r → RE Tryz.f87 I87 (xCw a0) (xBv r) := fun a0 r h =>
 bE h fun r1 h0 h => cE h (fun h1 h => cE h (fun h2 h => bE h fun r2 h3 h => dE h fk87 (xYU a0 r1 r2) (oc4 (xHD h0) h1 h2 (xKm h3) on)) fun h2 h =>
 dE h fk87 (xYV a0 r1) (oc3 (xHD h0) h1 h2 on)) fun h1 h =>
 dE h fk87 (xYW a0 r1) (oc3 (xHD h0) h1 rfl on)
theorem xGd {N : Nat} {a0 : Str} {r : Bool} (h : xCZ N  a0 = some r) : AbC 87 (xCw a0) (xBv r) :=
 AbsCalls.of_reach fk87 rfl rfl (Nat.le_of_ble_eq_true rfl) (vB5 a0 r h)
noncomputable def I67 : Info := { body := (Tryz.f67.body).getD .skip, nt := 5, results := [.cell 2 25], keep := [0, 4, 5], live := [], modes := [] }
theorem fk67 : FnOk Tryz.prog 67 Tryz.f67 I67 := ⟨Tryz.func67, by kernel_rfl, by kernel_rfl, by kernel_rfl, by kernel_rfl⟩
def xXJ (a0 : Int) : rE I67 (xFj a0) [] [] = dn (xBj (Exp.mk 1 a0 [] [])) [] := by kernel_rfl
theorem vBK {N : Nat} : ∀ a0 r, xB9 N a0 = some r → RE Tryz.f67 I67 (xFj a0) (xBj r) := fun a0 r h =>
 dE h fk67 (xXJ a0) on
theorem xCC {N : Nat} {a0 : Int} {r : Exp} (h : xB9 N  a0 = some r) : AbC 67 (xFj a0) (xBj r) :=
 AbsCalls.of_reach fk67 rfl rfl (Nat.le_of_ble_eq_true rfl) (vBK a0 r h)
noncomputable def I101 : Info := { body := (Tryz.f101.body).getD .skip, nt := 5, results := [.cell 2 25], keep := [0, 4, 5], live := [], modes := [] }
theorem vAm : FnOk Tryz.prog 101 Tryz.f101 I101 := ⟨Tryz.func101, by kernel_rfl, by kernel_rfl, by kernel_rfl, by kernel_rfl⟩
def xRN (a0 : Str) : rE I101 (xGw a0) [] [] = dn (xFA (Exp.mk 3 0 a0 [])) [] := by kernel_rfl
theorem xZO {N : Nat} : ∀ a0 r, xHS N a0 = some r → RE Tryz.f101 I101 (xGw a0) (xFA r) := fun a0 r h =>
 dE h vAm (xRN a0) on
theorem xLB {N : Nat} {a0 : Str} {r : Exp} (h : xHS N  a0 = some r) : AbC 101 (xGw a0) (xFA r) :=
 AbsCalls.of_reach vAm rfl rfl (Nat.le_of_ble_eq_true rfl) (xZO a0 r h)
noncomputable def I106 : Info := { body := (Tryz.f106.body).getD .skip, nt := 26, results := [.tmp 2], keep := [0, 4, 6, 8, 12, 24, 40, 48], live := [], modes := [] }
theorem xIn : FnOk Tryz.prog 106 Tryz.f106 I106 := ⟨Tryz.func106, by kernel_rfl, by kernel_rfl, by kernel_rfl, by kernel_rfl⟩
abbrev xN3 (v0 : Str) := (v0 : Str) == [99, 108, 111, 99, 107]
def xRV (a0 : Str) : rE I106 (xAq a0) [Y] [] = dn (xAo 0) [iY (xN3 a0)] := by kernel_rfl
abbrev xDO (v0 : Str) : Prop := iN (xN3 v0)
abbrev xOE (v0 : Str) : Prop := iY ((v0 : Str) == [108, 101, 110])
def xRW (a0 : Str) : rE I106 (xAq a0) [F, Y, Y] [] = dn (xAo 1) [xDO a0, xOE a0, xOE a0] := by kernel_rfl
abbrev xD2 (v0 : Str) : Prop := iN ((v0 : Str) == [108, 101, 110])
abbrev xOF (v0 : Str) : Prop := iY ((v0 : Str) == [115, 117, 109])
def xRX (a0 : Str) : rE I106 (xAq a0) [F, F, Y, Y] [] = dn (xAo 1) [xDO a0, xD2 a0, xOF a0, xOF a0] := by kernel_rfl
abbrev xEm (v0 : Str) : Prop := iN ((v0 : Str) == [115, 117, 109])
abbrev xOG (v0 : Str) : Prop := iY ((v0 : Str) == [114, 111, 119, 115])
def xRY (a0 : Str) : rE I106 (xAq a0) [F, F, F, Y, Y] [] = dn (xAo 1) [xDO a0, xD2 a0, xEm a0, xOG a0, xOG a0] := by kernel_rfl
abbrev xEJ (v0 : Str) : Prop := iN ((v0 : Str) == [114, 111, 119, 115])
abbrev xOH (v0 : Str) : Prop := iY ((v0 : Str) == [99, 104, 97, 110, 99, 101])
def xRZ (a0 : Str) : rE I106 (xAq a0) [F, F, F, F, Y, Y] [] = dn (xAo 1) [xDO a0, xD2 a0, xEm a0, xEJ a0, xOH a0, xOH a0] := by kernel_rfl
abbrev xE3 (v0 : Str) : Prop := iN ((v0 : Str) == [99, 104, 97, 110, 99, 101])
abbrev xN4 (v0 : Str) := (v0 : Str) == [102, 105, 108, 101]
def xR0 (a0 : Str) : rE I106 (xAq a0) [F, F, F, F, F, Y] [] = dn (xAo 1) [xDO a0, xD2 a0, xEm a0, xEJ a0, xE3 a0, iY (xN4 a0)] := by kernel_rfl
abbrev xFl (v0 : Str) : Prop := iN (xN4 v0)
abbrev xOI (v0 : Str) : Prop := iY ((v0 : Str) == [116, 97, 107, 101])
def xR1 (a0 : Str) : rE I106 (xAq a0) [F, F, F, F, F, F, Y, Y] [] = dn (xAo 2) [xDO a0, xD2 a0, xEm a0, xEJ a0, xE3 a0, xFl a0, xOI a0, xOI a0] := by kernel_rfl
abbrev xFR (v0 : Str) : Prop := iN ((v0 : Str) == [116, 97, 107, 101])
abbrev xOJ (v0 : Str) : Prop := iY ((v0 : Str) == [115, 107, 105, 112])
def xR2 (a0 : Str) : rE I106 (xAq a0) [F, F, F, F, F, F, F, Y, Y] [] = dn (xAo 2) [xDO a0, xD2 a0, xEm a0, xEJ a0, xE3 a0, xFl a0, xFR a0, xOJ a0, xOJ a0] := by kernel_rfl
abbrev xGh (v0 : Str) : Prop := iN ((v0 : Str) == [115, 107, 105, 112])
abbrev xOK (v0 : Str) : Prop := iY ((v0 : Str) == [114, 97, 110, 103, 101])
def xR3 (a0 : Str) : rE I106 (xAq a0) [F, F, F, F, F, F, F, F, Y, Y] [] = dn (xAo 2) [xDO a0, xD2 a0, xEm a0, xEJ a0, xE3 a0, xFl a0, xFR a0, xGh a0, xOK a0, xOK a0] := by kernel_rfl
abbrev xGD (v0 : Str) : Prop := iN ((v0 : Str) == [114, 97, 110, 103, 101])
abbrev xOL (v0 : Str) : Prop := iY ((v0 : Str) == [110, 116, 104])
def xR4 (a0 : Str) : rE I106 (xAq a0) [F, F, F, F, F, F, F, F, F, Y, Y] [] = dn (xAo 2) [xDO a0, xD2 a0, xEm a0, xEJ a0, xE3 a0, xFl a0, xFR a0, xGh a0, xGD a0, xOL a0, xOL a0] := by kernel_rfl
abbrev xHc (v0 : Str) : Prop := iN ((v0 : Str) == [110, 116, 104])
abbrev xOM (v0 : Str) : Prop := iY ((v0 : Str) == [107, 101, 101, 112])
def xQs (a0 : Str) : rE I106 (xAq a0) [F, F, F, F, F, F, F, F, F, F, Y, Y] [] = dn (xAo 2) [xDO a0, xD2 a0, xEm a0, xEJ a0, xE3 a0, xFl a0, xFR a0, xGh a0, xGD a0, xHc a0, xOM a0, xOM a0] := by kernel_rfl
abbrev xHM (v0 : Str) : Prop := iN ((v0 : Str) == [107, 101, 101, 112])
abbrev xON (v0 : Str) : Prop := iY ((v0 : Str) == [99, 111, 108, 117, 109, 110])
def xQt (a0 : Str) : rE I106 (xAq a0) [F, F, F, F, F, F, F, F, F, F, F, Y, Y] [] = dn (xAo 2) [xDO a0, xD2 a0, xEm a0, xEJ a0, xE3 a0, xFl a0, xFR a0, xGh a0, xGD a0, xHc a0, xHM a0, xON a0, xON a0] := by kernel_rfl
abbrev xIG (v0 : Str) : Prop := iN ((v0 : Str) == [99, 111, 108, 117, 109, 110])
abbrev xN5 (v0 : Str) := (v0 : Str) == [116, 97, 98, 108, 101]
def xQu (a0 : Str) : rE I106 (xAq a0) [F, F, F, F, F, F, F, F, F, F, F, F, Y] [] = dn (xAo 2) [xDO a0, xD2 a0, xEm a0, xEJ a0, xE3 a0, xFl a0, xFR a0, xGh a0, xGD a0, xHc a0, xHM a0, xIG a0, iY (xN5 a0)] := by kernel_rfl
abbrev xJK (v0 : Str) : Prop := iN (xN5 v0)
abbrev xOO (v0 : Str) : Prop := iY ((v0 : Str) == [119, 104, 101, 114, 101])
def xQv (a0 : Str) : rE I106 (xAq a0) [F, F, F, F, F, F, F, F, F, F, F, F, F, Y, Y] [] = dn (xAo 3) [xDO a0, xD2 a0, xEm a0, xEJ a0, xE3 a0, xFl a0, xFR a0, xGh a0, xGD a0, xHc a0, xHM a0, xIG a0, xJK a0, xOO a0, xOO a0] := by kernel_rfl
abbrev xKW (v0 : Str) : Prop := iN ((v0 : Str) == [119, 104, 101, 114, 101])
abbrev xOP (v0 : Str) : Prop := iY ((v0 : Str) == [103, 114, 111, 117, 112])
def xQw (a0 : Str) : rE I106 (xAq a0) [F, F, F, F, F, F, F, F, F, F, F, F, F, F, Y, Y] [] = dn (xAo 3) [xDO a0, xD2 a0, xEm a0, xEJ a0, xE3 a0, xFl a0, xFR a0, xGh a0, xGD a0, xHc a0, xHM a0, xIG a0, xJK a0, xKW a0, xOP a0, xOP a0] := by kernel_rfl
abbrev xL5 (v0 : Str) : Prop := iN ((v0 : Str) == [103, 114, 111, 117, 112])
abbrev xN6 (v0 : Str) := (v0 : Str) == [106, 111, 105, 110]
def xQx (a0 : Str) : rE I106 (xAq a0) [F, F, F, F, F, F, F, F, F, F, F, F, F, F, F, Y] [] = dn (xAo 3) [xDO a0, xD2 a0, xEm a0, xEJ a0, xE3 a0, xFl a0, xFR a0, xGh a0, xGD a0, xHc a0, xHM a0, xIG a0, xJK a0, xKW a0, xL5 a0, iY (xN6 a0)] := by kernel_rfl
abbrev xOQ (v0 : Str) : Prop := iN (xN6 v0)
abbrev xME (v0 : Str) := (v0 : Str) == [97, 100, 100]
def xQy (a0 : Str) : rE I106 (xAq a0) [F, F, F, F, F, F, F, F, F, F, F, F, F, F, F, F, Y] [] = dn (xAo 4) [xDO a0, xD2 a0, xEm a0, xEJ a0, xE3 a0, xFl a0, xFR a0, xGh a0, xGD a0, xHc a0, xHM a0, xIG a0, xJK a0, xKW a0, xL5 a0, xOQ a0, iY (xME a0)] := by kernel_rfl
def xQz (a0 : Str) : rE I106 (xAq a0) [F, F, F, F, F, F, F, F, F, F, F, F, F, F, F, F, F] [] = dn (xAo (-1)) [xDO a0, xD2 a0, xEm a0, xEJ a0, xE3 a0, xFl a0, xFR a0, xGh a0, xGD a0, xHc a0, xHM a0, xIG a0, xJK a0, xKW a0, xL5 a0, xOQ a0, iN (xME a0)] := by kernel_rfl
theorem xZT {N : Nat} : ∀ a0 r, xBL N a0 = some r → RE Tryz.f106 I106 (xAq a0) (xAo r) := fun a0 r h =>
 cE h (fun h0 h => dE h xIn (xRV a0) (oc h0 on)) fun h0 h =>
 cE h (fun h1 h => dE h xIn (xRW a0) (oc3 h0 h1 h1 on)) fun h1 h =>
 cE h (fun h2 h => dE h xIn (xRX a0) (oc4 h0 h1 h2 h2 on)) fun h2 h =>
 cE h (fun h3 h => dE h xIn (xRY a0) (oc5 h0 h1 h2 h3 h3 on)) fun h3 h =>
 cE h (fun h4 h => dE h xIn (xRZ a0) (oc6 h0 h1 h2 h3 h4 h4 on)) fun h4 h =>
 cE h (fun h5 h => dE h xIn (xR0 a0) (oc6 h0 h1 h2 h3 h4 h5 on)) fun h5 h =>
 cE h (fun h6 h => dE h xIn (xR1 a0) (oc8 h0 h1 h2 h3 h4 h5 h6 h6 on)) fun h6 h =>
 cE h (fun h7 h => dE h xIn (xR2 a0) (oc9 h0 h1 h2 h3 h4 h5 h6 h7 h7 on)) fun h7 h =>
 cE h (fun h8 h => dE h xIn (xR3 a0) (oc10 h0 h1 h2 h3 h4 h5 h6 h7 h8 h8 on)) fun h8 h =>
 cE h (fun h9 h => dE h xIn (xR4 a0) (oc11 h0 h1 h2 h3 h4 h5 h6 h7 h8 h9 h9 on)) fun h9 h =>
 cE h (fun h10 h => dE h xIn (xQs a0) (oc12 h0 h1 h2 h3 h4 h5 h6 h7 h8 h9 h10 h10 on)) fun h10 h =>
 cE h (fun h11 h => dE h xIn (xQt a0) (oc12 h0 h1 h2 h3 h4 h5 h6 h7 h8 h9 h10 h11 (oc h11 on))) fun h11 h =>
 cE h (fun h12 h => dE h xIn (xQu a0) (oc12 h0 h1 h2 h3 h4 h5 h6 h7 h8 h9 h10 h11 (oc h12 on))) fun h12 h =>
 cE h (fun h13 h => dE h xIn (xQv a0) (oc12 h0 h1 h2 h3 h4 h5 h6 h7 h8 h9 h10 h11 (oc3 h12 h13 h13 on))) fun h13 h =>
 cE h (fun h14 h => dE h xIn (xQw a0) (oc12 h0 h1 h2 h3 h4 h5 h6 h7 h8 h9 h10 h11 (oc4 h12 h13 h14 h14 on))) fun h14 h =>
 cE h (fun h15 h => dE h xIn (xQx a0) (oc12 h0 h1 h2 h3 h4 h5 h6 h7 h8 h9 h10 h11 (oc4 h12 h13 h14 h15 on))) fun h15 h =>
 cE h (fun h16 h => dE h xIn (xQy a0) (oc12 h0 h1 h2 h3 h4 h5 h6 h7 h8 h9 h10 h11 (oc5 h12 h13 h14 h15 h16 on))) fun h16 h =>
 dE h xIn (xQz a0) (oc12 h0 h1 h2 h3 h4 h5 h6 h7 h8 h9 h10 h11 (oc5 h12 h13 h14 h15 h16 on))
theorem xJf {N : Nat} {a0 : Str} {r : Int} (h : xBL N  a0 = some r) : AbC 106 (xAq a0) (xAo r) :=
 AbsCalls.of_reach xIn rfl rfl (Nat.le_of_ble_eq_true rfl) (xZT a0 r h)
noncomputable def I66 : Info := { body := (Tryz.f66.body).getD .skip, nt := 12, results := [.cell 6 25], keep := [0, 2, 4, 8, 10, 12, 9, 11, 13], live := [], modes := [(1, [(1, .take, false), (2, .take, false)])] }
theorem fk66 : FnOk Tryz.prog 66 Tryz.f66 I66 := ⟨Tryz.func66, by kernel_rfl, by kernel_rfl, by kernel_rfl, by kernel_rfl⟩
def xXI (a0 : Int) (a1 a2 : Exp) : rE I66 (xFK a0 a1 a2) [] [] = dn (xDZ (Exp.mk 6 a0 [] [(Exp.re a1), (Exp.re a2)])) [] := by kernel_rfl
theorem vBJ {N : Nat} : ∀ a0 a1 a2 r, xDb N a0 a1 a2 = some r → RE Tryz.f66 I66 (xFK a0 a1 a2) (xDZ r) := fun a0 a1 a2 r h =>
 dE h fk66 (xXI a0 a1 a2) on
theorem xID {N : Nat} {a0 : Int} {a1 : Exp} {a2 : Exp} {r : Exp} (h : xDb N  a0 a1 a2 = some r) : AbC 66 (xFK a0 a1 a2) (xDZ r) :=
 AbsCalls.of_reach fk66 rfl rfl (Nat.le_of_ble_eq_true rfl) (vBJ a0 a1 a2 r h)
end Go.Ab.T
end
section
open Go.Proofs
namespace Go.Ab.T
set_option maxRecDepth 100000
variable [Inhabited Lb]
variable [Nonempty Tab10]
variable [Nonempty ErrVars]
def G40 (q : Exp → Int → Option (Int)) : Prop := ∀ a0 a1 r, q a0 a1 = some r → AbC 40 (xDi a0 a1) (xBw r)
noncomputable def I40 : Info := { body := (Tryz.f40.body).getD .skip, nt := 27, results := [.tmp 4], keep := [0, 2, 4, 8, 10, 32, 5], live := [(3, [2, 4, 10, 5])], modes := [(3, [(5, .take, false)])] }
theorem fk40 : FnOk Tryz.prog 40 Tryz.f40 I40 := ⟨Tryz.func40, by kernel_rfl, by kernel_rfl, by kernel_rfl, by kernel_rfl⟩
def xO6 (x1 x5 : Int) (b2 : Exp) : St := [(2, .v false [.int .i64 x1]), (4, .v false [.ptr 2 0]), (10, .v false [.int .i64 x5]), (5, .v true [.int .i64 (Exp.kind b2), .int .i64 (Exp.n b2), .str (Exp.text b2), .sl .ro .exp (Exp.args b2)])]
abbrev xMF (v0 : Int) (v1 : Exp) := dc (v0 < (Ln (Exp.args v1) : Int))
abbrev xNa (v0 : Int) (v1 : Exp) : Prop := iY (xMF v0 v1)
abbrev xKX (v0 : Int) (v1 : Exp) : Prop := (0 : Int) ≤ v0 ∧ v0 < (Ln (Exp.args v1))
abbrev xJb (v0 : Exp) (v1 : Int) := gD (Exp.args v0) (tN v1) Ty.exp.dflt
def xWC (x1 x5 : Int) (b2 : Exp) (r1 : Int) : rS 3 I40 (xO6 x1 x5 b2) [Y, Y] [xBw r1] = st 3 I40 (xO6 r1 (W (x5 + 1)) b2) [xNa x5 b2, iY (dc (x1 ≥ 0)), xKX x5 b2, AbC 40 (xDi (xJb b2 x5) x1) (xBw r1)] := by kernel_rfl
def xWD (x1 x5 : Int) (b2 : Exp) : rS 3 I40 (xO6 x1 x5 b2) [Y, F] [] = dn (xBw x1) [xNa x5 b2, iN (dc (x1 ≥ 0))] := by kernel_rfl
def xWE (x1 x5 : Int) (b2 : Exp) : rS 3 I40 (xO6 x1 x5 b2) [F, F] [] = dn (xBw x1) [iN (xMF x5 b2), iN false] := by kernel_rfl
def xWF (a0 : Exp) (a1 : Int) : rE I40 (xDi a0 a1) [] [] = st 3 I40 (xO6 (W (a1 - 1)) 0 a0) [] := by kernel_rfl
theorem vBg {N q0} (g0 : G40 q0) : ∀ n x1 x5 b2 r, xDK N q0 n x1 x5 b2 = some r → RS Tryz.f40 I40 3 (xO6 x1 x5 b2) (xBw r) := by
 intro n
 induction n with
 | zero => exact fun _ _ _ _ h => nE h
 | succ n ih =>
  exact fun x1 x5 b2 r h =>
   cE h (fun h0 h => cE h (fun h1 h => iE h fun h2 h => bE h fun r1 h3 h => tS fk40 (xWC x1 x5 b2 r1) (oc4 h0 h1 h2 (g0 _ _ _ h3) on) (ih _ _ _ _ h)) fun h1 h =>
   dS h fk40 (xWD x1 x5 b2) (oc2 h0 h1 on)) fun h0 h =>
   dS h fk40 (xWE x1 x5 b2) (oc2 h0 rfl on)
theorem vBh {N q0} (g0 : G40 q0) : ∀ a0 a1 r, xGN N q0 a0 a1 = some r → RE Tryz.f40 I40 (xDi a0 a1) (xBw r) := fun a0 a1 r h =>
 tE fk40 (xWF a0 a1) on (vBg g0 _ _ _ _ _ h)
theorem xJz {N q0} (g0 : G40 q0) {a0} {a1} {r} (h : xGN N q0 a0 a1 = some r) : AbC 40 (xDi a0 a1) (xBw r) :=
 AbsCalls.of_reach fk40 rfl rfl (Nat.le_of_ble_eq_true rfl) (vBh g0 a0 a1 r h)
theorem xHy {N : Nat} : ∀ d, G40 (xEs N d)
 | 0 => fun _ _ _ h => nE h
 | d + 1 => fun _ _ _ h => xJz (N := N) (xHy d) h
theorem xHz {N : Nat} {a0 : Exp} {a1 : Int} {r : Int} (h : xJh N a0 a1 = some r) : AbC 40 (xDi a0 a1) (xBw r) := xHy N _ _ r h
noncomputable def I77 : Info := { body := (Tryz.f77.body).getD .skip, nt := 10, results := [.tmp 4], keep := [0, 2, 8, 14], live := [], modes := [] }
theorem fk77 : FnOk Tryz.prog 77 Tryz.f77 I77 := ⟨Tryz.func77, by kernel_rfl, by kernel_rfl, by kernel_rfl, by kernel_rfl⟩
def xYn (a0 a1 : Int) : rE I77 (xGx a0 a1) [Y] [] = dn (xFM a0) [iY (dc (a0 > a1))] := by kernel_rfl
def xYo (a0 a1 : Int) : rE I77 (xGx a0 a1) [F] [] = dn (xFM a1) [iN (dc (a0 > a1))] := by kernel_rfl
theorem vBX {N : Nat} : ∀ a0 a1 r, xIl N a0 a1 = some r → RE Tryz.f77 I77 (xGx a0 a1) (xFM r) := fun a0 a1 r h =>
 cE h (fun h0 h => dE h fk77 (xYn a0 a1) (oc h0 on)) fun h0 h =>
 dE h fk77 (xYo a0 a1) (oc h0 on)
theorem xMM {N : Nat} {a0 : Int} {a1 : Int} {r : Int} (h : xIl N  a0 a1 = some r) : AbC 77 (xGx a0 a1) (xFM r) :=
 AbsCalls.of_reach fk77 rfl rfl (Nat.le_of_ble_eq_true rfl) (vBX a0 a1 r h)
def G41 (q : Exp → Option (Int)) : Prop := ∀ a0 r, q a0 = some r → AbC 41 (xDa a0) (xBH r)
noncomputable def I41 : Info := { body := (Tryz.f41.body).getD .skip, nt := 22, results := [.tmp 2], keep := [0, 2, 4, 6, 8, 18, 3], live := [(3, [2, 6, 8, 3])], modes := [] }
theorem fk41 : FnOk Tryz.prog 41 Tryz.f41 I41 := ⟨Tryz.func41, by kernel_rfl, by kernel_rfl, by kernel_rfl, by kernel_rfl⟩
def xPs (x3 x4 : Int) (b1 : Exp) : St := [(2, .v false [.ptr 1 0]), (6, .v false [.int .i64 x3]), (8, .v false [.int .i64 x4]), (3, .v true [.int .i64 (Exp.kind b1), .int .i64 (Exp.n b1), .str (Exp.text b1), .sl .ro .exp (Exp.args b1)])]
def xWG (x3 x4 : Int) (b1 : Exp) (r1 r2 : Int) : rS 3 I41 (xPs x3 x4 b1) [Y] [xBH r1, xFM r2] = st 3 I41 (xPs r2 (W (x4 + 1)) b1) [xNa x4 b1, xKX x4 b1, AbC 41 (xDa (xJb b1 x4)) (xBH r1), AbC 77 (xGx x3 r1) (xFM r2)] := by kernel_rfl
def xWH (x3 x4 : Int) (b1 : Exp) : rS 3 I41 (xPs x3 x4 b1) [F] [] = dn (xBH (W (x3 + 1))) [iN (xMF x4 b1)] := by kernel_rfl
def xWI (a0 : Exp) : rE I41 (xDa a0) [] [] = st 3 I41 (xPs 0 0 a0) [] := by kernel_rfl
theorem vBi {N q0} (g0 : G41 q0) : ∀ n x3 x4 b1 r, xD8 N q0 n x3 x4 b1 = some r → RS Tryz.f41 I41 3 (xPs x3 x4 b1) (xBH r) := by
 intro n
 induction n with
 | zero => exact fun _ _ _ _ h => nE h
 | succ n ih =>
  exact fun x3 x4 b1 r h =>
   cE h (fun h0 h => iE h fun h1 h => bE h fun r1 h2 h => bE h fun r2 h3 h => tS fk41 (xWG x3 x4 b1 r1 r2) (oc4 h0 h1 (g0 _ _ h2) (xMM h3) on) (ih _ _ _ _ h)) fun h0 h =>
   dS h fk41 (xWH x3 x4 b1) (oc h0 on)
theorem vBj {N q0} (g0 : G41 q0) : ∀ a0 r, xGf N q0 a0 = some r → RE Tryz.f41 I41 (xDa a0) (xBH r) := fun a0 r h =>
 tE fk41 (xWI a0) on (vBi g0 _ _ _ _ _ h)
theorem xIP {N q0} (g0 : G41 q0) {a0} {r} (h : xGf N q0 a0 = some r) : AbC 41 (xDa a0) (xBH r) :=
 AbsCalls.of_reach fk41 rfl rfl (Nat.le_of_ble_eq_true rfl) (vBj g0 a0 r h)
theorem xG3 {N : Nat} : ∀ d, G41 (xED N d)
 | 0 => fun _ _ h => nE h
 | d + 1 => fun _ _ h => xIP (N := N) (xG3 d) h
theorem xIk {N : Nat} {a0 : Exp} {r : Int} (h : xH9 N a0 = some r) : AbC 41 (xDa a0) (xBH r) := xG3 N _ r h
noncomputable def I105 : Info := { body := (Tryz.f105.body).getD .skip, nt := 15, results := [.tmp 6], keep := [0, 2, 4, 12], live := [], modes := [(1, [(3, .take, false)])] }
theorem xU5 : FnOk Tryz.prog 105 Tryz.f105 I105 := ⟨Tryz.func105, by kernel_rfl, by kernel_rfl, by kernel_rfl, by kernel_rfl⟩
def xRT (a0 a1 a2 : Int) : rE I105 (xE4 a0 a1 a2) [Y] [] = dn (xDs (dc (a0 ≤ a2))) [iY (dc (a0 ≥ a1))] := by kernel_rfl
def xRU (a0 a1 a2 : Int) : rE I105 (xE4 a0 a1 a2) [F] [] = dn (xDs false) [iN (dc (a0 ≥ a1))] := by kernel_rfl
theorem xZS {N : Nat} : ∀ a0 a1 a2 r, xHB N a0 a1 a2 = some r → RE Tryz.f105 I105 (xE4 a0 a1 a2) (xDs r) := fun a0 a1 a2 r h =>
 cE h (fun h0 h => dE h xU5 (xRT a0 a1 a2) (oc h0 on)) fun h0 h =>
 dE h xU5 (xRU a0 a1 a2) (oc h0 on)
theorem xHT {N : Nat} {a0 : Int} {a1 : Int} {a2 : Int} {r : Bool} (h : xHB N  a0 a1 a2 = some r) : AbC 105 (xE4 a0 a1 a2) (xDs r) :=
 AbsCalls.of_reach xU5 rfl rfl (Nat.le_of_ble_eq_true rfl) (xZS a0 a1 a2 r h)
noncomputable def I78 : Info := { body := (Tryz.f78.body).getD .skip, nt := 120, results := [.tmp 2], keep := [0, 2, 4, 6, 16, 18, 46, 74, 102, 130, 154, 182, 212, 3], live := [], modes := [(4, [(2, .take, false), (7, .take, false)]), (6, [(2, .take, false), (7, .take, false)]), (8, [(2, .take, false), (7, .take, false)]), (10, [(3, .take, false), (8, .take, false)]), (12, [(3, .take, false)]), (14, [(3, .take, false), (7, .take, false)]), (17, [(3, .take, false), (7, .take, false)]), (19, [(3, .take, false), (8, .take, false)])] }
theorem fk78 : FnOk Tryz.prog 78 Tryz.f78 I78 := ⟨Tryz.func78, by kernel_rfl, by kernel_rfl, by kernel_rfl, by kernel_rfl⟩
abbrev xKY (v0 : Exp) : Prop := iY ((Exp.kind v0) == 1)
abbrev xQg (v0 : Exp) := (Ln (Exp.args v0) : Int) == 0
abbrev xL6 (v0 : Exp) : Prop := iY (xQg v0)
abbrev xKi (v0 : Exp) : Prop := iY (((Exp.text v0) : Str) == [])
def xYp (a0 : Exp) (r1 : Bool) : rE I78 (xAu a0) [Y, Y, Y] [xDs r1] = dn (xAt r1) [xKY a0, xL6 a0, xKi a0, AbC 105 (xE4 (Exp.n a0) 0 1000000000) (xDs r1)] := by kernel_rfl
abbrev xKZ (v0 : Exp) : Prop := iN (((Exp.text v0) : Str) == [])
def xYq (a0 : Exp) : rE I78 (xAu a0) [Y, Y, F] [] = dn (xAt false) [xKY a0, xL6 a0, xKZ a0] := by kernel_rfl
abbrev xQp (v0 : Exp) : Prop := iN (xQg v0)
def xYr (a0 : Exp) : rE I78 (xAu a0) [Y, F, F] [] = dn (xAt false) [xKY a0, xQp a0, iN false] := by kernel_rfl
abbrev xBp (v0 : Exp) : Prop := iN ((Exp.kind v0) == 1)
abbrev xK0 (v0 : Exp) : Prop := iY ((Exp.kind v0) == 2)
abbrev xFm (v0 : Exp) : Prop := iY ((Exp.n v0) == 0)
def xYs (a0 : Exp) (r1 : Bool) : rE I78 (xAu a0) [F, Y, Y, Y] [xA2 r1] = dn (xAt r1) [xBp a0, xK0 a0, xL6 a0, xFm a0, AbC 82 (xEg (Exp.text a0)) (xA2 r1)] := by kernel_rfl
abbrev xHN (v0 : Exp) : Prop := iN ((Exp.n v0) == 0)
def xYt (a0 : Exp) : rE I78 (xAu a0) [F, Y, Y, F] [] = dn (xAt false) [xBp a0, xK0 a0, xL6 a0, xHN a0] := by kernel_rfl
def xYu (a0 : Exp) : rE I78 (xAu a0) [F, Y, F, F] [] = dn (xAt false) [xBp a0, xK0 a0, xQp a0, iN false] := by kernel_rfl
abbrev xBO (v0 : Exp) : Prop := iN ((Exp.kind v0) == 2)
abbrev xK1 (v0 : Exp) : Prop := iY ((Exp.kind v0) == 3)
def xYv (a0 : Exp) (r1 : Bool) : rE I78 (xAu a0) [F, F, Y, Y, Y] [xBv r1] = dn (xAt r1) [xBp a0, xBO a0, xK1 a0, xL6 a0, xFm a0, AbC 87 (xCw (Exp.text a0)) (xBv r1)] := by kernel_rfl
def xYw (a0 : Exp) : rE I78 (xAu a0) [F, F, Y, Y, F] [] = dn (xAt false) [xBp a0, xBO a0, xK1 a0, xL6 a0, xHN a0] := by kernel_rfl
def xYx (a0 : Exp) : rE I78 (xAu a0) [F, F, Y, F, F] [] = dn (xAt false) [xBp a0, xBO a0, xK1 a0, xQp a0, iN false] := by kernel_rfl
abbrev xCf (v0 : Exp) : Prop := iN ((Exp.kind v0) == 3)
abbrev xK2 (v0 : Exp) : Prop := iY ((Exp.kind v0) == 4)
abbrev xGr (v0 : Exp) := (Ln (Exp.args v0) : Int)
def xYy (a0 : Exp) : rE I78 (xAu a0) [F, F, F, Y, Y, Y] [] = dn (xAt (dc ((xGr a0) ≤ 8))) [xBp a0, xBO a0, xCf a0, xK2 a0, xFm a0, xKi a0] := by kernel_rfl
def xTZ (a0 : Exp) : rE I78 (xAu a0) [F, F, F, Y, Y, F] [] = dn (xAt false) [xBp a0, xBO a0, xCf a0, xK2 a0, xFm a0, xKZ a0] := by kernel_rfl
def xT0 (a0 : Exp) : rE I78 (xAu a0) [F, F, F, Y, F, F] [] = dn (xAt false) [xBp a0, xBO a0, xCf a0, xK2 a0, xHN a0, iN false] := by kernel_rfl
abbrev xC2 (v0 : Exp) : Prop := iN ((Exp.kind v0) == 4)
abbrev xL7 (v0 : Exp) : Prop := iY ((Exp.kind v0) == 5)
def xT1 (a0 : Exp) (r1 : Int) : rE I78 (xAu a0) [F, F, F, F, Y, Y] [xAo r1] = dn (xAt ((xGr a0) == r1)) [xBp a0, xBO a0, xCf a0, xC2 a0, xL7 a0, xFm a0, AbC 106 (xAq (Exp.text a0)) (xAo r1)] := by kernel_rfl
def xT2 (a0 : Exp) : rE I78 (xAu a0) [F, F, F, F, Y, F] [] = dn (xAt false) [xBp a0, xBO a0, xCf a0, xC2 a0, xL7 a0, xHN a0] := by kernel_rfl
abbrev xDC (v0 : Exp) : Prop := iN ((Exp.kind v0) == 5)
abbrev xGE (v0 : Exp) : Prop := iY ((Exp.kind v0) == 6)
abbrev xQh (v0 : Exp) := (Ln (Exp.args v0) : Int) == 2
abbrev xQq (v0 : Exp) : Prop := iY (xQh v0)
def xT3 (a0 : Exp) (r1 : Bool) : rE I78 (xAu a0) [F, F, F, F, F, Y, Y, Y] [xDs r1] = dn (xAt r1) [xBp a0, xBO a0, xCf a0, xC2 a0, xDC a0, xGE a0, xKi a0, xQq a0, AbC 105 (xE4 (Exp.n a0) 1 5) (xDs r1)] := by kernel_rfl
abbrev xQr (v0 : Exp) : Prop := iN (xQh v0)
def xT4 (a0 : Exp) : rE I78 (xAu a0) [F, F, F, F, F, Y, Y, F] [] = dn (xAt false) [xBp a0, xBO a0, xCf a0, xC2 a0, xDC a0, xGE a0, xKi a0, xQr a0] := by kernel_rfl
def xT5 (a0 : Exp) : rE I78 (xAu a0) [F, F, F, F, F, Y, F, F] [] = dn (xAt false) [xBp a0, xBO a0, xCf a0, xC2 a0, xDC a0, xGE a0, xKZ a0, iN false] := by kernel_rfl
abbrev xFS (v0 : Exp) : Prop := iN ((Exp.kind v0) == 6)
abbrev xGF (v0 : Exp) : Prop := iY ((Exp.kind v0) == 7)
def xT6 (a0 : Exp) (r1 : Bool) : rE I78 (xAu a0) [F, F, F, F, F, F, Y, Y, Y, Y] [xBv r1] = dn (xAt r1) [xBp a0, xBO a0, xCf a0, xC2 a0, xDC a0, xFS a0, xGF a0, xGF a0, xFm a0, xQq a0, AbC 87 (xCw (Exp.text a0)) (xBv r1)] := by kernel_rfl
def xT7 (a0 : Exp) : rE I78 (xAu a0) [F, F, F, F, F, F, Y, Y, Y, F] [] = dn (xAt false) [xBp a0, xBO a0, xCf a0, xC2 a0, xDC a0, xFS a0, xGF a0, xGF a0, xFm a0, xQr a0] := by kernel_rfl
def xT8 (a0 : Exp) : rE I78 (xAu a0) [F, F, F, F, F, F, Y, Y, F, F] [] = dn (xAt false) [xBp a0, xBO a0, xCf a0, xC2 a0, xDC a0, xFS a0, xGF a0, xGF a0, xHN a0, iN false] := by kernel_rfl
abbrev xDc (v0 : Exp) : Prop := iN ((Exp.kind v0) == 7)
abbrev xJL (v0 : Exp) : Prop := iY ((Exp.kind v0) == 9)
def xT9 (a0 : Exp) (r1 : Bool) : rE I78 (xAu a0) [F, F, F, F, F, F, F, Y, Y, Y] [xBv r1] = dn (xAt r1) [xBp a0, xBO a0, xCf a0, xC2 a0, xDC a0, xFS a0, xDc a0, xJL a0, xFm a0, xQq a0, AbC 87 (xCw (Exp.text a0)) (xBv r1)] := by kernel_rfl
def xUa (a0 : Exp) : rE I78 (xAu a0) [F, F, F, F, F, F, F, Y, Y, F] [] = dn (xAt false) [xBp a0, xBO a0, xCf a0, xC2 a0, xDC a0, xFS a0, xDc a0, xJL a0, xFm a0, xQr a0] := by kernel_rfl
def xUb (a0 : Exp) : rE I78 (xAu a0) [F, F, F, F, F, F, F, Y, F, F] [] = dn (xAt false) [xBp a0, xBO a0, xCf a0, xC2 a0, xDC a0, xFS a0, xDc a0, xJL a0, xHN a0, iN false] := by kernel_rfl
abbrev xER (v0 : Exp) : Prop := iN ((Exp.kind v0) == 9)
abbrev xIH (v0 : Exp) : Prop := iY ((Exp.kind v0) == 8)
def xUc (a0 : Exp) : rE I78 (xAu a0) [F, F, F, F, F, F, F, F, Y, Y, Y] [] = dn (xAt ((xGr a0) == 3)) [xBp a0, xBO a0, xCf a0, xC2 a0, xDC a0, xFS a0, xDc a0, xER a0, xIH a0, xFm a0, xKi a0] := by kernel_rfl
def xUd (a0 : Exp) : rE I78 (xAu a0) [F, F, F, F, F, F, F, F, Y, Y, F] [] = dn (xAt false) [xBp a0, xBO a0, xCf a0, xC2 a0, xDC a0, xFS a0, xDc a0, xER a0, xIH a0, xFm a0, xKZ a0] := by kernel_rfl
def xUe (a0 : Exp) : rE I78 (xAu a0) [F, F, F, F, F, F, F, F, Y, F, F] [] = dn (xAt false) [xBp a0, xBO a0, xCf a0, xC2 a0, xDC a0, xFS a0, xDc a0, xER a0, xIH a0, xHN a0, iN false] := by kernel_rfl
abbrev xEe (v0 : Exp) : Prop := iN ((Exp.kind v0) == 8)
def xUf (a0 : Exp) : rE I78 (xAu a0) [F, F, F, F, F, F, F, F, F] [] = dn (xAt false) [xBp a0, xBO a0, xCf a0, xC2 a0, xDC a0, xFS a0, xDc a0, xER a0, xEe a0] := by kernel_rfl
theorem vBY {N : Nat} : ∀ a0 r, xG4 N a0 = some r → RE Tryz.f78 I78 (xAu a0) (xAt r) := fun a0 r h =>
 cE h (fun h0 h => cE h (fun h1 h => cE h (fun h2 h => bE h fun r1 h3 h => dE h fk78 (xYp a0 r1) (oc4 h0 h1 h2 (xHT h3) on)) fun h2 h =>
 dE h fk78 (xYq a0) (oc3 h0 h1 h2 on)) fun h1 h =>
 dE h fk78 (xYr a0) (oc3 h0 h1 rfl on)) fun h0 h =>
 cE h (fun h1 h => cE h (fun h2 h => cE h (fun h3 h => bE h fun r1 h4 h => dE h fk78 (xYs a0 r1) (oc5 h0 h1 h2 h3 (xEh h4) on)) fun h3 h =>
 dE h fk78 (xYt a0) (oc4 h0 h1 h2 h3 on)) fun h2 h =>
 dE h fk78 (xYu a0) (oc4 h0 h1 h2 rfl on)) fun h1 h =>
 cE h (fun h2 h => cE h (fun h3 h => cE h (fun h4 h => bE h fun r1 h5 h => dE h fk78 (xYv a0 r1) (oc6 h0 h1 h2 h3 h4 (xGd h5) on)) fun h4 h =>
 dE h fk78 (xYw a0) (oc5 h0 h1 h2 h3 h4 on)) fun h3 h =>
 dE h fk78 (xYx a0) (oc5 h0 h1 h2 h3 rfl on)) fun h2 h =>
 cE h (fun h3 h => cE h (fun h4 h => cE h (fun h5 h => dE h fk78 (xYy a0) (oc6 h0 h1 h2 h3 h4 h5 on)) fun h5 h =>
 dE h fk78 (xTZ a0) (oc6 h0 h1 h2 h3 h4 h5 on)) fun h4 h =>
 dE h fk78 (xT0 a0) (oc6 h0 h1 h2 h3 h4 rfl on)) fun h3 h =>
 cE h (fun h4 h => cE h (fun h5 h => bE h fun r1 h6 h => dE h fk78 (xT1 a0 r1) (oc7 h0 h1 h2 h3 h4 h5 (xJf h6) on)) fun h5 h =>
 dE h fk78 (xT2 a0) (oc6 h0 h1 h2 h3 h4 h5 on)) fun h4 h =>
 cE h (fun h5 h => cE h (fun h6 h => cE h (fun h7 h => bE h fun r1 h8 h => dE h fk78 (xT3 a0 r1) (oc9 h0 h1 h2 h3 h4 h5 h6 h7 (xHT h8) on)) fun h7 h =>
 dE h fk78 (xT4 a0) (oc8 h0 h1 h2 h3 h4 h5 h6 h7 on)) fun h6 h =>
 dE h fk78 (xT5 a0) (oc8 h0 h1 h2 h3 h4 h5 h6 rfl on)) fun h5 h =>
 cE h (fun h6 h => cE h (fun h8 h => cE h (fun h9 h => bE h fun r1 h10 h => dE h fk78 (xT6 a0 r1) (oc11 h0 h1 h2 h3 h4 h5 h6 h6 h8 h9 (xGd h10) on)) fun h9 h =>
 dE h fk78 (xT7 a0) (oc10 h0 h1 h2 h3 h4 h5 h6 h6 h8 h9 on)) fun h8 h =>
 dE h fk78 (xT8 a0) (oc10 h0 h1 h2 h3 h4 h5 h6 h6 h8 rfl on)) fun h6 h =>
 cE h (fun h7 h => cE h (fun h8 h => cE h (fun h9 h => bE h fun r1 h10 h => dE h fk78 (xT9 a0 r1) (oc11 h0 h1 h2 h3 h4 h5 h6 h7 h8 h9 (xGd h10) on)) fun h9 h =>
 dE h fk78 (xUa a0) (oc10 h0 h1 h2 h3 h4 h5 h6 h7 h8 h9 on)) fun h8 h =>
 dE h fk78 (xUb a0) (oc10 h0 h1 h2 h3 h4 h5 h6 h7 h8 rfl on)) fun h7 h =>
 cE h (fun h8 h => cE h (fun h9 h => cE h (fun h10 h => dE h fk78 (xUc a0) (oc11 h0 h1 h2 h3 h4 h5 h6 h7 h8 h9 h10 on)) fun h10 h =>
 dE h fk78 (xUd a0) (oc11 h0 h1 h2 h3 h4 h5 h6 h7 h8 h9 h10 on)) fun h9 h =>
 dE h fk78 (xUe a0) (oc11 h0 h1 h2 h3 h4 h5 h6 h7 h8 h9 rfl on)) fun h8 h =>
 dE h fk78 (xUf a0) (oc9 h0 h1 h2 h3 h4 h5 h6 h7 h8 on)
theorem xLD {N : Nat} {a0 : Exp} {r : Bool} (h : xG4 N  a0 = some r) : AbC 78 (xAu a0) (xAt r) :=
 AbsCalls.of_reach fk78 rfl rfl (Nat.le_of_ble_eq_true rfl) (vBY a0 r h)
def G42 (q : Exp → Option (Bool)) : Prop := ∀ a0 r, q a0 = some r → AbC 42 (xD4 a0) (xCc r)
noncomputable def I42 : Info := { body := (Tryz.f42.body).getD .skip, nt := 20, results := [.tmp 2], keep := [0, 2, 4, 6, 16, 34, 3], live := [(2, [2, 6, 3])], modes := [] }
theorem fk42 : FnOk Tryz.prog 42 Tryz.f42 I42 := ⟨Tryz.func42, by kernel_rfl, by kernel_rfl, by kernel_rfl, by kernel_rfl⟩
def xO7 (x3 : Int) (b1 : Exp) : St := [(2, .v false [.ptr 1 0]), (6, .v false [.int .i64 x3]), (3, .v true [.int .i64 (Exp.kind b1), .int .i64 (Exp.n b1), .str (Exp.text b1), .sl .ro .exp (Exp.args b1)])]
def xWJ (x3 : Int) (b1 : Exp) (r1 : Bool) : rS 2 I42 (xO7 x3 b1) [Y, Y] [xCc r1] = dn (xCc false) [xNa x3 b1, xKX x3 b1, AbC 42 (xD4 (xJb b1 x3)) (xCc r1), iY (!r1)] := by kernel_rfl
def xWK (x3 : Int) (b1 : Exp) (r1 : Bool) : rS 2 I42 (xO7 x3 b1) [Y, F] [xCc r1] = st 2 I42 (xO7 (W (x3 + 1)) b1) [xNa x3 b1, xKX x3 b1, AbC 42 (xD4 (xJb b1 x3)) (xCc r1), iN (!r1)] := by kernel_rfl
def xWL (x3 : Int) (b1 : Exp) (r1 : Bool) : rS 2 I42 (xO7 x3 b1) [F] [xAt r1] = dn (xCc r1) [iN (xMF x3 b1), AbC 78 (xAu b1) (xAt r1)] := by kernel_rfl
def xWM (a0 : Exp) : rE I42 (xD4 a0) [] [] = st 2 I42 (xO7 0 a0) [] := by kernel_rfl
theorem vBk {N q0} (g0 : G42 q0) : ∀ n x3 b1 r, xEH N q0 n x3 b1 = some r → RS Tryz.f42 I42 2 (xO7 x3 b1) (xCc r) := by
 intro n
 induction n with
 | zero => exact fun _ _ _ h => nE h
 | succ n ih =>
  exact fun x3 b1 r h =>
   cE h (fun h0 h => iE h fun h1 h => bE h fun r1 h2 h => cE h (fun h3 h => dS h fk42 (xWJ x3 b1 r1) (oc4 h0 h1 (g0 _ _ h2) h3 on)) fun h3 h =>
   tS fk42 (xWK x3 b1 r1) (oc4 h0 h1 (g0 _ _ h2) h3 on) (ih _ _ _ h)) fun h0 h =>
   bE h fun r1 h1 h => dS h fk42 (xWL x3 b1 r1) (oc2 h0 (xLD h1) on)
theorem vBl {N q0} (g0 : G42 q0) : ∀ a0 r, xG8 N q0 a0 = some r → RE Tryz.f42 I42 (xD4 a0) (xCc r) := fun a0 r h =>
 tE fk42 (xWM a0) on (vBk g0 _ _ _ _ h)
theorem xJ4 {N q0} (g0 : G42 q0) {a0} {r} (h : xG8 N q0 a0 = some r) : AbC 42 (xD4 a0) (xCc r) :=
 AbsCalls.of_reach fk42 rfl rfl (Nat.le_of_ble_eq_true rfl) (vBl g0 a0 r h)
theorem xHP {N : Nat} : ∀ d, G42 (xFw N d)
 | 0 => fun _ _ h => nE h
 | d + 1 => fun _ _ h => xJ4 (N := N) (xHP d) h
theorem xLQ {N : Nat} {a0 : Exp} {r : Bool} (h : xJ3 N a0 = some r) : AbC 42 (xD4 a0) (xCc r) := xHP N _ r h
noncomputable def I22 : Info := { body := (Tryz.f22.body).getD .skip, nt := 15, results := [.tmp 2], keep := [0, 2, 4, 3], live := [], modes := [(1, [(3, .take, false), (8, .take, false)])] }
theorem fk22 : FnOk Tryz.prog 22 Tryz.f22 I22 := ⟨Tryz.func22, by kernel_rfl, by kernel_rfl, by kernel_rfl, by kernel_rfl⟩
def xVC (a0 : Exp) (r1 r2 : Int) (r3 : Bool) : rE I22 (xCv a0) [Y, Y] [xBw r1, xBH r2, xCc r3] = dn (xAz r3) [AbC 40 (xDi a0 40) (xBw r1), iY (dc (r1 ≥ 0)), AbC 41 (xDa a0) (xBH r2), iY (dc (r2 ≤ 8)), AbC 42 (xD4 a0) (xCc r3)] := by kernel_rfl
def xVD (a0 : Exp) (r1 r2 : Int) : rE I22 (xCv a0) [Y, F] [xBw r1, xBH r2] = dn (xAz false) [AbC 40 (xDi a0 40) (xBw r1), iY (dc (r1 ≥ 0)), AbC 41 (xDa a0) (xBH r2), iN (dc (r2 ≤ 8))] := by kernel_rfl
def xVE (a0 : Exp) (r1 : Int) : rE I22 (xCv a0) [F, F] [xBw r1] = dn (xAz false) [AbC 40 (xDi a0 40) (xBw r1), iN (dc (r1 ≥ 0)), iN false] := by kernel_rfl
theorem vA2 {N : Nat} : ∀ a0 r, xBY N a0 = some r → RE Tryz.f22 I22 (xCv a0) (xAz r) := fun a0 r h =>
 bE h fun r1 h0 h => cE h (fun h1 h => bE h fun r2 h2 h => cE h (fun h3 h => bE h fun r3 h4 h => dE h fk22 (xVC a0 r1 r2 r3) (oc5 (xHz h0) h1 (xIk h2) h3 (xLQ h4) on)) fun h3 h =>
 dE h fk22 (xVD a0 r1 r2) (oc4 (xHz h0) h1 (xIk h2) h3 on)) fun h1 h =>
 dE h fk22 (xVE a0 r1) (oc3 (xHz h0) h1 rfl on)
theorem xBl {N : Nat} {a0 : Exp} {r : Bool} (h : xBY N  a0 = some r) : AbC 22 (xCv a0) (xAz r) :=
 AbsCalls.of_reach fk22 rfl rfl (Nat.le_of_ble_eq_true rfl) (vA2 a0 r h)
theorem xIr {N : Nat} {a0 : Str} {a1 a2 : Int} {r : Int × Bool} (h : xHk N a0 a1 a2 = some r) : AbC 89 (xKd a0 a1 a2) (xGm r) :=
 zIA xNC (fun s lo hi w hs hw => xOe s lo hi hs zH9 vAN xU3 w hw) h
theorem xBg {N : Nat} {a0 : Str} {a1 r : Int} (h : strings_IndexByte N a0 a1 = some r) : AbC 90 (xFU a0 a1) (xAP r) :=
 zHo (xLj Tryz.lays137) (Any.strings_IndexByte Tryz.lays137) h
noncomputable def I91 : Info := { body := (Tryz.f91.body).getD .skip, nt := 29, results := [.tmp 2], keep := [0, 4, 6, 14, 50], live := [(2, [0, 6])], modes := [(4, [(4, .take, false), (10, .take, false)])] }
theorem fk91 : FnOk Tryz.prog 91 Tryz.f91 I91 := ⟨Tryz.func91, by kernel_rfl, by kernel_rfl, by kernel_rfl, by kernel_rfl⟩
def xMX (x0 : Str) (x3 : Int) : St := [(0, .v false [.str x0]), (6, .v false [.int .i64 x3])]
def xYX (x0 : Str) (x3 : Int) : rS 2 I91 (xMX x0 x3) [Y, Y, Y, Y] [] = dn (xAO false) [xC9 x3 x0, xAx x3 x0, iY (xNR x0 x3), iY true, iY true] := by kernel_rfl
def xYY (x0 : Str) (x3 : Int) : rS 2 I91 (xMX x0 x3) [Y, F, Y, Y] [] = dn (xAO false) [xC9 x3 x0, xAx x3 x0, xLZ x0 x3, xAx x3 x0, iY (xNS x0 x3), iY true] := by kernel_rfl
def xYZ (x0 : Str) (x3 : Int) : rS 2 I91 (xMX x0 x3) [Y, F, F, Y] [] = dn (xAO false) [xC9 x3 x0, xAx x3 x0, xLZ x0 x3, xAx x3 x0, xOB x0 x3, xAx x3 x0, xI8 x0 x3] := by kernel_rfl
def xY0 (x0 : Str) (x3 : Int) : rS 2 I91 (xMX x0 x3) [Y, F, F, F] [] = st 2 I91 (xMX x0 (W (x3 + 1))) [xC9 x3 x0, xAx x3 x0, xLZ x0 x3, xAx x3 x0, xOB x0 x3, xAx x3 x0, xI9 x0 x3] := by kernel_rfl
def xY1 (x0 : Str) (x3 : Int) : rS 2 I91 (xMX x0 x3) [F] [] = dn (xAO (dc ((Ln x0 : Int) ≤ 20))) [xIg x3 x0] := by kernel_rfl
def xY2 (a0 : Str) : rE I91 (xDx a0) [] [] = st 2 I91 (xMX a0 0) [] := by kernel_rfl
theorem vB6 {N : Nat} : ∀ n x0 x3 r, xEb N n x0 x3 = some r → RS Tryz.f91 I91 2 (xMX x0 x3) (xAO r) := by
 intro n
 induction n with
 | zero => exact fun _ _ _ h => nE h
 | succ n ih =>
  exact fun x0 x3 r h =>
   cE h (fun h0 h => iE h fun h1 h => cE h (fun h2 h => dS h fk91 (xYX x0 x3) (oc5 h0 h1 h2 rfl rfl on)) fun h2 h =>
   cE h (fun h4 h => dS h fk91 (xYY x0 x3) (oc6 h0 h1 h2 h1 h4 rfl on)) fun h4 h =>
   cE h (fun h6 h => dS h fk91 (xYZ x0 x3) (oc7 h0 h1 h2 h1 h4 h1 h6 on)) fun h6 h =>
   tS fk91 (xY0 x0 x3) (oc7 h0 h1 h2 h1 h4 h1 h6 on) (ih _ _ _ h)) fun h0 h =>
   dS h fk91 (xY1 x0 x3) (oc h0 on)
theorem vB7 {N : Nat} : ∀ a0 r, xCX N a0 = some r → RE Tryz.f91 I91 (xDx a0) (xAO r) := fun a0 r h =>
 tE fk91 (xY2 a0) on (vB6 _ _ _ _ h)
theorem xDy {N : Nat} {a0 : Str} {r : Bool} (h : xCX N  a0 = some r) : AbC 91 (xDx a0) (xAO r) :=
 AbsCalls.of_reach fk91 rfl rfl (Nat.le_of_ble_eq_true rfl) (vB7 a0 r h)
theorem xCg {N : Nat} {a0 a1 : Str} {r : Bool} (h : strings_HasPrefix N a0 a1 = some r) : AbC 92 (xHd a0 a1) (xBB r) :=
 zHn (xLi Tryz.lays99) (Any.strings_HasPrefix Tryz.lays99) h
noncomputable def I49 : Info := { body := (Tryz.f49.body).getD .skip, nt := 152, results := [.cell 4 50, .tmp 5, .tmp 6], keep := [0, 2, 8, 10, 12, 14, 16, 18, 20, 22, 24, 34, 102, 130, 174, 206, 224, 262, 9], live := [(4, [0, 2, 8, 14, 9]), (8, [0, 2, 8, 14, 9])], modes := [(3, [(2, .take, false)]), (4, [(4, .take, false), (9, .take, false), (15, .take, false), (20, .take, false)]), (7, [(2, .take, false)]), (8, [(4, .take, false), (10, .take, false)]), (10, [(5, .take, false)]), (11, [(0, .take, false), (4, .take, false)])] }
theorem fk49 : FnOk Tryz.prog 49 Tryz.f49 I49 := ⟨Tryz.func49, by kernel_rfl, by kernel_rfl, by kernel_rfl, by kernel_rfl⟩
def xKr (x0 : Str) (x1 x7 : Int) (b4 : Tok) : St := [(0, .v false [.str x0]), (2, .v false [.int .i64 x1]), (8, .v false [.ptr 4 0]), (14, .v false [.int .i64 x7]), (9, .v true [.int .i64 (Tok.kind b4), .int .i64 (Tok.n b4), .int .i64 (Tok.pos b4), .str (Tok.text b4)])]
def xMT (x0 : Str) (x1 x7 : Int) (b4 : Tok) : St := [(0, .v false [.str x0]), (2, .v false [.int .i64 x1]), (8, .v false [.ptr 4 0]), (14, .v false [.int .i64 x7]), (9, .v true [.int .i64 (Tok.kind b4), .int .i64 (Tok.n b4), .int .i64 (Tok.pos b4), .str (Tok.text b4)])]
def xWT (x0 : Str) (x1 x7 : Int) (b4 : Tok) : rS 4 I49 (xKr x0 x1 x7 b4) [Y, Y, Y, Y] [] = st 4 I49 (xKr x0 x1 (W (x7 + 1)) b4) [xC9 x7 x0, xAx x7 x0, xE2 x0 x7, xAx x7 x0, iY (xLt x0 x7), iY true] := by kernel_rfl
abbrev xG5 (v0 : Str) (v1 : Int) : Prop := iN (xLt v0 v1)
abbrev xLp (v0 : Str) (v1 : Int) : Prop := iY (xKH v0 v1)
def xWU (x0 : Str) (x1 x7 : Int) (b4 : Tok) : rS 4 I49 (xKr x0 x1 x7 b4) [Y, Y, F, Y, Y] [] = st 4 I49 (xKr x0 x1 (W (x7 + 1)) b4) [xC9 x7 x0, xAx x7 x0, xE2 x0 x7, xAx x7 x0, xG5 x0 x7, xAx x7 x0, xFs x0 x7, xAx x7 x0, xLp x0 x7] := by kernel_rfl
abbrev xHt (v0 : Str) (v1 : Int) : Prop := iN (xKH v0 v1)
abbrev xLu (v0 v1 : Int) (v2 : Str) := xAR ((Tok.mk 1 0 v0 (List.drop (tN v0) (List.take (tN v1) v2))), v1, (dc ((W (v1 - v0)) ≤ 8)))
def xWV (x0 : Str) (x1 x7 : Int) (b4 : Tok) : rS 4 I49 (xKr x0 x1 x7 b4) [Y, Y, F, Y, F] [] = dn (xLu x1 x7 x0) [xC9 x7 x0, xAx x7 x0, xE2 x0 x7, xAx x7 x0, xG5 x0 x7, xAx x7 x0, xFs x0 x7, xAx x7 x0, xHt x0 x7, xGC x1 x7 x0] := by kernel_rfl
def xWW (x0 : Str) (x1 x7 : Int) (b4 : Tok) : rS 4 I49 (xKr x0 x1 x7 b4) [Y, Y, F, F, F] [] = dn (xLu x1 x7 x0) [xC9 x7 x0, xAx x7 x0, xE2 x0 x7, xAx x7 x0, xG5 x0 x7, xAx x7 x0, xHb x0 x7, iN false, xGC x1 x7 x0] := by kernel_rfl
def xWX (x0 : Str) (x1 x7 : Int) (b4 : Tok) : rS 4 I49 (xKr x0 x1 x7 b4) [Y, F, F, Y, Y] [] = st 4 I49 (xKr x0 x1 (W (x7 + 1)) b4) [xC9 x7 x0, xAx x7 x0, xFY x0 x7, iN false, xAx x7 x0, xFs x0 x7, xAx x7 x0, xLp x0 x7] := by kernel_rfl
def xWY (x0 : Str) (x1 x7 : Int) (b4 : Tok) : rS 4 I49 (xKr x0 x1 x7 b4) [Y, F, F, Y, F] [] = dn (xLu x1 x7 x0) [xC9 x7 x0, xAx x7 x0, xFY x0 x7, iN false, xAx x7 x0, xFs x0 x7, xAx x7 x0, xHt x0 x7, xGC x1 x7 x0] := by kernel_rfl
def xWZ (x0 : Str) (x1 x7 : Int) (b4 : Tok) : rS 4 I49 (xKr x0 x1 x7 b4) [Y, F, F, F, F] [] = dn (xLu x1 x7 x0) [xC9 x7 x0, xAx x7 x0, xFY x0 x7, iN false, xAx x7 x0, xHb x0 x7, iN false, xGC x1 x7 x0] := by kernel_rfl
def xW0 (x0 : Str) (x1 x7 : Int) (b4 : Tok) : rS 4 I49 (xKr x0 x1 x7 b4) [F, F] [] = dn (xLu x1 x7 x0) [xIg x7 x0, iN false, xGC x1 x7 x0] := by kernel_rfl
def xW1 (x0 : Str) (x1 x7 : Int) (b4 : Tok) : rS 8 I49 (xMT x0 x1 x7 b4) [Y, Y, Y] [] = st 8 I49 (xMT x0 x1 (W (x7 + 1)) b4) [xC9 x7 x0, xAx x7 x0, xFs x0 x7, xAx x7 x0, xLp x0 x7] := by kernel_rfl
abbrev xNJ (v0 v1 : Int) (v2 : Str) (v3 : Int × Bool) : Prop := AbC 89 (xKd (xQd v0 v1 v2) 0 1000000000) (xGm v3)
def xW2 (x0 : Str) (x1 x7 : Int) (b4 : Tok) (r1 : Int × Bool) : rS 8 I49 (xMT x0 x1 x7 b4) [Y, Y, F] [xGm r1] = dn (xAR ((Tok.mk 2 r1.1 x1 []), x7, r1.2)) [xC9 x7 x0, xAx x7 x0, xFs x0 x7, xAx x7 x0, xHt x0 x7, xGC x1 x7 x0, xNJ x1 x7 x0 r1] := by kernel_rfl
def xTE (x0 : Str) (x1 x7 : Int) (b4 : Tok) (r1 : Int × Bool) : rS 8 I49 (xMT x0 x1 x7 b4) [Y, F, F] [xGm r1] = dn (xAR ((Tok.mk 2 r1.1 x1 []), x7, r1.2)) [xC9 x7 x0, xAx x7 x0, xHb x0 x7, iN false, xGC x1 x7 x0, xNJ x1 x7 x0 r1] := by kernel_rfl
def xTF (x0 : Str) (x1 x7 : Int) (b4 : Tok) (r1 : Int × Bool) : rS 8 I49 (xMT x0 x1 x7 b4) [F, F, F] [xGm r1] = dn (xAR ((Tok.mk 2 r1.1 x1 []), x7, r1.2)) [xIg x7 x0, iN false, iN false, xGC x1 x7 x0, xNJ x1 x7 x0 r1] := by kernel_rfl
def xTG (a0 : Str) (a1 : Int) : rE I49 (xAH a0 a1) [Y, Y] [] = st 4 I49 (xKr a0 a1 a1 (Tok.mk 0 0 0 [])) [xAx a1 a0, xE2 a0 a1, iY (xLt a0 a1)] := by kernel_rfl
def xTH (a0 : Str) (a1 : Int) : rE I49 (xAH a0 a1) [Y, F, Y, Y] [] = st 8 I49 (xMT a0 a1 a1 (Tok.mk 0 0 0 [])) [xAx a1 a0, xE2 a0 a1, xG5 a0 a1, xFs a0 a1, xLp a0 a1] := by kernel_rfl
abbrev xIX (v0 : Int) (v1 : Str) : Prop := (0 : Int) ≤ (W (v0 + 1)) ∧ (W (v0 + 1)) ≤ (Ln v1)
abbrev xIY (v0 : Int) (v1 : Str) (v2 : Int) : Prop := AbC 90 (xFU (List.drop (xN1 v0) v1) 34) (xAP v2)
def xTI (a0 : Str) (a1 r1 : Int) : rE I49 (xAH a0 a1) [Y, F, Y, F, Y, Y] [xAP r1] = dn (xAR ((Tok.mk 0 0 0 []), 0, false)) [xAx a1 a0, xE2 a0 a1, xG5 a0 a1, xFs a0 a1, xHt a0 a1, xI8 a0 a1, xIX a1 a0, xIY a1 a0 r1, iY (dc (r1 < 0))] := by kernel_rfl
abbrev xQi (v0 v1 : Int) := W ((W (v0 + 1)) + v1)
abbrev xMi (v0 v1 : Int) (v2 : Str) : Prop := (0 : Int) ≤ (W (v0 + 1)) ∧ (W (v0 + 1)) ≤ (xQi v0 v1) ∧ (xQi v0 v1) ≤ (Ln v2)
abbrev xVf (v0 v1 : Int) (v2 : Str) := List.drop (tN (W (v0 + 1))) (List.take (tN (W ((W (v0 + 1)) + v1))) v2)
abbrev xMj (v0 v1 : Int) (v2 : Str) (v3 : Bool) : Prop := AbC 91 (xDx (xVf v0 v1 v2)) (xAO v3)
abbrev xMG (v0 v1 : Int) (v2 : Str) (v3 : Bool) := xAR ((Tok.mk 3 0 v0 (List.drop (tN (W (v0 + 1))) (List.take (tN (W ((W (v0 + 1)) + v1))) v2))), (W ((W (v0 + v1)) + 2)), v3)
def xTJ (a0 : Str) (a1 r1 : Int) (r2 : Bool) : rE I49 (xAH a0 a1) [Y, F, Y, F, Y, F] [xAP r1, xAO r2] = dn (xMG a1 r1 a0 r2) [xAx a1 a0, xE2 a0 a1, xG5 a0 a1, xFs a0 a1, xHt a0 a1, xI8 a0 a1, xIX a1 a0, xIY a1 a0 r1, iN (dc (r1 < 0)), xMi a1 r1 a0, xMj a1 r1 a0 r2] := by kernel_rfl
abbrev xIZ (v0 : Int) (v1 : Str) : Prop := (0 : Int) ≤ v0 ∧ v0 ≤ (Ln v1)
abbrev xI0 (v0 : Int) (v1 : Str) (v2 : Bool) : Prop := AbC 92 (xHd (List.drop (tN v0) v1) [61, 61]) (xBB v2)
abbrev xMH (v0 : Int) := xAR ((Tok.mk 4 0 v0 [61, 61]), (W (v0 + 2)), true)
def xTK (a0 : Str) (a1 : Int) (r1 : Bool) : rE I49 (xAH a0 a1) [Y, F, Y, F, F, Y] [xBB r1] = dn (xMH a1) [xAx a1 a0, xE2 a0 a1, xG5 a0 a1, xFs a0 a1, xHt a0 a1, xI9 a0 a1, xIZ a1 a0, xI0 a1 a0 r1, iY r1] := by kernel_rfl
abbrev xMk (v0 : Int) (v1 : Str) : Prop := (0 : Int) ≤ v0 ∧ v0 ≤ (W (v0 + 1)) ∧ (W (v0 + 1)) ≤ (Ln v1)
abbrev xMl (v0 : Str) (v1 v2 : Int) : Prop := AbC 90 (xFU [40, 41, 91, 93, 44, 43, 45, 42, 60, 61] (xMx v0 v1)) (xAP v2)
abbrev xMI (v0 : Int) (v1 : Str) (v2 : Int) := xAR ((Tok.mk 4 0 v0 (List.drop (tN v0) (List.take (tN (W (v0 + 1))) v1))), (W (v0 + 1)), (dc (v2 ≥ 0)))
def xTL (a0 : Str) (a1 : Int) (r1 : Bool) (r2 : Int) : rE I49 (xAH a0 a1) [Y, F, Y, F, F, F] [xBB r1, xAP r2] = dn (xMI a1 a0 r2) [xAx a1 a0, xE2 a0 a1, xG5 a0 a1, xFs a0 a1, xHt a0 a1, xI9 a0 a1, xIZ a1 a0, xI0 a1 a0 r1, iN r1, xMk a1 a0, xMl a0 a1 r2] := by kernel_rfl
def xTM (a0 : Str) (a1 r1 : Int) : rE I49 (xAH a0 a1) [Y, F, F, F, Y, Y] [xAP r1] = dn (xAR ((Tok.mk 0 0 0 []), 0, false)) [xAx a1 a0, xE2 a0 a1, xG5 a0 a1, xHb a0 a1, iN false, xI8 a0 a1, xIX a1 a0, xIY a1 a0 r1, iY (dc (r1 < 0))] := by kernel_rfl
def xTN (a0 : Str) (a1 r1 : Int) (r2 : Bool) : rE I49 (xAH a0 a1) [Y, F, F, F, Y, F] [xAP r1, xAO r2] = dn (xMG a1 r1 a0 r2) [xAx a1 a0, xE2 a0 a1, xG5 a0 a1, xHb a0 a1, iN false, xI8 a0 a1, xIX a1 a0, xIY a1 a0 r1, iN (dc (r1 < 0)), xMi a1 r1 a0, xMj a1 r1 a0 r2] := by kernel_rfl
def xTO (a0 : Str) (a1 : Int) (r1 : Bool) : rE I49 (xAH a0 a1) [Y, F, F, F, F, Y] [xBB r1] = dn (xMH a1) [xAx a1 a0, xE2 a0 a1, xG5 a0 a1, xHb a0 a1, iN false, xI9 a0 a1, xIZ a1 a0, xI0 a1 a0 r1, iY r1] := by kernel_rfl
def xTP (a0 : Str) (a1 : Int) (r1 : Bool) (r2 : Int) : rE I49 (xAH a0 a1) [Y, F, F, F, F, F] [xBB r1, xAP r2] = dn (xMI a1 a0 r2) [xAx a1 a0, xE2 a0 a1, xG5 a0 a1, xHb a0 a1, iN false, xI9 a0 a1, xIZ a1 a0, xI0 a1 a0 r1, iN r1, xMk a1 a0, xMl a0 a1 r2] := by kernel_rfl
def xTQ (a0 : Str) (a1 : Int) : rE I49 (xAH a0 a1) [F, F, Y, Y] [] = st 8 I49 (xMT a0 a1 a1 (Tok.mk 0 0 0 [])) [xAx a1 a0, xFY a0 a1, iN false, xFs a0 a1, xLp a0 a1] := by kernel_rfl
def xTR (a0 : Str) (a1 r1 : Int) : rE I49 (xAH a0 a1) [F, F, Y, F, Y, Y] [xAP r1] = dn (xAR ((Tok.mk 0 0 0 []), 0, false)) [xAx a1 a0, xFY a0 a1, iN false, xFs a0 a1, xHt a0 a1, xI8 a0 a1, xIX a1 a0, xIY a1 a0 r1, iY (dc (r1 < 0))] := by kernel_rfl
def xTS (a0 : Str) (a1 r1 : Int) (r2 : Bool) : rE I49 (xAH a0 a1) [F, F, Y, F, Y, F] [xAP r1, xAO r2] = dn (xMG a1 r1 a0 r2) [xAx a1 a0, xFY a0 a1, iN false, xFs a0 a1, xHt a0 a1, xI8 a0 a1, xIX a1 a0, xIY a1 a0 r1, iN (dc (r1 < 0)), xMi a1 r1 a0, xMj a1 r1 a0 r2] := by kernel_rfl
def xTT (a0 : Str) (a1 : Int) (r1 : Bool) : rE I49 (xAH a0 a1) [F, F, Y, F, F, Y] [xBB r1] = dn (xMH a1) [xAx a1 a0, xFY a0 a1, iN false, xFs a0 a1, xHt a0 a1, xI9 a0 a1, xIZ a1 a0, xI0 a1 a0 r1, iY r1] := by kernel_rfl
def xTU (a0 : Str) (a1 : Int) (r1 : Bool) (r2 : Int) : rE I49 (xAH a0 a1) [F, F, Y, F, F, F] [xBB r1, xAP r2] = dn (xMI a1 a0 r2) [xAx a1 a0, xFY a0 a1, iN false, xFs a0 a1, xHt a0 a1, xI9 a0 a1, xIZ a1 a0, xI0 a1 a0 r1, iN r1, xMk a1 a0, xMl a0 a1 r2] := by kernel_rfl
def xTV (a0 : Str) (a1 r1 : Int) : rE I49 (xAH a0 a1) [F, F, F, F, Y, Y] [xAP r1] = dn (xAR ((Tok.mk 0 0 0 []), 0, false)) [xAx a1 a0, xFY a0 a1, iN false, xHb a0 a1, iN false, xI8 a0 a1, xIX a1 a0, xIY a1 a0 r1, iY (dc (r1 < 0))] := by kernel_rfl
def xTW (a0 : Str) (a1 r1 : Int) (r2 : Bool) : rE I49 (xAH a0 a1) [F, F, F, F, Y, F] [xAP r1, xAO r2] = dn (xMG a1 r1 a0 r2) [xAx a1 a0, xFY a0 a1, iN false, xHb a0 a1, iN false, xI8 a0 a1, xIX a1 a0, xIY a1 a0 r1, iN (dc (r1 < 0)), xMi a1 r1 a0, xMj a1 r1 a0 r2] := by kernel_rfl
def xTX (a0 : Str) (a1 : Int) (r1 : Bool) : rE I49 (xAH a0 a1) [F, F, F, F, F, Y] [xBB r1] = dn (xMH a1) [xAx a1 a0, xFY a0 a1, iN false, xHb a0 a1, iN false, xI9 a0 a1, xIZ a1 a0, xI0 a1 a0 r1, iY r1] := by kernel_rfl
def xTY (a0 : Str) (a1 : Int) (r1 : Bool) (r2 : Int) : rE I49 (xAH a0 a1) [F, F, F, F, F, F] [xBB r1, xAP r2] = dn (xMI a1 a0 r2) [xAx a1 a0, xFY a0 a1, iN false, xHb a0 a1, iN false, xI9 a0 a1, xIZ a1 a0, xI0 a1 a0 r1, iN r1, xMk a1 a0, xMl a0 a1 r2] := by kernel_rfl
theorem vBo {N : Nat} : ∀ n x0 x1 x7 b4 r, xCu N n x0 x1 x7 b4 = some r → RS Tryz.f49 I49 4 (xKr x0 x1 x7 b4) (xAR r) := by
 intro n
 induction n with
 | zero => exact fun _ _ _ _ _ h => nE h
 | succ n ih =>
  exact fun x0 x1 x7 b4 r h =>
   cE h (fun h0 h => iE h fun h1 h => cE h (fun h2 h => cE h (fun h4 h => tS fk49 (xWT x0 x1 x7 b4) (oc6 h0 h1 h2 h1 h4 rfl on) (ih _ _ _ _ _ h)) fun h4 h =>
   cE h (fun h6 h => cE h (fun h8 h => tS fk49 (xWU x0 x1 x7 b4) (oc9 h0 h1 h2 h1 h4 h1 h6 h1 h8 on) (ih _ _ _ _ _ h)) fun h8 h =>
   iE h fun h9 h => dS h fk49 (xWV x0 x1 x7 b4) (oc10 h0 h1 h2 h1 h4 h1 h6 h1 h8 h9 on)) fun h6 h =>
   iE h fun h8 h => dS h fk49 (xWW x0 x1 x7 b4) (oc9 h0 h1 h2 h1 h4 h1 h6 rfl h8 on)) fun h2 h =>
   cE h (fun h5 h => cE h (fun h7 h => tS fk49 (xWX x0 x1 x7 b4) (oc8 h0 h1 h2 rfl h1 h5 h1 h7 on) (ih _ _ _ _ _ h)) fun h7 h =>
   iE h fun h8 h => dS h fk49 (xWY x0 x1 x7 b4) (oc9 h0 h1 h2 rfl h1 h5 h1 h7 h8 on)) fun h5 h =>
   iE h fun h7 h => dS h fk49 (xWZ x0 x1 x7 b4) (oc8 h0 h1 h2 rfl h1 h5 rfl h7 on)) fun h0 h =>
   iE h fun h2 h => dS h fk49 (xW0 x0 x1 x7 b4) (oc3 h0 rfl h2 on)
theorem vAk {N : Nat} : ∀ n x0 x1 x7 b4 r, xCO N n x0 x1 x7 b4 = some r → RS Tryz.f49 I49 8 (xMT x0 x1 x7 b4) (xAR r) := by
 intro n
 induction n with
 | zero => exact fun _ _ _ _ _ h => nE h
 | succ n ih =>
  exact fun x0 x1 x7 b4 r h =>
   cE h (fun h0 h => iE h fun h1 h => cE h (fun h2 h => cE h (fun h4 h => tS fk49 (xW1 x0 x1 x7 b4) (oc5 h0 h1 h2 h1 h4 on) (ih _ _ _ _ _ h)) fun h4 h =>
   iE h fun h5 h => bE h fun r1 h6 h => dS h fk49 (xW2 x0 x1 x7 b4 r1) (oc7 h0 h1 h2 h1 h4 h5 (xIr h6) on)) fun h2 h =>
   iE h fun h4 h => bE h fun r1 h5 h => dS h fk49 (xTE x0 x1 x7 b4 r1) (oc6 h0 h1 h2 rfl h4 (xIr h5) on)) fun h0 h =>
   iE h fun h3 h => bE h fun r1 h4 h => dS h fk49 (xTF x0 x1 x7 b4 r1) (oc5 h0 rfl rfl h3 (xIr h4) on)
theorem vBp {N : Nat} : ∀ a0 a1 r, xG0 N a0 a1 = some r → RE Tryz.f49 I49 (xAH a0 a1) (xAR r) := fun a0 a1 r h =>
 iE h fun h0 h => cE h (fun h1 h => cE h (fun h2 h => tE fk49 (xTG a0 a1) (oc3 h0 h1 h2 on) (vBo _ _ _ _ _ _ h)) fun h2 h =>
 cE h (fun h3 h => cE h (fun h4 h => tE fk49 (xTH a0 a1) (oc5 h0 h1 h2 h3 h4 on) (vAk _ _ _ _ _ _ h)) fun h4 h =>
 cE h (fun h5 h => iE h fun h6 h => bE h fun r1 h7 h => cE h (fun h8 h => dE h fk49 (xTI a0 a1 r1) (oc9 h0 h1 h2 h3 h4 h5 h6 (xBg h7) h8 on)) fun h8 h =>
 iE h fun h9 h => bE h fun r2 h10 h => dE h fk49 (xTJ a0 a1 r1 r2) (oc11 h0 h1 h2 h3 h4 h5 h6 (xBg h7) h8 h9 (xDy h10) on)) fun h5 h =>
 iE h fun h6 h => bE h fun r1 h7 h => cE h (fun h8 h => dE h fk49 (xTK a0 a1 r1) (oc9 h0 h1 h2 h3 h4 h5 h6 (xCg h7) h8 on)) fun h8 h =>
 iE h fun h9 h => bE h fun r2 h10 h => dE h fk49 (xTL a0 a1 r1 r2) (oc11 h0 h1 h2 h3 h4 h5 h6 (xCg h7) h8 h9 (xBg h10) on)) fun h3 h =>
 cE h (fun h5 h => iE h fun h6 h => bE h fun r1 h7 h => cE h (fun h8 h => dE h fk49 (xTM a0 a1 r1) (oc9 h0 h1 h2 h3 rfl h5 h6 (xBg h7) h8 on)) fun h8 h =>
 iE h fun h9 h => bE h fun r2 h10 h => dE h fk49 (xTN a0 a1 r1 r2) (oc11 h0 h1 h2 h3 rfl h5 h6 (xBg h7) h8 h9 (xDy h10) on)) fun h5 h =>
 iE h fun h6 h => bE h fun r1 h7 h => cE h (fun h8 h => dE h fk49 (xTO a0 a1 r1) (oc9 h0 h1 h2 h3 rfl h5 h6 (xCg h7) h8 on)) fun h8 h =>
 iE h fun h9 h => bE h fun r2 h10 h => dE h fk49 (xTP a0 a1 r1 r2) (oc11 h0 h1 h2 h3 rfl h5 h6 (xCg h7) h8 h9 (xBg h10) on)) fun h1 h =>
 cE h (fun h3 h => cE h (fun h4 h => tE fk49 (xTQ a0 a1) (oc5 h0 h1 rfl h3 h4 on) (vAk _ _ _ _ _ _ h)) fun h4 h =>
 cE h (fun h5 h => iE h fun h6 h => bE h fun r1 h7 h => cE h (fun h8 h => dE h fk49 (xTR a0 a1 r1) (oc9 h0 h1 rfl h3 h4 h5 h6 (xBg h7) h8 on)) fun h8 h =>
 iE h fun h9 h => bE h fun r2 h10 h => dE h fk49 (xTS a0 a1 r1 r2) (oc11 h0 h1 rfl h3 h4 h5 h6 (xBg h7) h8 h9 (xDy h10) on)) fun h5 h =>
 iE h fun h6 h => bE h fun r1 h7 h => cE h (fun h8 h => dE h fk49 (xTT a0 a1 r1) (oc9 h0 h1 rfl h3 h4 h5 h6 (xCg h7) h8 on)) fun h8 h =>
 iE h fun h9 h => bE h fun r2 h10 h => dE h fk49 (xTU a0 a1 r1 r2) (oc11 h0 h1 rfl h3 h4 h5 h6 (xCg h7) h8 h9 (xBg h10) on)) fun h3 h =>
 cE h (fun h5 h => iE h fun h6 h => bE h fun r1 h7 h => cE h (fun h8 h => dE h fk49 (xTV a0 a1 r1) (oc9 h0 h1 rfl h3 rfl h5 h6 (xBg h7) h8 on)) fun h8 h =>
 iE h fun h9 h => bE h fun r2 h10 h => dE h fk49 (xTW a0 a1 r1 r2) (oc11 h0 h1 rfl h3 rfl h5 h6 (xBg h7) h8 h9 (xDy h10) on)) fun h5 h =>
 iE h fun h6 h => bE h fun r1 h7 h => cE h (fun h8 h => dE h fk49 (xTX a0 a1 r1) (oc9 h0 h1 rfl h3 rfl h5 h6 (xCg h7) h8 on)) fun h8 h =>
 iE h fun h9 h => bE h fun r2 h10 h => dE h fk49 (xTY a0 a1 r1 r2) (oc11 h0 h1 rfl h3 rfl h5 h6 (xCg h7) h8 h9 (xBg h10) on)
theorem xHr {N : Nat} {a0 : Str} {a1 : Int} {r : Tok × Int × Bool} (h : xG0 N  a0 a1 = some r) : AbC 49 (xAH a0 a1) (xAR r) :=
 AbsCalls.of_reach fk49 rfl rfl (Nat.le_of_ble_eq_true rfl) (vBp a0 a1 r h)
noncomputable def I30 : Info := { body := (Tryz.f30.body).getD .skip, nt := 44, results := [.tmp 2, .tmp 3], keep := [0, 4, 6, 8, 10, 12, 14, 16, 22, 32, 40, 72, 13], live := [(5, [0, 8, 10])], modes := [(8, [(3, .take, false)]), (9, [(0, .take, false), (2, .take, false)]), (11, [(0, .take, false)]), (12, [(0, .take, false)]), (13, [(0, .take, false)])] }
theorem fk30 : FnOk Tryz.prog 30 Tryz.f30 I30 := ⟨Tryz.func30, by kernel_rfl, by kernel_rfl, by kernel_rfl, by kernel_rfl⟩
def xMc (x0 : Str) (x4 : List Tok) (x5 : Int) : St := [(0, .v false [.str x0]), (8, .v false [.sl .own .tok x4]), (10, .v false [.int .i64 x5])]
def xVU (x0 : Str) (x4 : List Tok) (x5 : Int) : rS 5 I30 (xMc x0 x4 x5) [Y, Y] [] = st 5 I30 (xMc x0 x4 (W (x5 + 1))) [xC9 x5 x0, xAx x5 x0, iY (xN2 x0 x5)] := by kernel_rfl
def xVV (x0 : Str) (x4 : List Tok) (x5 : Int) (r1 : Tok × Int × Bool) : rS 5 I30 (xMc x0 x4 x5) [Y, F, Y, Y] [xAR r1] = dn (xAL ([], x5)) [xC9 x5 x0, xAx x5 x0, xL3 x0 x5, AbC 49 (xAH x0 x5) (xAR r1), iY (!r1.2.2), iY true] := by kernel_rfl
def xVW (x0 : Str) (x4 : List Tok) (x5 : Int) (r1 : Tok × Int × Bool) : rS 5 I30 (xMc x0 x4 x5) [Y, F, F, Y] [xAR r1] = dn (xAL ([], x5)) [xC9 x5 x0, xAx x5 x0, xL3 x0 x5, AbC 49 (xAH x0 x5) (xAR r1), iN (!r1.2.2), iY ((Ln x4 : Int) == 60)] := by kernel_rfl
def xVX (x0 : Str) (x4 : List Tok) (x5 : Int) (r1 : Tok × Int × Bool) : rS 5 I30 (xMc x0 x4 x5) [Y, F, F, F] [xAR r1] = st 5 I30 (xMc x0 (x4 ++ [r1.1]) r1.2.1) [xC9 x5 x0, xAx x5 x0, xL3 x0 x5, AbC 49 (xAH x0 x5) (xAR r1), iN (!r1.2.2), iN ((Ln x4 : Int) == 60), Ln x4 + Ln [r1.1] ≤ Lim] := by kernel_rfl
def xVY (x0 : Str) (x4 : List Tok) (x5 : Int) : rS 5 I30 (xMc x0 x4 x5) [F] [] = dn (xAL (x4, (-1))) [xIg x5 x0] := by kernel_rfl
def xVZ (a0 : Str) : rE I30 (xFd a0) [Y] [] = dn (xAL ([], 120)) [iY (xMD a0)] := by kernel_rfl
def xV0 (a0 : Str) : rE I30 (xFd a0) [F] [] = st 5 I30 (xMc a0 [] 0) [xL4 a0] := by kernel_rfl
theorem vA7 {N : Nat} : ∀ n x0 x4 x5 r, xDQ N n x0 x4 x5 = some r → RS Tryz.f30 I30 5 (xMc x0 x4 x5) (xAL r) := by
 intro n
 induction n with
 | zero => exact fun _ _ _ _ h => nE h
 | succ n ih =>
  exact fun x0 x4 x5 r h =>
   cE h (fun h0 h => iE h fun h1 h => cE h (fun h2 h => tS fk30 (xVU x0 x4 x5) (oc3 h0 h1 h2 on) (ih _ _ _ _ h)) fun h2 h =>
   bE h fun r1 h3 h => cE h (fun h4 h => dS h fk30 (xVV x0 x4 x5 r1) (oc6 h0 h1 h2 (xHr h3) h4 rfl on)) fun h4 h =>
   cE h (fun h5 h => dS h fk30 (xVW x0 x4 x5 r1) (oc6 h0 h1 h2 (xHr h3) h4 h5 on)) fun h5 h =>
   iE h fun h6 h => tS fk30 (xVX x0 x4 x5 r1) (oc7 h0 h1 h2 (xHr h3) h4 h5 h6 on) (ih _ _ _ _ h)) fun h0 h =>
   dS h fk30 (xVY x0 x4 x5) (oc h0 on)
theorem vA8 {N : Nat} : ∀ a0 r, xFJ N a0 = some r → RE Tryz.f30 I30 (xFd a0) (xAL r) := fun a0 r h =>
 cE h (fun h0 h => dE h fk30 (xVZ a0) (oc h0 on)) fun h0 h =>
 tE fk30 (xV0 a0) (oc h0 on) (vA7 _ _ _ _ _ h)
theorem xBE {N : Nat} {a0 : Str} {r : (List Tok) × Int} (h : xFJ N  a0 = some r) : AbC 30 (xFd a0) (xAL r) :=
 AbsCalls.of_reach fk30 rfl rfl (Nat.le_of_ble_eq_true rfl) (vA8 a0 r h)
noncomputable def I51 : Info := { body := (Tryz.f51.body).getD .skip, nt := 31, results := [.cell 2 50], keep := [0, 4, 38, 1, 5], live := [], modes := [(1, [(5, .take, false)])], ext := [0] }
theorem fk51 : FnOk Tryz.prog 51 Tryz.f51 I51 := ⟨Tryz.func51, by kernel_rfl, by kernel_rfl, by kernel_rfl, by kernel_rfl⟩
abbrev xI1 (v0 : Psr) : Prop := iY (dc ((Psr.bad v0) < 0))
def xW5 (a0 : Psr) : rE I51 (xC3 a0) [Y, Y] [] = dn (xAf ((gD (Psr.list a0) (tN (Psr.pos a0)) Ty.tok.dflt), a0)) [xI1 a0, iY (dc ((Psr.pos a0) < (Ln (Psr.list a0) : Int))), (0 : Int) ≤ (Psr.pos a0) ∧ (Psr.pos a0) < (Ln (Psr.list a0))] := by kernel_rfl
def xW6 (a0 : Psr) : rE I51 (xC3 a0) [Y, F] [] = dn (xAf ((Tok.mk 0 0 0 []), a0)) [xI1 a0, iN (dc ((Psr.pos a0) < (Ln (Psr.list a0) : Int)))] := by kernel_rfl
abbrev xMm (v0 : Psr) : Prop := iN (dc ((Psr.bad v0) < 0))
def xW7 (a0 : Psr) : rE I51 (xC3 a0) [F, F] [] = dn (xAf ((Tok.mk 0 0 0 []), a0)) [xMm a0, iN false] := by kernel_rfl
theorem vBr {N : Nat} : ∀ a0 r, xBu N a0 = some r → RE Tryz.f51 I51 (xC3 a0) (xAf r) := fun a0 r h =>
 cE h (fun h0 h => cE h (fun h1 h => iE h fun h2 h => dE h fk51 (xW5 a0) (oc3 h0 h1 h2 on)) fun h1 h =>
 dE h fk51 (xW6 a0) (oc2 h0 h1 on)) fun h0 h =>
 dE h fk51 (xW7 a0) (oc2 h0 rfl on)
theorem xAk {N : Nat} {a0 : Psr} {r : Tok × Psr} (h : xBu N  a0 = some r) : AbC 51 (xC3 a0) (xAf r) :=
 AbsCalls.of_reach fk51 rfl rfl (Nat.le_of_ble_eq_true rfl) (vBr a0 r h)
noncomputable def I50 : Info := { body := (Tryz.f50.body).getD .skip, nt := 14, results := [.tmp 4], keep := [0, 2, 4, 8, 5], live := [], modes := [(1, [(3, .take, false)])] }
theorem fk50 : FnOk Tryz.prog 50 Tryz.f50 I50 := ⟨Tryz.func50, by kernel_rfl, by kernel_rfl, by kernel_rfl, by kernel_rfl⟩
def xW3 (a0 : Tok) (a1 : Str) : rE I50 (xBs a0 a1) [Y] [] = dn (xAv (((Tok.text a0) : Str) == a1)) [iY ((Tok.kind a0) == 1)] := by kernel_rfl
def xW4 (a0 : Tok) (a1 : Str) : rE I50 (xBs a0 a1) [F] [] = dn (xAv false) [iN ((Tok.kind a0) == 1)] := by kernel_rfl
theorem vBq {N : Nat} : ∀ a0 a1 r, xD1 N a0 a1 = some r → RE Tryz.f50 I50 (xBs a0 a1) (xAv r) := fun a0 a1 r h =>
 cE h (fun h0 h => dE h fk50 (xW3 a0 a1) (oc h0 on)) fun h0 h =>
 dE h fk50 (xW4 a0 a1) (oc h0 on)
theorem xBC {N : Nat} {a0 : Tok} {a1 : Str} {r : Bool} (h : xD1 N  a0 a1 = some r) : AbC 50 (xBs a0 a1) (xAv r) :=
 AbsCalls.of_reach fk50 rfl rfl (Nat.le_of_ble_eq_true rfl) (vBq a0 a1 r h)
noncomputable def I97 : Info := { body := (Tryz.f97.body).getD .skip, nt := 15, results := [.tmp 6], keep := [0, 2, 4, 12], live := [], modes := [(1, [(3, .take, false)])] }
theorem fk97 : FnOk Tryz.prog 97 Tryz.f97 I97 := ⟨Tryz.func97, by kernel_rfl, by kernel_rfl, by kernel_rfl, by kernel_rfl⟩
def xZc (a0 a1 a2 : Int) : rE I97 (xCP a0 a1 a2) [Y] [] = dn (xA8 (dc (a0 ≤ a2))) [iY (dc (a1 ≤ a0))] := by kernel_rfl
def xZd (a0 a1 a2 : Int) : rE I97 (xCP a0 a1 a2) [F] [] = dn (xA8 false) [iN (dc (a1 ≤ a0))] := by kernel_rfl
theorem vCd {N : Nat} : ∀ a0 a1 a2 r, xFq N a0 a1 a2 = some r → RE Tryz.f97 I97 (xCP a0 a1 a2) (xA8 r) := fun a0 a1 a2 r h =>
 cE h (fun h0 h => dE h fk97 (xZc a0 a1 a2) (oc h0 on)) fun h0 h =>
 dE h fk97 (xZd a0 a1 a2) (oc h0 on)
theorem xDF {N : Nat} {a0 : Int} {a1 : Int} {a2 : Int} {r : Bool} (h : xFq N  a0 a1 a2 = some r) : AbC 97 (xCP a0 a1 a2) (xA8 r) :=
 AbsCalls.of_reach fk97 rfl rfl (Nat.le_of_ble_eq_true rfl) (vCd a0 a1 a2 r h)
noncomputable def I114 : Info := { body := (Tryz.f114.body).getD .skip, nt := 42, results := [.tmp 2], keep := [0, 4, 6, 8, 16, 76], live := [(2, [0, 6])], modes := [(4, [(4, .take, false)]), (5, [(0, .take, false), (2, .take, false), (5, .take, false), (11, .take, false)])] }
theorem xK5 : FnOk Tryz.prog 114 Tryz.f114 I114 := ⟨Tryz.func114, by kernel_rfl, by kernel_rfl, by kernel_rfl, by kernel_rfl⟩
def xHm (x0 : Str) (x3 : Int) : St := [(0, .v false [.str x0]), (6, .v false [.int .i64 x3])]
def xSq (x0 : Str) (x3 : Int) : rS 2 I114 (xHm x0 x3) [Y, Y, Y, Y, Y, Y] [] = dn (xB2 false) [xC9 x3 x0, xAx x3 x0, xE2 x0 x3, xAx x3 x0, xKh x0 x3, iY (x3 == 0), iY true, iY true] := by kernel_rfl
def xSr (x0 : Str) (x3 : Int) : rS 2 I114 (xHm x0 x3) [Y, Y, Y, F, Y, Y] [] = dn (xB2 false) [xC9 x3 x0, xAx x3 x0, xE2 x0 x3, xAx x3 x0, xKh x0 x3, xKv x3, xAx x3 x0, xVg x0 x3, iY true] := by kernel_rfl
def xSs (x0 : Str) (x3 : Int) : rS 2 I114 (xHm x0 x3) [Y, Y, Y, F, F, Y] [] = dn (xB2 false) [xC9 x3 x0, xAx x3 x0, xE2 x0 x3, xAx x3 x0, xKh x0 x3, xKv x3, xAx x3 x0, xPg x0 x3, xAx x3 x0, xVh x0 x3] := by kernel_rfl
def xSt (x0 : Str) (x3 : Int) : rS 2 I114 (xHm x0 x3) [Y, Y, Y, F, F, F] [] = st 2 I114 (xHm x0 (W (x3 + 1))) [xC9 x3 x0, xAx x3 x0, xE2 x0 x3, xAx x3 x0, xKh x0 x3, xKv x3, xAx x3 x0, xPg x0 x3, xAx x3 x0, xVi x0 x3] := by kernel_rfl
def xSu (x0 : Str) (x3 : Int) : rS 2 I114 (xHm x0 x3) [Y, Y, F, F] [] = st 2 I114 (xHm x0 (W (x3 + 1))) [xC9 x3 x0, xAx x3 x0, xE2 x0 x3, xAx x3 x0, xQo x0 x3, iN false] := by kernel_rfl
def xSv (x0 : Str) (x3 : Int) : rS 2 I114 (xHm x0 x3) [Y, F, Y, Y, Y, Y] [] = dn (xB2 false) [xC9 x3 x0, xAx x3 x0, xFY x0 x3, iY (!false), iY (x3 == 0), iY true, iY true] := by kernel_rfl
def xSw (x0 : Str) (x3 : Int) : rS 2 I114 (xHm x0 x3) [Y, F, Y, F, Y, Y] [] = dn (xB2 false) [xC9 x3 x0, xAx x3 x0, xFY x0 x3, iY (!false), xKv x3, xAx x3 x0, xVg x0 x3, iY true] := by kernel_rfl
def xSx (x0 : Str) (x3 : Int) : rS 2 I114 (xHm x0 x3) [Y, F, Y, F, F, Y] [] = dn (xB2 false) [xC9 x3 x0, xAx x3 x0, xFY x0 x3, iY (!false), xKv x3, xAx x3 x0, xPg x0 x3, xAx x3 x0, xVh x0 x3] := by kernel_rfl
def xSy (x0 : Str) (x3 : Int) : rS 2 I114 (xHm x0 x3) [Y, F, Y, F, F, F] [] = st 2 I114 (xHm x0 (W (x3 + 1))) [xC9 x3 x0, xAx x3 x0, xFY x0 x3, iY (!false), xKv x3, xAx x3 x0, xPg x0 x3, xAx x3 x0, xVi x0 x3] := by kernel_rfl
def xSz (x0 : Str) (x3 : Int) (r1 : Bool) : rS 2 I114 (xHm x0 x3) [F] [xA8 r1] = dn (xB2 r1) [xIg x3 x0, AbC 97 (xCP (Ln x0 : Int) 1 8) (xA8 r1)] := by kernel_rfl
def xQK (a0 : Str) : rE I114 (xFX a0) [] [] = st 2 I114 (xHm a0 0) [] := by kernel_rfl
theorem xZY {N : Nat} : ∀ n x0 x3 r, xDE N n x0 x3 = some r → RS Tryz.f114 I114 2 (xHm x0 x3) (xB2 r) := by
 intro n
 induction n with
 | zero => exact fun _ _ _ h => nE h
 | succ n ih =>
  exact fun x0 x3 r h =>
   cE h (fun h0 h => iE h fun h1 h => cE h (fun h2 h => cE h (fun h4 h => cE h (fun h5 h => dS h xK5 (xSq x0 x3) (oc8 h0 h1 h2 h1 h4 h5 rfl rfl on)) fun h5 h =>
   cE h (fun h7 h => dS h xK5 (xSr x0 x3) (oc9 h0 h1 h2 h1 h4 h5 h1 h7 rfl on)) fun h7 h =>
   cE h (fun h9 h => dS h xK5 (xSs x0 x3) (oc10 h0 h1 h2 h1 h4 h5 h1 h7 h1 h9 on)) fun h9 h =>
   tS xK5 (xSt x0 x3) (oc10 h0 h1 h2 h1 h4 h5 h1 h7 h1 h9 on) (ih _ _ _ h)) fun h4 h =>
   tS xK5 (xSu x0 x3) (oc6 h0 h1 h2 h1 h4 rfl on) (ih _ _ _ h)) fun h2 h =>
   cE h (fun h4 h => dS h xK5 (xSv x0 x3) (oc7 h0 h1 h2 rfl h4 rfl rfl on)) fun h4 h =>
   cE h (fun h6 h => dS h xK5 (xSw x0 x3) (oc8 h0 h1 h2 rfl h4 h1 h6 rfl on)) fun h6 h =>
   cE h (fun h8 h => dS h xK5 (xSx x0 x3) (oc9 h0 h1 h2 rfl h4 h1 h6 h1 h8 on)) fun h8 h =>
   tS xK5 (xSy x0 x3) (oc9 h0 h1 h2 rfl h4 h1 h6 h1 h8 on) (ih _ _ _ h)) fun h0 h =>
   bE h fun r1 h1 h => dS h xK5 (xSz x0 x3 r1) (oc2 h0 (xDF h1) on)
theorem xZZ {N : Nat} : ∀ a0 r, xIq N a0 = some r → RE Tryz.f114 I114 (xFX a0) (xB2 r) := fun a0 r h =>
 tE xK5 (xQK a0) on (xZY _ _ _ _ h)
theorem xJG {N : Nat} {a0 : Str} {r : Bool} (h : xIq N  a0 = some r) : AbC 114 (xFX a0) (xB2 r) :=
 AbsCalls.of_reach xK5 rfl rfl (Nat.le_of_ble_eq_true rfl) (xZZ a0 r h)
end Go.Ab.T
end
