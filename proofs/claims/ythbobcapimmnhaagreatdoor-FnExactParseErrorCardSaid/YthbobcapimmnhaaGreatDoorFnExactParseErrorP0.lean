/- The statement FnExactParseError holds: plain functions, certificates, laws. Conditions: none. -/
import Derived.LaidMore
import Derived.Lay
import Derived.Lib.AtoiErrMem
import Derived.Lib.LaidTab
import Derived.OpenVars
import Derived.SevenTiedAt
import Derived.Shelf.Abstract
import Derived.Shelf.Small.Strs
import Derived.Shelf.Strconv.ErrVarAll
import Derived.Shelf.Strconv.Itoa3
import Derived.Shelf.Strings.OnBuilder
import Derived.Shelf.Strings.Prefix
import Derived.Shelf.Strings.Search1
import Derived.Shelf.Strings.Split
import Derived.Stop.Joined
import Derived.Stop.LaidErr
import Derived.Test.YthbobcapimmnhaaGreatDoorCards
import Derived.Test.YthbobcapimmnhaaGreatDoorChecked
import Derived.Test.YthbobcapimmnhaaGreatDoorProg
import Derived.Test.YthbobcapimmnhaaGreatDoorRows
import Derived.Test.YthbobcapimmnhaaGreatDoorTie
import Derived.WalkKit
import Derived.Test.YthbobcapimmnhaaGreatDoorL2
set_option linter.all false
section
namespace Go.Ab
abbrev Ex (f : Fl) (e : Exp) : List CV := [.int .i64 (Exp.kind e), .int .i64 (Exp.n e), .str (Exp.text e), .sl f .exp (Exp.args e)]
abbrev Rr (f : Fl) (e : Rdr) : List CV := [.sl f .tok (Rdr.toks e), .int .i64 (Rdr.i e), .int .i64 (Rdr.fin e), .int .i64 (Rdr.bad e)]
abbrev Ps (f : Fl) (e : Psr) : List CV := [.sl f .tok (Psr.list e), .int .i64 (Psr.pos e), .int .i64 (Psr.bad e)]
end Go.Ab
end
section
namespace Go.Ab
def xEd (a0 : Int) : List Arg := [.val (.v false [.int .u8 a0])]
def xBr (r : Bool) : CallO := ⟨.v false [.bool r], [], []⟩
def xEA (N : Nat) (a0 : Int) : Option (Bool) := bif (decide (a0 ≥ 97)) then (some (decide (a0 ≤ 122))) else (some false)
def xEu (a0 : Int) : List Arg := [.val (.v false [.int .u8 a0])]
def xBj (r : Bool) : CallO := ⟨.v false [.bool r], [], []⟩
def xEt (N : Nat) (a0 : Int) : Option (Bool) := bif (decide (a0 ≥ 48)) then (some (decide (a0 ≤ 57))) else (some false)
def xCB (a0 : Int) : List Arg := [.val (.v false [.int .i64 a0])]
def xA4 (r : Str) : CallO := ⟨.v false [.str r], [], []⟩
def xBP (N : Nat) : Nat → Int → Bool → Str → Option (Str)
 | 0, _, _, _ => none
 | n + 1, x0, x3, x4 => bif (x0 != 0) then (bif (decide ((Int.tmod x0 10) < 0)) then (if List.length (List.map (fun n => UInt8.ofNat (Int.toNat n)) [(IntKind.u8.wrap ((IntKind.i64.wrap (48 + (IntKind.i64.wrap (0 - (Int.tmod x0 10)))))))]) + List.length x4 ≤ Lim then (xBP N n (IntKind.i64.wrap (Int.tdiv x0 10)) x3 ((List.map (fun n => UInt8.ofNat (Int.toNat n)) [(IntKind.u8.wrap ((IntKind.i64.wrap (48 + (IntKind.i64.wrap (0 - (Int.tmod x0 10)))))))]) ++ x4)) else none) else (if List.length (List.map (fun n => UInt8.ofNat (Int.toNat n)) [(IntKind.u8.wrap ((IntKind.i64.wrap (48 + (Int.tmod x0 10)))))]) + List.length x4 ≤ Lim then (xBP N n (IntKind.i64.wrap (Int.tdiv x0 10)) x3 ((List.map (fun n => UInt8.ofNat (Int.toNat n)) [(IntKind.u8.wrap ((IntKind.i64.wrap (48 + (Int.tmod x0 10)))))]) ++ x4)) else none)) else (bif x3 then (if List.length [45] + List.length x4 ≤ Lim then some ([45] ++ x4) else none) else (some x4))
def xEe (N : Nat) (a0 : Int) : Option (Str) := bif (a0 == 0) then (some [48]) else ((xBP N N a0 (decide (a0 < 0)) []))
def xB9 (a0 : Str) (a1 : Int) : List Arg := [.val (.v false [.str a0]), .val (.v false [.int .i64 a1])]
def xBa (r : Int × Bool) : CallO := ⟨.tup [(false, [.int .i64 r.1]), (false, [.bool r.2])], [], []⟩
def xCE (N : Nat) : Nat → Str → Bool → Str → Int → Int → Option (Int × Bool)
 | 0, _, _, _, _, _ => none
 | n + 1, x0, x6, x7, x8, x9 => bif (decide (x9 < (List.length x7 : Int))) then (if (0 : Int) ≤ x9 ∧ x9 < (List.length x7) then bif (decide ((((List.getD x7 (Int.toNat x9) 0).toNat : Int) : Int) < 48)) then (some (0, false)) else (bif (decide ((((List.getD x7 (Int.toNat x9) 0).toNat : Int) : Int) > 57)) then (some (0, false)) else ((xCE N n x0 x6 x7 (IntKind.i64.wrap ((IntKind.i64.wrap (10 * x8)) + (IntKind.i64.wrap ((IntKind.u8.wrap (((List.getD x7 (Int.toNat x9) 0).toNat : Int) - 48)))))) (IntKind.i64.wrap (x9 + 1))))) else none) else (bif x6 then ((xEe N (IntKind.i64.wrap (0 - x8))).bind fun r1 => bif (!((r1 : Str) == x0)) then (some (0, false)) else (some ((IntKind.i64.wrap (0 - x8)), true))) else ((xEe N x8).bind fun r1 => bif (!((r1 : Str) == x0)) then (some (0, false)) else (some (x8, true))))
def xFR (N : Nat) (a0 : Str) (a1 : Int) : Option (Int × Bool) := bif (decide ((List.length a0 : Int) > 0)) then (if (0 : Int) ≤ 0 ∧ (0 : Int) < (List.length a0) then bif ((((List.getD a0 (Int.toNat 0) 0).toNat : Int) : Int) == 45) then (if (0 : Int) ≤ (1 : Int) ∧ (1 : Int) ≤ (List.length a0) then bif (decide (((List.length (List.drop (Int.toNat (1 : Int)) a0) : Int) : Int) < 1)) then (some (0, false)) else (bif (decide (((List.length (List.drop (Int.toNat (1 : Int)) a0) : Int) : Int) > a1)) then (some (0, false)) else ((xCE N N a0 ((((List.getD a0 (Int.toNat 0) 0).toNat : Int) : Int) == 45) (List.drop (Int.toNat (1 : Int)) a0) 0 0))) else none) else (bif (decide ((List.length a0 : Int) < 1)) then (some (0, false)) else (bif (decide ((List.length a0 : Int) > a1)) then (some (0, false)) else ((xCE N N a0 ((((List.getD a0 (Int.toNat 0) 0).toNat : Int) : Int) == 45) a0 0 0)))) else none) else (bif (decide ((List.length a0 : Int) < 1)) then (some (0, false)) else (bif (decide ((List.length a0 : Int) > a1)) then (some (0, false)) else ((xCE N N a0 false a0 0 0))))
def xEO (a0 : Str) : List Arg := [.val (.v false [.str a0])]
def xB6 (r : Int × Bool) : CallO := ⟨.tup [(false, [.int .i64 r.1]), (false, [.bool r.2])], [], []⟩
def xD7 (N : Nat) (a0 : Str) : Option (Int × Bool) := (xFR N a0 12).bind fun r1 => some (r1.1, r1.2)
def xDB (a0 : Str) : List Arg := [.val (.v false [.str a0])]
def xAP (r : Bool) : CallO := ⟨.v false [.bool r], [], []⟩
def xB4 (N : Nat) : Nat → Str → Int → Option (Bool)
 | 0, _, _ => none
 | n + 1, x0, x3 => bif (decide (x3 < (List.length x0 : Int))) then (if (0 : Int) ≤ x3 ∧ x3 < (List.length x0) then bif (decide ((((List.getD x0 (Int.toNat x3) 0).toNat : Int) : Int) < 32)) then (some false) else (bif (decide ((((List.getD x0 (Int.toNat x3) 0).toNat : Int) : Int) > 126)) then (some false) else (bif ((((List.getD x0 (Int.toNat x3) 0).toNat : Int) : Int) == 34) then (some false) else ((xB4 N n x0 (IntKind.i64.wrap (x3 + 1)))))) else none) else (some (decide ((List.length x0 : Int) ≤ 20)))
def xDK (N : Nat) (a0 : Str) : Option (Bool) := (xB4 N N a0 0)
def xA0 (a0 : Str) (a1 : Int) : List Arg := [.val (.v false [.str a0]), .val (.v false [.int .i64 a1])]
def xAS (r : Int) : CallO := ⟨.v false [.int .i64 r], [], []⟩
def xE8 (N : Nat) (a0 : Str) (a1 : Int) : Option (Int) := if (0 : Int) ≤ a1 ∧ a1 < (List.length a0) then bif ((((List.getD a0 (Int.toNat a1) 0).toNat : Int) : Int) == 40) then (some 1) else (bif ((((List.getD a0 (Int.toNat a1) 0).toNat : Int) : Int) == 41) then (some 1) else (bif ((((List.getD a0 (Int.toNat a1) 0).toNat : Int) : Int) == 91) then (some 1) else (bif ((((List.getD a0 (Int.toNat a1) 0).toNat : Int) : Int) == 93) then (some 1) else (bif ((((List.getD a0 (Int.toNat a1) 0).toNat : Int) : Int) == 44) then (some 1) else (bif ((((List.getD a0 (Int.toNat a1) 0).toNat : Int) : Int) == 43) then (some 1) else (bif ((((List.getD a0 (Int.toNat a1) 0).toNat : Int) : Int) == 45) then (some 1) else (bif ((((List.getD a0 (Int.toNat a1) 0).toNat : Int) : Int) == 42) then (some 1) else (bif ((((List.getD a0 (Int.toNat a1) 0).toNat : Int) : Int) == 60) then (some 1) else (bif ((((List.getD a0 (Int.toNat a1) 0).toNat : Int) : Int) == 61) then (bif (decide ((IntKind.i64.wrap (a1 + 1)) < (List.length a0 : Int))) then (if (0 : Int) ≤ (IntKind.i64.wrap (a1 + 1)) ∧ (IntKind.i64.wrap (a1 + 1)) < (List.length a0) then bif ((((List.getD a0 (Int.toNat (IntKind.i64.wrap (a1 + 1))) 0).toNat : Int) : Int) == 61) then (some 2) else (some 1) else none) else (some 1)) else (some 0)))))))))) else none
def xC7 (a0 : Str) (a1 : Int) : List Arg := [.val (.v false [.str a0]), .val (.v false [.int .i64 a1])]
def xAN (r : Tok × Int) : CallO := ⟨.tup [(true, [.int .i64 (Tok.kind r.1), .int .i64 (Tok.n r.1), .int .i64 (Tok.pos r.1), .str (Tok.text r.1)]), (false, [.int .i64 r.2])], [], []⟩
def xC8 (N : Nat) : Nat → Str → Int → Int → Tok → Tok → Option (Tok × Int)
 | 0, _, _, _, _, _ => none
 | n + 1, x0, x1, x7, b4, b6 => bif (decide (x7 < (List.length x0 : Int))) then (if (0 : Int) ≤ x7 ∧ x7 < (List.length x0) then (xEA N ((List.getD x0 (Int.toNat x7) 0).toNat : Int)).bind fun r1 => bif r1 then ((xC8 N n x0 x1 (IntKind.i64.wrap (x7 + 1)) b4 b6)) else ((xEt N ((List.getD x0 (Int.toNat x7) 0).toNat : Int)).bind fun r2 => bif r2 then ((xC8 N n x0 x1 (IntKind.i64.wrap (x7 + 1)) b4 b6)) else (if (0 : Int) ≤ x1 ∧ x1 ≤ x7 ∧ x7 ≤ (List.length x0) then bif (decide ((IntKind.i64.wrap (x7 - x1)) > 8)) then (some ((Tok.mk 1 (Tok.n b6) (Tok.pos b6) (List.drop (Int.toNat x1) (List.take (Int.toNat x7) x0))), 0)) else (some ((Tok.mk 1 (Tok.n b6) (Tok.pos b6) (List.drop (Int.toNat x1) (List.take (Int.toNat x7) x0))), (IntKind.i64.wrap (x7 - x1)))) else none)) else none) else (if (0 : Int) ≤ x1 ∧ x1 ≤ x7 ∧ x7 ≤ (List.length x0) then bif (decide ((IntKind.i64.wrap (x7 - x1)) > 8)) then (some ((Tok.mk 1 (Tok.n b6) (Tok.pos b6) (List.drop (Int.toNat x1) (List.take (Int.toNat x7) x0))), 0)) else (some ((Tok.mk 1 (Tok.n b6) (Tok.pos b6) (List.drop (Int.toNat x1) (List.take (Int.toNat x7) x0))), (IntKind.i64.wrap (x7 - x1)))) else none)
def xCL (N : Nat) : Nat → Str → Int → Int → Tok → Tok → Option (Tok × Int)
 | 0, _, _, _, _, _ => none
 | n + 1, x0, x1, x7, b4, b6 => bif (decide (x7 < (List.length x0 : Int))) then (if (0 : Int) ≤ x7 ∧ x7 < (List.length x0) then (xEt N ((List.getD x0 (Int.toNat x7) 0).toNat : Int)).bind fun r1 => bif r1 then ((xCL N n x0 x1 (IntKind.i64.wrap (x7 + 1)) b4 b6)) else (if (0 : Int) ≤ x1 ∧ x1 ≤ x7 ∧ x7 ≤ (List.length x0) then (xD7 N (List.drop (Int.toNat x1) (List.take (Int.toNat x7) x0))).bind fun r2 => bif (!r2.2) then (some ((Tok.mk 2 r2.1 (Tok.pos b6) (Tok.text b6)), 0)) else (bif (decide (r2.1 > 1000000000)) then (some ((Tok.mk 2 r2.1 (Tok.pos b6) (Tok.text b6)), 0)) else (some ((Tok.mk 2 r2.1 (Tok.pos b6) (Tok.text b6)), (IntKind.i64.wrap (x7 - x1))))) else none) else none) else (if (0 : Int) ≤ x1 ∧ x1 ≤ x7 ∧ x7 ≤ (List.length x0) then (xD7 N (List.drop (Int.toNat x1) (List.take (Int.toNat x7) x0))).bind fun r1 => bif (!r1.2) then (some ((Tok.mk 2 r1.1 (Tok.pos b6) (Tok.text b6)), 0)) else (bif (decide (r1.1 > 1000000000)) then (some ((Tok.mk 2 r1.1 (Tok.pos b6) (Tok.text b6)), 0)) else (some ((Tok.mk 2 r1.1 (Tok.pos b6) (Tok.text b6)), (IntKind.i64.wrap (x7 - x1))))) else none)
def xD2 (N : Nat) : Nat → Str → Int → Int → Tok → Tok → Option (Tok × Int)
 | 0, _, _, _, _, _ => none
 | n + 1, x0, x1, x7, b4, b6 => bif (decide (x7 < (List.length x0 : Int))) then (if (0 : Int) ≤ x7 ∧ x7 < (List.length x0) then bif ((((List.getD x0 (Int.toNat x7) 0).toNat : Int) : Int) != 34) then ((xD2 N n x0 x1 (IntKind.i64.wrap (x7 + 1)) b4 b6)) else (if (0 : Int) ≤ (IntKind.i64.wrap (x1 + 1)) ∧ (IntKind.i64.wrap (x1 + 1)) ≤ x7 ∧ x7 ≤ (List.length x0) then bif (x7 == (List.length x0 : Int)) then (some ((Tok.mk 3 (Tok.n b6) (Tok.pos b6) (List.drop (Int.toNat (IntKind.i64.wrap (x1 + 1))) (List.take (Int.toNat x7) x0))), 0)) else ((xDK N (List.drop (Int.toNat (IntKind.i64.wrap (x1 + 1))) (List.take (Int.toNat x7) x0))).bind fun r1 => bif (!r1) then (some ((Tok.mk 3 (Tok.n b6) (Tok.pos b6) (List.drop (Int.toNat (IntKind.i64.wrap (x1 + 1))) (List.take (Int.toNat x7) x0))), 0)) else (some ((Tok.mk 3 (Tok.n b6) (Tok.pos b6) (List.drop (Int.toNat (IntKind.i64.wrap (x1 + 1))) (List.take (Int.toNat x7) x0))), (IntKind.i64.wrap ((IntKind.i64.wrap (x7 + 1)) - x1))))) else none) else none) else (if (0 : Int) ≤ (IntKind.i64.wrap (x1 + 1)) ∧ (IntKind.i64.wrap (x1 + 1)) ≤ x7 ∧ x7 ≤ (List.length x0) then bif (x7 == (List.length x0 : Int)) then (some ((Tok.mk 3 (Tok.n b6) (Tok.pos b6) (List.drop (Int.toNat (IntKind.i64.wrap (x1 + 1))) (List.take (Int.toNat x7) x0))), 0)) else ((xDK N (List.drop (Int.toNat (IntKind.i64.wrap (x1 + 1))) (List.take (Int.toNat x7) x0))).bind fun r1 => bif (!r1) then (some ((Tok.mk 3 (Tok.n b6) (Tok.pos b6) (List.drop (Int.toNat (IntKind.i64.wrap (x1 + 1))) (List.take (Int.toNat x7) x0))), 0)) else (some ((Tok.mk 3 (Tok.n b6) (Tok.pos b6) (List.drop (Int.toNat (IntKind.i64.wrap (x1 + 1))) (List.take (Int.toNat x7) x0))), (IntKind.i64.wrap ((IntKind.i64.wrap (x7 + 1)) - x1))))) else none)
def xFT (N : Nat) (a0 : Str) (a1 : Int) : Option (Tok × Int) := if (0 : Int) ≤ a1 ∧ a1 < (List.length a0) then (xEA N ((List.getD a0 (Int.toNat a1) 0).toNat : Int)).bind fun r1 => bif r1 then ((xC8 N N a0 a1 a1 (Tok.mk 0 0 0 []) (Tok.mk 0 0 a1 []))) else ((xEt N ((List.getD a0 (Int.toNat a1) 0).toNat : Int)).bind fun r2 => bif r2 then ((xCL N N a0 a1 a1 (Tok.mk 0 0 0 []) (Tok.mk 0 0 a1 []))) else (bif ((((List.getD a0 (Int.toNat a1) 0).toNat : Int) : Int) == 34) then ((xD2 N N a0 a1 (IntKind.i64.wrap (a1 + 1)) (Tok.mk 0 0 0 []) (Tok.mk 0 0 a1 []))) else ((xE8 N a0 a1).bind fun r3 => if (0 : Int) ≤ a1 ∧ a1 ≤ (IntKind.i64.wrap (a1 + r3)) ∧ (IntKind.i64.wrap (a1 + r3)) ≤ (List.length a0) then some ((Tok.mk 4 0 a1 (List.drop (Int.toNat a1) (List.take (Int.toNat (IntKind.i64.wrap (a1 + r3))) a0))), (IntKind.i64.wrap ((IntKind.i64.wrap (a1 + r3)) - a1))) else none))) else none
def xEc (a0 : Str) : List Arg := [.val (.v false [.str a0])]
def xAM (r : (List Tok) × Int) : CallO := ⟨.tup [(false, [.sl .own .tok r.1]), (false, [.int .i64 r.2])], [], []⟩
def xDl (N : Nat) : Nat → Str → (List Tok) → Int → Option ((List Tok) × Int)
 | 0, _, _, _ => none
 | n + 1, x0, x4, x5 => bif (decide (x5 < (List.length x0 : Int))) then (if (0 : Int) ≤ x5 ∧ x5 < (List.length x0) then bif ((((List.getD x0 (Int.toNat x5) 0).toNat : Int) : Int) == 32) then ((xDl N n x0 x4 (IntKind.i64.wrap (x5 + 1)))) else ((xFT N x0 x5).bind fun r1 => bif (r1.2 == 0) then (some ([], x5)) else (bif ((List.length x4 : Int) == 60) then (some ([], x5)) else (if List.length x4 + List.length [r1.1] ≤ Lim then (xDl N n x0 (x4 ++ [r1.1]) (IntKind.i64.wrap (x5 + r1.2))) else none))) else none) else (some (x4, (-1)))
def xEy (N : Nat) (a0 : Str) : Option ((List Tok) × Int) := bif (decide ((List.length a0 : Int) > 120)) then (some ([], 120)) else ((xDl N N a0 [] 0))
def xCP (a0 : Tok) (a1 : Str) : List Arg := [.val (.v true [.int .i64 (Tok.kind a0), .int .i64 (Tok.n a0), .int .i64 (Tok.pos a0), .str (Tok.text a0)]), .val (.v false [.str a1])]
def xAG (r : Bool) : CallO := ⟨.v false [.bool r], [], []⟩
def xCG (N : Nat) (a0 : Tok) (a1 : Str) : Option (Bool) := bif ((Tok.kind a0) == 4) then (some (((Tok.text a0) : Str) == a1)) else (some false)
def xDZ (a0 : Tok) (a1 : Str) : List Arg := [.val (.v true [.int .i64 (Tok.kind a0), .int .i64 (Tok.n a0), .int .i64 (Tok.pos a0), .str (Tok.text a0)]), .val (.v false [.str a1])]
def xDv (r : Bool) : CallO := ⟨.v false [.bool r], [], []⟩
def xEH (N : Nat) (a0 : Tok) (a1 : Str) : Option (Bool) := bif ((Tok.kind a0) == 1) then (some (((Tok.text a0) : Str) == a1)) else (some false)
def xAv (a0 : Rdr) (a1 : Str) : List Arg := [.box (Rr .ro a0), .val (.v false [.str a1])]
def xAd (r : Bool × Rdr) : CallO := ⟨.v false [.bool r.1], [(Rr .ro r.2)], []⟩
def xA9 (N : Nat) (a0 : Rdr) (a1 : Str) : Option (Bool × Rdr) := bif (decide ((Rdr.bad a0) < 0)) then (bif (decide ((Rdr.i a0) < (List.length (Rdr.toks a0) : Int))) then (if (0 : Int) ≤ (Rdr.i a0) ∧ (Rdr.i a0) < (List.length (Rdr.toks a0)) then (xCG N (List.getD (Rdr.toks a0) (Int.toNat (Rdr.i a0)) Ty.tok.dflt) a1).bind fun r1 => bif r1 then (some (true, a0)) else ((xEH N (List.getD (Rdr.toks a0) (Int.toNat (Rdr.i a0)) Ty.tok.dflt) a1).bind fun r2 => some (r2, a0)) else none) else (some (false, a0))) else (some (false, a0))
def xD1 (a0 : Str) : List Arg := [.val (.v false [.str a0])]
def xAW (r : Bool) : CallO := ⟨.v false [.bool r], [], []⟩
def xCq (N : Nat) : Nat → Str → Int → Option (Bool)
 | 0, _, _ => none
 | n + 1, x0, x3 => bif (decide (x3 < (List.length x0 : Int))) then (if (0 : Int) ≤ x3 ∧ x3 < (List.length x0) then bif (decide ((((List.getD x0 (Int.toNat x3) 0).toNat : Int) : Int) ≥ 97)) then (bif (decide ((((List.getD x0 (Int.toNat x3) 0).toNat : Int) : Int) ≥ 48)) then (bif (!(decide ((((List.getD x0 (Int.toNat x3) 0).toNat : Int) : Int) ≤ 122))) then (bif (x3 == 0) then (some false) else (bif (!(decide ((((List.getD x0 (Int.toNat x3) 0).toNat : Int) : Int) ≤ 57))) then (some false) else ((xCq N n x0 (IntKind.i64.wrap (x3 + 1)))))) else ((xCq N n x0 (IntKind.i64.wrap (x3 + 1))))) else (bif (!(decide ((((List.getD x0 (Int.toNat x3) 0).toNat : Int) : Int) ≤ 122))) then (bif (x3 == 0) then (some false) else (some false)) else ((xCq N n x0 (IntKind.i64.wrap (x3 + 1)))))) else (bif (decide ((((List.getD x0 (Int.toNat x3) 0).toNat : Int) : Int) ≥ 48)) then (bif (x3 == 0) then (some false) else (bif (!(decide ((((List.getD x0 (Int.toNat x3) 0).toNat : Int) : Int) ≤ 57))) then (some false) else ((xCq N n x0 (IntKind.i64.wrap (x3 + 1)))))) else (bif (x3 == 0) then (some false) else (some false))) else none) else (some (decide ((List.length x0 : Int) > 0)))
def xF2 (N : Nat) (a0 : Str) : Option (Bool) := (xCq N N a0 0)
def xEi : List Arg := []
def xDS (r : (List Str)) : CallO := ⟨.v false [.sl .own .str r], [], []⟩
def xE7 (N : Nat) : Option ((List Str)) := some [[108, 101, 116], [105, 110], [105, 102], [116, 104, 101, 110], [101, 108, 115, 101], [102, 111, 114], [100, 111], [108, 101, 110], [115, 117, 109], [116, 97, 107, 101], [115, 107, 105, 112], [114, 97, 110, 103, 101], [110, 116, 104], [119, 104, 101, 114, 101], [107, 101, 101, 112], [97, 100, 100], [103, 114, 111, 117, 112], [106, 111, 105, 110], [99, 111, 108, 117, 109, 110], [114, 111, 119, 115], [99, 108, 111, 99, 107], [99, 104, 97, 110, 99, 101], [102, 105, 108, 101], [116, 97, 98, 108, 101]]
def xFx (a0 : List Str) (a1 : Str) : List Arg := [.val (.v false [.sl .ro .str a0]), .val (.v false [.str a1])]
def xEa (r : Bool) : CallO := ⟨.v false [.bool r], [], []⟩
def xD9 (N : Nat) : Nat → (List Str) → Str → Int → Option (Bool)
 | 0, _, _, _ => none
 | n + 1, x0, x1, x5 => bif (decide (x5 < (List.length x0 : Int))) then (if (0 : Int) ≤ x5 ∧ x5 < (List.length x0) then bif (((List.getD x0 (Int.toNat x5) Ty.str.dflt) : Str) == x1) then (some true) else ((xD9 N n x0 x1 (IntKind.i64.wrap (x5 + 1)))) else none) else (some false)
def xG8 (N : Nat) (a0 : List Str) (a1 : Str) : Option (Bool) := (xD9 N N a0 a1 0)
def xEh (a0 : Str) : List Arg := [.val (.v false [.str a0])]
def xDP (r : Bool) : CallO := ⟨.v false [.bool r], [], []⟩
def xEp (N : Nat) (a0 : Str) : Option (Bool) := (xE7 N).bind fun r1 => (xG8 N r1 a0).bind fun r2 => some r2
def xBK (a0 : Str) : List Arg := [.val (.v false [.str a0])]
def xAz (r : Bool) : CallO := ⟨.v false [.bool r], [], []⟩
def xCw (N : Nat) (a0 : Str) : Option (Bool) := (xF2 N a0).bind fun r1 => bif r1 then (bif (decide ((List.length a0 : Int) ≤ 8)) then ((xEp N a0).bind fun r2 => some (!r2)) else (some false)) else (some false)
def xCo (a0 : Rdr) : List Arg := [.box (Rr .ro a0)]
def xAF (r : Exp × Rdr) : CallO := ⟨.v true (Ex .own r.1), [(Rr .ro r.2)], []⟩
def xBu (N : Nat) (a0 : Rdr) : Option (Exp × Rdr) := bif (decide ((Rdr.bad a0) < 0)) then (bif (decide ((Rdr.i a0) < (List.length (Rdr.toks a0) : Int))) then (if (0 : Int) ≤ (Rdr.i a0) ∧ (Rdr.i a0) < (List.length (Rdr.toks a0)) then some ((Exp.mk 0 0 [] []), (Rdr.mk (Rdr.toks a0) (Rdr.i a0) (Rdr.fin a0) (Tok.pos (List.getD (Rdr.toks a0) (Int.toNat (Rdr.i a0)) Ty.tok.dflt)))) else none) else (some ((Exp.mk 0 0 [] []), (Rdr.mk (Rdr.toks a0) (Rdr.i a0) (Rdr.fin a0) (Rdr.fin a0))))) else (some ((Exp.mk 0 0 [] []), a0))
def xDd (a0 : Rdr) : List Arg := [.box (Rr .ro a0)]
def xCp (r : Str × Rdr) : CallO := ⟨.v false [.str r.1], [(Rr .ro r.2)], []⟩
def xCQ (N : Nat) (a0 : Rdr) : Option (Str × Rdr) := bif (decide ((Rdr.bad a0) ≥ 0)) then ((xBu N a0).bind fun r1 => some ([], r1.2)) else (bif (decide ((Rdr.i a0) ≥ (List.length (Rdr.toks a0) : Int))) then ((xBu N a0).bind fun r1 => some ([], r1.2)) else (if (0 : Int) ≤ (Rdr.i a0) ∧ (Rdr.i a0) < (List.length (Rdr.toks a0)) then bif (((Tok.kind (List.getD (Rdr.toks a0) (Int.toNat (Rdr.i a0)) Ty.tok.dflt)) : Int) != 1) then ((xBu N a0).bind fun r1 => some ([], r1.2)) else ((xCw N (Tok.text (List.getD (Rdr.toks a0) (Int.toNat (Rdr.i a0)) Ty.tok.dflt))).bind fun r1 => bif (!r1) then ((xBu N a0).bind fun r2 => some ([], r2.2)) else (if (0 : Int) ≤ (IntKind.i64.wrap ((IntKind.i64.wrap ((Rdr.i a0) + 1)) - 1)) ∧ (IntKind.i64.wrap ((IntKind.i64.wrap ((Rdr.i a0) + 1)) - 1)) < (List.length (Rdr.toks a0)) then some ((Tok.text (List.getD (Rdr.toks a0) (Int.toNat (IntKind.i64.wrap ((IntKind.i64.wrap ((Rdr.i a0) + 1)) - 1))) Ty.tok.dflt)), (Rdr.mk (Rdr.toks a0) (IntKind.i64.wrap ((Rdr.i a0) + 1)) (Rdr.fin a0) (Rdr.bad a0))) else none)) else none))
def xBi (a0 : Rdr) (a1 : Str) : List Arg := [.box (Rr .ro a0), .val (.v false [.str a1])]
def xAx (r : Rdr) : CallO := ⟨.tup [], [(Rr .ro r)], []⟩
def xA8 (N : Nat) (a0 : Rdr) (a1 : Str) : Option (Rdr) := (xA9 N a0 a1).bind fun r1 => bif (!r1.1) then ((xBu N r1.2).bind fun r2 => some r2.2) else (some (Rdr.mk (Rdr.toks r1.2) (IntKind.i64.wrap ((Rdr.i r1.2) + 1)) (Rdr.fin r1.2) (Rdr.bad r1.2)))
def xFg (a0 : Int) : List Arg := [.val (.v false [.int .i64 a0])]
def xEI (r : Exp) : CallO := ⟨.v true (Ex .own r), [], []⟩
def xHy (N : Nat) (a0 : Int) : Option (Exp) := some (Exp.mk 1 a0 [] [])
def xE5 (a0 : Str) : List Arg := [.val (.v false [.str a0])]
def xEs (r : Exp) : CallO := ⟨.v true (Ex .own r), [], []⟩
def xG4 (N : Nat) (a0 : Str) : Option (Exp) := some (Exp.mk 3 0 a0 [])
def xAn (a0 : Str) : List Arg := [.val (.v false [.str a0])]
def xAh (r : Int) : CallO := ⟨.v false [.int .i64 r], [], []⟩
def xBH (N : Nat) (a0 : Str) : Option (Int) := bif ((a0 : Str) == [99, 108, 111, 99, 107]) then (some 0) else (bif ((a0 : Str) == [108, 101, 110]) then (some 1) else (bif ((a0 : Str) == [115, 117, 109]) then (some 1) else (bif ((a0 : Str) == [114, 111, 119, 115]) then (some 1) else (bif ((a0 : Str) == [99, 104, 97, 110, 99, 101]) then (some 1) else (bif ((a0 : Str) == [102, 105, 108, 101]) then (some 1) else (bif ((a0 : Str) == [116, 97, 107, 101]) then (some 2) else (bif ((a0 : Str) == [115, 107, 105, 112]) then (some 2) else (bif ((a0 : Str) == [114, 97, 110, 103, 101]) then (some 2) else (bif ((a0 : Str) == [110, 116, 104]) then (some 2) else (bif ((a0 : Str) == [107, 101, 101, 112]) then (some 2) else (bif ((a0 : Str) == [99, 111, 108, 117, 109, 110]) then (some 2) else (bif ((a0 : Str) == [116, 97, 98, 108, 101]) then (some 2) else (bif ((a0 : Str) == [119, 104, 101, 114, 101]) then (some 3) else (bif ((a0 : Str) == [103, 114, 111, 117, 112]) then (some 3) else (bif ((a0 : Str) == [106, 111, 105, 110]) then (some 3) else (bif ((a0 : Str) == [97, 100, 100]) then (some 4) else (some (-1))))))))))))))))))
def xC6 (a0 : Int) (a1 : Exp) (a2 : Exp) : List Arg := [.val (.v false [.int .i64 a0]), .val (.v true (Ex .ro a1)), .val (.v true (Ex .ro a2))]
def xBt (r : Exp) : CallO := ⟨.v true (Ex .tip r), [], []⟩
def xDx (N : Nat) (a0 : Int) (a1 : Exp) (a2 : Exp) : Option (Exp) := some (Exp.mk 6 a0 [] [(Exp.re a1), (Exp.re a2)])
def xDD (a0 : Rdr) (a1 : Str) : List Arg := [.box (Rr .ro a0), .val (.v false [.str a1])]
def xBL (r : (List Exp) × Rdr) : CallO := ⟨.v false [.sl .tip .exp r.1], [(Rr .ro r.2)], []⟩
def xD0 (N : Nat) (q0 : Rdr → Str → Option ((List Exp) × Rdr)) (q1 : Rdr → Option (Exp × Rdr)) (q2 : Rdr → Option (Exp × Rdr)) (q3 : Rdr → Option (Exp × Rdr)) (q4 : Rdr → Option (Exp × Rdr)) (q5 : Rdr → Option (Exp × Rdr)) : Nat → Str → (List Exp) → Rdr → Option ((List Exp) × Rdr)
 | 0, _, _, _ => none
 | n + 1, x1, x5, b0 => bif (decide ((Rdr.bad b0) < 0)) then ((q3 b0).bind fun r1 => if List.length x5 + List.length [(Exp.re r1.1)] ≤ Lim then (xA9 N r1.2 [44]).bind fun r2 => bif (!r2.1) then ((xA8 N r2.2 x1).bind fun r3 => some ((x5 ++ [(Exp.re r1.1)]), r3)) else ((xD0 N q0 q1 q2 q3 q4 q5 n x1 (x5 ++ [(Exp.re r1.1)]) (Rdr.mk (Rdr.toks r2.2) (IntKind.i64.wrap ((Rdr.i r2.2) + 1)) (Rdr.fin r2.2) (Rdr.bad r2.2)))) else none) else ((xA8 N b0 x1).bind fun r1 => some (x5, r1))
def xC1 (N : Nat) (q0 : Rdr → Str → Option ((List Exp) × Rdr)) (q1 : Rdr → Option (Exp × Rdr)) (q2 : Rdr → Option (Exp × Rdr)) (q3 : Rdr → Option (Exp × Rdr)) (q4 : Rdr → Option (Exp × Rdr)) (q5 : Rdr → Option (Exp × Rdr)) (a0 : Rdr) (a1 : Str) : Option ((List Exp) × Rdr) := (xA9 N a0 a1).bind fun r1 => bif r1.1 then (some ([], (Rdr.mk (Rdr.toks r1.2) (IntKind.i64.wrap ((Rdr.i r1.2) + 1)) (Rdr.fin r1.2) (Rdr.bad r1.2)))) else ((xD0 N q0 q1 q2 q3 q4 q5 N a1 [] r1.2))
def xA2 (a0 : Rdr) : List Arg := [.box (Rr .ro a0)]
def xAV (r : Exp × Rdr) : CallO := ⟨.v true (Ex .ro r.1), [(Rr .ro r.2)], []⟩
def xC2 (N : Nat) (q0 : Rdr → Str → Option ((List Exp) × Rdr)) (q1 : Rdr → Option (Exp × Rdr)) (q2 : Rdr → Option (Exp × Rdr)) (q3 : Rdr → Option (Exp × Rdr)) (q4 : Rdr → Option (Exp × Rdr)) (q5 : Rdr → Option (Exp × Rdr)) (a0 : Rdr) : Option (Exp × Rdr) := bif (decide ((Rdr.bad a0) ≥ 0)) then ((xBu N a0).bind fun r1 => some (r1.1, r1.2)) else (bif (decide ((Rdr.i a0) ≥ (List.length (Rdr.toks a0) : Int))) then ((xBu N a0).bind fun r1 => some (r1.1, r1.2)) else (if (0 : Int) ≤ (Rdr.i a0) ∧ (Rdr.i a0) < (List.length (Rdr.toks a0)) then bif (((Tok.kind (List.getD (Rdr.toks a0) (Int.toNat (Rdr.i a0)) Ty.tok.dflt)) : Int) == 2) then ((xHy N (Tok.n (List.getD (Rdr.toks a0) (Int.toNat (Rdr.i a0)) Ty.tok.dflt))).bind fun r1 => some (r1, (Rdr.mk (Rdr.toks a0) (IntKind.i64.wrap ((Rdr.i a0) + 1)) (Rdr.fin a0) (Rdr.bad a0)))) else (bif (((Tok.kind (List.getD (Rdr.toks a0) (Int.toNat (Rdr.i a0)) Ty.tok.dflt)) : Int) == 3) then (some ((Exp.mk 2 0 (Tok.text (List.getD (Rdr.toks a0) (Int.toNat (Rdr.i a0)) Ty.tok.dflt)) []), (Rdr.mk (Rdr.toks a0) (IntKind.i64.wrap ((Rdr.i a0) + 1)) (Rdr.fin a0) (Rdr.bad a0)))) else (bif (((Tok.kind (List.getD (Rdr.toks a0) (Int.toNat (Rdr.i a0)) Ty.tok.dflt)) : Int) == 1) then ((xCw N (Tok.text (List.getD (Rdr.toks a0) (Int.toNat (Rdr.i a0)) Ty.tok.dflt))).bind fun r1 => bif r1 then ((xG4 N (Tok.text (List.getD (Rdr.toks a0) (Int.toNat (Rdr.i a0)) Ty.tok.dflt))).bind fun r2 => some (r2, (Rdr.mk (Rdr.toks a0) (IntKind.i64.wrap ((Rdr.i a0) + 1)) (Rdr.fin a0) (Rdr.bad a0)))) else ((xBH N (Tok.text (List.getD (Rdr.toks a0) (Int.toNat (Rdr.i a0)) Ty.tok.dflt))).bind fun r2 => bif (decide (r2 ≥ 0)) then ((xA8 N (Rdr.mk (Rdr.toks a0) (IntKind.i64.wrap ((Rdr.i a0) + 1)) (Rdr.fin a0) (Rdr.bad a0)) [40]).bind fun r3 => (q0 r3 [41]).bind fun r4 => some ((Exp.mk 5 0 (Tok.text (List.getD (Rdr.toks a0) (Int.toNat (Rdr.i a0)) Ty.tok.dflt)) r4.1), r4.2)
     ) else ((xCG N (List.getD (Rdr.toks a0) (Int.toNat (Rdr.i a0)) Ty.tok.dflt) [91]).bind fun r3 => bif r3 then ((q0 (Rdr.mk (Rdr.toks a0) (IntKind.i64.wrap ((Rdr.i a0) + 1)) (Rdr.fin a0) (Rdr.bad a0)) [93]).bind fun r4 => some ((Exp.mk 4 0 [] r4.1), r4.2)) else ((xCG N (List.getD (Rdr.toks a0) (Int.toNat (Rdr.i a0)) Ty.tok.dflt) [40]).bind fun r4 => bif r4 then ((q3 (Rdr.mk (Rdr.toks a0) (IntKind.i64.wrap ((Rdr.i a0) + 1)) (Rdr.fin a0) (Rdr.bad a0))).bind fun r5 => (xA8 N r5.2 [41]).bind fun r6 => some (r5.1, r6)) else ((xBu N a0).bind fun r5 => some (r5.1, r5.2)))))) else ((xCG N (List.getD (Rdr.toks a0) (Int.toNat (Rdr.i a0)) Ty.tok.dflt) [91]).bind fun r1 => bif r1 then ((q0 (Rdr.mk (Rdr.toks a0) (IntKind.i64.wrap ((Rdr.i a0) + 1)) (Rdr.fin a0) (Rdr.bad a0)) [93]).bind fun r2 => some ((Exp.mk 4 0 [] r2.1), r2.2)) else ((xCG N (List.getD (Rdr.toks a0) (Int.toNat (Rdr.i a0)) Ty.tok.dflt) [40]).bind fun r2 => bif r2 then ((q3 (Rdr.mk (Rdr.toks a0) (IntKind.i64.wrap ((Rdr.i a0) + 1)) (Rdr.fin a0) (Rdr.bad a0))).bind fun r3 => (xA8 N r3.2 [41]).bind fun r4 => some (r3.1, r4)) else ((xBu N a0).bind fun r3 => some (r3.1, r3.2)))))) else none))
def xCJ (a0 : Rdr) : List Arg := [.box (Rr .ro a0)]
def xCh (r : Exp × Rdr) : CallO := ⟨.v true (Ex .ro r.1), [(Rr .ro r.2)], []⟩
def xCe (N : Nat) (q0 : Rdr → Str → Option ((List Exp) × Rdr)) (q1 : Rdr → Option (Exp × Rdr)) (q2 : Rdr → Option (Exp × Rdr)) (q3 : Rdr → Option (Exp × Rdr)) (q4 : Rdr → Option (Exp × Rdr)) (q5 : Rdr → Option (Exp × Rdr)) (a0 : Rdr) : Option (Exp × Rdr) := (q5 a0).bind fun r1 => (xA9 N r1.2 [60]).bind fun r2 => bif r2.1 then ((q5 (Rdr.mk (Rdr.toks r2.2) (IntKind.i64.wrap ((Rdr.i r2.2) + 1)) (Rdr.fin r2.2) (Rdr.bad r2.2))).bind fun r3 => (xDx N 4 r1.1 r3.1).bind fun r4 => some (r4, r3.2)) else ((xA9 N r2.2 [61, 61]).bind fun r3 => bif r3.1 then ((q5 (Rdr.mk (Rdr.toks r3.2) (IntKind.i64.wrap ((Rdr.i r3.2) + 1)) (Rdr.fin r3.2) (Rdr.bad r3.2))).bind fun r4 => (xDx N 5 r1.1 r4.1).bind fun r5 => some (r5, r4.2)) else (some (r1.1, r3.2)))
def xBM (a0 : Rdr) : List Arg := [.box (Rr .ro a0)]
def xAp (r : Exp × Rdr) : CallO := ⟨.v true (Ex .ro r.1), [(Rr .ro r.2)], []⟩
def xC3 (N : Nat) (q0 : Rdr → Str → Option ((List Exp) × Rdr)) (q1 : Rdr → Option (Exp × Rdr)) (q2 : Rdr → Option (Exp × Rdr)) (q3 : Rdr → Option (Exp × Rdr)) (q4 : Rdr → Option (Exp × Rdr)) (q5 : Rdr → Option (Exp × Rdr)) (a0 : Rdr) : Option (Exp × Rdr) := (xA9 N a0 [108, 101, 116]).bind fun r1 => bif r1.1 then ((xCQ N (Rdr.mk (Rdr.toks r1.2) (IntKind.i64.wrap ((Rdr.i r1.2) + 1)) (Rdr.fin r1.2) (Rdr.bad r1.2))).bind fun r2 => (xA8 N r2.2 [61]).bind fun r3 => (q3 r3).bind fun r4 => (xA8 N r4.2 [105, 110]).bind fun r5 => (q3 r5).bind fun r6 => some ((Exp.mk 7 0 r2.1 [(Exp.re r4.1), (Exp.re r6.1)]), r6.2)) else ((xA9 N r1.2 [105, 102]).bind fun r2 => bif r2.1 then ((q3 (Rdr.mk (Rdr.toks r2.2) (IntKind.i64.wrap ((Rdr.i r2.2) + 1)) (Rdr.fin r2.2) (Rdr.bad r2.2))).bind fun r3 => (xA8 N r3.2 [116, 104, 101, 110]).bind fun r4 => (q3 r4).bind fun r5 => (xA8 N r5.2 [101, 108, 115, 101]).bind fun r6 => (q3 r6).bind fun r7 => some ((Exp.mk 8 0 [] [(Exp.re r3.1), (Exp.re r5.1), (Exp.re r7.1)]), r7.2)) else ((xA9 N r2.2 [102, 111, 114]).bind fun r3 => bif r3.1 then ((xCQ N (Rdr.mk (Rdr.toks r3.2) (IntKind.i64.wrap ((Rdr.i r3.2) + 1)) (Rdr.fin r3.2) (Rdr.bad r3.2))).bind fun r4 => (xA8 N r4.2 [105, 110]).bind fun r5 => (q3 r5).bind fun r6 => (xA8 N r6.2 [100, 111]).bind fun r7 => (q3 r7).bind fun r8 => some ((Exp.mk 9 0 r4.1 [(Exp.re r6.1), (Exp.re r8.1)]), r8.2)) else ((q2 r3.2).bind fun r4 => some (r4.1, r4.2))))
def xDi (a0 : Rdr) : List Arg := [.box (Rr .ro a0)]
def xBg (r : Exp × Rdr) : CallO := ⟨.v true (Ex .ro r.1), [(Rr .ro r.2)], []⟩
def xCi (N : Nat) (q0 : Rdr → Str → Option ((List Exp) × Rdr)) (q1 : Rdr → Option (Exp × Rdr)) (q2 : Rdr → Option (Exp × Rdr)) (q3 : Rdr → Option (Exp × Rdr)) (q4 : Rdr → Option (Exp × Rdr)) (q5 : Rdr → Option (Exp × Rdr)) : Nat → Rdr → Exp → Exp → Option (Exp × Rdr)
 | 0, _, _, _ => none
 | n + 1, b0, b2, b3 => (xA9 N b0 [42]).bind fun r1 => bif r1.1 then ((q1 (Rdr.mk (Rdr.toks r1.2) (IntKind.i64.wrap ((Rdr.i r1.2) + 1)) (Rdr.fin r1.2) (Rdr.bad r1.2))).bind fun r2 => (xDx N 3 b3 r2.1).bind fun r3 => (xCi N q0 q1 q2 q3 q4 q5 n r2.2 b2 r3)) else (some (b3, r1.2))
def xCf (N : Nat) (q0 : Rdr → Str → Option ((List Exp) × Rdr)) (q1 : Rdr → Option (Exp × Rdr)) (q2 : Rdr → Option (Exp × Rdr)) (q3 : Rdr → Option (Exp × Rdr)) (q4 : Rdr → Option (Exp × Rdr)) (q5 : Rdr → Option (Exp × Rdr)) (a0 : Rdr) : Option (Exp × Rdr) := (q1 a0).bind fun r1 => (xCi N q0 q1 q2 q3 q4 q5 N r1.2 (Exp.mk 0 0 [] []) r1.1)
def xDt (a0 : Rdr) : List Arg := [.box (Rr .ro a0)]
def xBI (r : Exp × Rdr) : CallO := ⟨.v true (Ex .ro r.1), [(Rr .ro r.2)], []⟩
def xB8 (N : Nat) (q0 : Rdr → Str → Option ((List Exp) × Rdr)) (q1 : Rdr → Option (Exp × Rdr)) (q2 : Rdr → Option (Exp × Rdr)) (q3 : Rdr → Option (Exp × Rdr)) (q4 : Rdr → Option (Exp × Rdr)) (q5 : Rdr → Option (Exp × Rdr)) : Nat → Rdr → Exp → Exp → Option (Exp × Rdr)
 | 0, _, _, _ => none
 | n + 1, b0, b2, b3 => (xA9 N b0 [43]).bind fun r1 => bif r1.1 then ((xA9 N r1.2 [45]).bind fun r2 => bif r2.1 then ((q4 (Rdr.mk (Rdr.toks r2.2) (IntKind.i64.wrap ((Rdr.i r2.2) + 1)) (Rdr.fin r2.2) (Rdr.bad r2.2))).bind fun r3 => (xDx N 2 b3 r3.1).bind fun r4 => (xB8 N q0 q1 q2 q3 q4 q5 n r3.2 b2 r4)) else ((q4 (Rdr.mk (Rdr.toks r2.2) (IntKind.i64.wrap ((Rdr.i r2.2) + 1)) (Rdr.fin r2.2) (Rdr.bad r2.2))).bind fun r3 => (xDx N 1 b3 r3.1).bind fun r4 => (xB8 N q0 q1 q2 q3 q4 q5 n r3.2 b2 r4))) else ((xA9 N r1.2 [45]).bind fun r2 => bif r2.1 then ((xA9 N r2.2 [45]).bind fun r3 => bif r3.1 then ((q4 (Rdr.mk (Rdr.toks r3.2) (IntKind.i64.wrap ((Rdr.i r3.2) + 1)) (Rdr.fin r3.2) (Rdr.bad r3.2))).bind fun r4 => (xDx N 2 b3 r4.1).bind fun r5 => (xB8 N q0 q1 q2 q3 q4 q5 n r4.2 b2 r5)) else ((q4 (Rdr.mk (Rdr.toks r3.2) (IntKind.i64.wrap ((Rdr.i r3.2) + 1)) (Rdr.fin r3.2) (Rdr.bad r3.2))).bind fun r4 => (xDx N 1 b3 r4.1).bind fun r5 => (xB8 N q0 q1 q2 q3 q4 q5 n r4.2 b2 r5))) else (some (b3, r2.2)))
def xDm (N : Nat) (q0 : Rdr → Str → Option ((List Exp) × Rdr)) (q1 : Rdr → Option (Exp × Rdr)) (q2 : Rdr → Option (Exp × Rdr)) (q3 : Rdr → Option (Exp × Rdr)) (q4 : Rdr → Option (Exp × Rdr)) (q5 : Rdr → Option (Exp × Rdr)) (a0 : Rdr) : Option (Exp × Rdr) := (q4 a0).bind fun r1 => (xB8 N q0 q1 q2 q3 q4 q5 N r1.2 (Exp.mk 0 0 [] []) r1.1)
structure spec_l11Args_rec where
 c_spec_l11Args : Rdr → Str → Option ((List Exp) × Rdr)
 c_spec_l11Atom : Rdr → Option (Exp × Rdr)
 c_spec_l11Compare : Rdr → Option (Exp × Rdr)
 c_spec_l11Expr : Rdr → Option (Exp × Rdr)
 c_spec_l11Product : Rdr → Option (Exp × Rdr)
 c_spec_l11Sum : Rdr → Option (Exp × Rdr)
def xAa (N : Nat) : Nat → spec_l11Args_rec
 | 0 => ⟨fun _ _ => none, fun _ => none, fun _ => none, fun _ => none, fun _ => none, fun _ => none⟩
 | d + 1 => ⟨xC1 N (xAa N d).c_spec_l11Args (xAa N d).c_spec_l11Atom (xAa N d).c_spec_l11Compare (xAa N d).c_spec_l11Expr (xAa N d).c_spec_l11Product (xAa N d).c_spec_l11Sum, xC2 N (xAa N d).c_spec_l11Args (xAa N d).c_spec_l11Atom (xAa N d).c_spec_l11Compare (xAa N d).c_spec_l11Expr (xAa N d).c_spec_l11Product (xAa N d).c_spec_l11Sum, xCe N (xAa N d).c_spec_l11Args (xAa N d).c_spec_l11Atom (xAa N d).c_spec_l11Compare (xAa N d).c_spec_l11Expr (xAa N d).c_spec_l11Product (xAa N d).c_spec_l11Sum, xC3 N (xAa N d).c_spec_l11Args (xAa N d).c_spec_l11Atom (xAa N d).c_spec_l11Compare (xAa N d).c_spec_l11Expr (xAa N d).c_spec_l11Product (xAa N d).c_spec_l11Sum, xCf N (xAa N d).c_spec_l11Args (xAa N d).c_spec_l11Atom (xAa N d).c_spec_l11Compare (xAa N d).c_spec_l11Expr (xAa N d).c_spec_l11Product (xAa N d).c_spec_l11Sum, xDm N (xAa N d).c_spec_l11Args (xAa N d).c_spec_l11Atom (xAa N d).c_spec_l11Compare (xAa N d).c_spec_l11Expr (xAa N d).c_spec_l11Product (xAa N d).c_spec_l11Sum⟩
def xF1 (N : Nat) (a0 : Rdr) : Option (Exp × Rdr) := (xAa N N).c_spec_l11Expr a0
def xCI (a0 : Exp) (a1 : Int) : List Arg := [.val (.v true (Ex .ro a0)), .val (.v false [.int .i64 a1])]
def xBh (r : Int) : CallO := ⟨.v false [.int .i64 r], [], []⟩
def xDc (N : Nat) (q0 : Exp → Int → Option (Int)) : Nat → Int → Int → Exp → Option (Int)
 | 0, _, _, _ => none
 | n + 1, x1, x5, b2 => bif (decide (x5 < (List.length (Exp.args b2) : Int))) then (bif (decide (x1 ≥ 0)) then (if (0 : Int) ≤ x5 ∧ x5 < (List.length (Exp.args b2)) then (q0 (List.getD (Exp.args b2) (Int.toNat x5) Ty.exp.dflt) x1).bind fun r1 => (xDc N q0 n r1 (IntKind.i64.wrap (x5 + 1)) b2) else none) else (some x1)) else (some x1)
def xFe (N : Nat) (q0 : Exp → Int → Option (Int)) (a0 : Exp) (a1 : Int) : Option (Int) := (xDc N q0 N (IntKind.i64.wrap (a1 - 1)) 0 a0)
def xDM (N : Nat) : Nat → Exp → Int → Option (Int)
 | 0, _, _ => none
 | d + 1, a0, a1 => xFe N (xDM N d) a0 a1
def xG3 (N : Nat) (a0 : Exp) (a1 : Int) : Option (Int) := xDM N N a0 a1
def xE6 (a0 : Int) (a1 : Int) : List Arg := [.val (.v false [.int .i64 a0]), .val (.v false [.int .i64 a1])]
def xEz (r : Int) : CallO := ⟨.v false [.int .i64 r], [], []⟩
def xGj (N : Nat) (a0 : Int) (a1 : Int) : Option (Int) := bif (decide (a0 > a1)) then (some a0) else (some a1)
def xCC (a0 : Exp) : List Arg := [.val (.v true (Ex .ro a0))]
def xBp (r : Int) : CallO := ⟨.v false [.int .i64 r], [], []⟩
def xDw (N : Nat) (q0 : Exp → Option (Int)) : Nat → Int → Int → Exp → Option (Int)
 | 0, _, _, _ => none
 | n + 1, x3, x4, b1 => bif (decide (x4 < (List.length (Exp.args b1) : Int))) then (if (0 : Int) ≤ x4 ∧ x4 < (List.length (Exp.args b1)) then (q0 (List.getD (Exp.args b1) (Int.toNat x4) Ty.exp.dflt)).bind fun r1 => (xGj N x3 r1).bind fun r2 => (xDw N q0 n r2 (IntKind.i64.wrap (x4 + 1)) b1) else none) else (some (IntKind.i64.wrap (x3 + 1)))
def xEU (N : Nat) (q0 : Exp → Option (Int)) (a0 : Exp) : Option (Int) := (xDw N q0 N 0 0 a0)
def xDQ (N : Nat) : Nat → Exp → Option (Int)
 | 0, _ => none
 | d + 1, a0 => xEU N (xDQ N d) a0
def xF7 (N : Nat) (a0 : Exp) : Option (Int) := xDQ N N a0
def xEW (a0 : Int) (a1 : Int) (a2 : Int) : List Arg := [.val (.v false [.int .i64 a0]), .val (.v false [.int .i64 a1]), .val (.v false [.int .i64 a2])]
def xD5 (r : Bool) : CallO := ⟨.v false [.bool r], [], []⟩
def xGi (N : Nat) (a0 : Int) (a1 : Int) (a2 : Int) : Option (Bool) := bif (decide (a0 ≥ a1)) then (some (decide (a0 ≤ a2))) else (some false)
def xAr (a0 : Exp) : List Arg := [.val (.v true (Ex .ro a0))]
def xAq (r : Bool) : CallO := ⟨.v false [.bool r], [], []⟩
def xFn (N : Nat) (a0 : Exp) : Option (Bool) := bif ((Exp.kind a0) == 1) then (bif ((List.length (Exp.args a0) : Int) == 0) then (bif (((Exp.text a0) : Str) == []) then ((xGi N (Exp.n a0) 0 1000000000).bind fun r1 => some r1) else (some false)) else (some false)) else (bif ((Exp.kind a0) == 2) then (bif ((List.length (Exp.args a0) : Int) == 0) then (bif ((Exp.n a0) == 0) then ((xDK N (Exp.text a0)).bind fun r1 => some r1) else (some false)) else (some false)) else (bif ((Exp.kind a0) == 3) then (bif ((List.length (Exp.args a0) : Int) == 0) then (bif ((Exp.n a0) == 0) then ((xCw N (Exp.text a0)).bind fun r1 => some r1) else (some false)) else (some false)) else (bif ((Exp.kind a0) == 4) then (bif ((Exp.n a0) == 0) then (bif (((Exp.text a0) : Str) == []) then (some (decide ((List.length (Exp.args a0) : Int) ≤ 8))) else (some false)) else (some false)) else (bif ((Exp.kind a0) == 5) then (bif ((Exp.n a0) == 0) then ((xBH N (Exp.text a0)).bind fun r1 => some ((List.length (Exp.args a0) : Int) == r1)) else (some false)) else (bif ((Exp.kind a0) == 6) then (bif (((Exp.text a0) : Str) == []) then (bif ((List.length (Exp.args a0) : Int) == 2) then ((xGi N (Exp.n a0) 1 5).bind fun r1 => some r1) else (some false)) else (some false)) else (bif ((Exp.kind a0) == 7) then (bif ((Exp.n a0) == 0) then (bif ((List.length (Exp.args a0) : Int) == 2) then ((xCw N (Exp.text a0)).bind fun r1 => some r1) else (some false)) else (some false)) else (bif ((Exp.kind a0) == 9) then (bif ((Exp.n a0) == 0) then (bif ((List.length (Exp.args a0) : Int) == 2) then ((xCw N (Exp.text a0)).bind fun r1 => some r1) else (some false)) else (some false)) else (bif ((Exp.kind a0) == 8) then (bif ((Exp.n a0) == 0) then (bif (((Exp.text a0) : Str) == []) then (some ((List.length (Exp.args a0) : Int) == 3)
            ) else (some false)) else (some false)) else (some false)))))))))
def xDs (a0 : Exp) : List Arg := [.val (.v true (Ex .ro a0))]
def xBQ (r : Bool) : CallO := ⟨.v false [.bool r], [], []⟩
def xDU (N : Nat) (q0 : Exp → Option (Bool)) : Nat → Int → Exp → Option (Bool)
 | 0, _, _ => none
 | n + 1, x3, b1 => bif (decide (x3 < (List.length (Exp.args b1) : Int))) then (if (0 : Int) ≤ x3 ∧ x3 < (List.length (Exp.args b1)) then (q0 (List.getD (Exp.args b1) (Int.toNat x3) Ty.exp.dflt)).bind fun r1 => bif (!r1) then (some false) else ((xDU N q0 n (IntKind.i64.wrap (x3 + 1)) b1)) else none) else ((xFn N b1).bind fun r1 => some r1)
def xFs (N : Nat) (q0 : Exp → Option (Bool)) (a0 : Exp) : Option (Bool) := (xDU N q0 N 0 a0)
def xEr (N : Nat) : Nat → Exp → Option (Bool)
 | 0, _ => none
 | d + 1, a0 => xFs N (xEr N d) a0
def xHw (N : Nat) (a0 : Exp) : Option (Bool) := xEr N N a0
def xCZ (a0 : Exp) : List Arg := [.val (.v true (Ex .ro a0))]
def xA7 (r : Bool) : CallO := ⟨.v false [.bool r], [], []⟩
def xCv (N : Nat) (a0 : Exp) : Option (Bool) := (xG3 N a0 40).bind fun r1 => bif (decide (r1 ≥ 0)) then ((xF7 N a0).bind fun r2 => bif (decide (r2 ≤ 8)) then ((xHw N a0).bind fun r3 => some r3) else (some false)) else (some false)
def xBd (a0 : Str) : List Arg := [.val (.v false [.str a0])]
def xBq (r : Exp × Int) : CallO := ⟨.tup [(true, (Ex .ro r.1)), (false, [.int .i64 r.2])], [], []⟩
def xDr (N : Nat) (a0 : Str) : Option (Exp × Int) := (xEy N a0).bind fun r1 => bif (decide (r1.2 ≥ 0)) then (some ((Exp.mk 0 0 [] []), r1.2)) else ((xF1 N (Rdr.mk r1.1 0 (List.length a0 : Int) (-1))).bind fun r2 => bif (decide ((Rdr.bad r2.2) < 0)) then (bif (decide ((Rdr.i r2.2) < (List.length r1.1 : Int))) then ((xBu N r2.2).bind fun r3 => bif (decide ((Rdr.bad r3.2) ≥ 0)) then (some ((Exp.mk 0 0 [] []), (Rdr.bad r3.2))) else ((xCv N r2.1).bind fun r4 => bif (!r4) then (some ((Exp.mk 0 0 [] []), 0)) else (some (r2.1, (-1))))) else (bif (decide ((Rdr.bad r2.2) ≥ 0)) then (some ((Exp.mk 0 0 [] []), (Rdr.bad r2.2))) else ((xCv N r2.1).bind fun r3 => bif (!r3) then (some ((Exp.mk 0 0 [] []), 0)) else (some (r2.1, (-1)))))) else (bif (decide ((Rdr.bad r2.2) ≥ 0)) then (some ((Exp.mk 0 0 [] []), (Rdr.bad r2.2))) else ((xCv N r2.1).bind fun r3 => bif (!r3) then (some ((Exp.mk 0 0 [] []), 0)) else (some (r2.1, (-1))))))
def xDR (a0 : Str) : List Arg := [.val (.v false [.str a0])]
def xCH (r : Bool) : CallO := ⟨.v false [.bool r], [], []⟩
def xEq (N : Nat) (a0 : Str) : Option (Bool) := (xDr N a0).bind fun r1 => some (decide (r1.2 ≥ 0))
def xHG (a0 : Str) (a1 : Int) (a2 : Int) : List Arg := [.val (.v false [.str a0]), .val (.v false [.int .i64 a1]), .val (.v false [.int .i64 a2])]
def xE1 (r : Int × Bool) : CallO := ⟨.tup [(false, [.int .i64 r.1]), (false, [.bool r.2])], [], []⟩
def xFB (N : Nat) (a0 : Str) (a1 a2 : Int) : Option (Int × Bool) := zEp a0 a1 a2
def xEE (a0 : Str) (a1 : Int) : List Arg := [.val (.v false [.str a0]), .val (.v false [.int .u8 a1])]
def xAI (r : Int) : CallO := ⟨.v false [.int .i64 r], [], []⟩
def strings_IndexByte (N : Nat) (a0 : Str) (a1 : Int) : Option Int := zFI a0 a1
def xCV (a0 : Str) : List Arg := [.val (.v false [.str a0])]
def xAH (r : Bool) : CallO := ⟨.v false [.bool r], [], []⟩
def xDz (N : Nat) : Nat → Str → Int → Option (Bool)
 | 0, _, _ => none
 | n + 1, x0, x3 => bif (decide (x3 < (List.length x0 : Int))) then (if (0 : Int) ≤ x3 ∧ x3 < (List.length x0) then bif (decide ((((List.getD x0 (Int.toNat x3) 0).toNat : Int) : Int) < 32)) then (some false) else (bif (decide ((((List.getD x0 (Int.toNat x3) 0).toNat : Int) : Int) > 126)) then (some false) else (bif ((((List.getD x0 (Int.toNat x3) 0).toNat : Int) : Int) == 34) then (some false) else ((xDz N n x0 (IntKind.i64.wrap (x3 + 1)))))) else none) else (some (decide ((List.length x0 : Int) ≤ 20)))
def xCu (N : Nat) (a0 : Str) : Option (Bool) := (xDz N N a0 0)
def xFw (a0 : Str) (a1 : Str) : List Arg := [.val (.v false [.str a0]), .val (.v false [.str a1])]
def xBk (r : Bool) : CallO := ⟨.v false [.bool r], [], []⟩
def strings_HasPrefix (N : Nat) (a0 a1 : Str) : Option Bool := zFH a0 a1
def xAC (a0 : Str) (a1 : Int) : List Arg := [.val (.v false [.str a0]), .val (.v false [.int .i64 a1])]
def xAJ (r : Tok × Int × Bool) : CallO := ⟨.tup [(true, [.int .i64 (Tok.kind r.1), .int .i64 (Tok.n r.1), .int .i64 (Tok.pos r.1), .str (Tok.text r.1)]), (false, [.int .i64 r.2.1]), (false, [.bool r.2.2])], [], []⟩
def xB3 (N : Nat) : Nat → Str → Int → Int → Tok → Option (Tok × Int × Bool)
 | 0, _, _, _, _ => none
 | n + 1, x0, x1, x7, b4 => bif (decide (x7 < (List.length x0 : Int))) then (if (0 : Int) ≤ x7 ∧ x7 < (List.length x0) then bif (decide ((((List.getD x0 (Int.toNat x7) 0).toNat : Int) : Int) ≥ 97)) then (bif (decide ((((List.getD x0 (Int.toNat x7) 0).toNat : Int) : Int) ≤ 122)) then ((xB3 N n x0 x1 (IntKind.i64.wrap (x7 + 1)) b4)) else (bif (decide ((((List.getD x0 (Int.toNat x7) 0).toNat : Int) : Int) ≥ 48)) then (bif (decide ((((List.getD x0 (Int.toNat x7) 0).toNat : Int) : Int) ≤ 57)) then ((xB3 N n x0 x1 (IntKind.i64.wrap (x7 + 1)) b4)) else (if (0 : Int) ≤ x1 ∧ x1 ≤ x7 ∧ x7 ≤ (List.length x0) then some ((Tok.mk 1 0 x1 (List.drop (Int.toNat x1) (List.take (Int.toNat x7) x0))), x7, (decide ((IntKind.i64.wrap (x7 - x1)) ≤ 8))) else none)) else (if (0 : Int) ≤ x1 ∧ x1 ≤ x7 ∧ x7 ≤ (List.length x0) then some ((Tok.mk 1 0 x1 (List.drop (Int.toNat x1) (List.take (Int.toNat x7) x0))), x7, (decide ((IntKind.i64.wrap (x7 - x1)) ≤ 8))) else none))) else (bif (decide ((((List.getD x0 (Int.toNat x7) 0).toNat : Int) : Int) ≥ 48)) then (bif (decide ((((List.getD x0 (Int.toNat x7) 0).toNat : Int) : Int) ≤ 57)) then ((xB3 N n x0 x1 (IntKind.i64.wrap (x7 + 1)) b4)) else (if (0 : Int) ≤ x1 ∧ x1 ≤ x7 ∧ x7 ≤ (List.length x0) then some ((Tok.mk 1 0 x1 (List.drop (Int.toNat x1) (List.take (Int.toNat x7) x0))), x7, (decide ((IntKind.i64.wrap (x7 - x1)) ≤ 8))) else none)) else (if (0 : Int) ≤ x1 ∧ x1 ≤ x7 ∧ x7 ≤ (List.length x0) then some ((Tok.mk 1 0 x1 (List.drop (Int.toNat x1) (List.take (Int.toNat x7) x0))), x7, (decide ((IntKind.i64.wrap (x7 - x1)) ≤ 8))) else none)) else none) else (if (0 : Int) ≤ x1 ∧ x1 ≤ x7 ∧ x7 ≤ (List.length x0) then some ((Tok.mk 1 0 x1 (List.drop (Int.toNat x1) (List.take (Int.toNat x7) x0))), x7, (decide ((IntKind.i64.wrap (x7 - x1)) ≤ 8))) else none)
def xCk (N : Nat) : Nat → Str → Int → Int → Tok → Option (Tok × Int × Bool)
 | 0, _, _, _, _ => none
 | n + 1, x0, x1, x7, b4 => bif (decide (x7 < (List.length x0 : Int))) then (if (0 : Int) ≤ x7 ∧ x7 < (List.length x0) then bif (decide ((((List.getD x0 (Int.toNat x7) 0).toNat : Int) : Int) ≥ 48)) then (bif (decide ((((List.getD x0 (Int.toNat x7) 0).toNat : Int) : Int) ≤ 57)) then ((xCk N n x0 x1 (IntKind.i64.wrap (x7 + 1)) b4)) else (if (0 : Int) ≤ x1 ∧ x1 ≤ x7 ∧ x7 ≤ (List.length x0) then (xFB N (List.drop (Int.toNat x1) (List.take (Int.toNat x7) x0)) 0 1000000000).bind fun r1 => some ((Tok.mk 2 r1.1 x1 []), x7, r1.2) else none)) else (if (0 : Int) ≤ x1 ∧ x1 ≤ x7 ∧ x7 ≤ (List.length x0) then (xFB N (List.drop (Int.toNat x1) (List.take (Int.toNat x7) x0)) 0 1000000000).bind fun r1 => some ((Tok.mk 2 r1.1 x1 []), x7, r1.2) else none) else none) else (if (0 : Int) ≤ x1 ∧ x1 ≤ x7 ∧ x7 ≤ (List.length x0) then (xFB N (List.drop (Int.toNat x1) (List.take (Int.toNat x7) x0)) 0 1000000000).bind fun r1 => some ((Tok.mk 2 r1.1 x1 []), x7, r1.2) else none)
def xFk (N : Nat) (a0 : Str) (a1 : Int) : Option (Tok × Int × Bool) := if (0 : Int) ≤ a1 ∧ a1 < (List.length a0) then bif (decide ((((List.getD a0 (Int.toNat a1) 0).toNat : Int) : Int) ≥ 97)) then (bif (decide ((((List.getD a0 (Int.toNat a1) 0).toNat : Int) : Int) ≤ 122)) then ((xB3 N N a0 a1 a1 (Tok.mk 0 0 0 []))) else (bif (decide ((((List.getD a0 (Int.toNat a1) 0).toNat : Int) : Int) ≥ 48)) then (bif (decide ((((List.getD a0 (Int.toNat a1) 0).toNat : Int) : Int) ≤ 57)) then ((xCk N N a0 a1 a1 (Tok.mk 0 0 0 []))) else (bif ((((List.getD a0 (Int.toNat a1) 0).toNat : Int) : Int) == 34) then (if (0 : Int) ≤ (IntKind.i64.wrap (a1 + 1)) ∧ (IntKind.i64.wrap (a1 + 1)) ≤ (List.length a0) then (strings_IndexByte N (List.drop (Int.toNat (IntKind.i64.wrap (a1 + 1))) a0) 34).bind fun r1 => bif (decide (r1 < 0)) then (some ((Tok.mk 0 0 0 []), 0, false)) else (if (0 : Int) ≤ (IntKind.i64.wrap (a1 + 1)) ∧ (IntKind.i64.wrap (a1 + 1)) ≤ (IntKind.i64.wrap ((IntKind.i64.wrap (a1 + 1)) + r1)) ∧ (IntKind.i64.wrap ((IntKind.i64.wrap (a1 + 1)) + r1)) ≤ (List.length a0) then (xCu N (List.drop (Int.toNat (IntKind.i64.wrap (a1 + 1))) (List.take (Int.toNat (IntKind.i64.wrap ((IntKind.i64.wrap (a1 + 1)) + r1))) a0))).bind fun r2 => some ((Tok.mk 3 0 a1 (List.drop (Int.toNat (IntKind.i64.wrap (a1 + 1))) (List.take (Int.toNat (IntKind.i64.wrap ((IntKind.i64.wrap (a1 + 1)) + r1))) a0))), (IntKind.i64.wrap ((IntKind.i64.wrap (a1 + r1)) + 2)), r2) else none) else none) else (if (0 : Int) ≤ a1 ∧ a1 ≤ (List.length a0) then (strings_HasPrefix N (List.drop (Int.toNat a1) a0) [61, 61]).bind fun r1 => bif r1 then (some ((Tok.mk 4 0 a1 [61, 61]), (IntKind.i64.wrap (a1 + 2)), true)) else (if (0 : Int) ≤ a1 ∧ a1 ≤ (IntKind.i64.wrap (a1 + 1)) ∧ (IntKind.i64.wrap (a1 + 1)) ≤ (List.length a0) then (strings_IndexByte N [40, 41, 91, 93, 44, 43, 45, 42, 60, 61] ((List.getD a0 (Int.toNat a1) 0).toNat : Int)).bind fun r2 =>
     some ((Tok.mk 4 0 a1 (List.drop (Int.toNat a1) (List.take (Int.toNat (IntKind.i64.wrap (a1 + 1))) a0))), (IntKind.i64.wrap (a1 + 1)), (decide (r2 ≥ 0))) else none) else none))) else (bif ((((List.getD a0 (Int.toNat a1) 0).toNat : Int) : Int) == 34) then (if (0 : Int) ≤ (IntKind.i64.wrap (a1 + 1)) ∧ (IntKind.i64.wrap (a1 + 1)) ≤ (List.length a0) then (strings_IndexByte N (List.drop (Int.toNat (IntKind.i64.wrap (a1 + 1))) a0) 34).bind fun r1 => bif (decide (r1 < 0)) then (some ((Tok.mk 0 0 0 []), 0, false)) else (if (0 : Int) ≤ (IntKind.i64.wrap (a1 + 1)) ∧ (IntKind.i64.wrap (a1 + 1)) ≤ (IntKind.i64.wrap ((IntKind.i64.wrap (a1 + 1)) + r1)) ∧ (IntKind.i64.wrap ((IntKind.i64.wrap (a1 + 1)) + r1)) ≤ (List.length a0) then (xCu N (List.drop (Int.toNat (IntKind.i64.wrap (a1 + 1))) (List.take (Int.toNat (IntKind.i64.wrap ((IntKind.i64.wrap (a1 + 1)) + r1))) a0))).bind fun r2 => some ((Tok.mk 3 0 a1 (List.drop (Int.toNat (IntKind.i64.wrap (a1 + 1))) (List.take (Int.toNat (IntKind.i64.wrap ((IntKind.i64.wrap (a1 + 1)) + r1))) a0))), (IntKind.i64.wrap ((IntKind.i64.wrap (a1 + r1)) + 2)), r2) else none) else none) else (if (0 : Int) ≤ a1 ∧ a1 ≤ (List.length a0) then (strings_HasPrefix N (List.drop (Int.toNat a1) a0) [61, 61]).bind fun r1 => bif r1 then (some ((Tok.mk 4 0 a1 [61, 61]), (IntKind.i64.wrap (a1 + 2)), true)) else (if (0 : Int) ≤ a1 ∧ a1 ≤ (IntKind.i64.wrap (a1 + 1)) ∧ (IntKind.i64.wrap (a1 + 1)) ≤ (List.length a0) then (strings_IndexByte N [40, 41, 91, 93, 44, 43, 45, 42, 60, 61] ((List.getD a0 (Int.toNat a1) 0).toNat : Int)).bind fun r2 => some ((Tok.mk 4 0 a1 (List.drop (Int.toNat a1) (List.take (Int.toNat (IntKind.i64.wrap (a1 + 1))) a0))), (IntKind.i64.wrap (a1 + 1)), (decide (r2 ≥ 0))) else none) else none)))) else (bif (decide ((((List.getD a0 (Int.toNat a1) 0).toNat : Int) : Int) ≥ 48)) then (bif (decide ((((List.getD a0 (Int.toNat a1) 0).toNat : Int) : Int) ≤ 57)) then ((xCk N N a0 a1 a1 (Tok.mk 0 0 0 []))
     ) else (bif ((((List.getD a0 (Int.toNat a1) 0).toNat : Int) : Int) == 34) then (if (0 : Int) ≤ (IntKind.i64.wrap (a1 + 1)) ∧ (IntKind.i64.wrap (a1 + 1)) ≤ (List.length a0) then (strings_IndexByte N (List.drop (Int.toNat (IntKind.i64.wrap (a1 + 1))) a0) 34).bind fun r1 => bif (decide (r1 < 0)) then (some ((Tok.mk 0 0 0 []), 0, false)) else (if (0 : Int) ≤ (IntKind.i64.wrap (a1 + 1)) ∧ (IntKind.i64.wrap (a1 + 1)) ≤ (IntKind.i64.wrap ((IntKind.i64.wrap (a1 + 1)) + r1)) ∧ (IntKind.i64.wrap ((IntKind.i64.wrap (a1 + 1)) + r1)) ≤ (List.length a0) then (xCu N (List.drop (Int.toNat (IntKind.i64.wrap (a1 + 1))) (List.take (Int.toNat (IntKind.i64.wrap ((IntKind.i64.wrap (a1 + 1)) + r1))) a0))).bind fun r2 => some ((Tok.mk 3 0 a1 (List.drop (Int.toNat (IntKind.i64.wrap (a1 + 1))) (List.take (Int.toNat (IntKind.i64.wrap ((IntKind.i64.wrap (a1 + 1)) + r1))) a0))), (IntKind.i64.wrap ((IntKind.i64.wrap (a1 + r1)) + 2)), r2) else none) else none) else (if (0 : Int) ≤ a1 ∧ a1 ≤ (List.length a0) then (strings_HasPrefix N (List.drop (Int.toNat a1) a0) [61, 61]).bind fun r1 => bif r1 then (some ((Tok.mk 4 0 a1 [61, 61]), (IntKind.i64.wrap (a1 + 2)), true)) else (if (0 : Int) ≤ a1 ∧ a1 ≤ (IntKind.i64.wrap (a1 + 1)) ∧ (IntKind.i64.wrap (a1 + 1)) ≤ (List.length a0) then (strings_IndexByte N [40, 41, 91, 93, 44, 43, 45, 42, 60, 61] ((List.getD a0 (Int.toNat a1) 0).toNat : Int)).bind fun r2 => some ((Tok.mk 4 0 a1 (List.drop (Int.toNat a1) (List.take (Int.toNat (IntKind.i64.wrap (a1 + 1))) a0))), (IntKind.i64.wrap (a1 + 1)), (decide (r2 ≥ 0))) else none) else none))) else (bif ((((List.getD a0 (Int.toNat a1) 0).toNat : Int) : Int) == 34) then (if (0 : Int) ≤ (IntKind.i64.wrap (a1 + 1)) ∧ (IntKind.i64.wrap (a1 + 1)) ≤ (List.length a0) then (strings_IndexByte N (List.drop (Int.toNat (IntKind.i64.wrap (a1 + 1))) a0) 34).bind fun r1 => bif (decide (r1 < 0)) then (some ((Tok.mk 0 0 0 []), 0, false)) else (if (0 : Int) ≤ (IntKind.i64.wrap (a1 + 1)) ∧ (IntKind.i64.wrap (a1 + 1)) ≤ (IntKind.i64.wrap ((IntKind.i64.wrap (a1 + 1)) + r1)) ∧ (IntKind.i64.wrap ((IntKind.i64.wrap (a1 + 1)) + r1)) ≤ (List.length a0) then
        (xCu N (List.drop (Int.toNat (IntKind.i64.wrap (a1 + 1))) (List.take (Int.toNat (IntKind.i64.wrap ((IntKind.i64.wrap (a1 + 1)) + r1))) a0))).bind fun r2 => some ((Tok.mk 3 0 a1 (List.drop (Int.toNat (IntKind.i64.wrap (a1 + 1))) (List.take (Int.toNat (IntKind.i64.wrap ((IntKind.i64.wrap (a1 + 1)) + r1))) a0))), (IntKind.i64.wrap ((IntKind.i64.wrap (a1 + r1)) + 2)), r2) else none) else none) else (if (0 : Int) ≤ a1 ∧ a1 ≤ (List.length a0) then (strings_HasPrefix N (List.drop (Int.toNat a1) a0) [61, 61]).bind fun r1 => bif r1 then (some ((Tok.mk 4 0 a1 [61, 61]), (IntKind.i64.wrap (a1 + 2)), true)) else (if (0 : Int) ≤ a1 ∧ a1 ≤ (IntKind.i64.wrap (a1 + 1)) ∧ (IntKind.i64.wrap (a1 + 1)) ≤ (List.length a0) then (strings_IndexByte N [40, 41, 91, 93, 44, 43, 45, 42, 60, 61] ((List.getD a0 (Int.toNat a1) 0).toNat : Int)).bind fun r2 => some ((Tok.mk 4 0 a1 (List.drop (Int.toNat a1) (List.take (Int.toNat (IntKind.i64.wrap (a1 + 1))) a0))), (IntKind.i64.wrap (a1 + 1)), (decide (r2 ≥ 0))) else none) else none))) else none
def xEb (a0 : Str) : List Arg := [.val (.v false [.str a0])]
def xAE (r : (List Tok) × Int) : CallO := ⟨.tup [(false, [.sl .own .tok r.1]), (false, [.int .i64 r.2])], [], []⟩
def xDj (N : Nat) : Nat → Str → (List Tok) → Int → Option ((List Tok) × Int)
 | 0, _, _, _ => none
 | n + 1, x0, x4, x5 => bif (decide (x5 < (List.length x0 : Int))) then (if (0 : Int) ≤ x5 ∧ x5 < (List.length x0) then bif ((((List.getD x0 (Int.toNat x5) 0).toNat : Int) : Int) == 32) then ((xDj N n x0 x4 (IntKind.i64.wrap (x5 + 1)))) else ((xFk N x0 x5).bind fun r1 => bif (!r1.2.2) then (some ([], x5)) else (bif ((List.length x4 : Int) == 60) then (some ([], x5)) else (if List.length x4 + List.length [r1.1] ≤ Lim then (xDj N n x0 (x4 ++ [r1.1]) r1.2.1) else none))) else none) else (some (x4, (-1)))
def xEw (N : Nat) (a0 : Str) : Option ((List Tok) × Int) := bif (decide ((List.length a0 : Int) > 120)) then (some ([], 120)) else ((xDj N N a0 [] 0))
def xCx (a0 : Psr) : List Arg := [.box (Ps .ro a0)]
def xAf (r : Tok × Psr) : CallO := ⟨.v true [.int .i64 (Tok.kind r.1), .int .i64 (Tok.n r.1), .int .i64 (Tok.pos r.1), .str (Tok.text r.1)], [(Ps .ro r.2)], []⟩
def xBf (N : Nat) (a0 : Psr) : Option (Tok × Psr) := bif (decide ((Psr.bad a0) < 0)) then (bif (decide ((Psr.pos a0) < (List.length (Psr.list a0) : Int))) then (if (0 : Int) ≤ (Psr.pos a0) ∧ (Psr.pos a0) < (List.length (Psr.list a0)) then some ((List.getD (Psr.list a0) (Int.toNat (Psr.pos a0)) Ty.tok.dflt), a0) else none) else (some ((Tok.mk 0 0 0 []), a0))) else (some ((Tok.mk 0 0 0 []), a0))
def xBb (a0 : Tok) (a1 : Str) : List Arg := [.val (.v true [.int .i64 (Tok.kind a0), .int .i64 (Tok.n a0), .int .i64 (Tok.pos a0), .str (Tok.text a0)]), .val (.v false [.str a1])]
def xAs (r : Bool) : CallO := ⟨.v false [.bool r], [], []⟩
def xDo (N : Nat) (a0 : Tok) (a1 : Str) : Option (Bool) := bif ((Tok.kind a0) == 1) then (some (((Tok.text a0) : Str) == a1)) else (some false)
def xCl (a0 : Int) (a1 : Int) (a2 : Int) : List Arg := [.val (.v false [.int .i64 a0]), .val (.v false [.int .i64 a1]), .val (.v false [.int .i64 a2])]
def xAT (r : Bool) : CallO := ⟨.v false [.bool r], [], []⟩
def xEl (N : Nat) (a0 : Int) (a1 : Int) (a2 : Int) : Option (Bool) := bif (decide (a1 ≤ a0)) then (some (decide (a0 ≤ a2))) else (some false)
def xEF (a0 : Str) : List Arg := [.val (.v false [.str a0])]
def xBE (r : Bool) : CallO := ⟨.v false [.bool r], [], []⟩
def xC4 (N : Nat) : Nat → Str → Int → Option (Bool)
 | 0, _, _ => none
 | n + 1, x0, x3 => bif (decide (x3 < (List.length x0 : Int))) then (if (0 : Int) ≤ x3 ∧ x3 < (List.length x0) then bif (decide ((((List.getD x0 (Int.toNat x3) 0).toNat : Int) : Int) ≥ 97)) then (bif (!(decide ((((List.getD x0 (Int.toNat x3) 0).toNat : Int) : Int) ≤ 122))) then (bif (x3 == 0) then (some false) else (bif (decide ((((List.getD x0 (Int.toNat x3) 0).toNat : Int) : Int) < 48)) then (some false) else (bif (decide ((((List.getD x0 (Int.toNat x3) 0).toNat : Int) : Int) > 57)) then (some false) else ((xC4 N n x0 (IntKind.i64.wrap (x3 + 1))))))) else ((xC4 N n x0 (IntKind.i64.wrap (x3 + 1))))) else (bif (x3 == 0) then (some false) else (bif (decide ((((List.getD x0 (Int.toNat x3) 0).toNat : Int) : Int) < 48)) then (some false) else (bif (decide ((((List.getD x0 (Int.toNat x3) 0).toNat : Int) : Int) > 57)) then (some false) else ((xC4 N n x0 (IntKind.i64.wrap (x3 + 1))))))) else none) else ((xEl N (List.length x0 : Int) 1 8).bind fun r1 => some r1)
def xGp (N : Nat) (a0 : Str) : Option (Bool) := (xC4 N N a0 0)
def xAj (a0 : Str) : List Arg := [.val (.v false [.str a0])]
def xAg (r : Int) : CallO := ⟨.v false [.int .i64 r], [], []⟩
def xCg (N : Nat) (a0 : Str) : Option (Int) := bif ((a0 : Str) == [99, 108, 111, 99, 107]) then (some 0) else (bif ((a0 : Str) == [108, 101, 110]) then (some 1) else (bif ((a0 : Str) == [115, 117, 109]) then (some 1) else (bif ((a0 : Str) == [114, 111, 119, 115]) then (some 1) else (bif ((a0 : Str) == [99, 104, 97, 110, 99, 101]) then (some 1) else (bif ((a0 : Str) == [102, 105, 108, 101]) then (some 1) else (bif ((a0 : Str) == [116, 97, 107, 101]) then (some 2) else (bif ((a0 : Str) == [115, 107, 105, 112]) then (some 2) else (bif ((a0 : Str) == [114, 97, 110, 103, 101]) then (some 2) else (bif ((a0 : Str) == [110, 116, 104]) then (some 2) else (bif ((a0 : Str) == [107, 101, 101, 112]) then (some 2) else (bif ((a0 : Str) == [99, 111, 108, 117, 109, 110]) then (some 2) else (bif ((a0 : Str) == [116, 97, 98, 108, 101]) then (some 2) else (bif ((a0 : Str) == [119, 104, 101, 114, 101]) then (some 3) else (bif ((a0 : Str) == [103, 114, 111, 117, 112]) then (some 3) else (bif ((a0 : Str) == [106, 111, 105, 110]) then (some 3) else (bif ((a0 : Str) == [97, 100, 100]) then (some 4) else (some (-1))))))))))))))))))
def xBs (a0 : Str) : List Arg := [.val (.v false [.str a0])]
def xBe (r : Bool) : CallO := ⟨.v false [.bool r], [], []⟩
def xEj (N : Nat) (a0 : Str) : Option (Bool) := bif ((a0 : Str) == [108, 101, 116]) then (some true) else (bif ((a0 : Str) == [105, 110]) then (some true) else (bif ((a0 : Str) == [105, 102]) then (some true) else (bif ((a0 : Str) == [116, 104, 101, 110]) then (some true) else (bif ((a0 : Str) == [101, 108, 115, 101]) then (some true) else (bif ((a0 : Str) == [102, 111, 114]) then (some true) else (bif ((a0 : Str) == [100, 111]) then (some true) else ((xCg N a0).bind fun r1 => some (decide (r1 ≥ 0)))))))))
def xCU (a0 : Str) : List Arg := [.val (.v false [.str a0])]
def xAy (r : Bool) : CallO := ⟨.v false [.bool r], [], []⟩
def xCt (N : Nat) (a0 : Str) : Option (Bool) := (xGp N a0).bind fun r1 => bif r1 then ((xEj N a0).bind fun r2 => some (!r2)) else (some false)
def xBJ (a0 : Psr) : List Arg := [.box (Ps .ro a0)]
def xAO (r : Exp × Psr) : CallO := ⟨.v true (Ex .own r.1), [(Ps .ro r.2)], []⟩
def xBA (N : Nat) (a0 : Psr) : Option (Exp × Psr) := bif (decide ((Psr.bad a0) < 0)) then (some ((Exp.mk 0 0 [] []), (Psr.mk (Psr.list a0) (Psr.pos a0) (Psr.pos a0)))) else (some ((Exp.mk 0 0 [] []), a0))
def xCY (a0 : Psr) : List Arg := [.box (Ps .ro a0)]
def xB2 (r : Str × Psr) : CallO := ⟨.v false [.str r.1], [(Ps .ro r.2)], []⟩
def xBB (N : Nat) (a0 : Psr) : Option (Str × Psr) := (xBf N a0).bind fun r1 => bif ((Tok.kind r1.1) != 1) then ((xBA N r1.2).bind fun r2 => some ([], r2.2)) else ((xCt N (Tok.text r1.1)).bind fun r2 => bif (!r2) then ((xBA N r1.2).bind fun r3 => some ([], r3.2)) else (some ((Tok.text r1.1), (Psr.mk (Psr.list r1.2) (IntKind.i64.wrap ((Psr.pos r1.2) + 1)) (Psr.bad r1.2)))))
def xCM (a0 : Tok) (a1 : Str) : List Arg := [.val (.v true [.int .i64 (Tok.kind a0), .int .i64 (Tok.n a0), .int .i64 (Tok.pos a0), .str (Tok.text a0)]), .val (.v false [.str a1])]
def xBz (r : Bool) : CallO := ⟨.v false [.bool r], [], []⟩
def xEv (N : Nat) (a0 : Tok) (a1 : Str) : Option (Bool) := bif ((Tok.kind a0) == 4) then (some (((Tok.text a0) : Str) == a1)) else (some false)
def xAL (a0 : Psr) (a1 : Str) : List Arg := [.box (Ps .ro a0), .val (.v false [.str a1])]
def xAo (r : Psr) : CallO := ⟨.tup [], [(Ps .ro r)], []⟩
def xAw (N : Nat) (a0 : Psr) (a1 : Str) : Option (Psr) := (xBf N a0).bind fun r1 => (xDo N r1.1 a1).bind fun r2 => bif r2 then (some (Psr.mk (Psr.list r1.2) (IntKind.i64.wrap ((Psr.pos r1.2) + 1)) (Psr.bad r1.2))) else ((xBf N r1.2).bind fun r3 => (xEv N r3.1 a1).bind fun r4 => bif r4 then (some (Psr.mk (Psr.list r3.2) (IntKind.i64.wrap ((Psr.pos r3.2) + 1)) (Psr.bad r3.2))) else ((xBA N r3.2).bind fun r5 => some r5.2))
def xAm (a0 : Psr) (a1 : Str) : List Arg := [.box (Ps .ro a0), .val (.v false [.str a1])]
def xAc (r : Bool × Psr) : CallO := ⟨.v false [.bool r.1], [(Ps .ro r.2)], []⟩
def xAA (N : Nat) (a0 : Psr) (a1 : Str) : Option (Bool × Psr) := (xBf N a0).bind fun r1 => (xEv N r1.1 a1).bind fun r2 => bif r2 then (some (true, (Psr.mk (Psr.list r1.2) (IntKind.i64.wrap ((Psr.pos r1.2) + 1)) (Psr.bad r1.2)))) else (some (false, r1.2))
def xDI (a0 : Int) : List Arg := [.val (.v false [.int .i64 a0])]
def xCN (r : Str) : CallO := ⟨.v false [.str r], [], []⟩
def xEZ (N : Nat) (a0 : Int) : Option (Str) := (xEl N a0 1 5).bind fun r1 => bif (!r1) then (some [63]) else (if (0 : Int) ≤ (IntKind.i64.wrap (a0 - 1)) ∧ (IntKind.i64.wrap (a0 - 1)) < (List.length [[43], [45], [42], [60], [61, 61]]) then some (List.getD [[43], [45], [42], [60], [61, 61]] (Int.toNat (IntKind.i64.wrap (a0 - 1))) Ty.str.dflt) else none)
def xAK (a0 : Psr) : List Arg := [.box (Ps .ro a0)]
def xAD (r : Exp × Psr) : CallO := ⟨.v true (Ex .own r.1), [(Ps .ro r.2)], []⟩
def xB0 (N : Nat) (q0 : Psr → Option (Exp × Psr)) (q1 : Psr → Option (Exp × Psr)) (q2 : Psr → Str → Option ((List Exp) × Psr)) (q3 : Psr → Option (Exp × Psr)) (q4 : Psr → Option (Exp × Psr)) (a0 : Psr) : Option (Exp × Psr) := (xBf N a0).bind fun r1 => bif ((Tok.kind r1.1) == 2) then (some ((Exp.mk 1 (Tok.n r1.1) [] []), (Psr.mk (Psr.list r1.2) (IntKind.i64.wrap ((Psr.pos r1.2) + 1)) (Psr.bad r1.2)))) else (bif ((Tok.kind r1.1) == 3) then (some ((Exp.mk 2 0 (Tok.text r1.1) []), (Psr.mk (Psr.list r1.2) (IntKind.i64.wrap ((Psr.pos r1.2) + 1)) (Psr.bad r1.2)))) else (bif ((Tok.kind r1.1) == 1) then ((xCt N (Tok.text r1.1)).bind fun r2 => bif r2 then (some ((Exp.mk 3 0 (Tok.text r1.1) []), (Psr.mk (Psr.list r1.2) (IntKind.i64.wrap ((Psr.pos r1.2) + 1)) (Psr.bad r1.2)))) else ((xCg N (Tok.text r1.1)).bind fun r3 => bif (decide (r3 ≥ 0)) then ((xAw N (Psr.mk (Psr.list r1.2) (IntKind.i64.wrap ((Psr.pos r1.2) + 1)) (Psr.bad r1.2)) [40]).bind fun r4 => (q2 r4 [41]).bind fun r5 => some ((Exp.mk 5 0 (Tok.text r1.1) r5.1), r5.2)) else ((xAA N r1.2 [91]).bind fun r4 => bif r4.1 then ((q2 r4.2 [93]).bind fun r5 => some ((Exp.mk 4 0 [] r5.1), r5.2)) else ((xAA N r4.2 [40]).bind fun r5 => bif r5.1 then ((q1 r5.2).bind fun r6 => (xAw N r6.2 [41]).bind fun r7 => some (r6.1, r7)) else ((xBA N r5.2).bind fun r6 => some (r6.1, r6.2)))))) else ((xAA N r1.2 [91]).bind fun r2 => bif r2.1 then ((q2 r2.2 [93]).bind fun r3 => some ((Exp.mk 4 0 [] r3.1), r3.2)) else ((xAA N r2.2 [40]).bind fun r3 => bif r3.1 then ((q1 r3.2).bind fun r4 => (xAw N r4.2 [41]).bind fun r5 => some (r4.1, r5)) else ((xBA N r3.2).bind fun r4 => some (r4.1, r4.2))))))
def xAZ (a0 : Psr) : List Arg := [.box (Ps .ro a0)]
def xAe (r : Exp × Psr) : CallO := ⟨.v true (Ex .own r.1), [(Ps .ro r.2)], []⟩
def xCb (N : Nat) (q0 : Psr → Option (Exp × Psr)) (q1 : Psr → Option (Exp × Psr)) (q2 : Psr → Str → Option ((List Exp) × Psr)) (q3 : Psr → Option (Exp × Psr)) (q4 : Psr → Option (Exp × Psr)) : Nat → (List Int) → Int → Int → Psr → Exp → Exp → Option (Exp × Psr)
 | 0, _, _, _, _, _, _ => none
 | n + 1, x115, x116, x117, b0, b2, b6 => bif (decide (x117 < x116)) then (if (0 : Int) ≤ x117 ∧ x117 < (List.length x115) then (xEZ N (List.getD x115 (Int.toNat x117) Ty.int.dflt)).bind fun r1 => (xAA N b0 r1).bind fun r2 => bif r2.1 then ((q4 r2.2).bind fun r3 => some ((Exp.mk 6 (List.getD x115 (Int.toNat x117) Ty.int.dflt) [] [(Exp.re b6), (Exp.re r3.1)]), r3.2)) else ((xCb N q0 q1 q2 q3 q4 n x115 x116 (IntKind.i64.wrap (x117 + 1)) r2.2 b2 b6)) else none) else (some (b6, b0))
def xB1 (N : Nat) (q0 : Psr → Option (Exp × Psr)) (q1 : Psr → Option (Exp × Psr)) (q2 : Psr → Str → Option ((List Exp) × Psr)) (q3 : Psr → Option (Exp × Psr)) (q4 : Psr → Option (Exp × Psr)) (a0 : Psr) : Option (Exp × Psr) := (xBf N a0).bind fun r1 => (xDo N r1.1 [108, 101, 116]).bind fun r2 => bif r2 then ((xBB N (Psr.mk (Psr.list r1.2) (IntKind.i64.wrap ((Psr.pos r1.2) + 1)) (Psr.bad r1.2))).bind fun r3 => (xAw N r3.2 [61]).bind fun r4 => (q1 r4).bind fun r5 => if 0 + List.length [(Exp.re r5.1)] ≤ Lim then (xAw N r5.2 [105, 110]).bind fun r6 => (q1 r6).bind fun r7 => if List.length ([] ++ [(Exp.re r5.1)]) + List.length [(Exp.re r7.1)] ≤ Lim then some ((Exp.mk 7 0 r3.1 (([] ++ [(Exp.re r5.1)]) ++ [(Exp.re r7.1)])), r7.2) else none else none) else ((xBf N r1.2).bind fun r3 => (xDo N r3.1 [105, 102]).bind fun r4 => bif r4 then ((q1 (Psr.mk (Psr.list r3.2) (IntKind.i64.wrap ((Psr.pos r3.2) + 1)) (Psr.bad r3.2))).bind fun r5 => if 0 + List.length [(Exp.re r5.1)] ≤ Lim then (xAw N r5.2 [116, 104, 101, 110]).bind fun r6 => (q1 r6).bind fun r7 => if List.length ([] ++ [(Exp.re r5.1)]) + List.length [(Exp.re r7.1)] ≤ Lim then (xAw N r7.2 [101, 108, 115, 101]).bind fun r8 => (q1 r8).bind fun r9 => if List.length (([] ++ [(Exp.re r5.1)]) ++ [(Exp.re r7.1)]) + List.length [(Exp.re r9.1)] ≤ Lim then some ((Exp.mk 8 0 [] ((([] ++ [(Exp.re r5.1)]) ++ [(Exp.re r7.1)]) ++ [(Exp.re r9.1)])), r9.2) else none else none else none) else ((xBf N r3.2).bind fun r5 => (xDo N r5.1 [102, 111, 114]).bind fun r6 => bif r6 then ((xBB N (Psr.mk (Psr.list r5.2) (IntKind.i64.wrap ((Psr.pos r5.2) + 1)) (Psr.bad r5.2))).bind fun r7 => (xAw N r7.2 [105, 110]).bind fun r8 => (q1 r8).bind fun r9 =>
     if 0 + List.length [(Exp.re r9.1)] ≤ Lim then (xAw N r9.2 [100, 111]).bind fun r10 => (q1 r10).bind fun r11 => if List.length ([] ++ [(Exp.re r9.1)]) + List.length [(Exp.re r11.1)] ≤ Lim then some ((Exp.mk 9 0 r7.1 (([] ++ [(Exp.re r9.1)]) ++ [(Exp.re r11.1)])), r11.2) else none else none) else ((q4 r5.2).bind fun r7 => (xCb N q0 q1 q2 q3 q4 N [4, 5] (List.length [4, 5] : Int) 0 r7.2 (Exp.mk 0 0 [] []) r7.1))))
def xBR (a0 : Psr) (a1 : Str) : List Arg := [.box (Ps .ro a0), .val (.v false [.str a1])]
def xAR (r : (List Exp) × Psr) : CallO := ⟨.v false [.sl .own .exp r.1], [(Ps .ro r.2)], []⟩
def xBS (N : Nat) (q0 : Psr → Option (Exp × Psr)) (q1 : Psr → Option (Exp × Psr)) (q2 : Psr → Str → Option ((List Exp) × Psr)) (q3 : Psr → Option (Exp × Psr)) (q4 : Psr → Option (Exp × Psr)) : Nat → Str → (List Exp) → Psr → Option ((List Exp) × Psr)
 | 0, _, _, _ => none
 | n + 1, x1, x5, b0 => bif (decide ((Psr.bad b0) < 0)) then ((q1 b0).bind fun r1 => if List.length x5 + List.length [(Exp.re r1.1)] ≤ Lim then (xAA N r1.2 x1).bind fun r2 => bif r2.1 then (some ((x5 ++ [(Exp.re r1.1)]), r2.2)) else ((xAw N r2.2 [44]).bind fun r3 => (xBS N q0 q1 q2 q3 q4 n x1 (x5 ++ [(Exp.re r1.1)]) r3)) else none) else (some (x5, b0))
def xBU (N : Nat) (q0 : Psr → Option (Exp × Psr)) (q1 : Psr → Option (Exp × Psr)) (q2 : Psr → Str → Option ((List Exp) × Psr)) (q3 : Psr → Option (Exp × Psr)) (q4 : Psr → Option (Exp × Psr)) (a0 : Psr) (a1 : Str) : Option ((List Exp) × Psr) := (xAA N a0 a1).bind fun r1 => bif r1.1 then (some ([], r1.2)) else ((xBS N q0 q1 q2 q3 q4 N a1 [] r1.2))
def xBV (a0 : Psr) : List Arg := [.box (Ps .ro a0)]
def xAU (r : Exp × Psr) : CallO := ⟨.v true (Ex .own r.1), [(Ps .ro r.2)], []⟩
def xBy (N : Nat) (q0 : Psr → Option (Exp × Psr)) (q1 : Psr → Option (Exp × Psr)) (q2 : Psr → Str → Option ((List Exp) × Psr)) (q3 : Psr → Option (Exp × Psr)) (q4 : Psr → Option (Exp × Psr)) : Nat → Psr → Exp → Exp → Option (Exp × Psr)
 | 0, _, _, _ => none
 | n + 1, b0, b2, b3 => (xAA N b0 [42]).bind fun r1 => bif r1.1 then ((q0 r1.2).bind fun r2 => (xBy N q0 q1 q2 q3 q4 n r2.2 b2 (Exp.mk 6 3 [] [(Exp.re b3), (Exp.re r2.1)]))) else (some (b3, r1.2))
def xBD (N : Nat) (q0 : Psr → Option (Exp × Psr)) (q1 : Psr → Option (Exp × Psr)) (q2 : Psr → Str → Option ((List Exp) × Psr)) (q3 : Psr → Option (Exp × Psr)) (q4 : Psr → Option (Exp × Psr)) (a0 : Psr) : Option (Exp × Psr) := (q0 a0).bind fun r1 => (xBy N q0 q1 q2 q3 q4 N r1.2 (Exp.mk 0 0 [] []) r1.1)
def xDg (a0 : Psr) : List Arg := [.box (Ps .ro a0)]
def xBG (r : Exp × Psr) : CallO := ⟨.v true (Ex .own r.1), [(Ps .ro r.2)], []⟩
def xBF (N : Nat) (q0 : Psr → Option (Exp × Psr)) (q1 : Psr → Option (Exp × Psr)) (q2 : Psr → Str → Option ((List Exp) × Psr)) (q3 : Psr → Option (Exp × Psr)) (q4 : Psr → Option (Exp × Psr)) : Nat → Psr → Exp → Exp → Option (Exp × Psr)
 | 0, _, _, _ => none
 | n + 1, b0, b2, b3 => bif (decide ((Psr.bad b0) < 0)) then ((xAA N b0 [43]).bind fun r1 => bif (!r1.1) then ((xAA N r1.2 [45]).bind fun r2 => bif (!r2.1) then (some (b3, r2.2)) else ((q3 r2.2).bind fun r3 => (xBF N q0 q1 q2 q3 q4 n r3.2 b2 (Exp.mk 6 2 [] [(Exp.re b3), (Exp.re r3.1)])))) else ((q3 r1.2).bind fun r2 => (xBF N q0 q1 q2 q3 q4 n r2.2 b2 (Exp.mk 6 1 [] [(Exp.re b3), (Exp.re r2.1)])))) else (some (b3, b0))
def xCc (N : Nat) (q0 : Psr → Option (Exp × Psr)) (q1 : Psr → Option (Exp × Psr)) (q2 : Psr → Str → Option ((List Exp) × Psr)) (q3 : Psr → Option (Exp × Psr)) (q4 : Psr → Option (Exp × Psr)) (a0 : Psr) : Option (Exp × Psr) := (q3 a0).bind fun r1 => (xBF N q0 q1 q2 q3 q4 N r1.2 (Exp.mk 0 0 [] []) r1.1)
structure impl_parser_atom_rec where
 c_impl_parser_atom : Psr → Option (Exp × Psr)
 c_impl_parser_expr : Psr → Option (Exp × Psr)
 c_impl_parser_list2 : Psr → Str → Option ((List Exp) × Psr)
 c_impl_parser_product : Psr → Option (Exp × Psr)
 c_impl_parser_sum : Psr → Option (Exp × Psr)
def xAb (N : Nat) : Nat → impl_parser_atom_rec
 | 0 => ⟨fun _ => none, fun _ => none, fun _ _ => none, fun _ => none, fun _ => none⟩
 | d + 1 => ⟨xB0 N (xAb N d).c_impl_parser_atom (xAb N d).c_impl_parser_expr (xAb N d).c_impl_parser_list2 (xAb N d).c_impl_parser_product (xAb N d).c_impl_parser_sum, xB1 N (xAb N d).c_impl_parser_atom (xAb N d).c_impl_parser_expr (xAb N d).c_impl_parser_list2 (xAb N d).c_impl_parser_product (xAb N d).c_impl_parser_sum, xBU N (xAb N d).c_impl_parser_atom (xAb N d).c_impl_parser_expr (xAb N d).c_impl_parser_list2 (xAb N d).c_impl_parser_product (xAb N d).c_impl_parser_sum, xBD N (xAb N d).c_impl_parser_atom (xAb N d).c_impl_parser_expr (xAb N d).c_impl_parser_list2 (xAb N d).c_impl_parser_product (xAb N d).c_impl_parser_sum, xCc N (xAb N d).c_impl_parser_atom (xAb N d).c_impl_parser_expr (xAb N d).c_impl_parser_list2 (xAb N d).c_impl_parser_product (xAb N d).c_impl_parser_sum⟩
def xEK (N : Nat) (a0 : Psr) : Option (Exp × Psr) := (xAb N N).c_impl_parser_expr a0
def xCa (a0 : Exp) : List Arg := [.val (.v true (Ex .ro a0))]
def xA3 (r : Int) : CallO := ⟨.v false [.int .i64 r], [], []⟩
def xCX (N : Nat) (q0 : Exp → Option (Int)) : Nat → Int → (List Exp) → Int → Int → Option (Int)
 | 0, _, _, _, _ => none
 | n + 1, x3, x7, x8, x9 => bif (decide (x9 < x8)) then (if (0 : Int) ≤ x9 ∧ x9 < (List.length x7) then (q0 (List.getD x7 (Int.toNat x9) Ty.exp.dflt)).bind fun r1 => (xCX N q0 n (IntKind.i64.wrap (x3 + r1)) x7 x8 (IntKind.i64.wrap (x9 + 1))) else none) else (some x3)
def xER (N : Nat) (q0 : Exp → Option (Int)) (a0 : Exp) : Option (Int) := (xCX N q0 N 1 (Exp.args a0) (List.length (Exp.args a0) : Int) 0)
def xDf (N : Nat) : Nat → Exp → Option (Int)
 | 0, _ => none
 | d + 1, a0 => xER N (xDf N d) a0
def xF4 (N : Nat) (a0 : Exp) : Option (Int) := xDf N N a0
def xCz (a0 : Exp) : List Arg := [.val (.v true (Ex .ro a0))]
def xBm (r : Int) : CallO := ⟨.v false [.int .i64 r], [], []⟩
def xDu (N : Nat) (q0 : Exp → Option (Int)) : Nat → Int → (List Exp) → Int → Int → Option (Int)
 | 0, _, _, _, _ => none
 | n + 1, x3, x7, x8, x9 => bif (decide (x9 < x8)) then (if (0 : Int) ≤ x9 ∧ x9 < (List.length x7) then (q0 (List.getD x7 (Int.toNat x9) Ty.exp.dflt)).bind fun r1 => (xDu N q0 n (if r1 > x3 then r1 else x3) x7 x8 (IntKind.i64.wrap (x9 + 1))) else none) else (some (IntKind.i64.wrap (x3 + 1)))
def xEQ (N : Nat) (q0 : Exp → Option (Int)) (a0 : Exp) : Option (Int) := (xDu N q0 N 0 (Exp.args a0) (List.length (Exp.args a0) : Int) 0)
def xDN (N : Nat) : Nat → Exp → Option (Int)
 | 0, _ => none
 | d + 1, a0 => xEQ N (xDN N d) a0
def xF3 (N : Nat) (a0 : Exp) : Option (Int) := xDN N N a0
def xAu (a0 : Exp) : List Arg := [.val (.v true (Ex .ro a0))]
def xAB (r : Bool) : CallO := ⟨.v false [.bool r], [], []⟩
def xFF (N : Nat) (a0 : Exp) : Option (Bool) := bif ((Exp.kind a0) == 1) then ((xEl N (Exp.n a0) 0 1000000000).bind fun r1 => bif r1 then (bif (((Exp.text a0) : Str) == []) then (some ((List.length (Exp.args a0) : Int) == 0)) else (some false)) else (some false)) else (bif ((Exp.kind a0) == 2) then (bif ((Exp.n a0) == 0) then ((xCu N (Exp.text a0)).bind fun r1 => bif r1 then (some ((List.length (Exp.args a0) : Int) == 0)) else (some false)) else (some false)) else (bif ((Exp.kind a0) == 3) then (bif ((Exp.n a0) == 0) then ((xCt N (Exp.text a0)).bind fun r1 => bif r1 then (some ((List.length (Exp.args a0) : Int) == 0)) else (some false)) else (some false)) else (bif ((Exp.kind a0) == 4) then (bif ((Exp.n a0) == 0) then (bif (((Exp.text a0) : Str) == []) then (some (decide ((List.length (Exp.args a0) : Int) ≤ 8))) else (some false)) else (some false)) else (bif ((Exp.kind a0) == 5) then (bif ((Exp.n a0) == 0) then ((xCg N (Exp.text a0)).bind fun r1 => some ((List.length (Exp.args a0) : Int) == r1)) else (some false)) else (bif ((Exp.kind a0) == 6) then ((xEl N (Exp.n a0) 1 5).bind fun r1 => bif r1 then (bif (((Exp.text a0) : Str) == []) then (some ((List.length (Exp.args a0) : Int) == 2)) else (some false)) else (some false)) else (bif ((Exp.kind a0) == 7) then (bif ((Exp.n a0) == 0) then ((xCt N (Exp.text a0)).bind fun r1 => bif r1 then (some ((List.length (Exp.args a0) : Int) == 2)) else (some false)) else (some false)) else (bif ((Exp.kind a0) == 9) then (bif ((Exp.n a0) == 0) then ((xCt N (Exp.text a0)).bind fun r1 => bif r1 then (some ((List.length (Exp.args a0) : Int) == 2)) else (some false)) else (some false)) else (bif ((Exp.kind a0) == 8) then (bif ((Exp.n a0) == 0) then (bif (((Exp.text a0) : Str) == []) then (some ((List.length (Exp.args a0) : Int) == 3)
             ) else (some false)) else (some false)) else (some false)))))))))
def xCO (a0 : Exp) : List Arg := [.val (.v true (Ex .ro a0))]
def xBo (r : Bool) : CallO := ⟨.v false [.bool r], [], []⟩
def xDk (N : Nat) (q0 : Exp → Option (Bool)) : Nat → (List Exp) → Int → Int → Exp → Option (Bool)
 | 0, _, _, _, _ => none
 | n + 1, x6, x7, x8, b1 => bif (decide (x8 < x7)) then (if (0 : Int) ≤ x8 ∧ x8 < (List.length x6) then (q0 (List.getD x6 (Int.toNat x8) Ty.exp.dflt)).bind fun r1 => bif (!r1) then (some false) else ((xDk N q0 n x6 x7 (IntKind.i64.wrap (x8 + 1)) b1)) else none) else ((xFF N b1).bind fun r1 => some r1)
def xE0 (N : Nat) (q0 : Exp → Option (Bool)) (a0 : Exp) : Option (Bool) := (xDk N q0 N (Exp.args a0) (List.length (Exp.args a0) : Int) 0 a0)
def xDX (N : Nat) : Nat → Exp → Option (Bool)
 | 0, _ => none
 | d + 1, a0 => xE0 N (xDX N d) a0
def xGo (N : Nat) (a0 : Exp) : Option (Bool) := xDX N N a0
def xCS (a0 : Exp) : List Arg := [.val (.v true (Ex .ro a0))]
def xA5 (r : Bool) : CallO := ⟨.v false [.bool r], [], []⟩
def xCs (N : Nat) (a0 : Exp) : Option (Bool) := (xF4 N a0).bind fun r1 => bif (decide (r1 ≤ 40)) then ((xF3 N a0).bind fun r2 => bif (decide (r2 ≤ 8)) then ((xGo N a0).bind fun r3 => some r3) else (some false)) else (some false)
def xAQ (a0 : Str) : List Arg := [.val (.v false [.str a0])]
def xAY (r : Exp × Int) : CallO := ⟨.tup [(true, (Ex .own r.1)), (false, [.int .i64 r.2])], [], []⟩
def xDp (N : Nat) (a0 : Str) : Option (Exp × Int) := (xEw N a0).bind fun r1 => bif (decide (r1.2 ≥ 0)) then (some ((Exp.mk 0 0 [] []), r1.2)) else ((xEK N (Psr.mk r1.1 0 (-1))).bind fun r2 => bif (decide ((Psr.bad r2.2) < 0)) then (bif (decide ((Psr.pos r2.2) < (List.length r1.1 : Int))) then (bif (decide ((Psr.pos r2.2) ≥ (List.length r1.1 : Int))) then (some ((Exp.mk 0 0 [] []), (List.length a0 : Int))) else (bif (decide ((Psr.pos r2.2) ≥ 0)) then (if (0 : Int) ≤ (Psr.pos r2.2) ∧ (Psr.pos r2.2) < (List.length r1.1) then some ((Exp.mk 0 0 [] []), (Tok.pos (List.getD r1.1 (Int.toNat (Psr.pos r2.2)) Ty.tok.dflt))) else none) else ((xCs N r2.1).bind fun r3 => bif (!r3) then (some ((Exp.mk 0 0 [] []), 0)) else (some (r2.1, (-1)))))) else (bif (decide ((Psr.bad r2.2) ≥ (List.length r1.1 : Int))) then (some ((Exp.mk 0 0 [] []), (List.length a0 : Int))) else (bif (decide ((Psr.bad r2.2) ≥ 0)) then (if (0 : Int) ≤ (Psr.bad r2.2) ∧ (Psr.bad r2.2) < (List.length r1.1) then some ((Exp.mk 0 0 [] []), (Tok.pos (List.getD r1.1 (Int.toNat (Psr.bad r2.2)) Ty.tok.dflt))) else none) else ((xCs N r2.1).bind fun r3 => bif (!r3) then (some ((Exp.mk 0 0 [] []), 0)) else (some (r2.1, (-1))))))) else (bif (decide ((Psr.bad r2.2) ≥ (List.length r1.1 : Int))) then (some ((Exp.mk 0 0 [] []), (List.length a0 : Int))) else (bif (decide ((Psr.bad r2.2) ≥ 0)) then (if (0 : Int) ≤ (Psr.bad r2.2) ∧ (Psr.bad r2.2) < (List.length r1.1) then some ((Exp.mk 0 0 [] []), (Tok.pos (List.getD r1.1 (Int.toNat (Psr.bad r2.2)) Ty.tok.dflt))) else none) else ((xCs N r2.1).bind fun r3 => bif (!r3) then (some ((Exp.mk 0 0 [] []), 0)) else (some (r2.1, (-1)))))))
def xDO (a0 : Str) : List Arg := [.val (.v false [.str a0])]
def xCF (r : Bool) : CallO := ⟨.v false [.bool r], [], []⟩
def xEk (N : Nat) (a0 : Str) : Option (Bool) := (xDp N a0).bind fun r1 => some (decide (r1.2 ≥ 0))
def xCm (a0 : Str) : List Arg := [.val (.v false [.str a0])]
def xCn (r : Bool) : CallO := ⟨.v false [.bool r], [], []⟩
def xDE (N : Nat) (a0 : Str) : Option (Bool) := bif (decide ((List.length a0 : Int) > 1048576)) then (some true) else ((xEq N a0).bind fun r1 => (xEk N a0).bind fun r2 => bif (!((r2 : Bool) == r1)) then (some false) else (some true))
end Go.Ab
end
section
namespace Go.Ab
theorem xU1 {P : Program} {w : World} {nm : String} {k : IntKind} {zs : List Int} (h : Lib.TabIs P w nm k zs) : ∃ (g : Nat) (o : Obj), w.heap[g]? = some o ∧ ∀ w' : World, w'.heap[g]? = some o → Lib.TabIs P w' nm k zs := by
 unfold Lib.TabIs World.var? at h
 obtain ⟨g, hg, h⟩ := Option.bind_eq_some_iff.1 h
 split at h
 · rename_i cs ty fr hh
   refine ⟨g, _, hh, fun w' hw => ?_⟩
   unfold Lib.TabIs World.var?
   rw [hg, jS, hw]
   exact h
 · cases h
end Go.Ab
namespace Go.Ab
variable [Inhabited Lb]
open Go.Proofs Go.Shelf Go.RowKit Go.Lib
variable {P : Program} {ρ : Ren}
theorem xIG (L : Lays.n137 P ρ) : ∀ args w, (callFunc (ρ.f 137) args).run P w = .ok (.enter (ρ.f 137) args) w := enters_of L.f137 (by kernel_rfl) rfl
theorem xIF (L : Lays.n99 P ρ) : ∀ args w, (callFunc (ρ.f 99) args).run P w = .ok (.enter (ρ.f 99) args) w := enters_of L.f99 (by kernel_rfl) rfl
end Go.Ab
end
section
namespace Go.Ab
open Go.Proofs Go.Shelf Go.RowKit Go.Lib
variable {P : Program} {ρ : Ren}
def xRk (s : Str) (e : Ending) : Prop :=
 (∃ v, Lib.atoiAll s = .ok v ∧ e = .returned (.tuple #[.int .i64 v, .nilIface])) ∨ ((∀ v, Lib.atoiAll s ≠ .ok v) ∧ ∃ n t b, e = .returned (.tuple #[.int .i64 n, .iface t (.pointer (some ⟨b, 0, none⟩))]))
theorem xNY (L : LaysC.n172 P ρ) (s : ByteArray) (hl : s.size ≤ 1000000) (w : World) (he : (∃ t1 p1, w.var? P "strconv.ErrSyntax" = some #[.iface t1 p1]) ∧ ∃ t2 p2, w.var? P "strconv.ErrRange" = some #[.iface t2 p2]) :
 Calls P (ρ.f 172) #[.string s] w fun e w' => xRk s.data.toList e ∧ Below w.heap.size w w' := by
 obtain ⟨⟨t1, p1, h1⟩, t2, p2, h2⟩ := he
 cases hc : Lib.atoiAll s.data.toList with
 | ok v =>
   refine (Any.strconv_Atoi_ok L s (by omega) v hc w).mono ?_
   rintro e w' ⟨rfl, hw⟩
   refine ⟨.inl ⟨v, hc, rfl⟩, ?_⟩
   rcases hw with rfl | ⟨t, rfl⟩
   · exact Below.refl _ _
   · exact Lib.bytesWorld_below w _ t
 | range =>
   refine (Any.strconv_Atoi_range_var L s (by omega) hc t2 p2 w h2).mono ?_
   rintro e w' ⟨N, rfl, _, _, hb⟩
   exact ⟨.inr ⟨fun v h => (by rw [hc] at h; cases h), _, _, _, rfl⟩, hb⟩
 | _ =>
   refine (Any.strconv_Atoi_syntax_var L s (by omega) hc t1 p1 w h1).mono ?_
   rintro e w' ⟨N, rfl, _, _, hb⟩
   exact ⟨.inr ⟨fun v h => (by rw [hc] at h; cases h), _, _, _, rfl⟩, hb⟩
theorem xN8 (L : LaysM.n171 P ρ) (n : Int) (h0 : -9223372036854775808 ≤ n) (h1 : n ≤ 9223372036854775807) (w : World) (ht : Lib.TabIs P w "internal/strconv.uint64pow10" .u64 Lib.pow10Tab) :
 Calls P (ρ.f 171) #[.int .i64 n] w fun e w' => e = .returned (.string ⟨(Lib.itoa n).toArray⟩) ∧ Below w.heap.size w w' := by
 refine (Any.strconv_Itoa L n h0 h1 w ht).mono ?_
 rintro e w' ⟨he, k, os, rfl⟩
 refine ⟨he, rfl, rfl, rfl, ?_, fun j hj => ?_⟩
 · show w.heap.size ≤ (w.heap ++ os).size
   rw [Array.size_append]; omega
 · show (w.heap ++ os)[j]? = _
   rw [Array.getElem?_append_left hj]
theorem xNU {w : World} {nm : String} {cs : Array Value} (h : w.var? P nm = some cs) : ∃ (g : Nat) (o : Obj), w.heap[g]? = some o ∧ ∀ w' : World, w'.heap[g]? = some o → w'.var? P nm = some cs := by
 unfold World.var? at h
 obtain ⟨g, hg, h⟩ := Option.bind_eq_some_iff.1 h
 split at h
 · rename_i cs ty fr hh
   refine ⟨g, _, hh, fun w' hw => ?_⟩
   unfold World.var?
   rw [hg, jS, hw]
   exact h
 · cases h
end Go.Ab
end
section
namespace Go.Proofs
open Go.Shelf
def Tryz.lays137_ren : Go.Shelf.Ren := ⟨fun | 137 => 90 | 217 => 112 | 266 => 130 | n => n, fun | 9 => 9 | 5 => 5 | 3 => 3 | n => n, fun | n => n⟩
theorem Tryz.lays137 : Go.Proofs.Lays.n137 Tryz.prog Tryz.lays137_ren := {
 mixed := by kernel_rfl
 f137 := Tryz.func90.trans (congrArg some (by kernel_rfl))
 f217 := Tryz.func112.trans (congrArg some (by kernel_rfl))
 f266 := Tryz.func130.trans (congrArg some (by kernel_rfl))
 t3 := Tryz.underlying3
 a3 := Tryz.isAgg3
 z3 := Tryz.sizeOf3
 v3 := Tryz.zeroValue3
 t5 := Tryz.underlying5
 a5 := Tryz.isAgg5
 z5 := Tryz.sizeOf5
 v5 := Tryz.zeroValue5
 t9 := Tryz.underlying9
 a9 := Tryz.isAgg9
 z9 := Tryz.sizeOf9
 v9 := Tryz.zeroValue9 }
def Tryz.laysM171_ren : Go.Shelf.Ren := ⟨fun | 171 => 102 | 243 => 123 | 246 => 133 | 283 => 143 | 284 => 144 | 285 => 145 | 286 => 146 | 129 => 153 | 317 => 152 | 318 => 154 | 319 => 155 | 320 => 156 | 337 => 161 | 338 => 162 | n => n, fun | 3 => 3 | 9 => 9 | 2 => 2 | 4 => 4 | 171 => 122 | 0 => 0 | 53 => 123 | 37 => 32 | 5 => 5 | 173 => 126 | 212 => 137 | 51 => 138 | 20 => 20 | 213 => 139 | 46 => 104 | 232 => 150 | 233 => 151 | n => n, fun | 17 => 3 | 18 => 4 | 19 => 5 | n => n⟩
theorem Tryz.laysM171 : Go.Proofs.LaysM.n171 Tryz.prog Tryz.laysM171_ren := {
 mixed := by kernel_rfl
 f129 := Tryz.func153.trans (congrArg some (by kernel_rfl))
 f171 := Tryz.func102.trans (congrArg some (by kernel_rfl))
 f243 := Tryz.func123.trans (congrArg some (by kernel_rfl))
 f246 := Tryz.func133.trans (congrArg some (by kernel_rfl))
 f283 := Tryz.func143.trans (congrArg some (by kernel_rfl))
 f284 := Tryz.func144.trans (congrArg some (by kernel_rfl))
 f285 := Tryz.func145.trans (congrArg some (by kernel_rfl))
 f286 := Tryz.func146.trans (congrArg some (by kernel_rfl))
 f317 := Tryz.func152.trans (congrArg some (by kernel_rfl))
 f318 := Tryz.func154.trans (congrArg some (by kernel_rfl))
 f319 := Tryz.func155.trans (congrArg some (by kernel_rfl))
 f320 := Tryz.func156.trans (congrArg some (by kernel_rfl))
 f337 := Tryz.func161.trans (congrArg some (by kernel_rfl))
 f338 := Tryz.func162.trans (congrArg some (by kernel_rfl))
 t0 := Tryz.underlying0
 a0 := Tryz.isAgg0
 z0 := Tryz.sizeOf0
 v0 := Tryz.zeroValue0
 t2 := Tryz.underlying2
 a2 := Tryz.isAgg2
 z2 := Tryz.sizeOf2
 v2 := Tryz.zeroValue2
 t3 := Tryz.underlying3
 a3 := Tryz.isAgg3
 z3 := Tryz.sizeOf3
 v3 := Tryz.zeroValue3
 t4 := Tryz.underlying4
 a4 := Tryz.isAgg4
 z4 := Tryz.sizeOf4
 v4 := Tryz.zeroValue4
 t5 := Tryz.underlying5
 a5 := Tryz.isAgg5
 z5 := Tryz.sizeOf5
 v5 := Tryz.zeroValue5
 t9 := Tryz.underlying9
 a9 := Tryz.isAgg9
 z9 := Tryz.sizeOf9
 v9 := Tryz.zeroValue9
 t20 := Tryz.underlying20
 a20 := Tryz.isAgg20
 z20 := Tryz.sizeOf20
 v20 := Tryz.zeroValue20
 t37 := Tryz.underlying32
 a37 := Tryz.isAgg32
 z37 := Tryz.sizeOf32
 v37 := Tryz.zeroValue32
 t46 := Tryz.underlying104
 a46 := Tryz.isAgg104
 z46 := Tryz.sizeOf104
 v46 := Tryz.zeroValue104
 t51 := Tryz.underlying138
 a51 := Tryz.isAgg138
 z51 := Tryz.sizeOf138
 v51 := Tryz.zeroValue138
 t53 := Tryz.underlying123
 a53 := Tryz.isAgg123
 z53 := Tryz.sizeOf123
 v53 := Tryz.zeroValue123
 t171 := Tryz.underlying122
 a171 := Tryz.isAgg122
 z171 := Tryz.sizeOf122
 v171 := Tryz.zeroValue122
 t173 := Tryz.underlying126
 a173 := Tryz.isAgg126
 z173 := Tryz.sizeOf126
 v173 := Tryz.zeroValue126
 t212 := Tryz.underlying137
 a212 := Tryz.isAgg137
 z212 := Tryz.sizeOf137
 v212 := Tryz.zeroValue137
 t213 := Tryz.underlying139
 a213 := Tryz.isAgg139
 z213 := Tryz.sizeOf139
 t232 := Tryz.underlying150
 a232 := Tryz.isAgg150
 z232 := Tryz.sizeOf150
 v232 := Tryz.zeroValue150
 t233 := Tryz.underlying151
 a233 := Tryz.isAgg151
 z233 := Tryz.sizeOf151
 v233 := Tryz.zeroValue151
 g17 := by kernel_rfl
 g18 := by kernel_rfl
 g19 := by kernel_rfl
 i0 := by kernel_rfl
 i2 := by kernel_rfl
 i3 := by kernel_rfl
 i4 := by kernel_rfl
 i5 := by kernel_rfl
 i9 := by kernel_rfl
 i20 := by kernel_rfl
 i37 := by kernel_rfl
 i46 := by kernel_rfl
 i51 := by kernel_rfl
 i53 := by kernel_rfl
 i171 := by kernel_rfl
 i173 := by kernel_rfl
 i212 := by kernel_rfl
 i232 := by kernel_rfl
 i233 := by kernel_rfl
 m17 := by kernel_rfl
 m18 := by kernel_rfl
 m19 := by kernel_rfl }
def Tryz.laysC172_ren : Go.Shelf.Ren := ⟨fun | 172 => 111 | 244 => 128 | 245 => 129 | 247 => 138 | 279 => 139 | 280 => 140 | 281 => 141 | 282 => 142 | 287 => 149 | 316 => 150 | 171 => 102 | 205 => 151 | 321 => 159 | 322 => 160 | 243 => 123 | 246 => 133 | 283 => 143 | 284 => 144 | 285 => 145 | 286 => 146 | 129 => 153 | 317 => 152 | 318 => 154 | 319 => 155 | 320 => 156 | 337 => 161 | 338 => 162 | n => n, fun | 9 => 9 | 3 => 3 | 75 => 99 | 76 => 100 | 4 => 4 | 5 => 5 | 167 => 116 | 37 => 32 | 0 => 0 | 85 => 117 | 2 => 2 | 168 => 119 | 53 => 123 | 175 => 129 | 46 => 104 | 210 => 133 | 127 => 128 | 145 => 148 | 143 => 146 | 21 => 21 | 171 => 122 | 173 => 126 | 212 => 137 | 51 => 138 | 20 => 20 | 213 => 139 | 232 => 150 | 233 => 151 | 80 => 67 | n => n, fun | 15 => 1 | 16 => 2 | 17 => 3 | 18 => 4 | 19 => 5 | n => n⟩
theorem Tryz.laysC172 : Go.Proofs.LaysC.n172 Tryz.prog Tryz.laysC172_ren := {
 mixed := by kernel_rfl
 f129 := Tryz.func153.trans (congrArg some (by kernel_rfl))
 f171 := Tryz.func102.trans (congrArg some (by kernel_rfl))
 f172 := Tryz.func111.trans (congrArg some (by kernel_rfl))
 f205 := Tryz.func151.trans (congrArg some (by kernel_rfl))
 f243 := Tryz.func123.trans (congrArg some (by kernel_rfl))
 f244 := Tryz.func128.trans (congrArg some (by kernel_rfl))
 f245 := Tryz.func129.trans (congrArg some (by kernel_rfl))
 f246 := Tryz.func133.trans (congrArg some (by kernel_rfl))
 f247 := Tryz.func138.trans (congrArg some (by kernel_rfl))
 f279 := Tryz.func139.trans (congrArg some (by kernel_rfl))
 f280 := Tryz.func140.trans (congrArg some (by kernel_rfl))
 f281 := Tryz.func141.trans (congrArg some (by kernel_rfl))
 f282 := Tryz.func142.trans (congrArg some (by kernel_rfl))
 f283 := Tryz.func143.trans (congrArg some (by kernel_rfl))
 f284 := Tryz.func144.trans (congrArg some (by kernel_rfl))
 f285 := Tryz.func145.trans (congrArg some (by kernel_rfl))
 f286 := Tryz.func146.trans (congrArg some (by kernel_rfl))
 f287 := Tryz.func149.trans (congrArg some (by kernel_rfl))
 f316 := Tryz.func150.trans (congrArg some (by kernel_rfl))
 f317 := Tryz.func152.trans (congrArg some (by kernel_rfl))
 f318 := Tryz.func154.trans (congrArg some (by kernel_rfl))
 f319 := Tryz.func155.trans (congrArg some (by kernel_rfl))
 f320 := Tryz.func156.trans (congrArg some (by kernel_rfl))
 f321 := Tryz.func159.trans (congrArg some (by kernel_rfl))
 f322 := Tryz.func160.trans (congrArg some (by kernel_rfl))
 f337 := Tryz.func161.trans (congrArg some (by kernel_rfl))
 f338 := Tryz.func162.trans (congrArg some (by kernel_rfl))
 t0 := Tryz.underlying0
 a0 := Tryz.isAgg0
 z0 := Tryz.sizeOf0
 v0 := Tryz.zeroValue0
 t2 := Tryz.underlying2
 a2 := Tryz.isAgg2
 z2 := Tryz.sizeOf2
 v2 := Tryz.zeroValue2
 t3 := Tryz.underlying3
 a3 := Tryz.isAgg3
 z3 := Tryz.sizeOf3
 v3 := Tryz.zeroValue3
 t4 := Tryz.underlying4
 a4 := Tryz.isAgg4
 z4 := Tryz.sizeOf4
 v4 := Tryz.zeroValue4
 t5 := Tryz.underlying5
 a5 := Tryz.isAgg5
 z5 := Tryz.sizeOf5
 v5 := Tryz.zeroValue5
 t9 := Tryz.underlying9
 a9 := Tryz.isAgg9
 z9 := Tryz.sizeOf9
 v9 := Tryz.zeroValue9
 t20 := Tryz.underlying20
 a20 := Tryz.isAgg20
 z20 := Tryz.sizeOf20
 v20 := Tryz.zeroValue20
 t21 := Tryz.underlying21
 a21 := Tryz.isAgg21
 z21 := Tryz.sizeOf21
 v21 := Tryz.zeroValue21
 t37 := Tryz.underlying32
 a37 := Tryz.isAgg32
 z37 := Tryz.sizeOf32
 v37 := Tryz.zeroValue32
 t46 := Tryz.underlying104
 a46 := Tryz.isAgg104
 z46 := Tryz.sizeOf104
 v46 := Tryz.zeroValue104
 t51 := Tryz.underlying138
 a51 := Tryz.isAgg138
 z51 := Tryz.sizeOf138
 v51 := Tryz.zeroValue138
 t53 := Tryz.underlying123
 a53 := Tryz.isAgg123
 z53 := Tryz.sizeOf123
 v53 := Tryz.zeroValue123
 t75 := Tryz.underlying99
 a75 := Tryz.isAgg99
 z75 := Tryz.sizeOf99
 v75 := Tryz.zeroValue99
 t76 := Tryz.underlying100
 a76 := Tryz.isAgg100
 z76 := Tryz.sizeOf100
 v76 := Tryz.zeroValue100
 t85 := Tryz.underlying117
 a85 := Tryz.isAgg117
 z85 := Tryz.sizeOf117
 v85 := Tryz.zeroValue117
 t127 := Tryz.underlying128
 a127 := Tryz.isAgg128
 z127 := Tryz.sizeOf128
 v127 := Tryz.zeroValue128
 t143 := Tryz.underlying146
 a143 := Tryz.isAgg146
 z143 := Tryz.sizeOf146
 v143 := Tryz.zeroValue146
 t145 := Tryz.underlying148
 a145 := Tryz.isAgg148
 z145 := Tryz.sizeOf148
 v145 := Tryz.zeroValue148
 t167 := Tryz.underlying116
 a167 := Tryz.isAgg116
 z167 := Tryz.sizeOf116
 v167 := Tryz.zeroValue116
 t168 := Tryz.underlying119
 a168 := Tryz.isAgg119
 z168 := Tryz.sizeOf119
 v168 := Tryz.zeroValue119
 t171 := Tryz.underlying122
 a171 := Tryz.isAgg122
 z171 := Tryz.sizeOf122
 v171 := Tryz.zeroValue122
 t173 := Tryz.underlying126
 a173 := Tryz.isAgg126
 z173 := Tryz.sizeOf126
 v173 := Tryz.zeroValue126
 t175 := Tryz.underlying129
 a175 := Tryz.isAgg129
 z175 := Tryz.sizeOf129
 v175 := Tryz.zeroValue129
 t210 := Tryz.underlying133
 a210 := Tryz.isAgg133
 z210 := Tryz.sizeOf133
 v210 := Tryz.zeroValue133
 t212 := Tryz.underlying137
 a212 := Tryz.isAgg137
 z212 := Tryz.sizeOf137
 v212 := Tryz.zeroValue137
 t213 := Tryz.underlying139
 a213 := Tryz.isAgg139
 z213 := Tryz.sizeOf139
 t232 := Tryz.underlying150
 a232 := Tryz.isAgg150
 z232 := Tryz.sizeOf150
 v232 := Tryz.zeroValue150
 t233 := Tryz.underlying151
 a233 := Tryz.isAgg151
 z233 := Tryz.sizeOf151
 v233 := Tryz.zeroValue151
 g15 := by kernel_rfl
 g16 := by kernel_rfl
 g17 := by kernel_rfl
 g18 := by kernel_rfl
 g19 := by kernel_rfl
 t80 := Tryz.underlying67
 a80 := Tryz.isAgg67
 z80 := Tryz.sizeOf67
 v80 := Tryz.zeroValue67
 i0 := by kernel_rfl
 i2 := by kernel_rfl
 i3 := by kernel_rfl
 i4 := by kernel_rfl
 i5 := by kernel_rfl
 i9 := by kernel_rfl
 i20 := by kernel_rfl
 i21 := by kernel_rfl
 i37 := by kernel_rfl
 i46 := by kernel_rfl
 i51 := by kernel_rfl
 i53 := by kernel_rfl
 i75 := by kernel_rfl
 i76 := by kernel_rfl
 i80 := by kernel_rfl
 i85 := by kernel_rfl
 i127 := by kernel_rfl
 i143 := by kernel_rfl
 i145 := by kernel_rfl
 i167 := by kernel_rfl
 i168 := by kernel_rfl
 i171 := by kernel_rfl
 i173 := by kernel_rfl
 i175 := by kernel_rfl
 i210 := by kernel_rfl
 i212 := by kernel_rfl
 i232 := by kernel_rfl
 i233 := by kernel_rfl
 m15 := by kernel_rfl
 m16 := by kernel_rfl
 m17 := by kernel_rfl
 m18 := by kernel_rfl
 m19 := by kernel_rfl
 c0 := by kernel_rfl
 c2 := by kernel_rfl
 c3 := by kernel_rfl
 c4 := by kernel_rfl
 c5 := by kernel_rfl
 c9 := by kernel_rfl
 c20 := by kernel_rfl
 c21 := by kernel_rfl
 c37 := by kernel_rfl
 c46 := by kernel_rfl
 c51 := by kernel_rfl
 c53 := by kernel_rfl
 c75 := by kernel_rfl
 c76 := by kernel_rfl
 c80 := by kernel_rfl
 c85 := by kernel_rfl
 c127 := by kernel_rfl
 c143 := by kernel_rfl
 c145 := by kernel_rfl
 c167 := by kernel_rfl
 c168 := by kernel_rfl
 c171 := by kernel_rfl
 c173 := by kernel_rfl
 c175 := by kernel_rfl
 c210 := by kernel_rfl
 c212 := by kernel_rfl
 c213 := by kernel_rfl
 c232 := by kernel_rfl
 c233 := by kernel_rfl }
def Tryz.lays99_ren : Go.Shelf.Ren := ⟨fun | 99 => 92 | 206 => 113 | n => n, fun | 9 => 9 | 4 => 4 | 3 => 3 | n => n, fun | n => n⟩
theorem Tryz.lays99 : Go.Proofs.Lays.n99 Tryz.prog Tryz.lays99_ren := {
 mixed := by kernel_rfl
 f99 := Tryz.func92.trans (congrArg some (by kernel_rfl))
 f206 := Tryz.func113.trans (congrArg some (by kernel_rfl))
 t3 := Tryz.underlying3
 a3 := Tryz.isAgg3
 z3 := Tryz.sizeOf3
 v3 := Tryz.zeroValue3
 t4 := Tryz.underlying4
 a4 := Tryz.isAgg4
 z4 := Tryz.sizeOf4
 v4 := Tryz.zeroValue4
 t9 := Tryz.underlying9
 a9 := Tryz.isAgg9
 z9 := Tryz.sizeOf9
 v9 := Tryz.zeroValue9 }
end Go.Proofs
end
section
namespace Go.Ab
open Go.Proofs Go.RowKit Go.Shelf
theorem xKJ : ∀ args w, (callFunc 89 args).run Tryz.prog w = .ok (.enter 89 args) w := enters_of Tryz.func89 (by kernel_rfl) rfl
theorem xL8 : Enters Tryz.prog 111 := enters_of Tryz.func111 (by kernel_rfl) rfl
theorem xKI : Enters Tryz.prog 102 := enters_of Tryz.func102 (by kernel_rfl) rfl
set_option maxRecDepth 100000 in
set_option maxHeartbeats 4000000 in
theorem xLj (s : ByteArray) (lo hi : Int) (hl : s.size ≤ 1000000) {Q : World → Prop} (hQ : ∀ w w', Q w → Below w.heap.size w w' → Q w') (ht : ∀ w, Q w → Lib.TabIs Tryz.prog w "internal/strconv.uint64pow10" .u64 Lib.pow10Tab)
 (he : ∀ w, Q w → (∃ t1 p1, w.var? Tryz.prog "strconv.ErrSyntax" = some #[.iface t1 p1]) ∧ ∃ t2 p2, w.var? Tryz.prog "strconv.ErrRange" = some #[.iface t2 p2]) (w : World) (hw : Q w) :
 Calls Tryz.prog 89 #[.string s, .int .i64 lo, .int .i64 hi] w fun e w' => e = .returned (.tuple #[.int .i64 (zHG s.data.toList lo hi).1, .bool (zHG s.data.toList lo hi).2]) ∧ Below w.heap.size w w' := by
 have hA := xNY Tryz.laysC172 s hl w (he w hw)
 change Calls Tryz.prog 111 _ _ _ at hA
 have e1 := xL8
 have e2 := xKI
 by_cases hok : ∃ v, Lib.atoiAll s.data.toList = .ok v
 · obtain ⟨v, hv⟩ := hok
   obtain ⟨vb0, vb1⟩ := Lib.atoiAll_bounds hv
   have hA : Calls Tryz.prog 111 #[.string s] w fun e w' => e = .returned (.tuple #[.int .i64 v, .nilIface]) ∧ Below w.heap.size w w' := hA.mono fun e w' ⟨h, hb⟩ => ⟨by
    rcases h with ⟨v', h1, h2⟩ | ⟨h1, _⟩
    · rw [hv] at h1; cases h1; exact h2
    · exact absurd hv (h1 v), hb⟩
   have hI : ∀ W, Below w.heap.size w W → ∀ (f : Ending → World → Prop), (∀ W', Below w.heap.size w W' → f (.returned (.string ⟨(Lib.itoa v).toArray⟩)) W') → Calls Tryz.prog 102 #[.int .i64 v] W f := fun W hb f hf =>
    (xN8 Tryz.laysM171 v vb0 vb1 W (ht W (hQ w W hw hb))).mono fun e W' ⟨h1, h2⟩ => by rw [h1]; exact hf W' (hb.trans (h2.mono hb.size))
   have hN : zHG s.data.toList lo hi = if v < lo then (0, false) else if v > hi then (0, false) else if Lib.itoa v = s.data.toList then (v, true) else (0, false) := by unfold zHG; rw [hv]
   rw [hN]
   clear hN hv
   by_cases h1 : v < lo
   · rw [if_pos h1]
     go_enter Tryz.func89, Tryz.ntmps89
     go_wp2_with (go_at_call 111; refine hA.mono ?_; rintro e W1 ⟨rfl, hb⟩)
     go_wp2
     go_ret2
     exact ⟨rfl, hb⟩
   · rw [if_neg h1]
     by_cases h2 : v > hi
     · rw [if_pos h2]
       go_enter Tryz.func89, Tryz.ntmps89
       go_wp2_with (go_at_call 111; refine hA.mono ?_; rintro e W1 ⟨rfl, hb⟩)
       go_wp2
       go_ret2
       exact ⟨rfl, hb⟩
     · rw [if_neg h2]
       go_enter Tryz.func89, Tryz.ntmps89
       go_wp2_with (go_at_call 111; refine hA.mono ?_; rintro e W1 ⟨rfl, hb⟩)
       go_wp2_with (go_at_call 102; refine hI _ (by assumption) _ ?_; intro W2 hb2)
       all_goals first
        | (go_ret2; exact ⟨rfl, hb2⟩)
        | (exfalso; simp_all [ByteArray.toList_eq]; done)
        | (exfalso; rename_i hx; rw [ByteArray.toList_eq, h] at hx; rcases hx with (hx | hx) | hx <;> first | omega | (simp at hx; done))
 · have hN : zHG s.data.toList lo hi = (0, false) := by
    unfold zHG
    cases hc : Lib.atoiAll s.data.toList with
    | ok v => exact absurd ⟨v, hc⟩ hok
    | _ => rfl
   have hA : Calls Tryz.prog 111 #[.string s] w fun e w' => (∃ n t b, e = .returned (.tuple #[.int .i64 n, .iface t (.pointer (some ⟨b, 0, none⟩))])) ∧ Below w.heap.size w w' := hA.mono fun e w' ⟨h, hb⟩ => ⟨by
    rcases h with ⟨v', h1, h2⟩ | ⟨_, h1⟩
    · exact absurd ⟨v', h1⟩ hok
    · exact h1, hb⟩
   rw [hN]
   clear hN hok
   go_enter Tryz.func89, Tryz.ntmps89
   go_wp2_with (go_at_call 111; refine hA.mono ?_; rintro e W1 ⟨⟨n, t, b, rfl⟩, hb⟩)
   go_wp2
   go_ret2
   exact ⟨rfl, hb⟩
end Go.Ab
end
section
open Go.Proofs
namespace Go.Ab.T
variable [Inhabited Lb]
abbrev AbC (f : FuncId) (a : List Arg) (r : CallO) : Prop := AbsCalls Tryz.prog f a r
abbrev W (x : Int) : Int := IntKind.i64.wrap x
abbrev Ln {α : Type} (l : List α) : Nat := List.length l
abbrev tN (x : Int) : Nat := Int.toNat x
abbrev gD {α : Type} (l : List α) (i : Nat) (d : α) : α := List.getD l i d
abbrev iY (b : Bool) : Prop := b = true
abbrev iN (b : Bool) : Prop := b = false
abbrev dc (p : Prop) [Decidable p] : Bool := decide p
abbrev vd : Val := Ty.val.dflt
abbrev rd : Rowd := Ty.row.dflt
end Go.Ab.T
end
section
open Go.Proofs
namespace Go.Ab.T
set_option maxRecDepth 100000
variable [Inhabited Lb]
def p10 : String := ((Go.Proofs.YthbobcapimmnhaaGreatDoor.Rows.fnExactParseErrorRow.laid[2]?).map fun x => x.1).getD ""
def Tab10 : Prop := ∀ w : World, (∀ x ∈ zDP, w.heap[x.1]? = some x.2) → Lib.TabIs Tryz.prog w p10 .u64 Lib.pow10Tab
variable [Nonempty Tab10]
theorem xWZ : Tab10 := (inferInstance : Nonempty Tab10).elim fun h => h
def ErrVars : Prop := ∀ w : World, (∀ x ∈ zDP, w.heap[x.1]? = some x.2) → (∃ t1 p1, w.var? Tryz.prog "strconv.ErrSyntax" = some #[.iface t1 p1]) ∧ ∃ t2 p2, w.var? Tryz.prog "strconv.ErrRange" = some #[.iface t2 p2]
variable [Nonempty ErrVars]
theorem xRq : ErrVars := (inferInstance : Nonempty ErrVars).elim fun h => h
def tt : TT := [(3, { zero := some [.int .i64 0], ik := some .i64 }),
 (4, { zero := some [.bool false], isBool := true }),
 (5, { zero := some [.int .u8 0], ik := some .u8 }),
 (9, { zero := some [.str []], isStr := true }),
 (23, { zero := some [.sl .own .exp []], elem := some (25, .exp) }),
 (25, { sz := 4, agg := true, zero := some [.int .i64 0, .int .i64 0, .str [], .sl .own .exp []], offs := [0, 1, 2, 3], fsz := [1, 1, 1, 1] }),
 (32, { zero := some [.sl .own .byte []], elem := some (5, .byte) }),
 (37, { zero := some [.sl .own .tok []], elem := some (50, .tok) }),
 (43, { sz := 4, agg := true, zero := some [.sl .own .tok [], .int .i64 0, .int .i64 0, .int .i64 0], offs := [0, 1, 2, 3], fsz := [1, 1, 1, 1] }),
 (47, { sz := 3, agg := true, zero := some [.sl .own .tok [], .int .i64 0, .int .i64 0], offs := [0, 1, 2], fsz := [1, 1, 1] }),
 (50, { sz := 4, agg := true, zero := some [.int .i64 0, .int .i64 0, .int .i64 0, .str []], offs := [0, 1, 2, 3], fsz := [1, 1, 1, 1] }),
 (69, { zero := some [.sl .own .int []], elem := some (3, .int) }),
 (73, { zero := some [.sl .own .str []], elem := some (9, .str) }),
 (79, { sz := 3, agg := true, zero := some [.sl .own .byte [], .int .i64 0, .int .i64 0], offs := [0, 1, 2], fsz := [1, 1, 1] })]
theorem ttok : TTok Tryz.prog tt := zIg (by kernel_rfl)
theorem mix : Tryz.prog.follows .mixedOrders = true := by kernel_rfl
def F : Bool := false
def Y : Bool := true
noncomputable def rE (I : Info) (ag : List Arg) (bs : List Bool) (cs : List CallO) : Option Res := run tt (AbsCalls Tryz.prog) I 3000 false [.code I.body] ⟨zBp 0 ag, bs, cs, []⟩
noncomputable def rS (k : Nat) (I : Info) (σ : St) (bs : List Bool) (cs : List CallO) : Option Res := run tt (AbsCalls Tryz.prog) I 3000 true (stkAt k I.body) ⟨σ, bs, cs, []⟩
noncomputable def dn (r : CallO) (ob : List Prop) : Option Res := some (.done r ob)
noncomputable def st (k : Nat) (I : Info) (σ : St) (ob : List Prop) : Option Res := some (.stop (stkAt k I.body) σ ob)
def RE (fn : Func) (I : Info) (ag : List Arg) (r : CallO) : Prop := Reach Tryz.prog fn I [.code I.body] (zBp 0 ag) r
def RS (fn : Func) (I : Info) (k : Nat) (σ : St) (r : CallO) : Prop := Reach Tryz.prog fn I (stkAt k I.body) σ r
section
variable {ρ : Type} {f : FuncId} {fn : Func} {I : Info} {ag : List Arg} {bs : List Bool} {cs : List CallO} {k j : Nat} {σ σ' : St} {ob : List Prop} {ro : ρ → CallO} {x r : ρ} {q : CallO}
theorem dE (e : some x = some r) (hf : FnOk Tryz.prog f fn I) (h : rE I ag bs cs = dn (ro x) ob) (o : ∀ p ∈ ob, p) : RE fn I ag (ro r) := by
 cases e; exact Reach.done ttok mix hf h o
theorem dS (e : some x = some r) (hf : FnOk Tryz.prog f fn I) (h : rS k I σ bs cs = dn (ro x) ob) (o : ∀ p ∈ ob, p) : RS fn I k σ (ro r) := by
 cases e; exact Reach.done ttok mix hf h o
theorem tE (hf : FnOk Tryz.prog f fn I) (h : rE I ag bs cs = st k I σ ob) (o : ∀ p ∈ ob, p) (t : RS fn I k σ q) : RE fn I ag q := Reach.stop ttok mix hf h o t
theorem tS (hf : FnOk Tryz.prog f fn I) (h : rS j I σ' bs cs = st k I σ ob) (o : ∀ p ∈ ob, p) (t : RS fn I k σ q) : RS fn I j σ' q := Reach.stop ttok mix hf h o t
end
theorem oc {p : Prop} {l : List Prop} (h : p) (t : ∀ q ∈ l, q) : ∀ q ∈ p :: l, q := zIf h t
theorem on : ∀ q ∈ ([] : List Prop), q := zIj
theorem oc2 {p0 p1 : Prop} {l : List Prop} (h0 : p0) (h1 : p1) (t : ∀ q ∈ l, q) : ∀ q ∈ p0 :: p1 :: l, q := oc h0 (oc h1 t)
theorem oc3 {p0 p1 p2 : Prop} {l : List Prop} (h0 : p0) (h1 : p1) (h2 : p2) (t : ∀ q ∈ l, q) : ∀ q ∈ p0 :: p1 :: p2 :: l, q := oc h0 (oc2 h1 h2 t)
theorem oc4 {p0 p1 p2 p3 : Prop} {l : List Prop} (h0 : p0) (h1 : p1) (h2 : p2) (h3 : p3) (t : ∀ q ∈ l, q) : ∀ q ∈ p0 :: p1 :: p2 :: p3 :: l, q := oc h0 (oc3 h1 h2 h3 t)
theorem oc5 {p0 p1 p2 p3 p4 : Prop} {l : List Prop} (h0 : p0) (h1 : p1) (h2 : p2) (h3 : p3) (h4 : p4) (t : ∀ q ∈ l, q) : ∀ q ∈ p0 :: p1 :: p2 :: p3 :: p4 :: l, q := oc h0 (oc4 h1 h2 h3 h4 t)
theorem oc6 {p0 p1 p2 p3 p4 p5 : Prop} {l : List Prop} (h0 : p0) (h1 : p1) (h2 : p2) (h3 : p3) (h4 : p4) (h5 : p5) (t : ∀ q ∈ l, q) : ∀ q ∈ p0 :: p1 :: p2 :: p3 :: p4 :: p5 :: l, q := oc h0 (oc5 h1 h2 h3 h4 h5 t)
theorem oc7 {p0 p1 p2 p3 p4 p5 p6 : Prop} {l : List Prop} (h0 : p0) (h1 : p1) (h2 : p2) (h3 : p3) (h4 : p4) (h5 : p5) (h6 : p6) (t : ∀ q ∈ l, q) : ∀ q ∈ p0 :: p1 :: p2 :: p3 :: p4 :: p5 :: p6 :: l, q := oc h0 (oc6 h1 h2 h3 h4 h5 h6 t)
theorem oc8 {p0 p1 p2 p3 p4 p5 p6 p7 : Prop} {l : List Prop} (h0 : p0) (h1 : p1) (h2 : p2) (h3 : p3) (h4 : p4) (h5 : p5) (h6 : p6) (h7 : p7) (t : ∀ q ∈ l, q) : ∀ q ∈ p0 :: p1 :: p2 :: p3 :: p4 :: p5 :: p6 :: p7 :: l, q := oc h0 (oc7 h1 h2 h3 h4 h5 h6 h7 t)
theorem oc9 {p0 p1 p2 p3 p4 p5 p6 p7 p8 : Prop} {l : List Prop} (h0 : p0) (h1 : p1) (h2 : p2) (h3 : p3) (h4 : p4) (h5 : p5) (h6 : p6) (h7 : p7) (h8 : p8) (t : ∀ q ∈ l, q) : ∀ q ∈ p0 :: p1 :: p2 :: p3 :: p4 :: p5 :: p6 :: p7 :: p8 :: l, q := oc h0 (oc8 h1 h2 h3 h4 h5 h6 h7 h8 t)
theorem oc10 {p0 p1 p2 p3 p4 p5 p6 p7 p8 p9 : Prop} {l : List Prop} (h0 : p0) (h1 : p1) (h2 : p2) (h3 : p3) (h4 : p4) (h5 : p5) (h6 : p6) (h7 : p7) (h8 : p8) (h9 : p9) (t : ∀ q ∈ l, q) : ∀ q ∈ p0 :: p1 :: p2 :: p3 :: p4 :: p5 :: p6 :: p7 :: p8 :: p9 :: l, q := oc h0 (oc9 h1 h2 h3 h4 h5 h6 h7 h8 h9 t)
theorem oc11 {p0 p1 p2 p3 p4 p5 p6 p7 p8 p9 p10 : Prop} {l : List Prop} (h0 : p0) (h1 : p1) (h2 : p2) (h3 : p3) (h4 : p4) (h5 : p5) (h6 : p6) (h7 : p7) (h8 : p8) (h9 : p9) (h10 : p10) (t : ∀ q ∈ l, q) : ∀ q ∈ p0 :: p1 :: p2 :: p3 :: p4 :: p5 :: p6 :: p7 :: p8 :: p9 :: p10 :: l, q := oc h0 (oc10 h1 h2 h3 h4 h5 h6 h7 h8 h9 h10 t)
theorem oc12 {p0 p1 p2 p3 p4 p5 p6 p7 p8 p9 p10 p11 : Prop} {l : List Prop} (h0 : p0) (h1 : p1) (h2 : p2) (h3 : p3) (h4 : p4) (h5 : p5) (h6 : p6) (h7 : p7) (h8 : p8) (h9 : p9) (h10 : p10) (h11 : p11) (t : ∀ q ∈ l, q) : ∀ q ∈ p0 :: p1 :: p2 :: p3 :: p4 :: p5 :: p6 :: p7 :: p8 :: p9 :: p10 :: p11 :: l, q := oc h0 (oc11 h1 h2 h3 h4 h5 h6 h7 h8 h9 h10 h11 t)
theorem cE {α : Type} {C : Prop} {b : Bool} {x y : Option α} {r : α} (h : cond b x y = some r) (f : b = true → x = some r → C) (g : b = false → y = some r → C) : C := (zIc h).elim (fun h => f h.1 h.2) fun h => g h.1 h.2
theorem bE {α β : Type} {C : Prop} {o : Option α} {f : α → Option β} {r : β} (h : Option.bind o f = some r) (g : ∀ a, o = some a → f a = some r → C) : C := (zIa h).elim fun a h => g a h.1 h.2
theorem iE {α : Type} {C p : Prop} [Decidable p] {x : Option α} {r : α} (h : (if p then x else none) = some r) (g : p → x = some r → C) : C := (zIh h).elim g
theorem nE {α : Type} {C : Prop} {r : α} (h : none = some r) : C := nomatch h
noncomputable def I79 : Info := { body := (Tryz.f79.body).getD .skip, nt := 9, results := [.tmp 2], keep := [0, 4], live := [], modes := [(1, [(2, .take, false)])] }
theorem fk79 : FnOk Tryz.prog 79 Tryz.f79 I79 := ⟨Tryz.func79, by kernel_rfl, by kernel_rfl, by kernel_rfl, by kernel_rfl⟩
def xTV (a0 : Int) : rE I79 (xEd a0) [Y] [] = dn (xBr (dc (a0 ≤ 122))) [iY (dc (a0 ≥ 97))] := by kernel_rfl
def xTW (a0 : Int) : rE I79 (xEd a0) [F] [] = dn (xBr false) [iN (dc (a0 ≥ 97))] := by kernel_rfl
theorem xWD {N : Nat} : ∀ a0 r, xEA N a0 = some r → RE Tryz.f79 I79 (xEd a0) (xBr r) := fun a0 r h =>
 cE h (fun h0 h => dE h fk79 (xTV a0) (oc h0 on)) fun h0 h =>
 dE h fk79 (xTW a0) (oc h0 on)
theorem xCR {N : Nat} {a0 : Int} {r : Bool} (h : xEA N  a0 = some r) : AbC 79 (xEd a0) (xBr r) :=
 AbsCalls.of_reach fk79 rfl rfl (Nat.le_of_ble_eq_true rfl) (xWD a0 r h)
noncomputable def I80 : Info := { body := (Tryz.f80.body).getD .skip, nt := 9, results := [.tmp 2], keep := [0, 4], live := [], modes := [(1, [(2, .take, false)])] }
theorem fk80 : FnOk Tryz.prog 80 Tryz.f80 I80 := ⟨Tryz.func80, by kernel_rfl, by kernel_rfl, by kernel_rfl, by kernel_rfl⟩
def xTX (a0 : Int) : rE I80 (xEu a0) [Y] [] = dn (xBj (dc (a0 ≤ 57))) [iY (dc (a0 ≥ 48))] := by kernel_rfl
def xTY (a0 : Int) : rE I80 (xEu a0) [F] [] = dn (xBj false) [iN (dc (a0 ≥ 48))] := by kernel_rfl
theorem xWE {N : Nat} : ∀ a0 r, xEt N a0 = some r → RE Tryz.f80 I80 (xEu a0) (xBj r) := fun a0 r h =>
 cE h (fun h0 h => dE h fk80 (xTX a0) (oc h0 on)) fun h0 h =>
 dE h fk80 (xTY a0) (oc h0 on)
theorem xCr {N : Nat} {a0 : Int} {r : Bool} (h : xEt N  a0 = some r) : AbC 80 (xEu a0) (xBj r) :=
 AbsCalls.of_reach fk80 rfl rfl (Nat.le_of_ble_eq_true rfl) (xWE a0 r h)
noncomputable def I72 : Info := { body := (Tryz.f72.body).getD .skip, nt := 31, results := [.tmp 2], keep := [0, 4, 6, 8, 10, 14, 22, 30, 54], live := [(5, [0, 6, 8])], modes := [(11, [(0, .take, false)])] }
theorem fk72 : FnOk Tryz.prog 72 Tryz.f72 I72 := ⟨Tryz.func72, by kernel_rfl, by kernel_rfl, by kernel_rfl, by kernel_rfl⟩
def xKc (x0 : Int) (x3 : Bool) (x4 : Str) : St := [(0, .v false [.int .i64 x0]), (6, .v false [.bool x3]), (8, .v false [.str x4])]
abbrev xMH (v0 : Int) := List.map (fun n => UInt8.ofNat (tN n)) [(IntKind.u8.wrap ((W (48 + (W (0 - (Int.tmod v0 10)))))))]
def xTD (x0 : Int) (x3 : Bool) (x4 : Str) : rS 5 I72 (xKc x0 x3 x4) [Y, Y] [] = st 5 I72 (xKc (W (Int.tdiv x0 10)) x3 ((xMH x0) ++ x4)) [iY (x0 != 0), 10 ≠ (0 : Int), iY (dc ((Int.tmod x0 10) < 0)), Ln (xMH x0) + Ln x4 ≤ Lim, 10 ≠ (0 : Int)] := by kernel_rfl
abbrev xMI (v0 : Int) := List.map (fun n => UInt8.ofNat (tN n)) [(IntKind.u8.wrap ((W (48 + (Int.tmod v0 10)))))]
def xTE (x0 : Int) (x3 : Bool) (x4 : Str) : rS 5 I72 (xKc x0 x3 x4) [Y, F] [] = st 5 I72 (xKc (W (Int.tdiv x0 10)) x3 ((xMI x0) ++ x4)) [iY (x0 != 0), 10 ≠ (0 : Int), iN (dc ((Int.tmod x0 10) < 0)), Ln (xMI x0) + Ln x4 ≤ Lim, 10 ≠ (0 : Int)] := by kernel_rfl
def xTF (x0 : Int) (x3 : Bool) (x4 : Str) : rS 5 I72 (xKc x0 x3 x4) [F, Y] [] = dn (xA4 ([45] ++ x4)) [iN (x0 != 0), iY x3, Ln [45] + Ln x4 ≤ Lim] := by kernel_rfl
def xTG (x0 : Int) (x3 : Bool) (x4 : Str) : rS 5 I72 (xKc x0 x3 x4) [F, F] [] = dn (xA4 x4) [iN (x0 != 0), iN x3] := by kernel_rfl
def xTH (a0 : Int) : rE I72 (xCB a0) [Y] [] = dn (xA4 [48]) [iY (a0 == 0)] := by kernel_rfl
abbrev xHU (v0 : Int) : Prop := iN (v0 == 0)
def xTI (a0 : Int) : rE I72 (xCB a0) [F] [] = st 5 I72 (xKc a0 (dc (a0 < 0)) []) [xHU a0] := by kernel_rfl
theorem xWz {N : Nat} : ∀ n x0 x3 x4 r, xBP N n x0 x3 x4 = some r → RS Tryz.f72 I72 5 (xKc x0 x3 x4) (xA4 r) := by
 intro n
 induction n with
 | zero => exact fun _ _ _ _ h => nE h
 | succ n ih =>
  exact fun x0 x3 x4 r h =>
   cE h (fun h0 h => cE h (fun h2 h => iE h fun h3 h => tS fk72 (xTD x0 x3 x4) (oc5 h0 (by decide) h2 h3 (by decide) on) (ih _ _ _ _ h)) fun h2 h =>
   iE h fun h3 h => tS fk72 (xTE x0 x3 x4) (oc5 h0 (by decide) h2 h3 (by decide) on) (ih _ _ _ _ h)) fun h0 h =>
   cE h (fun h1 h => iE h fun h2 h => dS h fk72 (xTF x0 x3 x4) (oc3 h0 h1 h2 on)) fun h1 h =>
   dS h fk72 (xTG x0 x3 x4) (oc2 h0 h1 on)
theorem xWA {N : Nat} : ∀ a0 r, xEe N a0 = some r → RE Tryz.f72 I72 (xCB a0) (xA4 r) := fun a0 r h =>
 cE h (fun h0 h => dE h fk72 (xTH a0) (oc h0 on)) fun h0 h =>
 tE fk72 (xTI a0) (oc h0 on) (xWz _ _ _ _ _ h)
theorem xEx {N : Nat} {a0 : Int} {r : Str} (h : xEe N  a0 = some r) : AbC 72 (xCB a0) (xA4 r) :=
 AbsCalls.of_reach fk72 rfl rfl (Nat.le_of_ble_eq_true rfl) (xWA a0 r h)
noncomputable def I107 : Info := { body := (Tryz.f107.body).getD .skip, nt := 63, results := [.tmp 4, .tmp 5], keep := [0, 2, 8, 10, 12, 14, 16, 18, 38, 60, 68, 92, 110, 122], live := [(9, [0, 12, 14, 16, 18])], modes := [(1, [(3, .take, false)]), (5, [(3, .take, false)]), (11, [(4, .take, false)])] }
theorem xGL : FnOk Tryz.prog 107 Tryz.f107 I107 := ⟨Tryz.func107, by kernel_rfl, by kernel_rfl, by kernel_rfl, by kernel_rfl⟩
def xGC (x0 : Str) (x6 : Bool) (x7 : Str) (x8 x9 : Int) : St := [(0, .v false [.str x0]), (12, .v false [.bool x6]), (14, .v false [.str x7]), (16, .v false [.int .i64 x8]), (18, .v false [.int .i64 x9])]
abbrev xCA (v0 : Int) (v1 : Str) : Prop := iY (dc (v0 < (Ln v1 : Int)))
abbrev xAt (v0 : Int) (v1 : Str) : Prop := (0 : Int) ≤ v0 ∧ v0 < (Ln v1)
abbrev xED (v0 : Str) (v1 : Int) := (((gD v0 (tN v1) 0).toNat : Int) : Int)
abbrev xRy (v0 : Str) (v1 : Int) : Prop := iY (dc ((xED v0 v1) < 48))
def xOr (x0 : Str) (x6 : Bool) (x7 : Str) (x8 x9 : Int) : rS 9 I107 (xGC x0 x6 x7 x8 x9) [Y, Y, Y] [] = dn (xBa (0, false)) [xCA x9 x7, xAt x9 x7, xRy x7 x9, iY true] := by kernel_rfl
abbrev xMc (v0 : Str) (v1 : Int) : Prop := iN (dc ((xED v0 v1) < 48))
abbrev xRz (v0 : Str) (v1 : Int) : Prop := iY (dc ((xED v0 v1) > 57))
def xOs (x0 : Str) (x6 : Bool) (x7 : Str) (x8 x9 : Int) : rS 9 I107 (xGC x0 x6 x7 x8 x9) [Y, F, Y] [] = dn (xBa (0, false)) [xCA x9 x7, xAt x9 x7, xMc x7 x9, xAt x9 x7, xRz x7 x9] := by kernel_rfl
abbrev xRA (v0 : Str) (v1 : Int) : Prop := iN (dc ((xED v0 v1) > 57))
abbrev xJR (v0 : Str) (v1 : Int) := ((gD v0 (tN v1) 0).toNat : Int)
def xOt (x0 : Str) (x6 : Bool) (x7 : Str) (x8 x9 : Int) : rS 9 I107 (xGC x0 x6 x7 x8 x9) [Y, F, F] [] = st 9 I107 (xGC x0 x6 x7 (W ((W (10 * x8)) + (W ((IntKind.u8.wrap ((xJR x7 x9) - 48)))))) (W (x9 + 1))) [xCA x9 x7, xAt x9 x7, xMc x7 x9, xAt x9 x7, xRA x7 x9, xAt x9 x7] := by kernel_rfl
abbrev xGf (v0 : Int) (v1 : Str) : Prop := iN (dc (v0 < (Ln v1 : Int)))
def xOu (x0 : Str) (x6 : Bool) (x7 : Str) (x8 x9 : Int) (r1 : Str) : rS 9 I107 (xGC x0 x6 x7 x8 x9) [F, Y, Y] [xA4 r1] = dn (xBa (0, false)) [xGf x9 x7, iY x6, AbC 72 (xCB (W (0 - x8))) (xA4 r1), iY (!((r1 : Str) == x0))] := by kernel_rfl
def xOv (x0 : Str) (x6 : Bool) (x7 : Str) (x8 x9 : Int) (r1 : Str) : rS 9 I107 (xGC x0 x6 x7 x8 x9) [F, Y, F] [xA4 r1] = dn (xBa ((W (0 - x8)), true)) [xGf x9 x7, iY x6, AbC 72 (xCB (W (0 - x8))) (xA4 r1), iN (!((r1 : Str) == x0))] := by kernel_rfl
def xOw (x0 : Str) (x6 : Bool) (x7 : Str) (x8 x9 : Int) (r1 : Str) : rS 9 I107 (xGC x0 x6 x7 x8 x9) [F, F, Y] [xA4 r1] = dn (xBa (0, false)) [xGf x9 x7, iN x6, AbC 72 (xCB x8) (xA4 r1), iY (!((r1 : Str) == x0))] := by kernel_rfl
def xOx (x0 : Str) (x6 : Bool) (x7 : Str) (x8 x9 : Int) (r1 : Str) : rS 9 I107 (xGC x0 x6 x7 x8 x9) [F, F, F] [xA4 r1] = dn (xBa (x8, true)) [xGf x9 x7, iN x6, AbC 72 (xCB x8) (xA4 r1), iN (!((r1 : Str) == x0))] := by kernel_rfl
abbrev xIN (v0 : Str) := dc ((Ln v0 : Int) > 0)
abbrev xMd (v0 : Str) : Prop := iY (xIN v0)
abbrev xMe (v0 : Str) : Prop := (0 : Int) ≤ 0 ∧ (0 : Int) < (Ln v0)
abbrev xJS (v0 : Str) := (((gD v0 (tN 0) 0).toNat : Int) : Int) == 45
abbrev xMD (v0 : Str) : Prop := iY (xJS v0)
abbrev xME (v0 : Str) : Prop := (0 : Int) ≤ (1 : Int) ∧ (1 : Int) ≤ (Ln v0)
abbrev xJT (v0 : Str) := ((Ln (List.drop (tN (1 : Int)) v0) : Int) : Int)
def xOy (a0 : Str) (a1 : Int) : rE I107 (xB9 a0 a1) [Y, Y, Y, Y] [] = dn (xBa (0, false)) [xMd a0, xMe a0, xMD a0, xME a0, iY (dc ((xJT a0) < 1)), iY true] := by kernel_rfl
abbrev xRb (v0 : Str) : Prop := iN (dc ((xJT v0) < 1))
def xOz (a0 : Str) (a1 : Int) : rE I107 (xB9 a0 a1) [Y, Y, F, Y] [] = dn (xBa (0, false)) [xMd a0, xMe a0, xMD a0, xME a0, xRb a0, iY (dc ((xJT a0) > a1))] := by kernel_rfl
abbrev xRv (v0 : Str) := List.drop (tN (1 : Int)) v0
def xOA (a0 : Str) (a1 : Int) : rE I107 (xB9 a0 a1) [Y, Y, F, F] [] = st 9 I107 (xGC a0 (xJS a0) (xRv a0) 0 0) [xMd a0, xMe a0, xMD a0, xME a0, xRb a0, iN (dc ((xJT a0) > a1))] := by kernel_rfl
abbrev xMF (v0 : Str) : Prop := iN (xJS v0)
def xM7 (a0 : Str) (a1 : Int) : rE I107 (xB9 a0 a1) [Y, F, Y, Y] [] = dn (xBa (0, false)) [xMd a0, xMe a0, xMF a0, iY (dc ((Ln a0 : Int) < 1)), iY true] := by kernel_rfl
abbrev xLA (v0 : Str) : Prop := iN (dc ((Ln v0 : Int) < 1))
def xM8 (a0 : Str) (a1 : Int) : rE I107 (xB9 a0 a1) [Y, F, F, Y] [] = dn (xBa (0, false)) [xMd a0, xMe a0, xMF a0, xLA a0, iY (dc ((Ln a0 : Int) > a1))] := by kernel_rfl
def xM9 (a0 : Str) (a1 : Int) : rE I107 (xB9 a0 a1) [Y, F, F, F] [] = st 9 I107 (xGC a0 (xJS a0) a0 0 0) [xMd a0, xMe a0, xMF a0, xLA a0, iN (dc ((Ln a0 : Int) > a1))] := by kernel_rfl
def xNa (a0 : Str) (a1 : Int) : rE I107 (xB9 a0 a1) [F, F, Y, Y] [] = dn (xBa (0, false)) [iN (xIN a0), iN false, iY (dc ((Ln a0 : Int) < 1)), iY true] := by kernel_rfl
def xNb (a0 : Str) (a1 : Int) : rE I107 (xB9 a0 a1) [F, F, F, Y] [] = dn (xBa (0, false)) [iN (xIN a0), iN false, xLA a0, iY (dc ((Ln a0 : Int) > a1))] := by kernel_rfl
def xNc (a0 : Str) (a1 : Int) : rE I107 (xB9 a0 a1) [F, F, F, F] [] = st 9 I107 (xGC a0 false a0 0 0) [iN (xIN a0), iN false, xLA a0, iN (dc ((Ln a0 : Int) > a1))] := by kernel_rfl
theorem xMs {N : Nat} : ∀ n x0 x6 x7 x8 x9 r, xCE N n x0 x6 x7 x8 x9 = some r → RS Tryz.f107 I107 9 (xGC x0 x6 x7 x8 x9) (xBa r) := by
 intro n
 induction n with
 | zero => exact fun _ _ _ _ _ _ h => nE h
 | succ n ih =>
  exact fun x0 x6 x7 x8 x9 r h =>
   cE h (fun h0 h => iE h fun h1 h => cE h (fun h2 h => dS h xGL (xOr x0 x6 x7 x8 x9) (oc4 h0 h1 h2 rfl on)) fun h2 h =>
   cE h (fun h4 h => dS h xGL (xOs x0 x6 x7 x8 x9) (oc5 h0 h1 h2 h1 h4 on)) fun h4 h =>
   tS xGL (xOt x0 x6 x7 x8 x9) (oc6 h0 h1 h2 h1 h4 h1 on) (ih _ _ _ _ _ _ h)) fun h0 h =>
   cE h (fun h1 h => bE h fun r1 h2 h => cE h (fun h3 h => dS h xGL (xOu x0 x6 x7 x8 x9 r1) (oc4 h0 h1 (xEx h2) h3 on)) fun h3 h =>
   dS h xGL (xOv x0 x6 x7 x8 x9 r1) (oc4 h0 h1 (xEx h2) h3 on)) fun h1 h =>
   bE h fun r1 h2 h => cE h (fun h3 h => dS h xGL (xOw x0 x6 x7 x8 x9 r1) (oc4 h0 h1 (xEx h2) h3 on)) fun h3 h =>
   dS h xGL (xOx x0 x6 x7 x8 x9 r1) (oc4 h0 h1 (xEx h2) h3 on)
theorem xU9 {N : Nat} : ∀ a0 a1 r, xFR N a0 a1 = some r → RE Tryz.f107 I107 (xB9 a0 a1) (xBa r) := fun a0 a1 r h =>
 cE h (fun h0 h => iE h fun h1 h => cE h (fun h2 h => iE h fun h3 h => cE h (fun h4 h => dE h xGL (xOy a0 a1) (oc6 h0 h1 h2 h3 h4 rfl on)) fun h4 h =>
 cE h (fun h5 h => dE h xGL (xOz a0 a1) (oc6 h0 h1 h2 h3 h4 h5 on)) fun h5 h =>
 tE xGL (xOA a0 a1) (oc6 h0 h1 h2 h3 h4 h5 on) (xMs _ _ _ _ _ _ _ h)) fun h2 h =>
 cE h (fun h3 h => dE h xGL (xM7 a0 a1) (oc5 h0 h1 h2 h3 rfl on)) fun h3 h =>
 cE h (fun h4 h => dE h xGL (xM8 a0 a1) (oc5 h0 h1 h2 h3 h4 on)) fun h4 h =>
 tE xGL (xM9 a0 a1) (oc5 h0 h1 h2 h3 h4 on) (xMs _ _ _ _ _ _ _ h)) fun h0 h =>
 cE h (fun h2 h => dE h xGL (xNa a0 a1) (oc4 h0 rfl h2 rfl on)) fun h2 h =>
 cE h (fun h3 h => dE h xGL (xNb a0 a1) (oc4 h0 rfl h2 h3 on)) fun h3 h =>
 tE xGL (xNc a0 a1) (oc4 h0 rfl h2 h3 on) (xMs _ _ _ _ _ _ _ h)
theorem xJf {N : Nat} {a0 : Str} {a1 : Int} {r : Int × Bool} (h : xFR N  a0 a1 = some r) : AbC 107 (xB9 a0 a1) (xBa r) :=
 AbsCalls.of_reach xGL rfl rfl (Nat.le_of_ble_eq_true rfl) (xU9 a0 a1 r h)
noncomputable def I81 : Info := { body := (Tryz.f81.body).getD .skip, nt := 8, results := [.tmp 2, .tmp 3], keep := [0, 4, 6], live := [], modes := [] }
theorem fk81 : FnOk Tryz.prog 81 Tryz.f81 I81 := ⟨Tryz.func81, by kernel_rfl, by kernel_rfl, by kernel_rfl, by kernel_rfl⟩
def xTZ (a0 : Str) (r1 : Int × Bool) : rE I81 (xEO a0) [] [xBa r1] = dn (xB6 (r1.1, r1.2)) [AbC 107 (xB9 a0 12) (xBa r1)] := by kernel_rfl
theorem xWF {N : Nat} : ∀ a0 r, xD7 N a0 = some r → RE Tryz.f81 I81 (xEO a0) (xB6 r) := fun a0 r h =>
 bE h fun r1 h0 h => dE h fk81 (xTZ a0 r1) (oc (xJf h0) on)
theorem xDL {N : Nat} {a0 : Str} {r : Int × Bool} (h : xD7 N  a0 = some r) : AbC 81 (xEO a0) (xB6 r) :=
 AbsCalls.of_reach fk81 rfl rfl (Nat.le_of_ble_eq_true rfl) (xWF a0 r h)
noncomputable def I82 : Info := { body := (Tryz.f82.body).getD .skip, nt := 29, results := [.tmp 2], keep := [0, 4, 6, 14, 50], live := [(2, [0, 6])], modes := [(4, [(4, .take, false), (10, .take, false)])] }
theorem fk82 : FnOk Tryz.prog 82 Tryz.f82 I82 := ⟨Tryz.func82, by kernel_rfl, by kernel_rfl, by kernel_rfl, by kernel_rfl⟩
def xKd (x0 : Str) (x3 : Int) : St := [(0, .v false [.str x0]), (6, .v false [.int .i64 x3])]
abbrev xKT (v0 : Str) (v1 : Int) := dc ((((gD v0 (tN v1) 0).toNat : Int) : Int) < 32)
def xT0 (x0 : Str) (x3 : Int) : rS 2 I82 (xKd x0 x3) [Y, Y, Y, Y] [] = dn (xAP false) [xCA x3 x0, xAt x3 x0, iY (xKT x0 x3), iY true, iY true] := by kernel_rfl
abbrev xJn (v0 : Str) (v1 : Int) : Prop := iN (xKT v0 v1)
abbrev xKU (v0 : Str) (v1 : Int) := dc ((((gD v0 (tN v1) 0).toNat : Int) : Int) > 126)
def xT1 (x0 : Str) (x3 : Int) : rS 2 I82 (xKd x0 x3) [Y, F, Y, Y] [] = dn (xAP false) [xCA x3 x0, xAt x3 x0, xJn x0 x3, xAt x3 x0, iY (xKU x0 x3), iY true] := by kernel_rfl
abbrev xLB (v0 : Str) (v1 : Int) : Prop := iN (xKU v0 v1)
abbrev xGY (v0 : Str) (v1 : Int) : Prop := iY ((xED v0 v1) == 34)
def xT2 (x0 : Str) (x3 : Int) : rS 2 I82 (xKd x0 x3) [Y, F, F, Y] [] = dn (xAP false) [xCA x3 x0, xAt x3 x0, xJn x0 x3, xAt x3 x0, xLB x0 x3, xAt x3 x0, xGY x0 x3] := by kernel_rfl
abbrev xGZ (v0 : Str) (v1 : Int) : Prop := iN ((xED v0 v1) == 34)
def xT3 (x0 : Str) (x3 : Int) : rS 2 I82 (xKd x0 x3) [Y, F, F, F] [] = st 2 I82 (xKd x0 (W (x3 + 1))) [xCA x3 x0, xAt x3 x0, xJn x0 x3, xAt x3 x0, xLB x0 x3, xAt x3 x0, xGZ x0 x3] := by kernel_rfl
def xT4 (x0 : Str) (x3 : Int) : rS 2 I82 (xKd x0 x3) [F] [] = dn (xAP (dc ((Ln x0 : Int) ≤ 20))) [xGf x3 x0] := by kernel_rfl
def xT5 (a0 : Str) : rE I82 (xDB a0) [] [] = st 2 I82 (xKd a0 0) [] := by kernel_rfl
theorem xWG {N : Nat} : ∀ n x0 x3 r, xB4 N n x0 x3 = some r → RS Tryz.f82 I82 2 (xKd x0 x3) (xAP r) := by
 intro n
 induction n with
 | zero => exact fun _ _ _ h => nE h
 | succ n ih =>
  exact fun x0 x3 r h =>
   cE h (fun h0 h => iE h fun h1 h => cE h (fun h2 h => dS h fk82 (xT0 x0 x3) (oc5 h0 h1 h2 rfl rfl on)) fun h2 h =>
   cE h (fun h4 h => dS h fk82 (xT1 x0 x3) (oc6 h0 h1 h2 h1 h4 rfl on)) fun h4 h =>
   cE h (fun h6 h => dS h fk82 (xT2 x0 x3) (oc7 h0 h1 h2 h1 h4 h1 h6 on)) fun h6 h =>
   tS fk82 (xT3 x0 x3) (oc7 h0 h1 h2 h1 h4 h1 h6 on) (ih _ _ _ h)) fun h0 h =>
   dS h fk82 (xT4 x0 x3) (oc h0 on)
theorem xWH {N : Nat} : ∀ a0 r, xDK N a0 = some r → RE Tryz.f82 I82 (xDB a0) (xAP r) := fun a0 r h =>
 tE fk82 (xT5 a0) on (xWG _ _ _ _ h)
theorem xDC {N : Nat} {a0 : Str} {r : Bool} (h : xDK N  a0 = some r) : AbC 82 (xDB a0) (xAP r) :=
 AbsCalls.of_reach fk82 rfl rfl (Nat.le_of_ble_eq_true rfl) (xWH a0 r h)
noncomputable def I83 : Info := { body := (Tryz.f83.body).getD .skip, nt := 32, results := [.tmp 4], keep := [0, 2, 8, 14, 16, 36, 62], live := [], modes := [(13, [(5, .take, false)])] }
theorem fk83 : FnOk Tryz.prog 83 Tryz.f83 I83 := ⟨Tryz.func83, by kernel_rfl, by kernel_rfl, by kernel_rfl, by kernel_rfl⟩
abbrev xKV (v0 : Str) (v1 : Int) := (((gD v0 (tN v1) 0).toNat : Int) : Int) == 40
def xT6 (a0 : Str) (a1 : Int) : rE I83 (xA0 a0 a1) [Y, Y] [] = dn (xAS 1) [xAt a1 a0, iY (xKV a0 a1), iY (xKV a0 a1)] := by kernel_rfl
abbrev xGE (v0 : Str) (v1 : Int) : Prop := iN (xKV v0 v1)
abbrev xKW (v0 : Str) (v1 : Int) := (((gD v0 (tN v1) 0).toNat : Int) : Int) == 41
def xT7 (a0 : Str) (a1 : Int) : rE I83 (xA0 a0 a1) [F, Y, Y] [] = dn (xAS 1) [xAt a1 a0, xGE a0 a1, iY (xKW a0 a1), iY (xKW a0 a1)] := by kernel_rfl
abbrev xG0 (v0 : Str) (v1 : Int) : Prop := iN (xKW v0 v1)
abbrev xKX (v0 : Str) (v1 : Int) := (((gD v0 (tN v1) 0).toNat : Int) : Int) == 91
def xT8 (a0 : Str) (a1 : Int) : rE I83 (xA0 a0 a1) [F, F, Y, Y] [] = dn (xAS 1) [xAt a1 a0, xGE a0 a1, xG0 a0 a1, iY (xKX a0 a1), iY (xKX a0 a1)] := by kernel_rfl
abbrev xHi (v0 : Str) (v1 : Int) : Prop := iN (xKX v0 v1)
abbrev xKY (v0 : Str) (v1 : Int) := (((gD v0 (tN v1) 0).toNat : Int) : Int) == 93
def xT9 (a0 : Str) (a1 : Int) : rE I83 (xA0 a0 a1) [F, F, F, Y, Y] [] = dn (xAS 1) [xAt a1 a0, xGE a0 a1, xG0 a0 a1, xHi a0 a1, iY (xKY a0 a1), iY (xKY a0 a1)] := by kernel_rfl
abbrev xHH (v0 : Str) (v1 : Int) : Prop := iN (xKY v0 v1)
abbrev xKZ (v0 : Str) (v1 : Int) := (((gD v0 (tN v1) 0).toNat : Int) : Int) == 44
def xUa (a0 : Str) (a1 : Int) : rE I83 (xA0 a0 a1) [F, F, F, F, Y, Y] [] = dn (xAS 1) [xAt a1 a0, xGE a0 a1, xG0 a0 a1, xHi a0 a1, xHH a0 a1, iY (xKZ a0 a1), iY (xKZ a0 a1)] := by kernel_rfl
abbrev xIi (v0 : Str) (v1 : Int) : Prop := iN (xKZ v0 v1)
abbrev xK0 (v0 : Str) (v1 : Int) := (((gD v0 (tN v1) 0).toNat : Int) : Int) == 43
def xUb (a0 : Str) (a1 : Int) : rE I83 (xA0 a0 a1) [F, F, F, F, F, Y, Y] [] = dn (xAS 1) [xAt a1 a0, xGE a0 a1, xG0 a0 a1, xHi a0 a1, xHH a0 a1, xIi a0 a1, iY (xK0 a0 a1), iY (xK0 a0 a1)] := by kernel_rfl
abbrev xIS (v0 : Str) (v1 : Int) : Prop := iN (xK0 v0 v1)
abbrev xK1 (v0 : Str) (v1 : Int) := (((gD v0 (tN v1) 0).toNat : Int) : Int) == 45
def xUc (a0 : Str) (a1 : Int) : rE I83 (xA0 a0 a1) [F, F, F, F, F, F, Y, Y] [] = dn (xAS 1) [xAt a1 a0, xGE a0 a1, xG0 a0 a1, xHi a0 a1, xHH a0 a1, xIi a0 a1, xIS a0 a1, iY (xK1 a0 a1), iY (xK1 a0 a1)] := by kernel_rfl
abbrev xJo (v0 : Str) (v1 : Int) : Prop := iN (xK1 v0 v1)
abbrev xK2 (v0 : Str) (v1 : Int) := (((gD v0 (tN v1) 0).toNat : Int) : Int) == 42
def xUd (a0 : Str) (a1 : Int) : rE I83 (xA0 a0 a1) [F, F, F, F, F, F, F, Y, Y] [] = dn (xAS 1) [xAt a1 a0, xGE a0 a1, xG0 a0 a1, xHi a0 a1, xHH a0 a1, xIi a0 a1, xIS a0 a1, xJo a0 a1, iY (xK2 a0 a1), iY (xK2 a0 a1)] := by kernel_rfl
abbrev xKk (v0 : Str) (v1 : Int) : Prop := iN (xK2 v0 v1)
def xUe (a0 : Str) (a1 : Int) : rE I83 (xA0 a0 a1) [F, F, F, F, F, F, F, F, Y] [] = dn (xAS 1) [xAt a1 a0, xGE a0 a1, xG0 a0 a1, xHi a0 a1, xHH a0 a1, xIi a0 a1, xIS a0 a1, xJo a0 a1, xKk a0 a1, iY ((xED a0 a1) == 60)] := by kernel_rfl
abbrev xLC (v0 : Str) (v1 : Int) : Prop := iN ((xED v0 v1) == 60)
abbrev xMV (v0 : Str) (v1 : Int) : Prop := iY ((xED v0 v1) == 61)
abbrev xK3 (v0 : Int) := tN (W (v0 + 1))
def xUf (a0 : Str) (a1 : Int) : rE I83 (xA0 a0 a1) [F, F, F, F, F, F, F, F, F, Y, Y, Y] [] = dn (xAS 2) [xAt a1 a0, xGE a0 a1, xG0 a0 a1, xHi a0 a1, xHH a0 a1, xIi a0 a1, xIS a0 a1, xJo a0 a1, xKk a0 a1, xLC a0 a1, xMV a0 a1, iY (dc ((W (a1 + 1)) < (Ln a0 : Int))), (0 : Int) ≤ (W (a1 + 1)) ∧ (W (a1 + 1)) < (Ln a0), iY ((((gD a0 (xK3 a1) 0).toNat : Int) : Int) == 61)] := by kernel_rfl
def xQG (a0 : Str) (a1 : Int) : rE I83 (xA0 a0 a1) [F, F, F, F, F, F, F, F, F, Y, Y, F] [] = dn (xAS 1) [xAt a1 a0, xGE a0 a1, xG0 a0 a1, xHi a0 a1, xHH a0 a1, xIi a0 a1, xIS a0 a1, xJo a0 a1, xKk a0 a1, xLC a0 a1, xMV a0 a1, iY (dc ((W (a1 + 1)) < (Ln a0 : Int))), (0 : Int) ≤ (W (a1 + 1)) ∧ (W (a1 + 1)) < (Ln a0), iN ((((gD a0 (xK3 a1) 0).toNat : Int) : Int) == 61)] := by kernel_rfl
def xQH (a0 : Str) (a1 : Int) : rE I83 (xA0 a0 a1) [F, F, F, F, F, F, F, F, F, Y, F, F] [] = dn (xAS 1) [xAt a1 a0, xGE a0 a1, xG0 a0 a1, xHi a0 a1, xHH a0 a1, xIi a0 a1, xIS a0 a1, xJo a0 a1, xKk a0 a1, xLC a0 a1, xMV a0 a1, iN (dc ((W (a1 + 1)) < (Ln a0 : Int))), iN false] := by kernel_rfl
def xQI (a0 : Str) (a1 : Int) : rE I83 (xA0 a0 a1) [F, F, F, F, F, F, F, F, F, F] [] = dn (xAS 0) [xAt a1 a0, xGE a0 a1, xG0 a0 a1, xHi a0 a1, xHH a0 a1, xIi a0 a1, xIS a0 a1, xJo a0 a1, xKk a0 a1, xLC a0 a1, iN ((xED a0 a1) == 61)] := by kernel_rfl
theorem xWI {N : Nat} : ∀ a0 a1 r, xE8 N a0 a1 = some r → RE Tryz.f83 I83 (xA0 a0 a1) (xAS r) := fun a0 a1 r h =>
 iE h fun h0 h => cE h (fun h1 h => dE h fk83 (xT6 a0 a1) (oc3 h0 h1 h1 on)) fun h1 h =>
 cE h (fun h2 h => dE h fk83 (xT7 a0 a1) (oc4 h0 h1 h2 h2 on)) fun h2 h =>
 cE h (fun h3 h => dE h fk83 (xT8 a0 a1) (oc5 h0 h1 h2 h3 h3 on)) fun h3 h =>
 cE h (fun h4 h => dE h fk83 (xT9 a0 a1) (oc6 h0 h1 h2 h3 h4 h4 on)) fun h4 h =>
 cE h (fun h5 h => dE h fk83 (xUa a0 a1) (oc7 h0 h1 h2 h3 h4 h5 h5 on)) fun h5 h =>
 cE h (fun h6 h => dE h fk83 (xUb a0 a1) (oc8 h0 h1 h2 h3 h4 h5 h6 h6 on)) fun h6 h =>
 cE h (fun h7 h => dE h fk83 (xUc a0 a1) (oc9 h0 h1 h2 h3 h4 h5 h6 h7 h7 on)) fun h7 h =>
 cE h (fun h8 h => dE h fk83 (xUd a0 a1) (oc10 h0 h1 h2 h3 h4 h5 h6 h7 h8 h8 on)) fun h8 h =>
 cE h (fun h9 h => dE h fk83 (xUe a0 a1) (oc10 h0 h1 h2 h3 h4 h5 h6 h7 h8 h9 on)) fun h9 h =>
 cE h (fun h10 h => cE h (fun h11 h => iE h fun h12 h => cE h (fun h13 h => dE h fk83 (xUf a0 a1) (oc12 h0 h1 h2 h3 h4 h5 h6 h7 h8 h9 h10 h11 (oc2 h12 h13 on))) fun h13 h =>
 dE h fk83 (xQG a0 a1) (oc12 h0 h1 h2 h3 h4 h5 h6 h7 h8 h9 h10 h11 (oc2 h12 h13 on))) fun h11 h =>
 dE h fk83 (xQH a0 a1) (oc12 h0 h1 h2 h3 h4 h5 h6 h7 h8 h9 h10 h11 (oc rfl on))) fun h10 h =>
 dE h fk83 (xQI a0 a1) (oc11 h0 h1 h2 h3 h4 h5 h6 h7 h8 h9 h10 on)
theorem xIA {N : Nat} {a0 : Str} {a1 : Int} {r : Int} (h : xE8 N  a0 a1 = some r) : AbC 83 (xA0 a0 a1) (xAS r) :=
 AbsCalls.of_reach fk83 rfl rfl (Nat.le_of_ble_eq_true rfl) (xWI a0 a1 r h)
noncomputable def I43 : Info := { body := (Tryz.f43.body).getD .skip, nt := 136, results := [.cell 4 50, .tmp 5], keep := [0, 2, 8, 10, 12, 14, 16, 18, 48, 88, 112, 116, 144, 182, 186, 218, 256, 9, 13], live := [(7, [0, 2, 8, 12, 14, 9, 13]), (14, [0, 2, 8, 12, 14, 9, 13]), (23, [0, 2, 8, 12, 14, 9, 13])], modes := [(7, [(4, .take, false), (9, .take, false)]), (14, [(4, .take, false)]), (16, [(5, .take, false)]), (19, [(0, .take, false), (2, .take, false)]), (23, [(4, .take, false)]), (27, [(4, .take, false)])] }
theorem fk43 : FnOk Tryz.prog 43 Tryz.f43 I43 := ⟨Tryz.func43, by kernel_rfl, by kernel_rfl, by kernel_rfl, by kernel_rfl⟩
def xI8 (x0 : Str) (x1 x7 : Int) (b4 b6 : Tok) : St := [(0, .v false [.str x0]), (2, .v false [.int .i64 x1]), (8, .v false [.ptr 4 0]), (12, .v false [.ptr 6 0]), (14, .v false [.int .i64 x7]), (9, .v true [.int .i64 (Tok.kind b4), .int .i64 (Tok.n b4), .int .i64 (Tok.pos b4), .str (Tok.text b4)]), (13, .v true [.int .i64 (Tok.kind b6), .int .i64 (Tok.n b6), .int .i64 (Tok.pos b6), .str (Tok.text b6)])]
def xHd (x0 : Str) (x1 x7 : Int) (b4 b6 : Tok) : St := [(0, .v false [.str x0]), (2, .v false [.int .i64 x1]), (8, .v false [.ptr 4 0]), (12, .v false [.ptr 6 0]), (14, .v false [.int .i64 x7]), (9, .v true [.int .i64 (Tok.kind b4), .int .i64 (Tok.n b4), .int .i64 (Tok.pos b4), .str (Tok.text b4)]), (13, .v true [.int .i64 (Tok.kind b6), .int .i64 (Tok.n b6), .int .i64 (Tok.pos b6), .str (Tok.text b6)])]
def xHe (x0 : Str) (x1 x7 : Int) (b4 b6 : Tok) : St := [(0, .v false [.str x0]), (2, .v false [.int .i64 x1]), (8, .v false [.ptr 4 0]), (12, .v false [.ptr 6 0]), (14, .v false [.int .i64 x7]), (9, .v true [.int .i64 (Tok.kind b4), .int .i64 (Tok.n b4), .int .i64 (Tok.pos b4), .str (Tok.text b4)]), (13, .v true [.int .i64 (Tok.kind b6), .int .i64 (Tok.n b6), .int .i64 (Tok.pos b6), .str (Tok.text b6)])]
abbrev xIj (v0 : Str) (v1 : Int) (v2 : Bool) : Prop := AbC 79 (xEd (xJR v0 v1)) (xBr v2)
def xSD (x0 : Str) (x1 x7 : Int) (b4 b6 : Tok) (r1 : Bool) : rS 7 I43 (xI8 x0 x1 x7 b4 b6) [Y, Y, Y] [xBr r1] = st 7 I43 (xI8 x0 x1 (W (x7 + 1)) b4 b6) [xCA x7 x0, xAt x7 x0, xIj x0 x7 r1, iY r1, iY true] := by kernel_rfl
abbrev xHj (v0 : Str) (v1 : Int) (v2 : Bool) : Prop := AbC 80 (xEu (xJR v0 v1)) (xBj v2)
def xSE (x0 : Str) (x1 x7 : Int) (b4 b6 : Tok) (r1 r2 : Bool) : rS 7 I43 (xI8 x0 x1 x7 b4 b6) [Y, F, Y] [xBr r1, xBj r2] = st 7 I43 (xI8 x0 x1 (W (x7 + 1)) b4 b6) [xCA x7 x0, xAt x7 x0, xIj x0 x7 r1, iN r1, xAt x7 x0, xHj x0 x7 r2, iY r2] := by kernel_rfl
abbrev xFa (v0 v1 : Int) (v2 : Str) : Prop := (0 : Int) ≤ v0 ∧ v0 ≤ v1 ∧ v1 ≤ (Ln v2)
abbrev xJU (v0 : Tok) (v1 v2 : Int) (v3 : Str) := Tok.mk 1 (Tok.n v0) (Tok.pos v0) (List.drop (tN v1) (List.take (tN v2) v3))
def xSF (x0 : Str) (x1 x7 : Int) (b4 b6 : Tok) (r1 r2 : Bool) : rS 7 I43 (xI8 x0 x1 x7 b4 b6) [Y, F, F, Y] [xBr r1, xBj r2] = dn (xAN ((xJU b6 x1 x7 x0), 0)) [xCA x7 x0, xAt x7 x0, xIj x0 x7 r1, iN r1, xAt x7 x0, xHj x0 x7 r2, iN r2, xFa x1 x7 x0, iY (dc ((W (x7 - x1)) > 8))] := by kernel_rfl
def xSG (x0 : Str) (x1 x7 : Int) (b4 b6 : Tok) (r1 r2 : Bool) : rS 7 I43 (xI8 x0 x1 x7 b4 b6) [Y, F, F, F] [xBr r1, xBj r2] = dn (xAN ((xJU b6 x1 x7 x0), (W (x7 - x1)))) [xCA x7 x0, xAt x7 x0, xIj x0 x7 r1, iN r1, xAt x7 x0, xHj x0 x7 r2, iN r2, xFa x1 x7 x0, iN (dc ((W (x7 - x1)) > 8))] := by kernel_rfl
def xSH (x0 : Str) (x1 x7 : Int) (b4 b6 : Tok) : rS 7 I43 (xI8 x0 x1 x7 b4 b6) [F, F, Y] [] = dn (xAN ((xJU b6 x1 x7 x0), 0)) [xGf x7 x0, iN false, xFa x1 x7 x0, iY (dc ((W (x7 - x1)) > 8))] := by kernel_rfl
def xSI (x0 : Str) (x1 x7 : Int) (b4 b6 : Tok) : rS 7 I43 (xI8 x0 x1 x7 b4 b6) [F, F, F] [] = dn (xAN ((xJU b6 x1 x7 x0), (W (x7 - x1)))) [xGf x7 x0, iN false, xFa x1 x7 x0, iN (dc ((W (x7 - x1)) > 8))] := by kernel_rfl
def xPW (x0 : Str) (x1 x7 : Int) (b4 b6 : Tok) (r1 : Bool) : rS 14 I43 (xHd x0 x1 x7 b4 b6) [Y, Y] [xBj r1] = st 14 I43 (xHd x0 x1 (W (x7 + 1)) b4 b6) [xCA x7 x0, xAt x7 x0, xHj x0 x7 r1, iY r1] := by kernel_rfl
abbrev xMJ (v0 v1 : Int) (v2 : Str) := List.drop (tN v0) (List.take (tN v1) v2)
abbrev xJp (v0 v1 : Int) (v2 : Str) (v3 : Int × Bool) : Prop := AbC 81 (xEO (xMJ v0 v1 v2)) (xB6 v3)
abbrev xJV (v0 : Int × Bool) (v1 : Tok) := xAN ((Tok.mk 2 v0.1 (Tok.pos v1) (Tok.text v1)), 0)
def xPX (x0 : Str) (x1 x7 : Int) (b4 b6 : Tok) (r1 : Bool) (r2 : Int × Bool) : rS 14 I43 (xHd x0 x1 x7 b4 b6) [Y, F, Y, Y] [xBj r1, xB6 r2] = dn (xJV r2 b6) [xCA x7 x0, xAt x7 x0, xHj x0 x7 r1, iN r1, xFa x1 x7 x0, xJp x1 x7 x0 r2, iY (!r2.2), iY true] := by kernel_rfl
def xPY (x0 : Str) (x1 x7 : Int) (b4 b6 : Tok) (r1 : Bool) (r2 : Int × Bool) : rS 14 I43 (xHd x0 x1 x7 b4 b6) [Y, F, F, Y] [xBj r1, xB6 r2] = dn (xJV r2 b6) [xCA x7 x0, xAt x7 x0, xHj x0 x7 r1, iN r1, xFa x1 x7 x0, xJp x1 x7 x0 r2, iN (!r2.2), iY (dc (r2.1 > 1000000000))] := by kernel_rfl
abbrev xMK (v0 : Int × Bool) (v1 : Tok) := Tok.mk 2 v0.1 (Tok.pos v1) (Tok.text v1)
def xPZ (x0 : Str) (x1 x7 : Int) (b4 b6 : Tok) (r1 : Bool) (r2 : Int × Bool) : rS 14 I43 (xHd x0 x1 x7 b4 b6) [Y, F, F, F] [xBj r1, xB6 r2] = dn (xAN ((xMK r2 b6), (W (x7 - x1)))) [xCA x7 x0, xAt x7 x0, xHj x0 x7 r1, iN r1, xFa x1 x7 x0, xJp x1 x7 x0 r2, iN (!r2.2), iN (dc (r2.1 > 1000000000))] := by kernel_rfl
def xNs (x0 : Str) (x1 x7 : Int) (b4 b6 : Tok) (r1 : Int × Bool) : rS 14 I43 (xHd x0 x1 x7 b4 b6) [F, F, Y, Y] [xB6 r1] = dn (xJV r1 b6) [xGf x7 x0, iN false, xFa x1 x7 x0, xJp x1 x7 x0 r1, iY (!r1.2), iY true] := by kernel_rfl
def xNt (x0 : Str) (x1 x7 : Int) (b4 b6 : Tok) (r1 : Int × Bool) : rS 14 I43 (xHd x0 x1 x7 b4 b6) [F, F, F, Y] [xB6 r1] = dn (xJV r1 b6) [xGf x7 x0, iN false, xFa x1 x7 x0, xJp x1 x7 x0 r1, iN (!r1.2), iY (dc (r1.1 > 1000000000))] := by kernel_rfl
def xNu (x0 : Str) (x1 x7 : Int) (b4 b6 : Tok) (r1 : Int × Bool) : rS 14 I43 (xHd x0 x1 x7 b4 b6) [F, F, F, F] [xB6 r1] = dn (xAN ((xMK r1 b6), (W (x7 - x1)))) [xGf x7 x0, iN false, xFa x1 x7 x0, xJp x1 x7 x0 r1, iN (!r1.2), iN (dc (r1.1 > 1000000000))] := by kernel_rfl
def xNv (x0 : Str) (x1 x7 : Int) (b4 b6 : Tok) : rS 23 I43 (xHe x0 x1 x7 b4 b6) [Y, Y] [] = st 23 I43 (xHe x0 x1 (W (x7 + 1)) b4 b6) [xCA x7 x0, xAt x7 x0, iY ((xED x0 x7) != 34)] := by kernel_rfl
abbrev xMW (v0 : Str) (v1 : Int) : Prop := iN ((xED v0 v1) != 34)
abbrev xJq (v0 v1 : Int) (v2 : Str) : Prop := (0 : Int) ≤ (W (v0 + 1)) ∧ (W (v0 + 1)) ≤ v1 ∧ v1 ≤ (Ln v2)
abbrev xJW (v0 : Tok) (v1 v2 : Int) (v3 : Str) := xAN ((Tok.mk 3 (Tok.n v0) (Tok.pos v0) (List.drop (tN (W (v1 + 1))) (List.take (tN v2) v3))), 0)
def xNw (x0 : Str) (x1 x7 : Int) (b4 b6 : Tok) : rS 23 I43 (xHe x0 x1 x7 b4 b6) [Y, F, Y, Y] [] = dn (xJW b6 x1 x7 x0) [xCA x7 x0, xAt x7 x0, xMW x0 x7, xJq x1 x7 x0, iY (x7 == (Ln x0 : Int)), iY true] := by kernel_rfl
abbrev xRw (v0 v1 : Int) (v2 : Str) := List.drop (tN (W (v0 + 1))) (List.take (tN v1) v2)
abbrev xLD (v0 v1 : Int) (v2 : Str) (v3 : Bool) : Prop := AbC 82 (xDB (xRw v0 v1 v2)) (xAP v3)
def xNx (x0 : Str) (x1 x7 : Int) (b4 b6 : Tok) (r1 : Bool) : rS 23 I43 (xHe x0 x1 x7 b4 b6) [Y, F, F, Y] [xAP r1] = dn (xJW b6 x1 x7 x0) [xCA x7 x0, xAt x7 x0, xMW x0 x7, xJq x1 x7 x0, iN (x7 == (Ln x0 : Int)), xLD x1 x7 x0 r1, iY (!r1)] := by kernel_rfl
abbrev xML (v0 : Tok) (v1 v2 : Int) (v3 : Str) := xAN ((Tok.mk 3 (Tok.n v0) (Tok.pos v0) (List.drop (tN (W (v1 + 1))) (List.take (tN v2) v3))), (W ((W (v2 + 1)) - v1)))
def xNy (x0 : Str) (x1 x7 : Int) (b4 b6 : Tok) (r1 : Bool) : rS 23 I43 (xHe x0 x1 x7 b4 b6) [Y, F, F, F] [xAP r1] = dn (xML b6 x1 x7 x0) [xCA x7 x0, xAt x7 x0, xMW x0 x7, xJq x1 x7 x0, iN (x7 == (Ln x0 : Int)), xLD x1 x7 x0 r1, iN (!r1)] := by kernel_rfl
def xNz (x0 : Str) (x1 x7 : Int) (b4 b6 : Tok) : rS 23 I43 (xHe x0 x1 x7 b4 b6) [F, F, Y, Y] [] = dn (xJW b6 x1 x7 x0) [xGf x7 x0, iN false, xJq x1 x7 x0, iY (x7 == (Ln x0 : Int)), iY true] := by kernel_rfl
def xNA (x0 : Str) (x1 x7 : Int) (b4 b6 : Tok) (r1 : Bool) : rS 23 I43 (xHe x0 x1 x7 b4 b6) [F, F, F, Y] [xAP r1] = dn (xJW b6 x1 x7 x0) [xGf x7 x0, iN false, xJq x1 x7 x0, iN (x7 == (Ln x0 : Int)), xLD x1 x7 x0 r1, iY (!r1)] := by kernel_rfl
def xNB (x0 : Str) (x1 x7 : Int) (b4 b6 : Tok) (r1 : Bool) : rS 23 I43 (xHe x0 x1 x7 b4 b6) [F, F, F, F] [xAP r1] = dn (xML b6 x1 x7 x0) [xGf x7 x0, iN false, xJq x1 x7 x0, iN (x7 == (Ln x0 : Int)), xLD x1 x7 x0 r1, iN (!r1)] := by kernel_rfl
def xP0 (a0 : Str) (a1 : Int) (r1 : Bool) : rE I43 (xC7 a0 a1) [Y] [xBr r1] = st 7 I43 (xI8 a0 a1 a1 (Tok.mk 0 0 0 []) (Tok.mk 0 0 a1 [])) [xAt a1 a0, xIj a0 a1 r1, iY r1] := by kernel_rfl
def xP1 (a0 : Str) (a1 : Int) (r1 r2 : Bool) : rE I43 (xC7 a0 a1) [F, Y] [xBr r1, xBj r2] = st 14 I43 (xHd a0 a1 a1 (Tok.mk 0 0 0 []) (Tok.mk 0 0 a1 [])) [xAt a1 a0, xIj a0 a1 r1, iN r1, xAt a1 a0, xHj a0 a1 r2, iY r2] := by kernel_rfl
def xP2 (a0 : Str) (a1 : Int) (r1 r2 : Bool) : rE I43 (xC7 a0 a1) [F, F, Y] [xBr r1, xBj r2] = st 23 I43 (xHe a0 a1 (W (a1 + 1)) (Tok.mk 0 0 0 []) (Tok.mk 0 0 a1 [])) [xAt a1 a0, xIj a0 a1 r1, iN r1, xAt a1 a0, xHj a0 a1 r2, iN r2, xAt a1 a0, xGY a0 a1] := by kernel_rfl
def xP3 (a0 : Str) (a1 : Int) (r1 r2 : Bool) (r3 : Int) : rE I43 (xC7 a0 a1) [F, F, F] [xBr r1, xBj r2, xAS r3] = dn (xAN ((Tok.mk 4 0 a1 (List.drop (tN a1) (List.take (tN (W (a1 + r3))) a0))), (W ((W (a1 + r3)) - a1)))) [xAt a1 a0, xIj a0 a1 r1, iN r1, xAt a1 a0, xHj a0 a1 r2, iN r2, xAt a1 a0, xGZ a0 a1, AbC 83 (xA0 a0 a1) (xAS r3), (0 : Int) ≤ a1 ∧ a1 ≤ (W (a1 + r3)) ∧ (W (a1 + r3)) ≤ (Ln a0)] := by kernel_rfl
theorem xWb {N : Nat} : ∀ n x0 x1 x7 b4 b6 r, xC8 N n x0 x1 x7 b4 b6 = some r → RS Tryz.f43 I43 7 (xI8 x0 x1 x7 b4 b6) (xAN r) := by
 intro n
 induction n with
 | zero => exact fun _ _ _ _ _ _ h => nE h
 | succ n ih =>
  exact fun x0 x1 x7 b4 b6 r h =>
   cE h (fun h0 h => iE h fun h1 h => bE h fun r1 h2 h => cE h (fun h3 h => tS fk43 (xSD x0 x1 x7 b4 b6 r1) (oc5 h0 h1 (xCR h2) h3 rfl on) (ih _ _ _ _ _ _ h)) fun h3 h =>
   bE h fun r2 h5 h => cE h (fun h6 h => tS fk43 (xSE x0 x1 x7 b4 b6 r1 r2) (oc7 h0 h1 (xCR h2) h3 h1 (xCr h5) h6 on) (ih _ _ _ _ _ _ h)) fun h6 h =>
   iE h fun h7 h => cE h (fun h8 h => dS h fk43 (xSF x0 x1 x7 b4 b6 r1 r2) (oc9 h0 h1 (xCR h2) h3 h1 (xCr h5) h6 h7 h8 on)) fun h8 h =>
   dS h fk43 (xSG x0 x1 x7 b4 b6 r1 r2) (oc9 h0 h1 (xCR h2) h3 h1 (xCr h5) h6 h7 h8 on)) fun h0 h =>
   iE h fun h2 h => cE h (fun h3 h => dS h fk43 (xSH x0 x1 x7 b4 b6) (oc4 h0 rfl h2 h3 on)) fun h3 h =>
   dS h fk43 (xSI x0 x1 x7 b4 b6) (oc4 h0 rfl h2 h3 on)
theorem xVt {N : Nat} : ∀ n x0 x1 x7 b4 b6 r, xCL N n x0 x1 x7 b4 b6 = some r → RS Tryz.f43 I43 14 (xHd x0 x1 x7 b4 b6) (xAN r) := by
 intro n
 induction n with
 | zero => exact fun _ _ _ _ _ _ h => nE h
 | succ n ih =>
  exact fun x0 x1 x7 b4 b6 r h =>
   cE h (fun h0 h => iE h fun h1 h => bE h fun r1 h2 h => cE h (fun h3 h => tS fk43 (xPW x0 x1 x7 b4 b6 r1) (oc4 h0 h1 (xCr h2) h3 on) (ih _ _ _ _ _ _ h)) fun h3 h =>
   iE h fun h4 h => bE h fun r2 h5 h => cE h (fun h6 h => dS h fk43 (xPX x0 x1 x7 b4 b6 r1 r2) (oc8 h0 h1 (xCr h2) h3 h4 (xDL h5) h6 rfl on)) fun h6 h =>
   cE h (fun h7 h => dS h fk43 (xPY x0 x1 x7 b4 b6 r1 r2) (oc8 h0 h1 (xCr h2) h3 h4 (xDL h5) h6 h7 on)) fun h7 h =>
   dS h fk43 (xPZ x0 x1 x7 b4 b6 r1 r2) (oc8 h0 h1 (xCr h2) h3 h4 (xDL h5) h6 h7 on)) fun h0 h =>
   iE h fun h2 h => bE h fun r1 h3 h => cE h (fun h4 h => dS h fk43 (xNs x0 x1 x7 b4 b6 r1) (oc6 h0 rfl h2 (xDL h3) h4 rfl on)) fun h4 h =>
   cE h (fun h5 h => dS h fk43 (xNt x0 x1 x7 b4 b6 r1) (oc6 h0 rfl h2 (xDL h3) h4 h5 on)) fun h5 h =>
   dS h fk43 (xNu x0 x1 x7 b4 b6 r1) (oc6 h0 rfl h2 (xDL h3) h4 h5 on)
theorem xVu {N : Nat} : ∀ n x0 x1 x7 b4 b6 r, xD2 N n x0 x1 x7 b4 b6 = some r → RS Tryz.f43 I43 23 (xHe x0 x1 x7 b4 b6) (xAN r) := by
 intro n
 induction n with
 | zero => exact fun _ _ _ _ _ _ h => nE h
 | succ n ih =>
  exact fun x0 x1 x7 b4 b6 r h =>
   cE h (fun h0 h => iE h fun h1 h => cE h (fun h2 h => tS fk43 (xNv x0 x1 x7 b4 b6) (oc3 h0 h1 h2 on) (ih _ _ _ _ _ _ h)) fun h2 h =>
   iE h fun h3 h => cE h (fun h4 h => dS h fk43 (xNw x0 x1 x7 b4 b6) (oc6 h0 h1 h2 h3 h4 rfl on)) fun h4 h =>
   bE h fun r1 h5 h => cE h (fun h6 h => dS h fk43 (xNx x0 x1 x7 b4 b6 r1) (oc7 h0 h1 h2 h3 h4 (xDC h5) h6 on)) fun h6 h =>
   dS h fk43 (xNy x0 x1 x7 b4 b6 r1) (oc7 h0 h1 h2 h3 h4 (xDC h5) h6 on)) fun h0 h =>
   iE h fun h2 h => cE h (fun h3 h => dS h fk43 (xNz x0 x1 x7 b4 b6) (oc5 h0 rfl h2 h3 rfl on)) fun h3 h =>
   bE h fun r1 h4 h => cE h (fun h5 h => dS h fk43 (xNA x0 x1 x7 b4 b6 r1) (oc6 h0 rfl h2 h3 (xDC h4) h5 on)) fun h5 h =>
   dS h fk43 (xNB x0 x1 x7 b4 b6 r1) (oc6 h0 rfl h2 h3 (xDC h4) h5 on)
theorem xWc {N : Nat} : ∀ a0 a1 r, xFT N a0 a1 = some r → RE Tryz.f43 I43 (xC7 a0 a1) (xAN r) := fun a0 a1 r h =>
 iE h fun h0 h => bE h fun r1 h1 h => cE h (fun h2 h => tE fk43 (xP0 a0 a1 r1) (oc3 h0 (xCR h1) h2 on) (xWb _ _ _ _ _ _ _ h)) fun h2 h =>
 bE h fun r2 h4 h => cE h (fun h5 h => tE fk43 (xP1 a0 a1 r1 r2) (oc6 h0 (xCR h1) h2 h0 (xCr h4) h5 on) (xVt _ _ _ _ _ _ _ h)) fun h5 h =>
 cE h (fun h7 h => tE fk43 (xP2 a0 a1 r1 r2) (oc8 h0 (xCR h1) h2 h0 (xCr h4) h5 h0 h7 on) (xVu _ _ _ _ _ _ _ h)) fun h7 h =>
 bE h fun r3 h8 h => iE h fun h9 h => dE h fk43 (xP3 a0 a1 r1 r2 r3) (oc10 h0 (xCR h1) h2 h0 (xCr h4) h5 h0 h7 (xIA h8) h9 on)
theorem xF8 {N : Nat} {a0 : Str} {a1 : Int} {r : Tok × Int} (h : xFT N  a0 a1 = some r) : AbC 43 (xC7 a0 a1) (xAN r) :=
 AbsCalls.of_reach fk43 rfl rfl (Nat.le_of_ble_eq_true rfl) (xWc a0 a1 r h)
noncomputable def I23 : Info := { body := (Tryz.f23.body).getD .skip, nt := 46, results := [.tmp 2, .tmp 3], keep := [0, 4, 6, 8, 10, 12, 14, 20, 32, 40, 70, 13], live := [(5, [0, 8, 10])], modes := [(8, [(3, .take, false)]), (9, [(2, .take, false)]), (11, [(0, .take, false)]), (13, [(0, .take, false)])] }
theorem fk23 : FnOk Tryz.prog 23 Tryz.f23 I23 := ⟨Tryz.func23, by kernel_rfl, by kernel_rfl, by kernel_rfl, by kernel_rfl⟩
def xJz (x0 : Str) (x4 : List Tok) (x5 : Int) : St := [(0, .v false [.str x0]), (8, .v false [.sl .own .tok x4]), (10, .v false [.int .i64 x5])]
abbrev xK4 (v0 : Str) (v1 : Int) := (((gD v0 (tN v1) 0).toNat : Int) : Int) == 32
def xR0 (x0 : Str) (x4 : List Tok) (x5 : Int) : rS 5 I23 (xJz x0 x4 x5) [Y, Y] [] = st 5 I23 (xJz x0 x4 (W (x5 + 1))) [xCA x5 x0, xAt x5 x0, iY (xK4 x0 x5)] := by kernel_rfl
abbrev xJr (v0 : Str) (v1 : Int) : Prop := iN (xK4 v0 v1)
def xR1 (x0 : Str) (x4 : List Tok) (x5 : Int) (r1 : Tok × Int) : rS 5 I23 (xJz x0 x4 x5) [Y, F, Y, Y] [xAN r1] = dn (xAM ([], x5)) [xCA x5 x0, xAt x5 x0, xJr x0 x5, AbC 43 (xC7 x0 x5) (xAN r1), iY (r1.2 == 0), iY true] := by kernel_rfl
def xR2 (x0 : Str) (x4 : List Tok) (x5 : Int) (r1 : Tok × Int) : rS 5 I23 (xJz x0 x4 x5) [Y, F, F, Y] [xAN r1] = dn (xAM ([], x5)) [xCA x5 x0, xAt x5 x0, xJr x0 x5, AbC 43 (xC7 x0 x5) (xAN r1), iN (r1.2 == 0), iY ((Ln x4 : Int) == 60)] := by kernel_rfl
def xR3 (x0 : Str) (x4 : List Tok) (x5 : Int) (r1 : Tok × Int) : rS 5 I23 (xJz x0 x4 x5) [Y, F, F, F] [xAN r1] = st 5 I23 (xJz x0 (x4 ++ [r1.1]) (W (x5 + r1.2))) [xCA x5 x0, xAt x5 x0, xJr x0 x5, AbC 43 (xC7 x0 x5) (xAN r1), iN (r1.2 == 0), iN ((Ln x4 : Int) == 60), Ln x4 + Ln [r1.1] ≤ Lim] := by kernel_rfl
def xR4 (x0 : Str) (x4 : List Tok) (x5 : Int) : rS 5 I23 (xJz x0 x4 x5) [F] [] = dn (xAM (x4, (-1))) [xGf x5 x0] := by kernel_rfl
abbrev xJX (v0 : Str) := dc ((Ln v0 : Int) > 120)
def xR5 (a0 : Str) : rE I23 (xEc a0) [Y] [] = dn (xAM ([], 120)) [iY (xJX a0)] := by kernel_rfl
def xR6 (a0 : Str) : rE I23 (xEc a0) [F] [] = st 5 I23 (xJz a0 [] 0) [iN (xJX a0)] := by kernel_rfl
theorem xVX {N : Nat} : ∀ n x0 x4 x5 r, xDl N n x0 x4 x5 = some r → RS Tryz.f23 I23 5 (xJz x0 x4 x5) (xAM r) := by
 intro n
 induction n with
 | zero => exact fun _ _ _ _ h => nE h
 | succ n ih =>
  exact fun x0 x4 x5 r h =>
   cE h (fun h0 h => iE h fun h1 h => cE h (fun h2 h => tS fk23 (xR0 x0 x4 x5) (oc3 h0 h1 h2 on) (ih _ _ _ _ h)) fun h2 h =>
   bE h fun r1 h3 h => cE h (fun h4 h => dS h fk23 (xR1 x0 x4 x5 r1) (oc6 h0 h1 h2 (xF8 h3) h4 rfl on)) fun h4 h =>
   cE h (fun h5 h => dS h fk23 (xR2 x0 x4 x5 r1) (oc6 h0 h1 h2 (xF8 h3) h4 h5 on)) fun h5 h =>
   iE h fun h6 h => tS fk23 (xR3 x0 x4 x5 r1) (oc7 h0 h1 h2 (xF8 h3) h4 h5 h6 on) (ih _ _ _ _ h)) fun h0 h =>
   dS h fk23 (xR4 x0 x4 x5) (oc h0 on)
theorem xVY {N : Nat} : ∀ a0 r, xEy N a0 = some r → RE Tryz.f23 I23 (xEc a0) (xAM r) := fun a0 r h =>
 cE h (fun h0 h => dE h fk23 (xR5 a0) (oc h0 on)) fun h0 h =>
 tE fk23 (xR6 a0) (oc h0 on) (xVX _ _ _ _ _ h)
theorem xB7 {N : Nat} {a0 : Str} {r : (List Tok) × Int} (h : xEy N  a0 = some r) : AbC 23 (xEc a0) (xAM r) :=
 AbsCalls.of_reach fk23 rfl rfl (Nat.le_of_ble_eq_true rfl) (xVY a0 r h)
noncomputable def I85 : Info := { body := (Tryz.f85.body).getD .skip, nt := 14, results := [.tmp 4], keep := [0, 2, 4, 8, 5], live := [], modes := [(1, [(3, .take, false)])] }
theorem fk85 : FnOk Tryz.prog 85 Tryz.f85 I85 := ⟨Tryz.func85, by kernel_rfl, by kernel_rfl, by kernel_rfl, by kernel_rfl⟩
def xUg (a0 : Tok) (a1 : Str) : rE I85 (xCP a0 a1) [Y] [] = dn (xAG (((Tok.text a0) : Str) == a1)) [iY ((Tok.kind a0) == 4)] := by kernel_rfl
def xUh (a0 : Tok) (a1 : Str) : rE I85 (xCP a0 a1) [F] [] = dn (xAG false) [iN ((Tok.kind a0) == 4)] := by kernel_rfl
theorem xWJ {N : Nat} : ∀ a0 a1 r, xCG N a0 a1 = some r → RE Tryz.f85 I85 (xCP a0 a1) (xAG r) := fun a0 a1 r h =>
 cE h (fun h0 h => dE h fk85 (xUg a0 a1) (oc h0 on)) fun h0 h =>
 dE h fk85 (xUh a0 a1) (oc h0 on)
theorem xBC {N : Nat} {a0 : Tok} {a1 : Str} {r : Bool} (h : xCG N  a0 a1 = some r) : AbC 85 (xCP a0 a1) (xAG r) :=
 AbsCalls.of_reach fk85 rfl rfl (Nat.le_of_ble_eq_true rfl) (xWJ a0 a1 r h)
noncomputable def I86 : Info := { body := (Tryz.f86.body).getD .skip, nt := 14, results := [.tmp 4], keep := [0, 2, 4, 8, 5], live := [], modes := [(1, [(3, .take, false)])] }
theorem fk86 : FnOk Tryz.prog 86 Tryz.f86 I86 := ⟨Tryz.func86, by kernel_rfl, by kernel_rfl, by kernel_rfl, by kernel_rfl⟩
def xUi (a0 : Tok) (a1 : Str) : rE I86 (xDZ a0 a1) [Y] [] = dn (xDv (((Tok.text a0) : Str) == a1)) [iY ((Tok.kind a0) == 1)] := by kernel_rfl
def xUj (a0 : Tok) (a1 : Str) : rE I86 (xDZ a0 a1) [F] [] = dn (xDv false) [iN ((Tok.kind a0) == 1)] := by kernel_rfl
theorem xWK {N : Nat} : ∀ a0 a1 r, xEH N a0 a1 = some r → RE Tryz.f86 I86 (xDZ a0 a1) (xDv r) := fun a0 a1 r h =>
 cE h (fun h0 h => dE h fk86 (xUi a0 a1) (oc h0 on)) fun h0 h =>
 dE h fk86 (xUj a0 a1) (oc h0 on)
theorem xId {N : Nat} {a0 : Tok} {a1 : Str} {r : Bool} (h : xEH N  a0 a1 = some r) : AbC 86 (xDZ a0 a1) (xDv r) :=
 AbsCalls.of_reach fk86 rfl rfl (Nat.le_of_ble_eq_true rfl) (xWK a0 a1 r h)
noncomputable def I45 : Info := { body := (Tryz.f45.body).getD .skip, nt := 50, results := [.tmp 4], keep := [0, 2, 8, 1], live := [], modes := [(1, [(5, .take, false), (17, .take, false), (30, .take, false)])], ext := [0] }
theorem fk45 : FnOk Tryz.prog 45 Tryz.f45 I45 := ⟨Tryz.func45, by kernel_rfl, by kernel_rfl, by kernel_rfl, by kernel_rfl⟩
abbrev xIT (v0 : Rdr) : Prop := iY (dc ((Rdr.bad v0) < 0))
abbrev xK5 (v0 : Rdr) := dc ((Rdr.i v0) < (Ln (Rdr.toks v0) : Int))
abbrev xMX (v0 : Rdr) : Prop := iY (xK5 v0)
abbrev xE4 (v0 : Rdr) : Prop := (0 : Int) ≤ (Rdr.i v0) ∧ (Rdr.i v0) < (Ln (Rdr.toks v0))
abbrev xHr (v0 : Rdr) := gD (Rdr.toks v0) (tN (Rdr.i v0)) Ty.tok.dflt
def xSJ (a0 : Rdr) (a1 : Str) (r1 : Bool) : rE I45 (xAv a0 a1) [Y, Y, Y] [xAG r1] = dn (xAd (true, a0)) [xIT a0, xMX a0, xE4 a0, AbC 85 (xCP (xHr a0) a1) (xAG r1), iY r1] := by kernel_rfl
def xSK (a0 : Rdr) (a1 : Str) (r1 r2 : Bool) : rE I45 (xAv a0 a1) [Y, Y, F] [xAG r1, xDv r2] = dn (xAd (r2, a0)) [xIT a0, xMX a0, xE4 a0, AbC 85 (xCP (xHr a0) a1) (xAG r1), iN r1, xE4 a0, AbC 86 (xDZ (xHr a0) a1) (xDv r2)] := by kernel_rfl
def xSL (a0 : Rdr) (a1 : Str) : rE I45 (xAv a0 a1) [Y, F] [] = dn (xAd (false, a0)) [xIT a0, iN (xK5 a0)] := by kernel_rfl
def xSM (a0 : Rdr) (a1 : Str) : rE I45 (xAv a0 a1) [F, F] [] = dn (xAd (false, a0)) [iN (dc ((Rdr.bad a0) < 0)), iN false] := by kernel_rfl
theorem xWd {N : Nat} : ∀ a0 a1 r, xA9 N a0 a1 = some r → RE Tryz.f45 I45 (xAv a0 a1) (xAd r) := fun a0 a1 r h =>
 cE h (fun h0 h => cE h (fun h1 h => iE h fun h2 h => bE h fun r1 h3 h => cE h (fun h4 h => dE h fk45 (xSJ a0 a1 r1) (oc5 h0 h1 h2 (xBC h3) h4 on)) fun h4 h =>
 bE h fun r2 h6 h => dE h fk45 (xSK a0 a1 r1 r2) (oc7 h0 h1 h2 (xBC h3) h4 h2 (xId h6) on)) fun h1 h =>
 dE h fk45 (xSL a0 a1) (oc2 h0 h1 on)) fun h0 h =>
 dE h fk45 (xSM a0 a1) (oc2 h0 rfl on)
theorem xAl {N : Nat} {a0 : Rdr} {a1 : Str} {r : Bool × Rdr} (h : xA9 N  a0 a1 = some r) : AbC 45 (xAv a0 a1) (xAd r) :=
 AbsCalls.of_reach fk45 rfl rfl (Nat.le_of_ble_eq_true rfl) (xWd a0 a1 r h)
noncomputable def I108 : Info := { body := (Tryz.f108.body).getD .skip, nt := 45, results := [.tmp 2], keep := [0, 4, 6, 8, 10, 18, 82], live := [(2, [0, 6])], modes := [(4, [(4, .take, false)]), (5, [(4, .take, false)]), (6, [(0, .take, false), (2, .take, false), (5, .take, false), (6, .take, false)])] }
theorem xHm : FnOk Tryz.prog 108 Tryz.f108 I108 := ⟨Tryz.func108, by kernel_rfl, by kernel_rfl, by kernel_rfl, by kernel_rfl⟩
def xEY (x0 : Str) (x3 : Int) : St := [(0, .v false [.str x0]), (6, .v false [.int .i64 x3])]
abbrev xD3 (v0 : Str) (v1 : Int) : Prop := iY (dc ((xED v0 v1) ≥ 97))
abbrev xEm (v0 : Str) (v1 : Int) : Prop := iY (dc ((xED v0 v1) ≥ 48))
abbrev xIO (v0 : Str) (v1 : Int) := dc ((((gD v0 (tN v1) 0).toNat : Int) : Int) ≤ 122)
abbrev xHI (v0 : Str) (v1 : Int) : Prop := iY (!(xIO v0 v1))
def xOB (x0 : Str) (x3 : Int) : rS 2 I108 (xEY x0 x3) [Y, Y, Y, Y, Y, Y] [] = dn (xAW false) [xCA x3 x0, xAt x3 x0, xD3 x0 x3, xAt x3 x0, xAt x3 x0, xEm x0 x3, xAt x3 x0, xHI x0 x3, iY (x3 == 0), iY true] := by kernel_rfl
abbrev xIa (v0 : Str) (v1 : Int) := dc ((((gD v0 (tN v1) 0).toNat : Int) : Int) ≤ 57)
def xOC (x0 : Str) (x3 : Int) : rS 2 I108 (xEY x0 x3) [Y, Y, Y, Y, F, Y] [] = dn (xAW false) [xCA x3 x0, xAt x3 x0, xD3 x0 x3, xAt x3 x0, xAt x3 x0, xEm x0 x3, xAt x3 x0, xHI x0 x3, xHU x3, iY (!(xIa x0 x3))] := by kernel_rfl
def xOD (x0 : Str) (x3 : Int) : rS 2 I108 (xEY x0 x3) [Y, Y, Y, Y, F, F] [] = st 2 I108 (xEY x0 (W (x3 + 1))) [xCA x3 x0, xAt x3 x0, xD3 x0 x3, xAt x3 x0, xAt x3 x0, xEm x0 x3, xAt x3 x0, xHI x0 x3, xHU x3, iN (!(xIa x0 x3))] := by kernel_rfl
abbrev xMY (v0 : Str) (v1 : Int) : Prop := iN (!(xIO v0 v1))
def xOE (x0 : Str) (x3 : Int) : rS 2 I108 (xEY x0 x3) [Y, Y, Y, F, F] [] = st 2 I108 (xEY x0 (W (x3 + 1))) [xCA x3 x0, xAt x3 x0, xD3 x0 x3, xAt x3 x0, xAt x3 x0, xEm x0 x3, xAt x3 x0, xMY x0 x3, iN false] := by kernel_rfl
abbrev xFu (v0 : Str) (v1 : Int) : Prop := iN (dc ((xED v0 v1) ≥ 48))
def xOF (x0 : Str) (x3 : Int) : rS 2 I108 (xEY x0 x3) [Y, Y, F, Y, Y, Y] [] = dn (xAW false) [xCA x3 x0, xAt x3 x0, xD3 x0 x3, xAt x3 x0, xAt x3 x0, xFu x0 x3, xHI x0 x3, iY (x3 == 0), iY true] := by kernel_rfl
def xOG (x0 : Str) (x3 : Int) : rS 2 I108 (xEY x0 x3) [Y, Y, F, Y, F, Y] [] = dn (xAW false) [xCA x3 x0, xAt x3 x0, xD3 x0 x3, xAt x3 x0, xAt x3 x0, xFu x0 x3, xHI x0 x3, xHU x3, iY (!false)] := by kernel_rfl
def xOH (x0 : Str) (x3 : Int) : rS 2 I108 (xEY x0 x3) [Y, Y, F, F, F] [] = st 2 I108 (xEY x0 (W (x3 + 1))) [xCA x3 x0, xAt x3 x0, xD3 x0 x3, xAt x3 x0, xAt x3 x0, xFu x0 x3, xMY x0 x3, iN false] := by kernel_rfl
abbrev xEG (v0 : Str) (v1 : Int) : Prop := iN (dc ((xED v0 v1) ≥ 97))
def xOI (x0 : Str) (x3 : Int) : rS 2 I108 (xEY x0 x3) [Y, F, Y, Y, Y, Y] [] = dn (xAW false) [xCA x3 x0, xAt x3 x0, xEG x0 x3, xAt x3 x0, xEm x0 x3, xAt x3 x0, iY (!false), iY (x3 == 0), iY true] := by kernel_rfl
def xOJ (x0 : Str) (x3 : Int) : rS 2 I108 (xEY x0 x3) [Y, F, Y, Y, F, Y] [] = dn (xAW false) [xCA x3 x0, xAt x3 x0, xEG x0 x3, xAt x3 x0, xEm x0 x3, xAt x3 x0, iY (!false), xHU x3, iY (!(xIa x0 x3))] := by kernel_rfl
def xOK (x0 : Str) (x3 : Int) : rS 2 I108 (xEY x0 x3) [Y, F, Y, Y, F, F] [] = st 2 I108 (xEY x0 (W (x3 + 1))) [xCA x3 x0, xAt x3 x0, xEG x0 x3, xAt x3 x0, xEm x0 x3, xAt x3 x0, iY (!false), xHU x3, iN (!(xIa x0 x3))] := by kernel_rfl
def xNd (x0 : Str) (x3 : Int) : rS 2 I108 (xEY x0 x3) [Y, F, F, Y, Y, Y] [] = dn (xAW false) [xCA x3 x0, xAt x3 x0, xEG x0 x3, xAt x3 x0, xFu x0 x3, iY (!false), iY (x3 == 0), iY true] := by kernel_rfl
def xNe (x0 : Str) (x3 : Int) : rS 2 I108 (xEY x0 x3) [Y, F, F, Y, F, Y] [] = dn (xAW false) [xCA x3 x0, xAt x3 x0, xEG x0 x3, xAt x3 x0, xFu x0 x3, iY (!false), xHU x3, iY (!false)] := by kernel_rfl
def xNf (x0 : Str) (x3 : Int) : rS 2 I108 (xEY x0 x3) [F] [] = dn (xAW (xIN x0)) [xGf x3 x0] := by kernel_rfl
def xNg (a0 : Str) : rE I108 (xD1 a0) [] [] = st 2 I108 (xEY a0 0) [] := by kernel_rfl
theorem xVa {N : Nat} : ∀ n x0 x3 r, xCq N n x0 x3 = some r → RS Tryz.f108 I108 2 (xEY x0 x3) (xAW r) := by
 intro n
 induction n with
 | zero => exact fun _ _ _ h => nE h
 | succ n ih =>
  exact fun x0 x3 r h =>
   cE h (fun h0 h => iE h fun h1 h => cE h (fun h2 h => cE h (fun h5 h => cE h (fun h7 h => cE h (fun h8 h => dS h xHm (xOB x0 x3) (oc10 h0 h1 h2 h1 h1 h5 h1 h7 h8 rfl on)) fun h8 h =>
   cE h (fun h9 h => dS h xHm (xOC x0 x3) (oc10 h0 h1 h2 h1 h1 h5 h1 h7 h8 h9 on)) fun h9 h =>
   tS xHm (xOD x0 x3) (oc10 h0 h1 h2 h1 h1 h5 h1 h7 h8 h9 on) (ih _ _ _ h)) fun h7 h =>
   tS xHm (xOE x0 x3) (oc9 h0 h1 h2 h1 h1 h5 h1 h7 rfl on) (ih _ _ _ h)) fun h5 h =>
   cE h (fun h6 h => cE h (fun h7 h => dS h xHm (xOF x0 x3) (oc9 h0 h1 h2 h1 h1 h5 h6 h7 rfl on)) fun h7 h =>
   dS h xHm (xOG x0 x3) (oc9 h0 h1 h2 h1 h1 h5 h6 h7 rfl on)) fun h6 h =>
   tS xHm (xOH x0 x3) (oc8 h0 h1 h2 h1 h1 h5 h6 rfl on) (ih _ _ _ h)) fun h2 h =>
   cE h (fun h4 h => cE h (fun h7 h => dS h xHm (xOI x0 x3) (oc9 h0 h1 h2 h1 h4 h1 rfl h7 rfl on)) fun h7 h =>
   cE h (fun h8 h => dS h xHm (xOJ x0 x3) (oc9 h0 h1 h2 h1 h4 h1 rfl h7 h8 on)) fun h8 h =>
   tS xHm (xOK x0 x3) (oc9 h0 h1 h2 h1 h4 h1 rfl h7 h8 on) (ih _ _ _ h)) fun h4 h =>
   cE h (fun h6 h => dS h xHm (xNd x0 x3) (oc8 h0 h1 h2 h1 h4 rfl h6 rfl on)) fun h6 h =>
   dS h xHm (xNe x0 x3) (oc8 h0 h1 h2 h1 h4 rfl h6 rfl on)) fun h0 h =>
   dS h xHm (xNf x0 x3) (oc h0 on)
theorem xVb {N : Nat} : ∀ a0 r, xF2 N a0 = some r → RE Tryz.f108 I108 (xD1 a0) (xAW r) := fun a0 r h =>
 tE xHm (xNg a0) on (xVa _ _ _ _ h)
theorem xFS {N : Nat} {a0 : Str} {r : Bool} (h : xF2 N  a0 = some r) : AbC 108 (xD1 a0) (xAW r) :=
 AbsCalls.of_reach xHm rfl rfl (Nat.le_of_ble_eq_true rfl) (xVb a0 r h)
noncomputable def I126 : Info := { body := (Tryz.f126.body).getD .skip, nt := 2, results := [.tmp 0], keep := [0], live := [], modes := [] }
theorem xVz : FnOk Tryz.prog 126 Tryz.f126 I126 := ⟨Tryz.func126, by kernel_rfl, by kernel_rfl, by kernel_rfl, by kernel_rfl⟩
def xPv : rE I126 (xEi ) [] [] = dn (xDS [[108, 101, 116], [105, 110], [105, 102], [116, 104, 101, 110], [101, 108, 115, 101], [102, 111, 114], [100, 111], [108, 101, 110], [115, 117, 109], [116, 97, 107, 101], [115, 107, 105, 112], [114, 97, 110, 103, 101], [110, 116, 104], [119, 104, 101, 114, 101], [107, 101, 101, 112], [97, 100, 100], [103, 114, 111, 117, 112], [106, 111, 105, 110], [99, 111, 108, 117, 109, 110], [114, 111, 119, 115], [99, 108, 111, 99, 107], [99, 104, 97, 110, 99, 101], [102, 105, 108, 101], [116, 97, 98, 108, 101]]) [] := by kernel_rfl
theorem xVm {N : Nat} : ∀ r, xE7 N = some r → RE Tryz.f126 I126 (xEi ) (xDS r) := fun r h =>
 dE h xVz (xPv) on
theorem xHP {N : Nat} {r : (List Str)} (h : xE7 N   = some r) : AbC 126 (xEi ) (xDS r) :=
 AbsCalls.of_reach xVz rfl rfl (Nat.le_of_ble_eq_true rfl) (xVm  r h)
noncomputable def I125 : Info := { body := (Tryz.f125.body).getD .skip, nt := 18, results := [.tmp 4], keep := [0, 2, 8, 10, 18, 34], live := [(2, [0, 2, 10])], modes := [] }
theorem xMv : FnOk Tryz.prog 125 Tryz.f125 I125 := ⟨Tryz.func125, by kernel_rfl, by kernel_rfl, by kernel_rfl, by kernel_rfl⟩
def xJg (x0 : List Str) (x1 : Str) (x5 : Int) : St := [(0, .v false [.sl .ro .str x0]), (2, .v false [.str x1]), (10, .v false [.int .i64 x5])]
def xPr (x0 : List Str) (x1 : Str) (x5 : Int) : rS 2 I125 (xJg x0 x1 x5) [Y, Y] [] = dn (xEa true) [iY (dc (x5 < (Ln x0 : Int))), (0 : Int) ≤ x5 ∧ x5 < (Ln x0), iY (((gD x0 (tN x5) Ty.str.dflt) : Str) == x1)] := by kernel_rfl
def xPs (x0 : List Str) (x1 : Str) (x5 : Int) : rS 2 I125 (xJg x0 x1 x5) [Y, F] [] = st 2 I125 (xJg x0 x1 (W (x5 + 1))) [iY (dc (x5 < (Ln x0 : Int))), (0 : Int) ≤ x5 ∧ x5 < (Ln x0), iN (((gD x0 (tN x5) Ty.str.dflt) : Str) == x1)] := by kernel_rfl
def xPt (x0 : List Str) (x1 : Str) (x5 : Int) : rS 2 I125 (xJg x0 x1 x5) [F] [] = dn (xEa false) [iN (dc (x5 < (Ln x0 : Int)))] := by kernel_rfl
def xPu (a0 : List Str) (a1 : Str) : rE I125 (xFx a0 a1) [] [] = st 2 I125 (xJg a0 a1 0) [] := by kernel_rfl
theorem xVk {N : Nat} : ∀ n x0 x1 x5 r, xD9 N n x0 x1 x5 = some r → RS Tryz.f125 I125 2 (xJg x0 x1 x5) (xEa r) := by
 intro n
 induction n with
 | zero => exact fun _ _ _ _ h => nE h
 | succ n ih =>
  exact fun x0 x1 x5 r h =>
   cE h (fun h0 h => iE h fun h1 h => cE h (fun h2 h => dS h xMv (xPr x0 x1 x5) (oc3 h0 h1 h2 on)) fun h2 h =>
   tS xMv (xPs x0 x1 x5) (oc3 h0 h1 h2 on) (ih _ _ _ _ h)) fun h0 h =>
   dS h xMv (xPt x0 x1 x5) (oc h0 on)
theorem xVl {N : Nat} : ∀ a0 a1 r, xG8 N a0 a1 = some r → RE Tryz.f125 I125 (xFx a0 a1) (xEa r) := fun a0 a1 r h =>
 tE xMv (xPu a0 a1) on (xVk _ _ _ _ _ h)
theorem xJ6 {N : Nat} {a0 : List Str} {a1 : Str} {r : Bool} (h : xG8 N  a0 a1 = some r) : AbC 125 (xFx a0 a1) (xEa r) :=
 AbsCalls.of_reach xMv rfl rfl (Nat.le_of_ble_eq_true rfl) (xVl a0 a1 r h)
noncomputable def I109 : Info := { body := (Tryz.f109.body).getD .skip, nt := 6, results := [.tmp 2], keep := [0, 4], live := [], modes := [] }
theorem xVy : FnOk Tryz.prog 109 Tryz.f109 I109 := ⟨Tryz.func109, by kernel_rfl, by kernel_rfl, by kernel_rfl, by kernel_rfl⟩
def xOL (a0 : Str) (r1 : (List Str)) (r2 : Bool) : rE I109 (xEh a0) [] [xDS r1, xEa r2] = dn (xDP r2) [AbC 126 xEi (xDS r1), AbC 125 (xFx r1 a0) (xEa r2)] := by kernel_rfl
theorem xVc {N : Nat} : ∀ a0 r, xEp N a0 = some r → RE Tryz.f109 I109 (xEh a0) (xDP r) := fun a0 r h =>
 bE h fun r1 h0 h => bE h fun r2 h1 h => dE h xVy (xOL a0 r1 r2) (oc2 (xHP h0) (xJ6 h1) on)
theorem xHN {N : Nat} {a0 : Str} {r : Bool} (h : xEp N  a0 = some r) : AbC 109 (xEh a0) (xDP r) :=
 AbsCalls.of_reach xVy rfl rfl (Nat.le_of_ble_eq_true rfl) (xVc a0 r h)
noncomputable def I87 : Info := { body := (Tryz.f87.body).getD .skip, nt := 15, results := [.tmp 2], keep := [0, 4], live := [], modes := [(1, [(2, .take, false), (7, .take, false)])] }
theorem fk87 : FnOk Tryz.prog 87 Tryz.f87 I87 := ⟨Tryz.func87, by kernel_rfl, by kernel_rfl, by kernel_rfl, by kernel_rfl⟩
def xUk (a0 : Str) (r1 r2 : Bool) : rE I87 (xBK a0) [Y, Y] [xAW r1, xDP r2] = dn (xAz (!r2)) [AbC 108 (xD1 a0) (xAW r1), iY r1, iY (dc ((Ln a0 : Int) ≤ 8)), AbC 109 (xEh a0) (xDP r2)] := by kernel_rfl
def xUl (a0 : Str) (r1 : Bool) : rE I87 (xBK a0) [Y, F] [xAW r1] = dn (xAz false) [AbC 108 (xD1 a0) (xAW r1), iY r1, iN (dc ((Ln a0 : Int) ≤ 8))] := by kernel_rfl
def xUm (a0 : Str) (r1 : Bool) : rE I87 (xBK a0) [F, F] [xAW r1] = dn (xAz false) [AbC 108 (xD1 a0) (xAW r1), iN r1, iN false] := by kernel_rfl
theorem xWL {N : Nat} : ∀ a0 r, xCw N a0 = some r → RE Tryz.f87 I87 (xBK a0) (xAz r) := fun a0 r h =>
 bE h fun r1 h0 h => cE h (fun h1 h => cE h (fun h2 h => bE h fun r2 h3 h => dE h fk87 (xUk a0 r1 r2) (oc4 (xFS h0) h1 h2 (xHN h3) on)) fun h2 h =>
 dE h fk87 (xUl a0 r1) (oc3 (xFS h0) h1 h2 on)) fun h1 h =>
 dE h fk87 (xUm a0 r1) (oc3 (xFS h0) h1 rfl on)
theorem xBw {N : Nat} {a0 : Str} {r : Bool} (h : xCw N  a0 = some r) : AbC 87 (xBK a0) (xAz r) :=
 AbsCalls.of_reach fk87 rfl rfl (Nat.le_of_ble_eq_true rfl) (xWL a0 r h)
noncomputable def I29 : Info := { body := (Tryz.f29.body).getD .skip, nt := 40, results := [.cell 2 25], keep := [0, 4, 14, 48, 1, 5], live := [], modes := [], ext := [0] }
theorem fk29 : FnOk Tryz.prog 29 Tryz.f29 I29 := ⟨Tryz.func29, by kernel_rfl, by kernel_rfl, by kernel_rfl, by kernel_rfl⟩
def xSb (a0 : Rdr) : rE I29 (xCo a0) [Y, Y] [] = dn (xAF ((Exp.mk 0 0 [] []), (Rdr.mk (Rdr.toks a0) (Rdr.i a0) (Rdr.fin a0) (Tok.pos (xHr a0))))) [xIT a0, xMX a0, xE4 a0] := by kernel_rfl
def xSc (a0 : Rdr) : rE I29 (xCo a0) [Y, F] [] = dn (xAF ((Exp.mk 0 0 [] []), (Rdr.mk (Rdr.toks a0) (Rdr.i a0) (Rdr.fin a0) (Rdr.fin a0)))) [xIT a0, iN (xK5 a0)] := by kernel_rfl
def xSd (a0 : Rdr) : rE I29 (xCo a0) [F] [] = dn (xAF ((Exp.mk 0 0 [] []), a0)) [iN (dc ((Rdr.bad a0) < 0))] := by kernel_rfl
theorem xV0 {N : Nat} : ∀ a0 r, xBu N a0 = some r → RE Tryz.f29 I29 (xCo a0) (xAF r) := fun a0 r h =>
 cE h (fun h0 h => cE h (fun h1 h => iE h fun h2 h => dE h fk29 (xSb a0) (oc3 h0 h1 h2 on)) fun h1 h =>
 dE h fk29 (xSc a0) (oc2 h0 h1 on)) fun h0 h =>
 dE h fk29 (xSd a0) (oc h0 on)
theorem xBN {N : Nat} {a0 : Rdr} {r : Exp × Rdr} (h : xBu N  a0 = some r) : AbC 29 (xCo a0) (xAF r) :=
 AbsCalls.of_reach fk29 rfl rfl (Nat.le_of_ble_eq_true rfl) (xV0 a0 r h)
noncomputable def I46 : Info := { body := (Tryz.f46.body).getD .skip, nt := 71, results := [.tmp 2], keep := [0, 4, 96, 1], live := [], modes := [(1, [(5, .take, false), (17, .take, false), (31, .take, false)])], ext := [0] }
theorem fk46 : FnOk Tryz.prog 46 Tryz.f46 I46 := ⟨Tryz.func46, by kernel_rfl, by kernel_rfl, by kernel_rfl, by kernel_rfl⟩
abbrev xIk (v0 : Rdr) (v1 : Exp × Rdr) : Prop := AbC 29 (xCo v0) (xAF v1)
def xSN (a0 : Rdr) (r1 : Exp × Rdr) : rE I46 (xDd a0) [Y, Y, Y, Y] [xAF r1] = dn (xCp ([], r1.2)) [iY (dc ((Rdr.bad a0) ≥ 0)), iY true, iY true, iY true, xIk a0 r1] := by kernel_rfl
abbrev xFN (v0 : Rdr) : Prop := iN (dc ((Rdr.bad v0) ≥ 0))
abbrev xK6 (v0 : Rdr) := dc ((Rdr.i v0) ≥ (Ln (Rdr.toks v0) : Int))
def xSO (a0 : Rdr) (r1 : Exp × Rdr) : rE I46 (xDd a0) [F, Y, Y, Y] [xAF r1] = dn (xCp ([], r1.2)) [xFN a0, iY (xK6 a0), iY true, iY true, xIk a0 r1] := by kernel_rfl
abbrev xGe (v0 : Rdr) : Prop := iN (xK6 v0)
abbrev xMM (v0 : Rdr) := ((Tok.kind (gD (Rdr.toks v0) (tN (Rdr.i v0)) Ty.tok.dflt)) : Int) != 1
def xSP (a0 : Rdr) (r1 : Exp × Rdr) : rE I46 (xDd a0) [F, F, Y, Y] [xAF r1] = dn (xCp ([], r1.2)) [xFN a0, xGe a0, xE4 a0, iY (xMM a0), iY true, xIk a0 r1] := by kernel_rfl
abbrev xRc (v0 : Rdr) : Prop := iN (xMM v0)
abbrev xIP (v0 : Rdr) := Tok.text (gD (Rdr.toks v0) (tN (Rdr.i v0)) Ty.tok.dflt)
abbrev xIU (v0 : Rdr) (v1 : Bool) : Prop := AbC 87 (xBK (xIP v0)) (xAz v1)
def xSQ (a0 : Rdr) (r1 : Bool) (r2 : Exp × Rdr) : rE I46 (xDd a0) [F, F, F, Y] [xAz r1, xAF r2] = dn (xCp ([], r2.2)) [xFN a0, xGe a0, xE4 a0, xRc a0, xE4 a0, xIU a0 r1, iY (!r1), xIk a0 r2] := by kernel_rfl
abbrev xIQ (v0 : Rdr) := Rdr.mk (Rdr.toks v0) (W ((Rdr.i v0) + 1)) (Rdr.fin v0) (Rdr.bad v0)
abbrev xK7 (v0 : Rdr) := W ((Rdr.i v0) + 1)
def xSR (a0 : Rdr) (r1 : Bool) : rE I46 (xDd a0) [F, F, F, F] [xAz r1] = dn (xCp ((Tok.text (gD (Rdr.toks a0) (tN (W ((xK7 a0) - 1))) Ty.tok.dflt)), (xIQ a0))) [xFN a0, xGe a0, xE4 a0, xRc a0, xE4 a0, xIU a0 r1, iN (!r1), (0 : Int) ≤ (W ((xK7 a0) - 1)) ∧ (W ((xK7 a0) - 1)) < (Ln (Rdr.toks a0))] := by kernel_rfl
theorem xWe {N : Nat} : ∀ a0 r, xCQ N a0 = some r → RE Tryz.f46 I46 (xDd a0) (xCp r) := fun a0 r h =>
 cE h (fun h0 h => bE h fun r1 h4 h => dE h fk46 (xSN a0 r1) (oc5 h0 rfl rfl rfl (xBN h4) on)) fun h0 h =>
 cE h (fun h1 h => bE h fun r1 h4 h => dE h fk46 (xSO a0 r1) (oc5 h0 h1 rfl rfl (xBN h4) on)) fun h1 h =>
 iE h fun h2 h => cE h (fun h3 h => bE h fun r1 h5 h => dE h fk46 (xSP a0 r1) (oc6 h0 h1 h2 h3 rfl (xBN h5) on)) fun h3 h =>
 bE h fun r1 h5 h => cE h (fun h6 h => bE h fun r2 h7 h => dE h fk46 (xSQ a0 r1 r2) (oc8 h0 h1 h2 h3 h2 (xBw h5) h6 (xBN h7) on)) fun h6 h =>
 iE h fun h7 h => dE h fk46 (xSR a0 r1) (oc8 h0 h1 h2 h3 h2 (xBw h5) h6 h7 on)
theorem xG5 {N : Nat} {a0 : Rdr} {r : Str × Rdr} (h : xCQ N  a0 = some r) : AbC 46 (xDd a0) (xCp r) :=
 AbsCalls.of_reach fk46 rfl rfl (Nat.le_of_ble_eq_true rfl) (xWe a0 r h)
noncomputable def I47 : Info := { body := (Tryz.f47.body).getD .skip, nt := 18, results := [], keep := [0, 2, 14, 1], live := [], modes := [], ext := [0] }
theorem fk47 : FnOk Tryz.prog 47 Tryz.f47 I47 := ⟨Tryz.func47, by kernel_rfl, by kernel_rfl, by kernel_rfl, by kernel_rfl⟩
def xSS (a0 : Rdr) (a1 : Str) (r1 : Bool × Rdr) (r2 : Exp × Rdr) : rE I47 (xBi a0 a1) [Y] [xAd r1, xAF r2] = dn (xAx r2.2) [AbC 45 (xAv a0 a1) (xAd r1), iY (!r1.1), AbC 29 (xCo r1.2) (xAF r2)] := by kernel_rfl
abbrev xG1 (v0 : Bool × Rdr) := Rdr.mk (Rdr.toks v0.2) (W ((Rdr.i v0.2) + 1)) (Rdr.fin v0.2) (Rdr.bad v0.2)
def xST (a0 : Rdr) (a1 : Str) (r1 : Bool × Rdr) : rE I47 (xBi a0 a1) [F] [xAd r1] = dn (xAx (xG1 r1)) [AbC 45 (xAv a0 a1) (xAd r1), iN (!r1.1)] := by kernel_rfl
theorem xWf {N : Nat} : ∀ a0 a1 r, xA8 N a0 a1 = some r → RE Tryz.f47 I47 (xBi a0 a1) (xAx r) := fun a0 a1 r h =>
 bE h fun r1 h0 h => cE h (fun h1 h => bE h fun r2 h2 h => dE h fk47 (xSS a0 a1 r1 r2) (oc3 (xAl h0) h1 (xBN h2) on)) fun h1 h =>
 dE h fk47 (xST a0 a1 r1) (oc2 (xAl h0) h1 on)
theorem xB5 {N : Nat} {a0 : Rdr} {a1 : Str} {r : Rdr} (h : xA8 N  a0 a1 = some r) : AbC 47 (xBi a0 a1) (xAx r) :=
 AbsCalls.of_reach fk47 rfl rfl (Nat.le_of_ble_eq_true rfl) (xWf a0 a1 r h)
noncomputable def I67 : Info := { body := (Tryz.f67.body).getD .skip, nt := 5, results := [.cell 2 25], keep := [0, 4, 5], live := [], modes := [] }
theorem fk67 : FnOk Tryz.prog 67 Tryz.f67 I67 := ⟨Tryz.func67, by kernel_rfl, by kernel_rfl, by kernel_rfl, by kernel_rfl⟩
def xTC (a0 : Int) : rE I67 (xFg a0) [] [] = dn (xEI (Exp.mk 1 a0 [] [])) [] := by kernel_rfl
theorem xWy {N : Nat} : ∀ a0 r, xHy N a0 = some r → RE Tryz.f67 I67 (xFg a0) (xEI r) := fun a0 r h =>
 dE h fk67 (xTC a0) on
theorem xJe {N : Nat} {a0 : Int} {r : Exp} (h : xHy N  a0 = some r) : AbC 67 (xFg a0) (xEI r) :=
 AbsCalls.of_reach fk67 rfl rfl (Nat.le_of_ble_eq_true rfl) (xWy a0 r h)
noncomputable def I101 : Info := { body := (Tryz.f101.body).getD .skip, nt := 5, results := [.cell 2 25], keep := [0, 4, 5], live := [], modes := [] }
theorem xVx : FnOk Tryz.prog 101 Tryz.f101 I101 := ⟨Tryz.func101, by kernel_rfl, by kernel_rfl, by kernel_rfl, by kernel_rfl⟩
def xOe (a0 : Str) : rE I101 (xE5 a0) [] [] = dn (xEs (Exp.mk 3 0 a0 [])) [] := by kernel_rfl
theorem xU6 {N : Nat} : ∀ a0 r, xG4 N a0 = some r → RE Tryz.f101 I101 (xE5 a0) (xEs r) := fun a0 r h =>
 dE h xVx (xOe a0) on
theorem xI2 {N : Nat} {a0 : Str} {r : Exp} (h : xG4 N  a0 = some r) : AbC 101 (xE5 a0) (xEs r) :=
 AbsCalls.of_reach xVx rfl rfl (Nat.le_of_ble_eq_true rfl) (xU6 a0 r h)
noncomputable def I106 : Info := { body := (Tryz.f106.body).getD .skip, nt := 26, results := [.tmp 2], keep := [0, 4, 6, 8, 12, 24, 40, 48], live := [], modes := [] }
theorem xGm : FnOk Tryz.prog 106 Tryz.f106 I106 := ⟨Tryz.func106, by kernel_rfl, by kernel_rfl, by kernel_rfl, by kernel_rfl⟩
abbrev xK8 (v0 : Str) := (v0 : Str) == [99, 108, 111, 99, 107]
def xOh (a0 : Str) : rE I106 (xAn a0) [Y] [] = dn (xAh 0) [iY (xK8 a0)] := by kernel_rfl
abbrev xDh (v0 : Str) : Prop := iN (xK8 v0)
abbrev xLE (v0 : Str) : Prop := iY ((v0 : Str) == [108, 101, 110])
def xOi (a0 : Str) : rE I106 (xAn a0) [F, Y, Y] [] = dn (xAh 1) [xDh a0, xLE a0, xLE a0] := by kernel_rfl
abbrev xDq (v0 : Str) : Prop := iN ((v0 : Str) == [108, 101, 110])
abbrev xLF (v0 : Str) : Prop := iY ((v0 : Str) == [115, 117, 109])
def xOj (a0 : Str) : rE I106 (xAn a0) [F, F, Y, Y] [] = dn (xAh 1) [xDh a0, xDq a0, xLF a0, xLF a0] := by kernel_rfl
abbrev xDG (v0 : Str) : Prop := iN ((v0 : Str) == [115, 117, 109])
abbrev xLG (v0 : Str) : Prop := iY ((v0 : Str) == [114, 111, 119, 115])
def xOk (a0 : Str) : rE I106 (xAn a0) [F, F, F, Y, Y] [] = dn (xAh 1) [xDh a0, xDq a0, xDG a0, xLG a0, xLG a0] := by kernel_rfl
abbrev xDV (v0 : Str) : Prop := iN ((v0 : Str) == [114, 111, 119, 115])
abbrev xLH (v0 : Str) : Prop := iY ((v0 : Str) == [99, 104, 97, 110, 99, 101])
def xOl (a0 : Str) : rE I106 (xAn a0) [F, F, F, F, Y, Y] [] = dn (xAh 1) [xDh a0, xDq a0, xDG a0, xDV a0, xLH a0, xLH a0] := by kernel_rfl
abbrev xD4 (v0 : Str) : Prop := iN ((v0 : Str) == [99, 104, 97, 110, 99, 101])
abbrev xK9 (v0 : Str) := (v0 : Str) == [102, 105, 108, 101]
def xOm (a0 : Str) : rE I106 (xAn a0) [F, F, F, F, F, Y] [] = dn (xAh 1) [xDh a0, xDq a0, xDG a0, xDV a0, xD4 a0, iY (xK9 a0)] := by kernel_rfl
abbrev xEg (v0 : Str) : Prop := iN (xK9 v0)
abbrev xLI (v0 : Str) : Prop := iY ((v0 : Str) == [116, 97, 107, 101])
def xOn (a0 : Str) : rE I106 (xAn a0) [F, F, F, F, F, F, Y, Y] [] = dn (xAh 2) [xDh a0, xDq a0, xDG a0, xDV a0, xD4 a0, xEg a0, xLI a0, xLI a0] := by kernel_rfl
abbrev xEC (v0 : Str) : Prop := iN ((v0 : Str) == [116, 97, 107, 101])
abbrev xLJ (v0 : Str) : Prop := iY ((v0 : Str) == [115, 107, 105, 112])
def xOo (a0 : Str) : rE I106 (xAn a0) [F, F, F, F, F, F, F, Y, Y] [] = dn (xAh 2) [xDh a0, xDq a0, xDG a0, xDV a0, xD4 a0, xEg a0, xEC a0, xLJ a0, xLJ a0] := by kernel_rfl
abbrev xEV (v0 : Str) : Prop := iN ((v0 : Str) == [115, 107, 105, 112])
abbrev xLK (v0 : Str) : Prop := iY ((v0 : Str) == [114, 97, 110, 103, 101])
def xOp (a0 : Str) : rE I106 (xAn a0) [F, F, F, F, F, F, F, F, Y, Y] [] = dn (xAh 2) [xDh a0, xDq a0, xDG a0, xDV a0, xD4 a0, xEg a0, xEC a0, xEV a0, xLK a0, xLK a0] := by kernel_rfl
abbrev xFb (v0 : Str) : Prop := iN ((v0 : Str) == [114, 97, 110, 103, 101])
abbrev xLL (v0 : Str) : Prop := iY ((v0 : Str) == [110, 116, 104])
def xOq (a0 : Str) : rE I106 (xAn a0) [F, F, F, F, F, F, F, F, F, Y, Y] [] = dn (xAh 2) [xDh a0, xDq a0, xDG a0, xDV a0, xD4 a0, xEg a0, xEC a0, xEV a0, xFb a0, xLL a0, xLL a0] := by kernel_rfl
abbrev xFv (v0 : Str) : Prop := iN ((v0 : Str) == [110, 116, 104])
abbrev xLM (v0 : Str) : Prop := iY ((v0 : Str) == [107, 101, 101, 112])
def xMZ (a0 : Str) : rE I106 (xAn a0) [F, F, F, F, F, F, F, F, F, F, Y, Y] [] = dn (xAh 2) [xDh a0, xDq a0, xDG a0, xDV a0, xD4 a0, xEg a0, xEC a0, xEV a0, xFb a0, xFv a0, xLM a0, xLM a0] := by kernel_rfl
abbrev xFX (v0 : Str) : Prop := iN ((v0 : Str) == [107, 101, 101, 112])
abbrev xLN (v0 : Str) : Prop := iY ((v0 : Str) == [99, 111, 108, 117, 109, 110])
def xM0 (a0 : Str) : rE I106 (xAn a0) [F, F, F, F, F, F, F, F, F, F, F, Y, Y] [] = dn (xAh 2) [xDh a0, xDq a0, xDG a0, xDV a0, xD4 a0, xEg a0, xEC a0, xEV a0, xFb a0, xFv a0, xFX a0, xLN a0, xLN a0] := by kernel_rfl
abbrev xGF (v0 : Str) : Prop := iN ((v0 : Str) == [99, 111, 108, 117, 109, 110])
abbrev xLa (v0 : Str) := (v0 : Str) == [116, 97, 98, 108, 101]
def xM1 (a0 : Str) : rE I106 (xAn a0) [F, F, F, F, F, F, F, F, F, F, F, F, Y] [] = dn (xAh 2) [xDh a0, xDq a0, xDG a0, xDV a0, xD4 a0, xEg a0, xEC a0, xEV a0, xFb a0, xFv a0, xFX a0, xGF a0, iY (xLa a0)] := by kernel_rfl
abbrev xHk (v0 : Str) : Prop := iN (xLa v0)
abbrev xLO (v0 : Str) : Prop := iY ((v0 : Str) == [119, 104, 101, 114, 101])
def xM2 (a0 : Str) : rE I106 (xAn a0) [F, F, F, F, F, F, F, F, F, F, F, F, F, Y, Y] [] = dn (xAh 3) [xDh a0, xDq a0, xDG a0, xDV a0, xD4 a0, xEg a0, xEC a0, xEV a0, xFb a0, xFv a0, xFX a0, xGF a0, xHk a0, xLO a0, xLO a0] := by kernel_rfl
abbrev xIl (v0 : Str) : Prop := iN ((v0 : Str) == [119, 104, 101, 114, 101])
abbrev xLP (v0 : Str) : Prop := iY ((v0 : Str) == [103, 114, 111, 117, 112])
def xM3 (a0 : Str) : rE I106 (xAn a0) [F, F, F, F, F, F, F, F, F, F, F, F, F, F, Y, Y] [] = dn (xAh 3) [xDh a0, xDq a0, xDG a0, xDV a0, xD4 a0, xEg a0, xEC a0, xEV a0, xFb a0, xFv a0, xFX a0, xGF a0, xHk a0, xIl a0, xLP a0, xLP a0] := by kernel_rfl
abbrev xJs (v0 : Str) : Prop := iN ((v0 : Str) == [103, 114, 111, 117, 112])
abbrev xLb (v0 : Str) := (v0 : Str) == [106, 111, 105, 110]
def xM4 (a0 : Str) : rE I106 (xAn a0) [F, F, F, F, F, F, F, F, F, F, F, F, F, F, F, Y] [] = dn (xAh 3) [xDh a0, xDq a0, xDG a0, xDV a0, xD4 a0, xEg a0, xEC a0, xEV a0, xFb a0, xFv a0, xFX a0, xGF a0, xHk a0, xIl a0, xJs a0, iY (xLb a0)] := by kernel_rfl
abbrev xLQ (v0 : Str) : Prop := iN (xLb v0)
abbrev xJY (v0 : Str) := (v0 : Str) == [97, 100, 100]
def xM5 (a0 : Str) : rE I106 (xAn a0) [F, F, F, F, F, F, F, F, F, F, F, F, F, F, F, F, Y] [] = dn (xAh 4) [xDh a0, xDq a0, xDG a0, xDV a0, xD4 a0, xEg a0, xEC a0, xEV a0, xFb a0, xFv a0, xFX a0, xGF a0, xHk a0, xIl a0, xJs a0, xLQ a0, iY (xJY a0)] := by kernel_rfl
def xM6 (a0 : Str) : rE I106 (xAn a0) [F, F, F, F, F, F, F, F, F, F, F, F, F, F, F, F, F] [] = dn (xAh (-1)) [xDh a0, xDq a0, xDG a0, xDV a0, xD4 a0, xEg a0, xEC a0, xEV a0, xFb a0, xFv a0, xFX a0, xGF a0, xHk a0, xIl a0, xJs a0, xLQ a0, iN (xJY a0)] := by kernel_rfl
theorem xU8 {N : Nat} : ∀ a0 r, xBH N a0 = some r → RE Tryz.f106 I106 (xAn a0) (xAh r) := fun a0 r h =>
 cE h (fun h0 h => dE h xGm (xOh a0) (oc h0 on)) fun h0 h =>
 cE h (fun h1 h => dE h xGm (xOi a0) (oc3 h0 h1 h1 on)) fun h1 h =>
 cE h (fun h2 h => dE h xGm (xOj a0) (oc4 h0 h1 h2 h2 on)) fun h2 h =>
 cE h (fun h3 h => dE h xGm (xOk a0) (oc5 h0 h1 h2 h3 h3 on)) fun h3 h =>
 cE h (fun h4 h => dE h xGm (xOl a0) (oc6 h0 h1 h2 h3 h4 h4 on)) fun h4 h =>
 cE h (fun h5 h => dE h xGm (xOm a0) (oc6 h0 h1 h2 h3 h4 h5 on)) fun h5 h =>
 cE h (fun h6 h => dE h xGm (xOn a0) (oc8 h0 h1 h2 h3 h4 h5 h6 h6 on)) fun h6 h =>
 cE h (fun h7 h => dE h xGm (xOo a0) (oc9 h0 h1 h2 h3 h4 h5 h6 h7 h7 on)) fun h7 h =>
 cE h (fun h8 h => dE h xGm (xOp a0) (oc10 h0 h1 h2 h3 h4 h5 h6 h7 h8 h8 on)) fun h8 h =>
 cE h (fun h9 h => dE h xGm (xOq a0) (oc11 h0 h1 h2 h3 h4 h5 h6 h7 h8 h9 h9 on)) fun h9 h =>
 cE h (fun h10 h => dE h xGm (xMZ a0) (oc12 h0 h1 h2 h3 h4 h5 h6 h7 h8 h9 h10 h10 on)) fun h10 h =>
 cE h (fun h11 h => dE h xGm (xM0 a0) (oc12 h0 h1 h2 h3 h4 h5 h6 h7 h8 h9 h10 h11 (oc h11 on))) fun h11 h =>
 cE h (fun h12 h => dE h xGm (xM1 a0) (oc12 h0 h1 h2 h3 h4 h5 h6 h7 h8 h9 h10 h11 (oc h12 on))) fun h12 h =>
 cE h (fun h13 h => dE h xGm (xM2 a0) (oc12 h0 h1 h2 h3 h4 h5 h6 h7 h8 h9 h10 h11 (oc3 h12 h13 h13 on))) fun h13 h =>
 cE h (fun h14 h => dE h xGm (xM3 a0) (oc12 h0 h1 h2 h3 h4 h5 h6 h7 h8 h9 h10 h11 (oc4 h12 h13 h14 h14 on))) fun h14 h =>
 cE h (fun h15 h => dE h xGm (xM4 a0) (oc12 h0 h1 h2 h3 h4 h5 h6 h7 h8 h9 h10 h11 (oc4 h12 h13 h14 h15 on))) fun h15 h =>
 cE h (fun h16 h => dE h xGm (xM5 a0) (oc12 h0 h1 h2 h3 h4 h5 h6 h7 h8 h9 h10 h11 (oc5 h12 h13 h14 h15 h16 on))) fun h16 h =>
 dE h xGm (xM6 a0) (oc12 h0 h1 h2 h3 h4 h5 h6 h7 h8 h9 h10 h11 (oc5 h12 h13 h14 h15 h16 on))
theorem xDb {N : Nat} {a0 : Str} {r : Int} (h : xBH N  a0 = some r) : AbC 106 (xAn a0) (xAh r) :=
 AbsCalls.of_reach xGm rfl rfl (Nat.le_of_ble_eq_true rfl) (xU8 a0 r h)
noncomputable def I66 : Info := { body := (Tryz.f66.body).getD .skip, nt := 12, results := [.cell 6 25], keep := [0, 2, 4, 8, 10, 12, 9, 11, 13], live := [], modes := [] }
theorem fk66 : FnOk Tryz.prog 66 Tryz.f66 I66 := ⟨Tryz.func66, by kernel_rfl, by kernel_rfl, by kernel_rfl, by kernel_rfl⟩
def xTB (a0 : Int) (a1 a2 : Exp) : rE I66 (xC6 a0 a1 a2) [] [] = dn (xBt (Exp.mk 6 a0 [] [(Exp.re a1), (Exp.re a2)])) [] := by kernel_rfl
theorem xWx {N : Nat} : ∀ a0 a1 a2 r, xDx N a0 a1 a2 = some r → RE Tryz.f66 I66 (xC6 a0 a1 a2) (xBt r) := fun a0 a1 a2 r h =>
 dE h fk66 (xTB a0 a1 a2) on
theorem xD8 {N : Nat} {a0 : Int} {a1 : Exp} {a2 : Exp} {r : Exp} (h : xDx N  a0 a1 a2 = some r) : AbC 66 (xC6 a0 a1 a2) (xBt r) :=
 AbsCalls.of_reach fk66 rfl rfl (Nat.le_of_ble_eq_true rfl) (xWx a0 a1 a2 r h)
end Go.Ab.T
end
section
open Go.Proofs
namespace Go.Ab.T
set_option maxRecDepth 100000
variable [Inhabited Lb]
variable [Nonempty Tab10]
variable [Nonempty ErrVars]
def G137 (q : Rdr → Str → Option ((List Exp) × Rdr)) : Prop := ∀ a0 a1 r, q a0 a1 = some r → AbC 137 (xDD a0 a1) (xBL r)
def G127 (q : Rdr → Option (Exp × Rdr)) : Prop := ∀ a0 r, q a0 = some r → AbC 127 (xA2 a0) (xAV r)
def G48 (q : Rdr → Option (Exp × Rdr)) : Prop := ∀ a0 r, q a0 = some r → AbC 48 (xCJ a0) (xCh r)
def G28 (q : Rdr → Option (Exp × Rdr)) : Prop := ∀ a0 r, q a0 = some r → AbC 28 (xBM a0) (xAp r)
def G110 (q : Rdr → Option (Exp × Rdr)) : Prop := ∀ a0 r, q a0 = some r → AbC 110 (xDi a0) (xBg r)
def G88 (q : Rdr → Option (Exp × Rdr)) : Prop := ∀ a0 r, q a0 = some r → AbC 88 (xDt a0) (xBI r)
noncomputable def I137 : Info := { body := (Tryz.f137.body).getD .skip, nt := 44, results := [.tmp 4], keep := [0, 2, 8, 10, 18, 46, 62, 1], live := [(5, [0, 2, 10, 1])], modes := [(4, [(0, .take, false)]), (6, [(0, .take, false), (4, .take, false)]), (10, [(0, .take, false)])], ext := [0], casts := [(5, [(10, 0, false)])], fcast := [(8, 0, false)] }
theorem xMa : FnOk Tryz.prog 137 Tryz.f137 I137 := ⟨Tryz.func137, by kernel_rfl, by kernel_rfl, by kernel_rfl, by kernel_rfl⟩
def xJi (x1 : Str) (x5 : List Exp) (b0 : Rdr) : St := [(0, .v false [.ptr 0 0]), (2, .v false [.str x1]), (10, .v false [.sl .tip .exp x5]), (1, .v true [.sl .ro .tok (Rdr.toks b0), .int .i64 (Rdr.i b0), .int .i64 (Rdr.fin b0), .int .i64 (Rdr.bad b0)])]
abbrev xIm (v0 : Rdr) (v1 : Exp × Rdr) : Prop := AbC 28 (xBM v0) (xAp v1)
def xPO (x1 : Str) (x5 : List Exp) (b0 : Rdr) (r1 : Exp × Rdr) (r2 : Bool × Rdr) (r3 : Rdr) : rS 5 I137 (xJi x1 x5 b0) [Y, Y] [xAp r1, xAd r2, xAx r3] = dn (xBL ((x5 ++ [(Exp.re r1.1)]), r3)) [xIT b0, xIm b0 r1, Ln x5 + Ln [(Exp.re r1.1)] ≤ Lim, AbC 45 (xAv r1.2 [44]) (xAd r2), iY (!r2.1), AbC 47 (xBi r2.2 x1) (xAx r3)] := by kernel_rfl
def xPP (x1 : Str) (x5 : List Exp) (b0 : Rdr) (r1 : Exp × Rdr) (r2 : Bool × Rdr) : rS 5 I137 (xJi x1 x5 b0) [Y, F] [xAp r1, xAd r2] = st 5 I137 (xJi x1 (x5 ++ [(Exp.re r1.1)]) (xG1 r2)) [xIT b0, xIm b0 r1, Ln x5 + Ln [(Exp.re r1.1)] ≤ Lim, AbC 45 (xAv r1.2 [44]) (xAd r2), iN (!r2.1)] := by kernel_rfl
def xPQ (x1 : Str) (x5 : List Exp) (b0 r1 : Rdr) : rS 5 I137 (xJi x1 x5 b0) [F] [xAx r1] = dn (xBL (x5, r1)) [iN (dc ((Rdr.bad b0) < 0)), AbC 47 (xBi b0 x1) (xAx r1)] := by kernel_rfl
def xPR (a0 : Rdr) (a1 : Str) (r1 : Bool × Rdr) : rE I137 (xDD a0 a1) [Y] [xAd r1] = dn (xBL ([], (xG1 r1))) [AbC 45 (xAv a0 a1) (xAd r1), iY r1.1] := by kernel_rfl
def xPS (a0 : Rdr) (a1 : Str) (r1 : Bool × Rdr) : rE I137 (xDD a0 a1) [F] [xAd r1] = st 5 I137 (xJi a1 [] r1.2) [AbC 45 (xAv a0 a1) (xAd r1), iN r1.1] := by kernel_rfl
theorem xVq {N q0 q1 q2 q3 q4 q5} (g0 : G137 q0) (g1 : G127 q1) (g2 : G48 q2) (g3 : G28 q3) (g4 : G110 q4) (g5 : G88 q5) : ∀ n x1 x5 b0 r, xD0 N q0 q1 q2 q3 q4 q5 n x1 x5 b0 = some r → RS Tryz.f137 I137 5 (xJi x1 x5 b0) (xBL r) := by
 intro n
 induction n with
 | zero => exact fun _ _ _ _ h => nE h
 | succ n ih =>
  exact fun x1 x5 b0 r h =>
   cE h (fun h0 h => bE h fun r1 h1 h => iE h fun h2 h => bE h fun r2 h3 h => cE h (fun h4 h => bE h fun r3 h5 h => dS h xMa (xPO x1 x5 b0 r1 r2 r3) (oc6 h0 (g3 _ _ h1) h2 (xAl h3) h4 (xB5 h5) on)) fun h4 h =>
   tS xMa (xPP x1 x5 b0 r1 r2) (oc5 h0 (g3 _ _ h1) h2 (xAl h3) h4 on) (ih _ _ _ _ h)) fun h0 h =>
   bE h fun r1 h1 h => dS h xMa (xPQ x1 x5 b0 r1) (oc2 h0 (xB5 h1) on)
theorem xVr {N q0 q1 q2 q3 q4 q5} (g0 : G137 q0) (g1 : G127 q1) (g2 : G48 q2) (g3 : G28 q3) (g4 : G110 q4) (g5 : G88 q5) : ∀ a0 a1 r, xC1 N q0 q1 q2 q3 q4 q5 a0 a1 = some r → RE Tryz.f137 I137 (xDD a0 a1) (xBL r) := fun a0 a1 r h =>
 bE h fun r1 h0 h => cE h (fun h1 h => dE h xMa (xPR a0 a1 r1) (oc2 (xAl h0) h1 on)) fun h1 h =>
 tE xMa (xPS a0 a1 r1) (oc2 (xAl h0) h1 on) (xVq g0 g1 g2 g3 g4 g5 _ _ _ _ _ h)
theorem xHa {N q0 q1 q2 q3 q4 q5} (g0 : G137 q0) (g1 : G127 q1) (g2 : G48 q2) (g3 : G28 q3) (g4 : G110 q4) (g5 : G88 q5) {a0} {a1} {r} (h : xC1 N q0 q1 q2 q3 q4 q5 a0 a1 = some r) : AbC 137 (xDD a0 a1) (xBL r) :=
 AbsCalls.of_reach xMa rfl rfl (Nat.le_of_ble_eq_true rfl) (xVr g0 g1 g2 g3 g4 g5 a0 a1 r h)
noncomputable def I127 : Info := { body := (Tryz.f127.body).getD .skip, nt := 141, results := [.cell 2 25], keep := [0, 4, 6, 8, 42, 68, 98, 128, 168, 218, 246, 1, 5, 7, 9], live := [], modes := [(1, [(5, .take, false)]), (10, [(3, .take, false)]), (13, [(3, .take, false)])], ext := [0], fcast := [(5, 3, true)] }
theorem xHR : FnOk Tryz.prog 127 Tryz.f127 I127 := ⟨Tryz.func127, by kernel_rfl, by kernel_rfl, by kernel_rfl, by kernel_rfl⟩
def xPw (a0 : Rdr) (r1 : Exp × Rdr) : rE I127 (xA2 a0) [Y, Y] [xAF r1] = dn (xAV (r1.1, r1.2)) [iY (dc ((Rdr.bad a0) ≥ 0)), iY true, xIk a0 r1] := by kernel_rfl
def xPx (a0 : Rdr) (r1 : Exp × Rdr) : rE I127 (xA2 a0) [F, Y] [xAF r1] = dn (xAV (r1.1, r1.2)) [xFN a0, iY (xK6 a0), xIk a0 r1] := by kernel_rfl
abbrev xMN (v0 : Exp) (v1 : Rdr) := xAV (v0, (Rdr.mk (Rdr.toks v1) (W ((Rdr.i v1) + 1)) (Rdr.fin v1) (Rdr.bad v1)))
abbrev xMO (v0 : Rdr) := ((Tok.kind (gD (Rdr.toks v0) (tN (Rdr.i v0)) Ty.tok.dflt)) : Int) == 2
def xPy (a0 : Rdr) (r1 : Exp) : rE I127 (xA2 a0) [F, F, Y] [xEI r1] = dn (xMN r1 a0) [xFN a0, xGe a0, xE4 a0, iY (xMO a0), AbC 67 (xFg (Tok.n (xHr a0))) (xEI r1)] := by kernel_rfl
abbrev xHJ (v0 : Rdr) : Prop := iN (xMO v0)
abbrev xMP (v0 : Rdr) := ((Tok.kind (gD (Rdr.toks v0) (tN (Rdr.i v0)) Ty.tok.dflt)) : Int) == 3
def xPz (a0 : Rdr) : rE I127 (xA2 a0) [F, F, F, Y] [] = dn (xAV ((Exp.mk 2 0 (xIP a0) []), (xIQ a0))) [xFN a0, xGe a0, xE4 a0, xHJ a0, iY (xMP a0)] := by kernel_rfl
abbrev xIn (v0 : Rdr) : Prop := iN (xMP v0)
abbrev xMQ (v0 : Rdr) := ((Tok.kind (gD (Rdr.toks v0) (tN (Rdr.i v0)) Ty.tok.dflt)) : Int) == 1
abbrev xHK (v0 : Rdr) : Prop := iY (xMQ v0)
def xPA (a0 : Rdr) (r1 : Bool) (r2 : Exp) : rE I127 (xA2 a0) [F, F, F, F, Y, Y] [xAz r1, xEs r2] = dn (xMN r2 a0) [xFN a0, xGe a0, xE4 a0, xHJ a0, xIn a0, xHK a0, xIU a0 r1, iY r1, AbC 101 (xE5 (xIP a0)) (xEs r2)] := by kernel_rfl
abbrev xLR (v0 : Rdr) (v1 : Int) : Prop := AbC 106 (xAn (xIP v0)) (xAh v1)
def xPB (a0 : Rdr) (r1 : Bool) (r2 : Int) (r3 : Rdr) (r4 : (List Exp) × Rdr) : rE I127 (xA2 a0) [F, F, F, F, Y, F, Y, Y] [xAz r1, xAh r2, xAx r3, xBL r4] = dn (xAV ((Exp.mk 5 0 (xIP a0) r4.1), r4.2)) [xFN a0, xGe a0, xE4 a0, xHJ a0, xIn a0, xHK a0, xIU a0 r1, iN r1, xHK a0, xLR a0 r2, iY (dc (r2 ≥ 0)), AbC 47 (xBi (xIQ a0) [40]) (xAx r3), AbC 137 (xDD r3 [41]) (xBL r4)] := by kernel_rfl
abbrev xIo (v0 : Int) : Prop := iN (dc (v0 ≥ 0))
abbrev xJt (v0 : Rdr) (v1 : Bool) : Prop := AbC 85 (xCP (xHr v0) [91]) (xAG v1)
abbrev xRd (v0 : Rdr) (v1 : (List Exp) × Rdr) : Prop := AbC 137 (xDD (xIQ v0) [93]) (xBL v1)
def xPC (a0 : Rdr) (r1 : Bool) (r2 : Int) (r3 : Bool) (r4 : (List Exp) × Rdr) : rE I127 (xA2 a0) [F, F, F, F, Y, F, Y, F, Y] [xAz r1, xAh r2, xAG r3, xBL r4] = dn (xAV ((Exp.mk 4 0 [] r4.1), r4.2)) [xFN a0, xGe a0, xE4 a0, xHJ a0, xIn a0, xHK a0, xIU a0 r1, iN r1, xHK a0, xLR a0 r2, xIo r2, xJt a0 r3, iY r3, xRd a0 r4] := by kernel_rfl
abbrev xLS (v0 : Rdr) (v1 : Bool) : Prop := AbC 85 (xCP (xHr v0) [40]) (xAG v1)
abbrev xRe (v0 : Rdr) (v1 : Exp × Rdr) : Prop := AbC 28 (xBM (xIQ v0)) (xAp v1)
def xPD (a0 : Rdr) (r1 : Bool) (r2 : Int) (r3 r4 : Bool) (r5 : Exp × Rdr) (r6 : Rdr) : rE I127 (xA2 a0) [F, F, F, F, Y, F, Y, F, F, Y] [xAz r1, xAh r2, xAG r3, xAG r4, xAp r5, xAx r6] = dn (xAV (r5.1, r6)) [xFN a0, xGe a0, xE4 a0, xHJ a0, xIn a0, xHK a0, xIU a0 r1, iN r1, xHK a0, xLR a0 r2, xIo r2, xJt a0 r3, iN r3, xLS a0 r4, iY r4, xRe a0 r5, AbC 47 (xBi r5.2 [41]) (xAx r6)] := by kernel_rfl
def xPE (a0 : Rdr) (r1 : Bool) (r2 : Int) (r3 r4 : Bool) (r5 : Exp × Rdr) : rE I127 (xA2 a0) [F, F, F, F, Y, F, Y, F, F, F] [xAz r1, xAh r2, xAG r3, xAG r4, xAF r5] = dn (xAV (r5.1, r5.2)) [xFN a0, xGe a0, xE4 a0, xHJ a0, xIn a0, xHK a0, xIU a0 r1, iN r1, xHK a0, xLR a0 r2, xIo r2, xJt a0 r3, iN r3, xLS a0 r4, iN r4, xIk a0 r5] := by kernel_rfl
abbrev xJu (v0 : Rdr) : Prop := iN (xMQ v0)
def xPF (a0 : Rdr) (r1 : Bool) (r2 : (List Exp) × Rdr) : rE I127 (xA2 a0) [F, F, F, F, F, F, F, F, Y] [xAG r1, xBL r2] = dn (xAV ((Exp.mk 4 0 [] r2.1), r2.2)) [xFN a0, xGe a0, xE4 a0, xHJ a0, xIn a0, xJu a0, iN false, xJu a0, iN false, xJt a0 r1, iY r1, xRd a0 r2] := by kernel_rfl
def xNq (a0 : Rdr) (r1 r2 : Bool) (r3 : Exp × Rdr) (r4 : Rdr) : rE I127 (xA2 a0) [F, F, F, F, F, F, F, F, F, Y] [xAG r1, xAG r2, xAp r3, xAx r4] = dn (xAV (r3.1, r4)) [xFN a0, xGe a0, xE4 a0, xHJ a0, xIn a0, xJu a0, iN false, xJu a0, iN false, xJt a0 r1, iN r1, xLS a0 r2, iY r2, xRe a0 r3, AbC 47 (xBi r3.2 [41]) (xAx r4)] := by kernel_rfl
def xNr (a0 : Rdr) (r1 r2 : Bool) (r3 : Exp × Rdr) : rE I127 (xA2 a0) [F, F, F, F, F, F, F, F, F, F] [xAG r1, xAG r2, xAF r3] = dn (xAV (r3.1, r3.2)) [xFN a0, xGe a0, xE4 a0, xHJ a0, xIn a0, xJu a0, iN false, xJu a0, iN false, xJt a0 r1, iN r1, xLS a0 r2, iN r2, xIk a0 r3] := by kernel_rfl
theorem xVn {N q0 q1 q2 q3 q4 q5} (g0 : G137 q0) (g1 : G127 q1) (g2 : G48 q2) (g3 : G28 q3) (g4 : G110 q4) (g5 : G88 q5) : ∀ a0 r, xC2 N q0 q1 q2 q3 q4 q5 a0 = some r → RE Tryz.f127 I127 (xA2 a0) (xAV r) := fun a0 r h =>
 cE h (fun h0 h => bE h fun r1 h2 h => dE h xHR (xPw a0 r1) (oc3 h0 rfl (xBN h2) on)) fun h0 h =>
 cE h (fun h1 h => bE h fun r1 h2 h => dE h xHR (xPx a0 r1) (oc3 h0 h1 (xBN h2) on)) fun h1 h =>
 iE h fun h2 h => cE h (fun h3 h => bE h fun r1 h4 h => dE h xHR (xPy a0 r1) (oc5 h0 h1 h2 h3 (xJe h4) on)) fun h3 h =>
 cE h (fun h4 h => dE h xHR (xPz a0) (oc5 h0 h1 h2 h3 h4 on)) fun h4 h =>
 cE h (fun h5 h => bE h fun r1 h6 h => cE h (fun h7 h => bE h fun r2 h8 h => dE h xHR (xPA a0 r1 r2) (oc9 h0 h1 h2 h3 h4 h5 (xBw h6) h7 (xI2 h8) on)) fun h7 h =>
 bE h fun r2 h9 h => cE h (fun h10 h => bE h fun r3 h11 h => bE h fun r4 h12 h => dE h xHR (xPB a0 r1 r2 r3 r4) (oc12 h0 h1 h2 h3 h4 h5 (xBw h6) h7 h5 (xDb h9) h10 (xB5 h11) (oc (g0 _ _ _ h12) on))) fun h10 h =>
 bE h fun r3 h11 h => cE h (fun h12 h => bE h fun r4 h13 h => dE h xHR (xPC a0 r1 r2 r3 r4) (oc12 h0 h1 h2 h3 h4 h5 (xBw h6) h7 h5 (xDb h9) h10 (xBC h11) (oc2 h12 (g0 _ _ _ h13) on))) fun h12 h =>
 bE h fun r4 h13 h => cE h (fun h14 h => bE h fun r5 h15 h => bE h fun r6 h16 h => dE h xHR (xPD a0 r1 r2 r3 r4 r5 r6) (oc12 h0 h1 h2 h3 h4 h5 (xBw h6) h7 h5 (xDb h9) h10 (xBC h11) (oc5 h12 (xBC h13) h14 (g3 _ _ h15) (xB5 h16) on))) fun h14 h =>
 bE h fun r5 h15 h => dE h xHR (xPE a0 r1 r2 r3 r4 r5) (oc12 h0 h1 h2 h3 h4 h5 (xBw h6) h7 h5 (xDb h9) h10 (xBC h11) (oc4 h12 (xBC h13) h14 (xBN h15) on))) fun h5 h =>
 bE h fun r1 h9 h => cE h (fun h10 h => bE h fun r2 h11 h => dE h xHR (xPF a0 r1 r2) (oc12 h0 h1 h2 h3 h4 h5 rfl h5 rfl (xBC h9) h10 (g0 _ _ _ h11) on)) fun h10 h =>
 bE h fun r2 h11 h => cE h (fun h12 h => bE h fun r3 h13 h => bE h fun r4 h14 h => dE h xHR (xNq a0 r1 r2 r3 r4) (oc12 h0 h1 h2 h3 h4 h5 rfl h5 rfl (xBC h9) h10 (xBC h11) (oc3 h12 (g3 _ _ h13) (xB5 h14) on))) fun h12 h =>
 bE h fun r3 h13 h => dE h xHR (xNr a0 r1 r2 r3) (oc12 h0 h1 h2 h3 h4 h5 rfl h5 rfl (xBC h9) h10 (xBC h11) (oc2 h12 (xBN h13) on))
theorem xHb {N q0 q1 q2 q3 q4 q5} (g0 : G137 q0) (g1 : G127 q1) (g2 : G48 q2) (g3 : G28 q3) (g4 : G110 q4) (g5 : G88 q5) {a0} {r} (h : xC2 N q0 q1 q2 q3 q4 q5 a0 = some r) : AbC 127 (xA2 a0) (xAV r) :=
 AbsCalls.of_reach xHR rfl rfl (Nat.le_of_ble_eq_true rfl) (xVn g0 g1 g2 g3 g4 g5 a0 r h)
noncomputable def I48 : Info := { body := (Tryz.f48.body).getD .skip, nt := 37, results := [.cell 2 25], keep := [0, 4, 6, 12, 42, 1, 5, 7], live := [], modes := [], ext := [0], fcast := [(5, 3, true)] }
theorem fk48 : FnOk Tryz.prog 48 Tryz.f48 I48 := ⟨Tryz.func48, by kernel_rfl, by kernel_rfl, by kernel_rfl, by kernel_rfl⟩
abbrev xRf (v0 : Bool × Rdr) (v1 : Exp × Rdr) : Prop := AbC 88 (xDt (xG1 v0)) (xBI v1)
def xSU (a0 : Rdr) (r1 : Exp × Rdr) (r2 : Bool × Rdr) (r3 : Exp × Rdr) (r4 : Exp) : rE I48 (xCJ a0) [Y] [xBI r1, xAd r2, xBI r3, xBt r4] = dn (xCh (r4, r3.2)) [AbC 88 (xDt a0) (xBI r1), AbC 45 (xAv r1.2 [60]) (xAd r2), iY r2.1, xRf r2 r3, AbC 66 (xC6 4 r1.1 r3.1) (xBt r4)] := by kernel_rfl
def xSV (a0 : Rdr) (r1 : Exp × Rdr) (r2 : Bool × Rdr) (r3 : Bool × Rdr) (r4 : Exp × Rdr) (r5 : Exp) : rE I48 (xCJ a0) [F, Y] [xBI r1, xAd r2, xAd r3, xBI r4, xBt r5] = dn (xCh (r5, r4.2)) [AbC 88 (xDt a0) (xBI r1), AbC 45 (xAv r1.2 [60]) (xAd r2), iN r2.1, AbC 45 (xAv r2.2 [61, 61]) (xAd r3), iY r3.1, xRf r3 r4, AbC 66 (xC6 5 r1.1 r4.1) (xBt r5)] := by kernel_rfl
def xSW (a0 : Rdr) (r1 : Exp × Rdr) (r2 : Bool × Rdr) (r3 : Bool × Rdr) : rE I48 (xCJ a0) [F, F] [xBI r1, xAd r2, xAd r3] = dn (xCh (r1.1, r3.2)) [AbC 88 (xDt a0) (xBI r1), AbC 45 (xAv r1.2 [60]) (xAd r2), iN r2.1, AbC 45 (xAv r2.2 [61, 61]) (xAd r3), iN r3.1] := by kernel_rfl
theorem xWg {N q0 q1 q2 q3 q4 q5} (g0 : G137 q0) (g1 : G127 q1) (g2 : G48 q2) (g3 : G28 q3) (g4 : G110 q4) (g5 : G88 q5) : ∀ a0 r, xCe N q0 q1 q2 q3 q4 q5 a0 = some r → RE Tryz.f48 I48 (xCJ a0) (xCh r) := fun a0 r h =>
 bE h fun r1 h0 h => bE h fun r2 h1 h => cE h (fun h2 h => bE h fun r3 h3 h => bE h fun r4 h4 h => dE h fk48 (xSU a0 r1 r2 r3 r4) (oc5 (g5 _ _ h0) (xAl h1) h2 (g5 _ _ h3) (xD8 h4) on)) fun h2 h =>
 bE h fun r3 h3 h => cE h (fun h4 h => bE h fun r4 h5 h => bE h fun r5 h6 h => dE h fk48 (xSV a0 r1 r2 r3 r4 r5) (oc7 (g5 _ _ h0) (xAl h1) h2 (xAl h3) h4 (g5 _ _ h5) (xD8 h6) on)) fun h4 h =>
 dE h fk48 (xSW a0 r1 r2 r3) (oc5 (g5 _ _ h0) (xAl h1) h2 (xAl h3) h4 on)
theorem xGA {N q0 q1 q2 q3 q4 q5} (g0 : G137 q0) (g1 : G127 q1) (g2 : G48 q2) (g3 : G28 q3) (g4 : G110 q4) (g5 : G88 q5) {a0} {r} (h : xCe N q0 q1 q2 q3 q4 q5 a0 = some r) : AbC 48 (xCJ a0) (xCh r) :=
 AbsCalls.of_reach fk48 rfl rfl (Nat.le_of_ble_eq_true rfl) (xWg g0 g1 g2 g3 g4 g5 a0 r h)
noncomputable def I28 : Info := { body := (Tryz.f28.body).getD .skip, nt := 86, results := [.cell 2 25], keep := [0, 4, 6, 8, 10, 12, 14, 16, 18, 68, 118, 1, 5, 9, 11, 13, 17], live := [], modes := [(7, [(0, .take, false)]), (21, [(0, .take, false)])], ext := [0], fcast := [(5, 3, true)] }
theorem fk28 : FnOk Tryz.prog 28 Tryz.f28 I28 := ⟨Tryz.func28, by kernel_rfl, by kernel_rfl, by kernel_rfl, by kernel_rfl⟩
abbrev xLT (v0 : Rdr) (v1 : Bool × Rdr) : Prop := AbC 45 (xAv v0 [108, 101, 116]) (xAd v1)
abbrev xRg (v0 : Bool × Rdr) (v1 : Str × Rdr) : Prop := AbC 46 (xDd (xG1 v0)) (xCp v1)
def xR7 (a0 : Rdr) (r1 : Bool × Rdr) (r2 : Str × Rdr) (r3 : Rdr) (r4 : Exp × Rdr) (r5 : Rdr) (r6 : Exp × Rdr) : rE I28 (xBM a0) [Y] [xAd r1, xCp r2, xAx r3, xAp r4, xAx r5, xAp r6] = dn (xAp ((Exp.mk 7 0 r2.1 [(Exp.re r4.1), (Exp.re r6.1)]), r6.2)) [xLT a0 r1, iY r1.1, xRg r1 r2, AbC 47 (xBi r2.2 [61]) (xAx r3), xIm r3 r4, AbC 47 (xBi r4.2 [105, 110]) (xAx r5), xIm r5 r6] := by kernel_rfl
def xR8 (a0 : Rdr) (r1 : Bool × Rdr) (r2 : Bool × Rdr) (r3 : Exp × Rdr) (r4 : Rdr) (r5 : Exp × Rdr) (r6 : Rdr) (r7 : Exp × Rdr) : rE I28 (xBM a0) [F, Y] [xAd r1, xAd r2, xAp r3, xAx r4, xAp r5, xAx r6, xAp r7] = dn (xAp ((Exp.mk 8 0 [] [(Exp.re r3.1), (Exp.re r5.1), (Exp.re r7.1)]), r7.2)) [xLT a0 r1, iN r1.1, AbC 45 (xAv r1.2 [105, 102]) (xAd r2), iY r2.1, AbC 28 (xBM (xG1 r2)) (xAp r3), AbC 47 (xBi r3.2 [116, 104, 101, 110]) (xAx r4), xIm r4 r5, AbC 47 (xBi r5.2 [101, 108, 115, 101]) (xAx r6), xIm r6 r7] := by kernel_rfl
def xR9 (a0 : Rdr) (r1 : Bool × Rdr) (r2 : Bool × Rdr) (r3 : Bool × Rdr) (r4 : Str × Rdr) (r5 : Rdr) (r6 : Exp × Rdr) (r7 : Rdr) (r8 : Exp × Rdr) : rE I28 (xBM a0) [F, F, Y] [xAd r1, xAd r2, xAd r3, xCp r4, xAx r5, xAp r6, xAx r7, xAp r8] = dn (xAp ((Exp.mk 9 0 r4.1 [(Exp.re r6.1), (Exp.re r8.1)]), r8.2)) [xLT a0 r1, iN r1.1, AbC 45 (xAv r1.2 [105, 102]) (xAd r2), iN r2.1, AbC 45 (xAv r2.2 [102, 111, 114]) (xAd r3), iY r3.1, xRg r3 r4, AbC 47 (xBi r4.2 [105, 110]) (xAx r5), xIm r5 r6, AbC 47 (xBi r6.2 [100, 111]) (xAx r7), xIm r7 r8] := by kernel_rfl
def xSa (a0 : Rdr) (r1 : Bool × Rdr) (r2 : Bool × Rdr) (r3 : Bool × Rdr) (r4 : Exp × Rdr) : rE I28 (xBM a0) [F, F, F] [xAd r1, xAd r2, xAd r3, xCh r4] = dn (xAp (r4.1, r4.2)) [xLT a0 r1, iN r1.1, AbC 45 (xAv r1.2 [105, 102]) (xAd r2), iN r2.1, AbC 45 (xAv r2.2 [102, 111, 114]) (xAd r3), iN r3.1, AbC 48 (xCJ r3.2) (xCh r4)] := by kernel_rfl
theorem xVZ {N q0 q1 q2 q3 q4 q5} (g0 : G137 q0) (g1 : G127 q1) (g2 : G48 q2) (g3 : G28 q3) (g4 : G110 q4) (g5 : G88 q5) : ∀ a0 r, xC3 N q0 q1 q2 q3 q4 q5 a0 = some r → RE Tryz.f28 I28 (xBM a0) (xAp r) := fun a0 r h =>
 bE h fun r1 h0 h => cE h (fun h1 h => bE h fun r2 h2 h => bE h fun r3 h3 h => bE h fun r4 h4 h => bE h fun r5 h5 h => bE h fun r6 h6 h => dE h fk28 (xR7 a0 r1 r2 r3 r4 r5 r6) (oc7 (xAl h0) h1 (xG5 h2) (xB5 h3) (g3 _ _ h4) (xB5 h5) (g3 _ _ h6) on)) fun h1 h =>
 bE h fun r2 h2 h => cE h (fun h3 h => bE h fun r3 h4 h => bE h fun r4 h5 h => bE h fun r5 h6 h => bE h fun r6 h7 h => bE h fun r7 h8 h => dE h fk28 (xR8 a0 r1 r2 r3 r4 r5 r6 r7) (oc9 (xAl h0) h1 (xAl h2) h3 (g3 _ _ h4) (xB5 h5) (g3 _ _ h6) (xB5 h7) (g3 _ _ h8) on)) fun h3 h =>
 bE h fun r3 h4 h => cE h (fun h5 h => bE h fun r4 h6 h => bE h fun r5 h7 h => bE h fun r6 h8 h => bE h fun r7 h9 h => bE h fun r8 h10 h => dE h fk28 (xR9 a0 r1 r2 r3 r4 r5 r6 r7 r8) (oc11 (xAl h0) h1 (xAl h2) h3 (xAl h4) h5 (xG5 h6) (xB5 h7) (g3 _ _ h8) (xB5 h9) (g3 _ _ h10) on)) fun h5 h =>
 bE h fun r4 h6 h => dE h fk28 (xSa a0 r1 r2 r3 r4) (oc7 (xAl h0) h1 (xAl h2) h3 (xAl h4) h5 (g2 _ _ h6) on)
theorem xHc {N q0 q1 q2 q3 q4 q5} (g0 : G137 q0) (g1 : G127 q1) (g2 : G48 q2) (g3 : G28 q3) (g4 : G110 q4) (g5 : G88 q5) {a0} {r} (h : xC3 N q0 q1 q2 q3 q4 q5 a0 = some r) : AbC 28 (xBM a0) (xAp r) :=
 AbsCalls.of_reach fk28 rfl rfl (Nat.le_of_ble_eq_true rfl) (xVZ g0 g1 g2 g3 g4 g5 a0 r h)
noncomputable def I110 : Info := { body := (Tryz.f110.body).getD .skip, nt := 21, results := [.cell 2 25], keep := [0, 4, 6, 14, 1, 5, 7], live := [(2, [0, 4, 6, 1, 5, 7])], modes := [], ext := [0], casts := [(2, [(7, 3, true)])] }
theorem xN6 : FnOk Tryz.prog 110 Tryz.f110 I110 := ⟨Tryz.func110, by kernel_rfl, by kernel_rfl, by kernel_rfl, by kernel_rfl⟩
def xJ9 (b0 : Rdr) (b2 b3 : Exp) : St := [(0, .v false [.ptr 0 0]), (4, .v false [.ptr 2 0]), (6, .v false [.ptr 3 0]), (1, .v true [.sl .ro .tok (Rdr.toks b0), .int .i64 (Rdr.i b0), .int .i64 (Rdr.fin b0), .int .i64 (Rdr.bad b0)]), (5, .v true [.int .i64 (Exp.kind b2), .int .i64 (Exp.n b2), .str (Exp.text b2), .sl .own .exp (Exp.args b2)]), (7, .v true [.int .i64 (Exp.kind b3), .int .i64 (Exp.n b3), .str (Exp.text b3), .sl .ro .exp (Exp.args b3)])]
def xOM (b0 : Rdr) (b2 b3 : Exp) (r1 : Bool × Rdr) (r2 : Exp × Rdr) (r3 : Exp) : rS 2 I110 (xJ9 b0 b2 b3) [Y] [xAd r1, xAV r2, xBt r3] = st 2 I110 (xJ9 r2.2 b2 r3) [AbC 45 (xAv b0 [42]) (xAd r1), iY r1.1, AbC 127 (xA2 (xG1 r1)) (xAV r2), AbC 66 (xC6 3 b3 r2.1) (xBt r3)] := by kernel_rfl
def xON (b0 : Rdr) (b2 b3 : Exp) (r1 : Bool × Rdr) : rS 2 I110 (xJ9 b0 b2 b3) [F] [xAd r1] = dn (xBg (b3, r1.2)) [AbC 45 (xAv b0 [42]) (xAd r1), iN r1.1] := by kernel_rfl
def xOO (a0 : Rdr) (r1 : Exp × Rdr) : rE I110 (xDi a0) [] [xAV r1] = st 2 I110 (xJ9 r1.2 (Exp.mk 0 0 [] []) r1.1) [AbC 127 (xA2 a0) (xAV r1)] := by kernel_rfl
theorem xVd {N q0 q1 q2 q3 q4 q5} (g0 : G137 q0) (g1 : G127 q1) (g2 : G48 q2) (g3 : G28 q3) (g4 : G110 q4) (g5 : G88 q5) : ∀ n b0 b2 b3 r, xCi N q0 q1 q2 q3 q4 q5 n b0 b2 b3 = some r → RS Tryz.f110 I110 2 (xJ9 b0 b2 b3) (xBg r) := by
 intro n
 induction n with
 | zero => exact fun _ _ _ _ h => nE h
 | succ n ih =>
  exact fun b0 b2 b3 r h =>
   bE h fun r1 h0 h => cE h (fun h1 h => bE h fun r2 h2 h => bE h fun r3 h3 h => tS xN6 (xOM b0 b2 b3 r1 r2 r3) (oc4 (xAl h0) h1 (g1 _ _ h2) (xD8 h3) on) (ih _ _ _ _ h)) fun h1 h =>
   dS h xN6 (xON b0 b2 b3 r1) (oc2 (xAl h0) h1 on)
theorem xVe {N q0 q1 q2 q3 q4 q5} (g0 : G137 q0) (g1 : G127 q1) (g2 : G48 q2) (g3 : G28 q3) (g4 : G110 q4) (g5 : G88 q5) : ∀ a0 r, xCf N q0 q1 q2 q3 q4 q5 a0 = some r → RE Tryz.f110 I110 (xDi a0) (xBg r) := fun a0 r h =>
 bE h fun r1 h0 h => tE xN6 (xOO a0 r1) (oc (g1 _ _ h0) on) (xVd g0 g1 g2 g3 g4 g5 _ _ _ _ _ h)
theorem xGB {N q0 q1 q2 q3 q4 q5} (g0 : G137 q0) (g1 : G127 q1) (g2 : G48 q2) (g3 : G28 q3) (g4 : G110 q4) (g5 : G88 q5) {a0} {r} (h : xCf N q0 q1 q2 q3 q4 q5 a0 = some r) : AbC 110 (xDi a0) (xBg r) :=
 AbsCalls.of_reach xN6 rfl rfl (Nat.le_of_ble_eq_true rfl) (xVe g0 g1 g2 g3 g4 g5 a0 r h)
noncomputable def I88 : Info := { body := (Tryz.f88.body).getD .skip, nt := 29, results := [.cell 2 25], keep := [0, 4, 6, 8, 24, 28, 1, 5, 7], live := [(2, [0, 4, 6, 1, 5, 7])], modes := [(2, [(2, .take, false)]), (7, [(0, .take, false)])], ext := [0], casts := [(2, [(7, 3, true)])] }
theorem fk88 : FnOk Tryz.prog 88 Tryz.f88 I88 := ⟨Tryz.func88, by kernel_rfl, by kernel_rfl, by kernel_rfl, by kernel_rfl⟩
def xID (b0 : Rdr) (b2 b3 : Exp) : St := [(0, .v false [.ptr 0 0]), (4, .v false [.ptr 2 0]), (6, .v false [.ptr 3 0]), (1, .v true [.sl .ro .tok (Rdr.toks b0), .int .i64 (Rdr.i b0), .int .i64 (Rdr.fin b0), .int .i64 (Rdr.bad b0)]), (5, .v true [.int .i64 (Exp.kind b2), .int .i64 (Exp.n b2), .str (Exp.text b2), .sl .own .exp (Exp.args b2)]), (7, .v true [.int .i64 (Exp.kind b3), .int .i64 (Exp.n b3), .str (Exp.text b3), .sl .ro .exp (Exp.args b3)])]
abbrev xKl (v0 : Rdr) (v1 : Bool × Rdr) : Prop := AbC 45 (xAv v0 [43]) (xAd v1)
abbrev xIV (v0 v1 : Bool × Rdr) : Prop := AbC 45 (xAv v0.2 [45]) (xAd v1)
abbrev xLU (v0 : Bool × Rdr) (v1 : Exp × Rdr) : Prop := AbC 110 (xDi (xG1 v0)) (xBg v1)
def xUn (b0 : Rdr) (b2 b3 : Exp) (r1 : Bool × Rdr) (r2 : Bool × Rdr) (r3 : Exp × Rdr) (r4 : Exp) : rS 2 I88 (xID b0 b2 b3) [Y, Y, Y] [xAd r1, xAd r2, xBg r3, xBt r4] = st 2 I88 (xID r3.2 b2 r4) [xKl b0 r1, iY r1.1, iY true, xIV r1 r2, iY r2.1, xLU r2 r3, AbC 66 (xC6 2 b3 r3.1) (xBt r4)] := by kernel_rfl
def xUo (b0 : Rdr) (b2 b3 : Exp) (r1 : Bool × Rdr) (r2 : Bool × Rdr) (r3 : Exp × Rdr) (r4 : Exp) : rS 2 I88 (xID b0 b2 b3) [Y, Y, F] [xAd r1, xAd r2, xBg r3, xBt r4] = st 2 I88 (xID r3.2 b2 r4) [xKl b0 r1, iY r1.1, iY true, xIV r1 r2, iN r2.1, xLU r2 r3, AbC 66 (xC6 1 b3 r3.1) (xBt r4)] := by kernel_rfl
def xUp (b0 : Rdr) (b2 b3 : Exp) (r1 : Bool × Rdr) (r2 : Bool × Rdr) (r3 : Bool × Rdr) (r4 : Exp × Rdr) (r5 : Exp) : rS 2 I88 (xID b0 b2 b3) [F, Y, Y] [xAd r1, xAd r2, xAd r3, xBg r4, xBt r5] = st 2 I88 (xID r4.2 b2 r5) [xKl b0 r1, iN r1.1, xIV r1 r2, iY r2.1, xIV r2 r3, iY r3.1, xLU r3 r4, AbC 66 (xC6 2 b3 r4.1) (xBt r5)] := by kernel_rfl
def xUq (b0 : Rdr) (b2 b3 : Exp) (r1 : Bool × Rdr) (r2 : Bool × Rdr) (r3 : Bool × Rdr) (r4 : Exp × Rdr) (r5 : Exp) : rS 2 I88 (xID b0 b2 b3) [F, Y, F] [xAd r1, xAd r2, xAd r3, xBg r4, xBt r5] = st 2 I88 (xID r4.2 b2 r5) [xKl b0 r1, iN r1.1, xIV r1 r2, iY r2.1, xIV r2 r3, iN r3.1, xLU r3 r4, AbC 66 (xC6 1 b3 r4.1) (xBt r5)] := by kernel_rfl
def xUr (b0 : Rdr) (b2 b3 : Exp) (r1 : Bool × Rdr) (r2 : Bool × Rdr) : rS 2 I88 (xID b0 b2 b3) [F, F] [xAd r1, xAd r2] = dn (xBI (b3, r2.2)) [xKl b0 r1, iN r1.1, xIV r1 r2, iN r2.1] := by kernel_rfl
def xUs (a0 : Rdr) (r1 : Exp × Rdr) : rE I88 (xDt a0) [] [xBg r1] = st 2 I88 (xID r1.2 (Exp.mk 0 0 [] []) r1.1) [AbC 110 (xDi a0) (xBg r1)] := by kernel_rfl
theorem xWM {N q0 q1 q2 q3 q4 q5} (g0 : G137 q0) (g1 : G127 q1) (g2 : G48 q2) (g3 : G28 q3) (g4 : G110 q4) (g5 : G88 q5) : ∀ n b0 b2 b3 r, xB8 N q0 q1 q2 q3 q4 q5 n b0 b2 b3 = some r → RS Tryz.f88 I88 2 (xID b0 b2 b3) (xBI r) := by
 intro n
 induction n with
 | zero => exact fun _ _ _ _ h => nE h
 | succ n ih =>
  exact fun b0 b2 b3 r h =>
   bE h fun r1 h0 h => cE h (fun h1 h => bE h fun r2 h3 h => cE h (fun h4 h => bE h fun r3 h5 h => bE h fun r4 h6 h => tS fk88 (xUn b0 b2 b3 r1 r2 r3 r4) (oc7 (xAl h0) h1 rfl (xAl h3) h4 (g4 _ _ h5) (xD8 h6) on) (ih _ _ _ _ h)) fun h4 h =>
   bE h fun r3 h5 h => bE h fun r4 h6 h => tS fk88 (xUo b0 b2 b3 r1 r2 r3 r4) (oc7 (xAl h0) h1 rfl (xAl h3) h4 (g4 _ _ h5) (xD8 h6) on) (ih _ _ _ _ h)) fun h1 h =>
   bE h fun r2 h2 h => cE h (fun h3 h => bE h fun r3 h4 h => cE h (fun h5 h => bE h fun r4 h6 h => bE h fun r5 h7 h => tS fk88 (xUp b0 b2 b3 r1 r2 r3 r4 r5) (oc8 (xAl h0) h1 (xAl h2) h3 (xAl h4) h5 (g4 _ _ h6) (xD8 h7) on) (ih _ _ _ _ h)) fun h5 h =>
   bE h fun r4 h6 h => bE h fun r5 h7 h => tS fk88 (xUq b0 b2 b3 r1 r2 r3 r4 r5) (oc8 (xAl h0) h1 (xAl h2) h3 (xAl h4) h5 (g4 _ _ h6) (xD8 h7) on) (ih _ _ _ _ h)) fun h3 h =>
   dS h fk88 (xUr b0 b2 b3 r1 r2) (oc4 (xAl h0) h1 (xAl h2) h3 on)
theorem xWN {N q0 q1 q2 q3 q4 q5} (g0 : G137 q0) (g1 : G127 q1) (g2 : G48 q2) (g3 : G28 q3) (g4 : G110 q4) (g5 : G88 q5) : ∀ a0 r, xDm N q0 q1 q2 q3 q4 q5 a0 = some r → RE Tryz.f88 I88 (xDt a0) (xBI r) := fun a0 r h =>
 bE h fun r1 h0 h => tE fk88 (xUs a0 r1) (oc (g4 _ _ h0) on) (xWM g0 g1 g2 g3 g4 g5 _ _ _ _ _ h)
theorem xHA {N q0 q1 q2 q3 q4 q5} (g0 : G137 q0) (g1 : G127 q1) (g2 : G48 q2) (g3 : G28 q3) (g4 : G110 q4) (g5 : G88 q5) {a0} {r} (h : xDm N q0 q1 q2 q3 q4 q5 a0 = some r) : AbC 88 (xDt a0) (xBI r) :=
 AbsCalls.of_reach fk88 rfl rfl (Nat.le_of_ble_eq_true rfl) (xWN g0 g1 g2 g3 g4 g5 a0 r h)
theorem xHz {N : Nat} : ∀ d, G137 (xAa N d).c_spec_l11Args ∧ G127 (xAa N d).c_spec_l11Atom ∧ G48 (xAa N d).c_spec_l11Compare ∧ G28 (xAa N d).c_spec_l11Expr ∧ G110 (xAa N d).c_spec_l11Product ∧ G88 (xAa N d).c_spec_l11Sum := by
 intro d
 induction d with
 | zero => exact ⟨fun _ _ _ h => nE h, fun _ _ h => nE h, fun _ _ h => nE h, fun _ _ h => nE h, fun _ _ h => nE h, fun _ _ h => nE h⟩
 | succ d ih =>
  obtain ⟨ih0, ih1, ih2, ih3, ih4, ih5⟩ := ih
  exact ⟨fun _ _ _ h => xHa (N := N) ih0 ih1 ih2 ih3 ih4 ih5 h, fun _ _ h => xHb (N := N) ih0 ih1 ih2 ih3 ih4 ih5 h, fun _ _ h => xGA (N := N) ih0 ih1 ih2 ih3 ih4 ih5 h, fun _ _ h => xHc (N := N) ih0 ih1 ih2 ih3 ih4 ih5 h, fun _ _ h => xGB (N := N) ih0 ih1 ih2 ih3 ih4 ih5 h, fun _ _ h => xHA (N := N) ih0 ih1 ih2 ih3 ih4 ih5 h⟩
theorem xCK {N : Nat} {a0 : Rdr} {r : Exp × Rdr} (h : xF1 N a0 = some r) : AbC 28 (xBM a0) (xAp r) := (xHz N).2.2.2.1 _ r h
def G40 (q : Exp → Int → Option (Int)) : Prop := ∀ a0 a1 r, q a0 a1 = some r → AbC 40 (xCI a0 a1) (xBh r)
noncomputable def I40 : Info := { body := (Tryz.f40.body).getD .skip, nt := 27, results := [.tmp 4], keep := [0, 2, 4, 8, 10, 32, 5], live := [(3, [2, 4, 10, 5])], modes := [(3, [(5, .take, false)])] }
theorem fk40 : FnOk Tryz.prog 40 Tryz.f40 I40 := ⟨Tryz.func40, by kernel_rfl, by kernel_rfl, by kernel_rfl, by kernel_rfl⟩
def xL3 (x1 x5 : Int) (b2 : Exp) : St := [(2, .v false [.int .i64 x1]), (4, .v false [.ptr 2 0]), (10, .v false [.int .i64 x5]), (5, .v true [.int .i64 (Exp.kind b2), .int .i64 (Exp.n b2), .str (Exp.text b2), .sl .ro .exp (Exp.args b2)])]
abbrev xJZ (v0 : Int) (v1 : Exp) := dc (v0 < (Ln (Exp.args v1) : Int))
abbrev xKm (v0 : Int) (v1 : Exp) : Prop := iY (xJZ v0 v1)
abbrev xLV (v0 : Int) (v1 : Exp) : Prop := (0 : Int) ≤ v0 ∧ v0 < (Ln (Exp.args v1))
abbrev xJ0 (v0 : Exp) (v1 : Int) := gD (Exp.args v0) (tN v1) Ty.exp.dflt
def xSs (x1 x5 : Int) (b2 : Exp) (r1 : Int) : rS 3 I40 (xL3 x1 x5 b2) [Y, Y] [xBh r1] = st 3 I40 (xL3 r1 (W (x5 + 1)) b2) [xKm x5 b2, iY (dc (x1 ≥ 0)), xLV x5 b2, AbC 40 (xCI (xJ0 b2 x5) x1) (xBh r1)] := by kernel_rfl
def xSt (x1 x5 : Int) (b2 : Exp) : rS 3 I40 (xL3 x1 x5 b2) [Y, F] [] = dn (xBh x1) [xKm x5 b2, xIo x1] := by kernel_rfl
def xSu (x1 x5 : Int) (b2 : Exp) : rS 3 I40 (xL3 x1 x5 b2) [F, F] [] = dn (xBh x1) [iN (xJZ x5 b2), iN false] := by kernel_rfl
def xSv (a0 : Exp) (a1 : Int) : rE I40 (xCI a0 a1) [] [] = st 3 I40 (xL3 (W (a1 - 1)) 0 a0) [] := by kernel_rfl
theorem xV5 {N q0} (g0 : G40 q0) : ∀ n x1 x5 b2 r, xDc N q0 n x1 x5 b2 = some r → RS Tryz.f40 I40 3 (xL3 x1 x5 b2) (xBh r) := by
 intro n
 induction n with
 | zero => exact fun _ _ _ _ h => nE h
 | succ n ih =>
  exact fun x1 x5 b2 r h =>
   cE h (fun h0 h => cE h (fun h1 h => iE h fun h2 h => bE h fun r1 h3 h => tS fk40 (xSs x1 x5 b2 r1) (oc4 h0 h1 h2 (g0 _ _ _ h3) on) (ih _ _ _ _ h)) fun h1 h =>
   dS h fk40 (xSt x1 x5 b2) (oc2 h0 h1 on)) fun h0 h =>
   dS h fk40 (xSu x1 x5 b2) (oc2 h0 rfl on)
theorem xV6 {N q0} (g0 : G40 q0) : ∀ a0 a1 r, xFe N q0 a0 a1 = some r → RE Tryz.f40 I40 (xCI a0 a1) (xBh r) := fun a0 a1 r h =>
 tE fk40 (xSv a0 a1) on (xV5 g0 _ _ _ _ _ h)
theorem xG9 {N q0} (g0 : G40 q0) {a0} {a1} {r} (h : xFe N q0 a0 a1 = some r) : AbC 40 (xCI a0 a1) (xBh r) :=
 AbsCalls.of_reach fk40 rfl rfl (Nat.le_of_ble_eq_true rfl) (xV6 g0 a0 a1 r h)
theorem xFP {N : Nat} : ∀ d, G40 (xDM N d)
 | 0 => fun _ _ _ h => nE h
 | d + 1 => fun _ _ _ h => xG9 (N := N) (xFP d) h
theorem xFQ {N : Nat} {a0 : Exp} {a1 : Int} {r : Int} (h : xG3 N a0 a1 = some r) : AbC 40 (xCI a0 a1) (xBh r) := xFP N _ _ r h
noncomputable def I77 : Info := { body := (Tryz.f77.body).getD .skip, nt := 10, results := [.tmp 4], keep := [0, 2, 8, 14], live := [], modes := [] }
theorem fk77 : FnOk Tryz.prog 77 Tryz.f77 I77 := ⟨Tryz.func77, by kernel_rfl, by kernel_rfl, by kernel_rfl, by kernel_rfl⟩
def xTJ (a0 a1 : Int) : rE I77 (xE6 a0 a1) [Y] [] = dn (xEz a0) [iY (dc (a0 > a1))] := by kernel_rfl
def xTK (a0 a1 : Int) : rE I77 (xE6 a0 a1) [F] [] = dn (xEz a1) [iN (dc (a0 > a1))] := by kernel_rfl
theorem xWB {N : Nat} : ∀ a0 a1 r, xGj N a0 a1 = some r → RE Tryz.f77 I77 (xE6 a0 a1) (xEz r) := fun a0 a1 r h =>
 cE h (fun h0 h => dE h fk77 (xTJ a0 a1) (oc h0 on)) fun h0 h =>
 dE h fk77 (xTK a0 a1) (oc h0 on)
theorem xJ7 {N : Nat} {a0 : Int} {a1 : Int} {r : Int} (h : xGj N  a0 a1 = some r) : AbC 77 (xE6 a0 a1) (xEz r) :=
 AbsCalls.of_reach fk77 rfl rfl (Nat.le_of_ble_eq_true rfl) (xWB a0 a1 r h)
def G41 (q : Exp → Option (Int)) : Prop := ∀ a0 r, q a0 = some r → AbC 41 (xCC a0) (xBp r)
noncomputable def I41 : Info := { body := (Tryz.f41.body).getD .skip, nt := 22, results := [.tmp 2], keep := [0, 2, 4, 6, 8, 18, 3], live := [(3, [2, 6, 8, 3])], modes := [] }
theorem fk41 : FnOk Tryz.prog 41 Tryz.f41 I41 := ⟨Tryz.func41, by kernel_rfl, by kernel_rfl, by kernel_rfl, by kernel_rfl⟩
def xMn (x3 x4 : Int) (b1 : Exp) : St := [(2, .v false [.ptr 1 0]), (6, .v false [.int .i64 x3]), (8, .v false [.int .i64 x4]), (3, .v true [.int .i64 (Exp.kind b1), .int .i64 (Exp.n b1), .str (Exp.text b1), .sl .ro .exp (Exp.args b1)])]
def xSw (x3 x4 : Int) (b1 : Exp) (r1 r2 : Int) : rS 3 I41 (xMn x3 x4 b1) [Y] [xBp r1, xEz r2] = st 3 I41 (xMn r2 (W (x4 + 1)) b1) [xKm x4 b1, xLV x4 b1, AbC 41 (xCC (xJ0 b1 x4)) (xBp r1), AbC 77 (xE6 x3 r1) (xEz r2)] := by kernel_rfl
def xSx (x3 x4 : Int) (b1 : Exp) : rS 3 I41 (xMn x3 x4 b1) [F] [] = dn (xBp (W (x3 + 1))) [iN (xJZ x4 b1)] := by kernel_rfl
def xSy (a0 : Exp) : rE I41 (xCC a0) [] [] = st 3 I41 (xMn 0 0 a0) [] := by kernel_rfl
theorem xV7 {N q0} (g0 : G41 q0) : ∀ n x3 x4 b1 r, xDw N q0 n x3 x4 b1 = some r → RS Tryz.f41 I41 3 (xMn x3 x4 b1) (xBp r) := by
 intro n
 induction n with
 | zero => exact fun _ _ _ _ h => nE h
 | succ n ih =>
  exact fun x3 x4 b1 r h =>
   cE h (fun h0 h => iE h fun h1 h => bE h fun r1 h2 h => bE h fun r2 h3 h => tS fk41 (xSw x3 x4 b1 r1 r2) (oc4 h0 h1 (g0 _ _ h2) (xJ7 h3) on) (ih _ _ _ _ h)) fun h0 h =>
   dS h fk41 (xSx x3 x4 b1) (oc h0 on)
theorem xV8 {N q0} (g0 : G41 q0) : ∀ a0 r, xEU N q0 a0 = some r → RE Tryz.f41 I41 (xCC a0) (xBp r) := fun a0 r h =>
 tE fk41 (xSy a0) on (xV7 g0 _ _ _ _ _ h)
theorem xGK {N q0} (g0 : G41 q0) {a0} {r} (h : xEU N q0 a0 = some r) : AbC 41 (xCC a0) (xBp r) :=
 AbsCalls.of_reach fk41 rfl rfl (Nat.le_of_ble_eq_true rfl) (xV8 g0 a0 r h)
theorem xFm {N : Nat} : ∀ d, G41 (xDQ N d)
 | 0 => fun _ _ h => nE h
 | d + 1 => fun _ _ h => xGK (N := N) (xFm d) h
theorem xGh {N : Nat} {a0 : Exp} {r : Int} (h : xF7 N a0 = some r) : AbC 41 (xCC a0) (xBp r) := xFm N _ r h
noncomputable def I105 : Info := { body := (Tryz.f105.body).getD .skip, nt := 15, results := [.tmp 6], keep := [0, 2, 4, 12], live := [], modes := [(1, [(3, .take, false)])] }
theorem xRr : FnOk Tryz.prog 105 Tryz.f105 I105 := ⟨Tryz.func105, by kernel_rfl, by kernel_rfl, by kernel_rfl, by kernel_rfl⟩
def xOf (a0 a1 a2 : Int) : rE I105 (xEW a0 a1 a2) [Y] [] = dn (xD5 (dc (a0 ≤ a2))) [iY (dc (a0 ≥ a1))] := by kernel_rfl
def xOg (a0 a1 a2 : Int) : rE I105 (xEW a0 a1 a2) [F] [] = dn (xD5 false) [iN (dc (a0 ≥ a1))] := by kernel_rfl
theorem xU7 {N : Nat} : ∀ a0 a1 a2 r, xGi N a0 a1 a2 = some r → RE Tryz.f105 I105 (xEW a0 a1 a2) (xD5 r) := fun a0 a1 a2 r h =>
 cE h (fun h0 h => dE h xRr (xOf a0 a1 a2) (oc h0 on)) fun h0 h =>
 dE h xRr (xOg a0 a1 a2) (oc h0 on)
theorem xIt {N : Nat} {a0 : Int} {a1 : Int} {a2 : Int} {r : Bool} (h : xGi N  a0 a1 a2 = some r) : AbC 105 (xEW a0 a1 a2) (xD5 r) :=
 AbsCalls.of_reach xRr rfl rfl (Nat.le_of_ble_eq_true rfl) (xU7 a0 a1 a2 r h)
noncomputable def I78 : Info := { body := (Tryz.f78.body).getD .skip, nt := 120, results := [.tmp 2], keep := [0, 2, 4, 6, 16, 18, 46, 74, 102, 130, 154, 182, 212, 3], live := [], modes := [(4, [(2, .take, false), (7, .take, false)]), (6, [(2, .take, false), (7, .take, false)]), (8, [(2, .take, false), (7, .take, false)]), (10, [(3, .take, false), (8, .take, false)]), (12, [(3, .take, false)]), (14, [(3, .take, false), (7, .take, false)]), (17, [(3, .take, false), (7, .take, false)]), (19, [(3, .take, false), (8, .take, false)])] }
theorem fk78 : FnOk Tryz.prog 78 Tryz.f78 I78 := ⟨Tryz.func78, by kernel_rfl, by kernel_rfl, by kernel_rfl, by kernel_rfl⟩
abbrev xJv (v0 : Exp) : Prop := iY ((Exp.kind v0) == 1)
abbrev xMR (v0 : Exp) := (Ln (Exp.args v0) : Int) == 0
abbrev xJw (v0 : Exp) : Prop := iY (xMR v0)
abbrev xGt (v0 : Exp) : Prop := iY (((Exp.text v0) : Str) == [])
def xTL (a0 : Exp) (r1 : Bool) : rE I78 (xAr a0) [Y, Y, Y] [xD5 r1] = dn (xAq r1) [xJv a0, xJw a0, xGt a0, AbC 105 (xEW (Exp.n a0) 0 1000000000) (xD5 r1)] := by kernel_rfl
abbrev xGO (v0 : Exp) : Prop := iN (((Exp.text v0) : Str) == [])
def xTM (a0 : Exp) : rE I78 (xAr a0) [Y, Y, F] [] = dn (xAq false) [xJv a0, xJw a0, xGO a0] := by kernel_rfl
abbrev xKM (v0 : Exp) : Prop := iN (xMR v0)
def xTN (a0 : Exp) : rE I78 (xAr a0) [Y, F, F] [] = dn (xAq false) [xJv a0, xKM a0, iN false] := by kernel_rfl
abbrev xBc (v0 : Exp) : Prop := iN ((Exp.kind v0) == 1)
abbrev xHV (v0 : Exp) : Prop := iY ((Exp.kind v0) == 2)
abbrev xDn (v0 : Exp) : Prop := iY ((Exp.n v0) == 0)
def xTO (a0 : Exp) (r1 : Bool) : rE I78 (xAr a0) [F, Y, Y, Y] [xAP r1] = dn (xAq r1) [xBc a0, xHV a0, xJw a0, xDn a0, AbC 82 (xDB (Exp.text a0)) (xAP r1)] := by kernel_rfl
abbrev xE2 (v0 : Exp) : Prop := iN ((Exp.n v0) == 0)
def xTP (a0 : Exp) : rE I78 (xAr a0) [F, Y, Y, F] [] = dn (xAq false) [xBc a0, xHV a0, xJw a0, xE2 a0] := by kernel_rfl
def xTQ (a0 : Exp) : rE I78 (xAr a0) [F, Y, F, F] [] = dn (xAq false) [xBc a0, xHV a0, xKM a0, iN false] := by kernel_rfl
abbrev xBx (v0 : Exp) : Prop := iN ((Exp.kind v0) == 2)
abbrev xHW (v0 : Exp) : Prop := iY ((Exp.kind v0) == 3)
def xTR (a0 : Exp) (r1 : Bool) : rE I78 (xAr a0) [F, F, Y, Y, Y] [xAz r1] = dn (xAq r1) [xBc a0, xBx a0, xHW a0, xJw a0, xDn a0, AbC 87 (xBK (Exp.text a0)) (xAz r1)] := by kernel_rfl
def xTS (a0 : Exp) : rE I78 (xAr a0) [F, F, Y, Y, F] [] = dn (xAq false) [xBc a0, xBx a0, xHW a0, xJw a0, xE2 a0] := by kernel_rfl
def xTT (a0 : Exp) : rE I78 (xAr a0) [F, F, Y, F, F] [] = dn (xAq false) [xBc a0, xBx a0, xHW a0, xKM a0, iN false] := by kernel_rfl
abbrev xBX (v0 : Exp) : Prop := iN ((Exp.kind v0) == 3)
abbrev xHX (v0 : Exp) : Prop := iY ((Exp.kind v0) == 4)
abbrev xGx (v0 : Exp) := (Ln (Exp.args v0) : Int)
def xTU (a0 : Exp) : rE I78 (xAr a0) [F, F, F, Y, Y, Y] [] = dn (xAq (dc ((xGx a0) ≤ 8))) [xBc a0, xBx a0, xBX a0, xHX a0, xDn a0, xGt a0] := by kernel_rfl
def xQp (a0 : Exp) : rE I78 (xAr a0) [F, F, F, Y, Y, F] [] = dn (xAq false) [xBc a0, xBx a0, xBX a0, xHX a0, xDn a0, xGO a0] := by kernel_rfl
def xQq (a0 : Exp) : rE I78 (xAr a0) [F, F, F, Y, F, F] [] = dn (xAq false) [xBc a0, xBx a0, xBX a0, xHX a0, xE2 a0, iN false] := by kernel_rfl
abbrev xCD (v0 : Exp) : Prop := iN ((Exp.kind v0) == 4)
abbrev xJE (v0 : Exp) : Prop := iY ((Exp.kind v0) == 5)
def xQr (a0 : Exp) (r1 : Int) : rE I78 (xAr a0) [F, F, F, F, Y, Y] [xAh r1] = dn (xAq ((xGx a0) == r1)) [xBc a0, xBx a0, xBX a0, xCD a0, xJE a0, xDn a0, AbC 106 (xAn (Exp.text a0)) (xAh r1)] := by kernel_rfl
def xQs (a0 : Exp) : rE I78 (xAr a0) [F, F, F, F, Y, F] [] = dn (xAq false) [xBc a0, xBx a0, xBX a0, xCD a0, xJE a0, xE2 a0] := by kernel_rfl
abbrev xDa (v0 : Exp) : Prop := iN ((Exp.kind v0) == 5)
abbrev xHY (v0 : Exp) : Prop := iY ((Exp.kind v0) == 6)
abbrev xMS (v0 : Exp) := (Ln (Exp.args v0) : Int) == 2
abbrev xKN (v0 : Exp) : Prop := iY (xMS v0)
def xQt (a0 : Exp) (r1 : Bool) : rE I78 (xAr a0) [F, F, F, F, F, Y, Y, Y] [xD5 r1] = dn (xAq r1) [xBc a0, xBx a0, xBX a0, xCD a0, xDa a0, xHY a0, xGt a0, xKN a0, AbC 105 (xEW (Exp.n a0) 1 5) (xD5 r1)] := by kernel_rfl
abbrev xKO (v0 : Exp) : Prop := iN (xMS v0)
def xQu (a0 : Exp) : rE I78 (xAr a0) [F, F, F, F, F, Y, Y, F] [] = dn (xAq false) [xBc a0, xBx a0, xBX a0, xCD a0, xDa a0, xHY a0, xGt a0, xKO a0] := by kernel_rfl
def xQv (a0 : Exp) : rE I78 (xAr a0) [F, F, F, F, F, Y, F, F] [] = dn (xAq false) [xBc a0, xBx a0, xBX a0, xCD a0, xDa a0, xHY a0, xGO a0, iN false] := by kernel_rfl
abbrev xDY (v0 : Exp) : Prop := iN ((Exp.kind v0) == 6)
abbrev xFp (v0 : Exp) : Prop := iY ((Exp.kind v0) == 7)
def xQw (a0 : Exp) (r1 : Bool) : rE I78 (xAr a0) [F, F, F, F, F, F, Y, Y, Y, Y] [xAz r1] = dn (xAq r1) [xBc a0, xBx a0, xBX a0, xCD a0, xDa a0, xDY a0, xFp a0, xFp a0, xDn a0, xKN a0, AbC 87 (xBK (Exp.text a0)) (xAz r1)] := by kernel_rfl
def xQx (a0 : Exp) : rE I78 (xAr a0) [F, F, F, F, F, F, Y, Y, Y, F] [] = dn (xAq false) [xBc a0, xBx a0, xBX a0, xCD a0, xDa a0, xDY a0, xFp a0, xFp a0, xDn a0, xKO a0] := by kernel_rfl
def xQy (a0 : Exp) : rE I78 (xAr a0) [F, F, F, F, F, F, Y, Y, F, F] [] = dn (xAq false) [xBc a0, xBx a0, xBX a0, xCD a0, xDa a0, xDY a0, xFp a0, xFp a0, xE2 a0, iN false] := by kernel_rfl
abbrev xE3 (v0 : Exp) : Prop := iN ((Exp.kind v0) == 7)
abbrev xHZ (v0 : Exp) : Prop := iY ((Exp.kind v0) == 9)
def xQz (a0 : Exp) (r1 : Bool) : rE I78 (xAr a0) [F, F, F, F, F, F, F, Y, Y, Y] [xAz r1] = dn (xAq r1) [xBc a0, xBx a0, xBX a0, xCD a0, xDa a0, xDY a0, xE3 a0, xHZ a0, xDn a0, xKN a0, AbC 87 (xBK (Exp.text a0)) (xAz r1)] := by kernel_rfl
def xQA (a0 : Exp) : rE I78 (xAr a0) [F, F, F, F, F, F, F, Y, Y, F] [] = dn (xAq false) [xBc a0, xBx a0, xBX a0, xCD a0, xDa a0, xDY a0, xE3 a0, xHZ a0, xDn a0, xKO a0] := by kernel_rfl
def xQB (a0 : Exp) : rE I78 (xAr a0) [F, F, F, F, F, F, F, Y, F, F] [] = dn (xAq false) [xBc a0, xBx a0, xBX a0, xCD a0, xDa a0, xDY a0, xE3 a0, xHZ a0, xE2 a0, iN false] := by kernel_rfl
abbrev xGP (v0 : Exp) : Prop := iN ((Exp.kind v0) == 9)
abbrev xH0 (v0 : Exp) : Prop := iY ((Exp.kind v0) == 8)
def xQC (a0 : Exp) : rE I78 (xAr a0) [F, F, F, F, F, F, F, F, Y, Y, Y] [] = dn (xAq ((xGx a0) == 3)) [xBc a0, xBx a0, xBX a0, xCD a0, xDa a0, xDY a0, xE3 a0, xGP a0, xH0 a0, xDn a0, xGt a0] := by kernel_rfl
def xQD (a0 : Exp) : rE I78 (xAr a0) [F, F, F, F, F, F, F, F, Y, Y, F] [] = dn (xAq false) [xBc a0, xBx a0, xBX a0, xCD a0, xDa a0, xDY a0, xE3 a0, xGP a0, xH0 a0, xDn a0, xGO a0] := by kernel_rfl
def xQE (a0 : Exp) : rE I78 (xAr a0) [F, F, F, F, F, F, F, F, Y, F, F] [] = dn (xAq false) [xBc a0, xBx a0, xBX a0, xCD a0, xDa a0, xDY a0, xE3 a0, xGP a0, xH0 a0, xE2 a0, iN false] := by kernel_rfl
def xQF (a0 : Exp) : rE I78 (xAr a0) [F, F, F, F, F, F, F, F, F] [] = dn (xAq false) [xBc a0, xBx a0, xBX a0, xCD a0, xDa a0, xDY a0, xE3 a0, xGP a0, iN ((Exp.kind a0) == 8)] := by kernel_rfl
theorem xWC {N : Nat} : ∀ a0 r, xFn N a0 = some r → RE Tryz.f78 I78 (xAr a0) (xAq r) := fun a0 r h =>
 cE h (fun h0 h => cE h (fun h1 h => cE h (fun h2 h => bE h fun r1 h3 h => dE h fk78 (xTL a0 r1) (oc4 h0 h1 h2 (xIt h3) on)) fun h2 h =>
 dE h fk78 (xTM a0) (oc3 h0 h1 h2 on)) fun h1 h =>
 dE h fk78 (xTN a0) (oc3 h0 h1 rfl on)) fun h0 h =>
 cE h (fun h1 h => cE h (fun h2 h => cE h (fun h3 h => bE h fun r1 h4 h => dE h fk78 (xTO a0 r1) (oc5 h0 h1 h2 h3 (xDC h4) on)) fun h3 h =>
 dE h fk78 (xTP a0) (oc4 h0 h1 h2 h3 on)) fun h2 h =>
 dE h fk78 (xTQ a0) (oc4 h0 h1 h2 rfl on)) fun h1 h =>
 cE h (fun h2 h => cE h (fun h3 h => cE h (fun h4 h => bE h fun r1 h5 h => dE h fk78 (xTR a0 r1) (oc6 h0 h1 h2 h3 h4 (xBw h5) on)) fun h4 h =>
 dE h fk78 (xTS a0) (oc5 h0 h1 h2 h3 h4 on)) fun h3 h =>
 dE h fk78 (xTT a0) (oc5 h0 h1 h2 h3 rfl on)) fun h2 h =>
 cE h (fun h3 h => cE h (fun h4 h => cE h (fun h5 h => dE h fk78 (xTU a0) (oc6 h0 h1 h2 h3 h4 h5 on)) fun h5 h =>
 dE h fk78 (xQp a0) (oc6 h0 h1 h2 h3 h4 h5 on)) fun h4 h =>
 dE h fk78 (xQq a0) (oc6 h0 h1 h2 h3 h4 rfl on)) fun h3 h =>
 cE h (fun h4 h => cE h (fun h5 h => bE h fun r1 h6 h => dE h fk78 (xQr a0 r1) (oc7 h0 h1 h2 h3 h4 h5 (xDb h6) on)) fun h5 h =>
 dE h fk78 (xQs a0) (oc6 h0 h1 h2 h3 h4 h5 on)) fun h4 h =>
 cE h (fun h5 h => cE h (fun h6 h => cE h (fun h7 h => bE h fun r1 h8 h => dE h fk78 (xQt a0 r1) (oc9 h0 h1 h2 h3 h4 h5 h6 h7 (xIt h8) on)) fun h7 h =>
 dE h fk78 (xQu a0) (oc8 h0 h1 h2 h3 h4 h5 h6 h7 on)) fun h6 h =>
 dE h fk78 (xQv a0) (oc8 h0 h1 h2 h3 h4 h5 h6 rfl on)) fun h5 h =>
 cE h (fun h6 h => cE h (fun h8 h => cE h (fun h9 h => bE h fun r1 h10 h => dE h fk78 (xQw a0 r1) (oc11 h0 h1 h2 h3 h4 h5 h6 h6 h8 h9 (xBw h10) on)) fun h9 h =>
 dE h fk78 (xQx a0) (oc10 h0 h1 h2 h3 h4 h5 h6 h6 h8 h9 on)) fun h8 h =>
 dE h fk78 (xQy a0) (oc10 h0 h1 h2 h3 h4 h5 h6 h6 h8 rfl on)) fun h6 h =>
 cE h (fun h7 h => cE h (fun h8 h => cE h (fun h9 h => bE h fun r1 h10 h => dE h fk78 (xQz a0 r1) (oc11 h0 h1 h2 h3 h4 h5 h6 h7 h8 h9 (xBw h10) on)) fun h9 h =>
 dE h fk78 (xQA a0) (oc10 h0 h1 h2 h3 h4 h5 h6 h7 h8 h9 on)) fun h8 h =>
 dE h fk78 (xQB a0) (oc10 h0 h1 h2 h3 h4 h5 h6 h7 h8 rfl on)) fun h7 h =>
 cE h (fun h8 h => cE h (fun h9 h => cE h (fun h10 h => dE h fk78 (xQC a0) (oc11 h0 h1 h2 h3 h4 h5 h6 h7 h8 h9 h10 on)) fun h10 h =>
 dE h fk78 (xQD a0) (oc11 h0 h1 h2 h3 h4 h5 h6 h7 h8 h9 h10 on)) fun h9 h =>
 dE h fk78 (xQE a0) (oc11 h0 h1 h2 h3 h4 h5 h6 h7 h8 h9 rfl on)) fun h8 h =>
 dE h fk78 (xQF a0) (oc9 h0 h1 h2 h3 h4 h5 h6 h7 h8 on)
theorem xI4 {N : Nat} {a0 : Exp} {r : Bool} (h : xFn N  a0 = some r) : AbC 78 (xAr a0) (xAq r) :=
 AbsCalls.of_reach fk78 rfl rfl (Nat.le_of_ble_eq_true rfl) (xWC a0 r h)
def G42 (q : Exp → Option (Bool)) : Prop := ∀ a0 r, q a0 = some r → AbC 42 (xDs a0) (xBQ r)
noncomputable def I42 : Info := { body := (Tryz.f42.body).getD .skip, nt := 20, results := [.tmp 2], keep := [0, 2, 4, 6, 16, 34, 3], live := [(2, [2, 6, 3])], modes := [] }
theorem fk42 : FnOk Tryz.prog 42 Tryz.f42 I42 := ⟨Tryz.func42, by kernel_rfl, by kernel_rfl, by kernel_rfl, by kernel_rfl⟩
def xL4 (x3 : Int) (b1 : Exp) : St := [(2, .v false [.ptr 1 0]), (6, .v false [.int .i64 x3]), (3, .v true [.int .i64 (Exp.kind b1), .int .i64 (Exp.n b1), .str (Exp.text b1), .sl .ro .exp (Exp.args b1)])]
def xSz (x3 : Int) (b1 : Exp) (r1 : Bool) : rS 2 I42 (xL4 x3 b1) [Y, Y] [xBQ r1] = dn (xBQ false) [xKm x3 b1, xLV x3 b1, AbC 42 (xDs (xJ0 b1 x3)) (xBQ r1), iY (!r1)] := by kernel_rfl
def xSA (x3 : Int) (b1 : Exp) (r1 : Bool) : rS 2 I42 (xL4 x3 b1) [Y, F] [xBQ r1] = st 2 I42 (xL4 (W (x3 + 1)) b1) [xKm x3 b1, xLV x3 b1, AbC 42 (xDs (xJ0 b1 x3)) (xBQ r1), iN (!r1)] := by kernel_rfl
def xSB (x3 : Int) (b1 : Exp) (r1 : Bool) : rS 2 I42 (xL4 x3 b1) [F] [xAq r1] = dn (xBQ r1) [iN (xJZ x3 b1), AbC 78 (xAr b1) (xAq r1)] := by kernel_rfl
def xSC (a0 : Exp) : rE I42 (xDs a0) [] [] = st 2 I42 (xL4 0 a0) [] := by kernel_rfl
theorem xV9 {N q0} (g0 : G42 q0) : ∀ n x3 b1 r, xDU N q0 n x3 b1 = some r → RS Tryz.f42 I42 2 (xL4 x3 b1) (xBQ r) := by
 intro n
 induction n with
 | zero => exact fun _ _ _ h => nE h
 | succ n ih =>
  exact fun x3 b1 r h =>
   cE h (fun h0 h => iE h fun h1 h => bE h fun r1 h2 h => cE h (fun h3 h => dS h fk42 (xSz x3 b1 r1) (oc4 h0 h1 (g0 _ _ h2) h3 on)) fun h3 h =>
   tS fk42 (xSA x3 b1 r1) (oc4 h0 h1 (g0 _ _ h2) h3 on) (ih _ _ _ h)) fun h0 h =>
   bE h fun r1 h1 h => dS h fk42 (xSB x3 b1 r1) (oc2 h0 (xI4 h1) on)
theorem xWa {N q0} (g0 : G42 q0) : ∀ a0 r, xFs N q0 a0 = some r → RE Tryz.f42 I42 (xDs a0) (xBQ r) := fun a0 r h =>
 tE fk42 (xSC a0) on (xV9 g0 _ _ _ _ h)
theorem xHx {N q0} (g0 : G42 q0) {a0} {r} (h : xFs N q0 a0 = some r) : AbC 42 (xDs a0) (xBQ r) :=
 AbsCalls.of_reach fk42 rfl rfl (Nat.le_of_ble_eq_true rfl) (xWa g0 a0 r h)
theorem xF0 {N : Nat} : ∀ d, G42 (xEr N d)
 | 0 => fun _ _ h => nE h
 | d + 1 => fun _ _ h => xHx (N := N) (xF0 d) h
theorem xJd {N : Nat} {a0 : Exp} {r : Bool} (h : xHw N a0 = some r) : AbC 42 (xDs a0) (xBQ r) := xF0 N _ r h
noncomputable def I22 : Info := { body := (Tryz.f22.body).getD .skip, nt := 15, results := [.tmp 2], keep := [0, 2, 4, 3], live := [], modes := [(1, [(3, .take, false), (8, .take, false)])] }
theorem fk22 : FnOk Tryz.prog 22 Tryz.f22 I22 := ⟨Tryz.func22, by kernel_rfl, by kernel_rfl, by kernel_rfl, by kernel_rfl⟩
def xRX (a0 : Exp) (r1 r2 : Int) (r3 : Bool) : rE I22 (xCZ a0) [Y, Y] [xBh r1, xBp r2, xBQ r3] = dn (xA7 r3) [AbC 40 (xCI a0 40) (xBh r1), iY (dc (r1 ≥ 0)), AbC 41 (xCC a0) (xBp r2), iY (dc (r2 ≤ 8)), AbC 42 (xDs a0) (xBQ r3)] := by kernel_rfl
def xRY (a0 : Exp) (r1 r2 : Int) : rE I22 (xCZ a0) [Y, F] [xBh r1, xBp r2] = dn (xA7 false) [AbC 40 (xCI a0 40) (xBh r1), iY (dc (r1 ≥ 0)), AbC 41 (xCC a0) (xBp r2), iN (dc (r2 ≤ 8))] := by kernel_rfl
def xRZ (a0 : Exp) (r1 : Int) : rE I22 (xCZ a0) [F, F] [xBh r1] = dn (xA7 false) [AbC 40 (xCI a0 40) (xBh r1), xIo r1, iN false] := by kernel_rfl
theorem xVW {N : Nat} : ∀ a0 r, xCv N a0 = some r → RE Tryz.f22 I22 (xCZ a0) (xA7 r) := fun a0 r h =>
 bE h fun r1 h0 h => cE h (fun h1 h => bE h fun r2 h2 h => cE h (fun h3 h => bE h fun r3 h4 h => dE h fk22 (xRX a0 r1 r2 r3) (oc5 (xFQ h0) h1 (xGh h2) h3 (xJd h4) on)) fun h3 h =>
 dE h fk22 (xRY a0 r1 r2) (oc4 (xFQ h0) h1 (xGh h2) h3 on)) fun h1 h =>
 dE h fk22 (xRZ a0 r1) (oc3 (xFQ h0) h1 rfl on)
theorem xC0 {N : Nat} {a0 : Exp} {r : Bool} (h : xCv N  a0 = some r) : AbC 22 (xCZ a0) (xA7 r) :=
 AbsCalls.of_reach fk22 rfl rfl (Nat.le_of_ble_eq_true rfl) (xVW a0 r h)
noncomputable def I11 : Info := { body := (Tryz.f11.body).getD .skip, nt := 55, results := [.cell 2 25, .tmp 3], keep := [0, 4, 6, 8, 10, 12, 14, 28, 74, 88, 104, 5, 15, 43], live := [], modes := [(1, [(1, .cp, true), (2, .take, false)]), (4, [(0, .take, false)]), (6, [(5, .take, false)])], fcast := [(5, 3, true)] }
theorem fk11 : FnOk Tryz.prog 11 Tryz.f11 I11 := ⟨Tryz.func11, by kernel_rfl, by kernel_rfl, by kernel_rfl, by kernel_rfl⟩
abbrev xF6 (v0 : Str) (v1 : (List Tok) × Int) : Prop := AbC 23 (xEc v0) (xAM v1)
def xRD (a0 : Str) (r1 : (List Tok) × Int) : rE I11 (xBd a0) [Y] [xAM r1] = dn (xBq ((Exp.mk 0 0 [] []), r1.2)) [xF6 a0 r1, iY (dc (r1.2 ≥ 0))] := by kernel_rfl
abbrev xDT (v0 : (List Tok) × Int) : Prop := iN (dc (v0.2 ≥ 0))
abbrev xGu (v0 : (List Tok) × Int) (v1 : Str) (v2 : Exp × Rdr) : Prop := AbC 28 (xBM (Rdr.mk v0.1 0 (Ln v1 : Int) (-1))) (xAp v2)
abbrev xH1 (v0 : Exp × Rdr) : Prop := iY (dc ((Rdr.bad v0.2) < 0))
abbrev xLc (v0 : Exp × Rdr) := xBq ((Exp.mk 0 0 [] []), (Rdr.bad v0.2))
abbrev xIb (v0 : Exp × Rdr) (v1 : (List Tok) × Int) := dc ((Rdr.i v0.2) < (Ln v1.1 : Int))
def xRE (a0 : Str) (r1 : (List Tok) × Int) (r2 : Exp × Rdr) (r3 : Exp × Rdr) : rE I11 (xBd a0) [F, Y, Y, Y] [xAM r1, xAp r2, xAF r3] = dn (xLc r3) [xF6 a0 r1, xDT r1, xGu r1 a0 r2, xH1 r2, iY (xIb r2 r1), AbC 29 (xCo r2.2) (xAF r3), iY (dc ((Rdr.bad r3.2) ≥ 0))] := by kernel_rfl
abbrev xH2 (v0 : Exp × Rdr) : Prop := iN (dc ((Rdr.bad v0.2) ≥ 0))
abbrev xH3 (v0 : Exp × Rdr) (v1 : Bool) : Prop := AbC 22 (xCZ v0.1) (xA7 v1)
def xRF (a0 : Str) (r1 : (List Tok) × Int) (r2 : Exp × Rdr) (r3 : Exp × Rdr) (r4 : Bool) : rE I11 (xBd a0) [F, Y, Y, F, Y] [xAM r1, xAp r2, xAF r3, xA7 r4] = dn (xBq ((Exp.mk 0 0 [] []), 0)) [xF6 a0 r1, xDT r1, xGu r1 a0 r2, xH1 r2, iY (xIb r2 r1), AbC 29 (xCo r2.2) (xAF r3), xH2 r3, xH3 r2 r4, iY (!r4)] := by kernel_rfl
def xRG (a0 : Str) (r1 : (List Tok) × Int) (r2 : Exp × Rdr) (r3 : Exp × Rdr) (r4 : Bool) : rE I11 (xBd a0) [F, Y, Y, F, F] [xAM r1, xAp r2, xAF r3, xA7 r4] = dn (xBq (r2.1, (-1))) [xF6 a0 r1, xDT r1, xGu r1 a0 r2, xH1 r2, iY (xIb r2 r1), AbC 29 (xCo r2.2) (xAF r3), xH2 r3, xH3 r2 r4, iN (!r4)] := by kernel_rfl
def xRH (a0 : Str) (r1 : (List Tok) × Int) (r2 : Exp × Rdr) : rE I11 (xBd a0) [F, Y, F, Y] [xAM r1, xAp r2] = dn (xLc r2) [xF6 a0 r1, xDT r1, xGu r1 a0 r2, xH1 r2, iN (xIb r2 r1), iY (dc ((Rdr.bad r2.2) ≥ 0))] := by kernel_rfl
def xRI (a0 : Str) (r1 : (List Tok) × Int) (r2 : Exp × Rdr) (r3 : Bool) : rE I11 (xBd a0) [F, Y, F, F, Y] [xAM r1, xAp r2, xA7 r3] = dn (xBq ((Exp.mk 0 0 [] []), 0)) [xF6 a0 r1, xDT r1, xGu r1 a0 r2, xH1 r2, iN (xIb r2 r1), xH2 r2, xH3 r2 r3, iY (!r3)] := by kernel_rfl
def xRJ (a0 : Str) (r1 : (List Tok) × Int) (r2 : Exp × Rdr) (r3 : Bool) : rE I11 (xBd a0) [F, Y, F, F, F] [xAM r1, xAp r2, xA7 r3] = dn (xBq (r2.1, (-1))) [xF6 a0 r1, xDT r1, xGu r1 a0 r2, xH1 r2, iN (xIb r2 r1), xH2 r2, xH3 r2 r3, iN (!r3)] := by kernel_rfl
def xRK (a0 : Str) (r1 : (List Tok) × Int) (r2 : Exp × Rdr) : rE I11 (xBd a0) [F, F, F, Y] [xAM r1, xAp r2] = dn (xLc r2) [xF6 a0 r1, xDT r1, xGu r1 a0 r2, iN (dc ((Rdr.bad r2.2) < 0)), iN false, iY (dc ((Rdr.bad r2.2) ≥ 0))] := by kernel_rfl
def xRL (a0 : Str) (r1 : (List Tok) × Int) (r2 : Exp × Rdr) (r3 : Bool) : rE I11 (xBd a0) [F, F, F, F, Y] [xAM r1, xAp r2, xA7 r3] = dn (xBq ((Exp.mk 0 0 [] []), 0)) [xF6 a0 r1, xDT r1, xGu r1 a0 r2, iN (dc ((Rdr.bad r2.2) < 0)), iN false, xH2 r2, xH3 r2 r3, iY (!r3)] := by kernel_rfl
def xRM (a0 : Str) (r1 : (List Tok) × Int) (r2 : Exp × Rdr) (r3 : Bool) : rE I11 (xBd a0) [F, F, F, F, F] [xAM r1, xAp r2, xA7 r3] = dn (xBq (r2.1, (-1))) [xF6 a0 r1, xDT r1, xGu r1 a0 r2, iN (dc ((Rdr.bad r2.2) < 0)), iN false, xH2 r2, xH3 r2 r3, iN (!r3)] := by kernel_rfl
theorem xVU {N : Nat} : ∀ a0 r, xDr N a0 = some r → RE Tryz.f11 I11 (xBd a0) (xBq r) := fun a0 r h =>
 bE h fun r1 h0 h => cE h (fun h1 h => dE h fk11 (xRD a0 r1) (oc2 (xB7 h0) h1 on)) fun h1 h =>
 bE h fun r2 h2 h => cE h (fun h3 h => cE h (fun h4 h => bE h fun r3 h5 h => cE h (fun h6 h => dE h fk11 (xRE a0 r1 r2 r3) (oc7 (xB7 h0) h1 (xCK h2) h3 h4 (xBN h5) h6 on)) fun h6 h =>
 bE h fun r4 h7 h => cE h (fun h8 h => dE h fk11 (xRF a0 r1 r2 r3 r4) (oc9 (xB7 h0) h1 (xCK h2) h3 h4 (xBN h5) h6 (xC0 h7) h8 on)) fun h8 h =>
 dE h fk11 (xRG a0 r1 r2 r3 r4) (oc9 (xB7 h0) h1 (xCK h2) h3 h4 (xBN h5) h6 (xC0 h7) h8 on)) fun h4 h =>
 cE h (fun h5 h => dE h fk11 (xRH a0 r1 r2) (oc6 (xB7 h0) h1 (xCK h2) h3 h4 h5 on)) fun h5 h =>
 bE h fun r3 h6 h => cE h (fun h7 h => dE h fk11 (xRI a0 r1 r2 r3) (oc8 (xB7 h0) h1 (xCK h2) h3 h4 h5 (xC0 h6) h7 on)) fun h7 h =>
 dE h fk11 (xRJ a0 r1 r2 r3) (oc8 (xB7 h0) h1 (xCK h2) h3 h4 h5 (xC0 h6) h7 on)) fun h3 h =>
 cE h (fun h5 h => dE h fk11 (xRK a0 r1 r2) (oc6 (xB7 h0) h1 (xCK h2) h3 rfl h5 on)) fun h5 h =>
 bE h fun r3 h6 h => cE h (fun h7 h => dE h fk11 (xRL a0 r1 r2 r3) (oc8 (xB7 h0) h1 (xCK h2) h3 rfl h5 (xC0 h6) h7 on)) fun h7 h =>
 dE h fk11 (xRM a0 r1 r2 r3) (oc8 (xB7 h0) h1 (xCK h2) h3 rfl h5 (xC0 h6) h7 on)
theorem xIe {N : Nat} {a0 : Str} {r : Exp × Int} (h : xDr N  a0 = some r) : AbC 11 (xBd a0) (xBq r) :=
 AbsCalls.of_reach fk11 rfl rfl (Nat.le_of_ble_eq_true rfl) (xVU a0 r h)
noncomputable def I9 : Info := { body := (Tryz.f9.body).getD .skip, nt := 12, results := [.tmp 2], keep := [0, 4, 8, 7], live := [], modes := [(1, [(2, .take, false)]), (2, [(0, .take, false)])] }
theorem fk9 : FnOk Tryz.prog 9 Tryz.f9 I9 := ⟨Tryz.func9, by kernel_rfl, by kernel_rfl, by kernel_rfl, by kernel_rfl⟩
def xVK (a0 : Str) (r1 : Exp × Int) : rE I9 (xDR a0) [] [xBq r1] = dn (xCH (dc (r1.2 ≥ 0))) [AbC 11 (xBd a0) (xBq r1)] := by kernel_rfl
theorem c9_e {N : Nat} : ∀ a0 r, xEq N a0 = some r → RE Tryz.f9 I9 (xDR a0) (xCH r) := fun a0 r h =>
 bE h fun r1 h0 h => dE h fk9 (xVK a0 r1) (oc (xIe h0) on)
theorem xFZ {N : Nat} {a0 : Str} {r : Bool} (h : xEq N  a0 = some r) : AbC 9 (xDR a0) (xCH r) :=
 AbsCalls.of_reach fk9 rfl rfl (Nat.le_of_ble_eq_true rfl) (c9_e a0 r h)
theorem xGq {N : Nat} {a0 : Str} {a1 a2 : Int} {r : Int × Bool} (h : xFB N a0 a1 a2 = some r) : AbC 89 (xHG a0 a1 a2) (xE1 r) :=
 zIi xKJ (fun s lo hi w hs hw => xLj s lo hi hs zHR xWZ xRq w hw) h
theorem xA1 {N : Nat} {a0 : Str} {a1 r : Int} (h : strings_IndexByte N a0 a1 = some r) : AbC 90 (xEE a0 a1) (xAI r) :=
 zG7 (xIG Tryz.lays137) (Any.strings_IndexByte Tryz.lays137) h
noncomputable def I91 : Info := { body := (Tryz.f91.body).getD .skip, nt := 29, results := [.tmp 2], keep := [0, 4, 6, 14, 50], live := [(2, [0, 6])], modes := [(4, [(4, .take, false), (10, .take, false)])] }
theorem fk91 : FnOk Tryz.prog 91 Tryz.f91 I91 := ⟨Tryz.func91, by kernel_rfl, by kernel_rfl, by kernel_rfl, by kernel_rfl⟩
def xKe (x0 : Str) (x3 : Int) : St := [(0, .v false [.str x0]), (6, .v false [.int .i64 x3])]
def xUt (x0 : Str) (x3 : Int) : rS 2 I91 (xKe x0 x3) [Y, Y, Y, Y] [] = dn (xAH false) [xCA x3 x0, xAt x3 x0, iY (xKT x0 x3), iY true, iY true] := by kernel_rfl
def xUu (x0 : Str) (x3 : Int) : rS 2 I91 (xKe x0 x3) [Y, F, Y, Y] [] = dn (xAH false) [xCA x3 x0, xAt x3 x0, xJn x0 x3, xAt x3 x0, iY (xKU x0 x3), iY true] := by kernel_rfl
def xUv (x0 : Str) (x3 : Int) : rS 2 I91 (xKe x0 x3) [Y, F, F, Y] [] = dn (xAH false) [xCA x3 x0, xAt x3 x0, xJn x0 x3, xAt x3 x0, xLB x0 x3, xAt x3 x0, xGY x0 x3] := by kernel_rfl
def xUw (x0 : Str) (x3 : Int) : rS 2 I91 (xKe x0 x3) [Y, F, F, F] [] = st 2 I91 (xKe x0 (W (x3 + 1))) [xCA x3 x0, xAt x3 x0, xJn x0 x3, xAt x3 x0, xLB x0 x3, xAt x3 x0, xGZ x0 x3] := by kernel_rfl
def xUx (x0 : Str) (x3 : Int) : rS 2 I91 (xKe x0 x3) [F] [] = dn (xAH (dc ((Ln x0 : Int) ≤ 20))) [xGf x3 x0] := by kernel_rfl
def xUy (a0 : Str) : rE I91 (xCV a0) [] [] = st 2 I91 (xKe a0 0) [] := by kernel_rfl
theorem xWO {N : Nat} : ∀ n x0 x3 r, xDz N n x0 x3 = some r → RS Tryz.f91 I91 2 (xKe x0 x3) (xAH r) := by
 intro n
 induction n with
 | zero => exact fun _ _ _ h => nE h
 | succ n ih =>
  exact fun x0 x3 r h =>
   cE h (fun h0 h => iE h fun h1 h => cE h (fun h2 h => dS h fk91 (xUt x0 x3) (oc5 h0 h1 h2 rfl rfl on)) fun h2 h =>
   cE h (fun h4 h => dS h fk91 (xUu x0 x3) (oc6 h0 h1 h2 h1 h4 rfl on)) fun h4 h =>
   cE h (fun h6 h => dS h fk91 (xUv x0 x3) (oc7 h0 h1 h2 h1 h4 h1 h6 on)) fun h6 h =>
   tS fk91 (xUw x0 x3) (oc7 h0 h1 h2 h1 h4 h1 h6 on) (ih _ _ _ h)) fun h0 h =>
   dS h fk91 (xUx x0 x3) (oc h0 on)
theorem xWP {N : Nat} : ∀ a0 r, xCu N a0 = some r → RE Tryz.f91 I91 (xCV a0) (xAH r) := fun a0 r h =>
 tE fk91 (xUy a0) on (xWO _ _ _ _ h)
theorem xCW {N : Nat} {a0 : Str} {r : Bool} (h : xCu N  a0 = some r) : AbC 91 (xCV a0) (xAH r) :=
 AbsCalls.of_reach fk91 rfl rfl (Nat.le_of_ble_eq_true rfl) (xWP a0 r h)
theorem xBT {N : Nat} {a0 a1 : Str} {r : Bool} (h : strings_HasPrefix N a0 a1 = some r) : AbC 92 (xFw a0 a1) (xBk r) :=
 zG6 (xIF Tryz.lays99) (Any.strings_HasPrefix Tryz.lays99) h
noncomputable def I49 : Info := { body := (Tryz.f49.body).getD .skip, nt := 152, results := [.cell 4 50, .tmp 5, .tmp 6], keep := [0, 2, 8, 10, 12, 14, 16, 18, 20, 22, 24, 34, 102, 130, 174, 206, 224, 262, 9], live := [(4, [0, 2, 8, 14, 9]), (8, [0, 2, 8, 14, 9])], modes := [(3, [(2, .take, false)]), (4, [(4, .take, false), (9, .take, false), (15, .take, false), (20, .take, false)]), (7, [(2, .take, false)]), (8, [(4, .take, false), (10, .take, false)]), (10, [(5, .take, false)]), (11, [(0, .take, false), (4, .take, false)])] }
theorem fk49 : FnOk Tryz.prog 49 Tryz.f49 I49 := ⟨Tryz.func49, by kernel_rfl, by kernel_rfl, by kernel_rfl, by kernel_rfl⟩
def xHQ (x0 : Str) (x1 x7 : Int) (b4 : Tok) : St := [(0, .v false [.str x0]), (2, .v false [.int .i64 x1]), (8, .v false [.ptr 4 0]), (14, .v false [.int .i64 x7]), (9, .v true [.int .i64 (Tok.kind b4), .int .i64 (Tok.n b4), .int .i64 (Tok.pos b4), .str (Tok.text b4)])]
def xKa (x0 : Str) (x1 x7 : Int) (b4 : Tok) : St := [(0, .v false [.str x0]), (2, .v false [.int .i64 x1]), (8, .v false [.ptr 4 0]), (14, .v false [.int .i64 x7]), (9, .v true [.int .i64 (Tok.kind b4), .int .i64 (Tok.n b4), .int .i64 (Tok.pos b4), .str (Tok.text b4)])]
def xSX (x0 : Str) (x1 x7 : Int) (b4 : Tok) : rS 4 I49 (xHQ x0 x1 x7 b4) [Y, Y, Y, Y] [] = st 4 I49 (xHQ x0 x1 (W (x7 + 1)) b4) [xCA x7 x0, xAt x7 x0, xD3 x0 x7, xAt x7 x0, iY (xIO x0 x7), iY true] := by kernel_rfl
abbrev xFq (v0 : Str) (v1 : Int) : Prop := iN (xIO v0 v1)
abbrev xIL (v0 : Str) (v1 : Int) : Prop := iY (xIa v0 v1)
def xSY (x0 : Str) (x1 x7 : Int) (b4 : Tok) : rS 4 I49 (xHQ x0 x1 x7 b4) [Y, Y, F, Y, Y] [] = st 4 I49 (xHQ x0 x1 (W (x7 + 1)) b4) [xCA x7 x0, xAt x7 x0, xD3 x0 x7, xAt x7 x0, xFq x0 x7, xAt x7 x0, xEm x0 x7, xAt x7 x0, xIL x0 x7] := by kernel_rfl
abbrev xFM (v0 : Str) (v1 : Int) : Prop := iN (xIa v0 v1)
abbrev xIR (v0 v1 : Int) (v2 : Str) := xAJ ((Tok.mk 1 0 v0 (List.drop (tN v0) (List.take (tN v1) v2))), v1, (dc ((W (v1 - v0)) ≤ 8)))
def xSZ (x0 : Str) (x1 x7 : Int) (b4 : Tok) : rS 4 I49 (xHQ x0 x1 x7 b4) [Y, Y, F, Y, F] [] = dn (xIR x1 x7 x0) [xCA x7 x0, xAt x7 x0, xD3 x0 x7, xAt x7 x0, xFq x0 x7, xAt x7 x0, xEm x0 x7, xAt x7 x0, xFM x0 x7, xFa x1 x7 x0] := by kernel_rfl
def xS0 (x0 : Str) (x1 x7 : Int) (b4 : Tok) : rS 4 I49 (xHQ x0 x1 x7 b4) [Y, Y, F, F, F] [] = dn (xIR x1 x7 x0) [xCA x7 x0, xAt x7 x0, xD3 x0 x7, xAt x7 x0, xFq x0 x7, xAt x7 x0, xFu x0 x7, iN false, xFa x1 x7 x0] := by kernel_rfl
def xS1 (x0 : Str) (x1 x7 : Int) (b4 : Tok) : rS 4 I49 (xHQ x0 x1 x7 b4) [Y, F, F, Y, Y] [] = st 4 I49 (xHQ x0 x1 (W (x7 + 1)) b4) [xCA x7 x0, xAt x7 x0, xEG x0 x7, iN false, xAt x7 x0, xEm x0 x7, xAt x7 x0, xIL x0 x7] := by kernel_rfl
def xS2 (x0 : Str) (x1 x7 : Int) (b4 : Tok) : rS 4 I49 (xHQ x0 x1 x7 b4) [Y, F, F, Y, F] [] = dn (xIR x1 x7 x0) [xCA x7 x0, xAt x7 x0, xEG x0 x7, iN false, xAt x7 x0, xEm x0 x7, xAt x7 x0, xFM x0 x7, xFa x1 x7 x0] := by kernel_rfl
def xS3 (x0 : Str) (x1 x7 : Int) (b4 : Tok) : rS 4 I49 (xHQ x0 x1 x7 b4) [Y, F, F, F, F] [] = dn (xIR x1 x7 x0) [xCA x7 x0, xAt x7 x0, xEG x0 x7, iN false, xAt x7 x0, xFu x0 x7, iN false, xFa x1 x7 x0] := by kernel_rfl
def xS4 (x0 : Str) (x1 x7 : Int) (b4 : Tok) : rS 4 I49 (xHQ x0 x1 x7 b4) [F, F] [] = dn (xIR x1 x7 x0) [xGf x7 x0, iN false, xFa x1 x7 x0] := by kernel_rfl
def xS5 (x0 : Str) (x1 x7 : Int) (b4 : Tok) : rS 8 I49 (xKa x0 x1 x7 b4) [Y, Y, Y] [] = st 8 I49 (xKa x0 x1 (W (x7 + 1)) b4) [xCA x7 x0, xAt x7 x0, xEm x0 x7, xAt x7 x0, xIL x0 x7] := by kernel_rfl
abbrev xKP (v0 v1 : Int) (v2 : Str) (v3 : Int × Bool) : Prop := AbC 89 (xHG (xMJ v0 v1 v2) 0 1000000000) (xE1 v3)
def xS6 (x0 : Str) (x1 x7 : Int) (b4 : Tok) (r1 : Int × Bool) : rS 8 I49 (xKa x0 x1 x7 b4) [Y, Y, F] [xE1 r1] = dn (xAJ ((Tok.mk 2 r1.1 x1 []), x7, r1.2)) [xCA x7 x0, xAt x7 x0, xEm x0 x7, xAt x7 x0, xFM x0 x7, xFa x1 x7 x0, xKP x1 x7 x0 r1] := by kernel_rfl
def xP4 (x0 : Str) (x1 x7 : Int) (b4 : Tok) (r1 : Int × Bool) : rS 8 I49 (xKa x0 x1 x7 b4) [Y, F, F] [xE1 r1] = dn (xAJ ((Tok.mk 2 r1.1 x1 []), x7, r1.2)) [xCA x7 x0, xAt x7 x0, xFu x0 x7, iN false, xFa x1 x7 x0, xKP x1 x7 x0 r1] := by kernel_rfl
def xP5 (x0 : Str) (x1 x7 : Int) (b4 : Tok) (r1 : Int × Bool) : rS 8 I49 (xKa x0 x1 x7 b4) [F, F, F] [xE1 r1] = dn (xAJ ((Tok.mk 2 r1.1 x1 []), x7, r1.2)) [xGf x7 x0, iN false, iN false, xFa x1 x7 x0, xKP x1 x7 x0 r1] := by kernel_rfl
def xP6 (a0 : Str) (a1 : Int) : rE I49 (xAC a0 a1) [Y, Y] [] = st 4 I49 (xHQ a0 a1 a1 (Tok.mk 0 0 0 [])) [xAt a1 a0, xD3 a0 a1, iY (xIO a0 a1)] := by kernel_rfl
def xP7 (a0 : Str) (a1 : Int) : rE I49 (xAC a0 a1) [Y, F, Y, Y] [] = st 8 I49 (xKa a0 a1 a1 (Tok.mk 0 0 0 [])) [xAt a1 a0, xD3 a0 a1, xFq a0 a1, xEm a0 a1, xIL a0 a1] := by kernel_rfl
abbrev xGQ (v0 : Int) (v1 : Str) : Prop := (0 : Int) ≤ (W (v0 + 1)) ∧ (W (v0 + 1)) ≤ (Ln v1)
abbrev xGR (v0 : Int) (v1 : Str) (v2 : Int) : Prop := AbC 90 (xEE (List.drop (xK3 v0) v1) 34) (xAI v2)
def xP8 (a0 : Str) (a1 r1 : Int) : rE I49 (xAC a0 a1) [Y, F, Y, F, Y, Y] [xAI r1] = dn (xAJ ((Tok.mk 0 0 0 []), 0, false)) [xAt a1 a0, xD3 a0 a1, xFq a0 a1, xEm a0 a1, xFM a0 a1, xGY a0 a1, xGQ a1 a0, xGR a1 a0 r1, iY (dc (r1 < 0))] := by kernel_rfl
abbrev xMT (v0 v1 : Int) := W ((W (v0 + 1)) + v1)
abbrev xJF (v0 v1 : Int) (v2 : Str) : Prop := (0 : Int) ≤ (W (v0 + 1)) ∧ (W (v0 + 1)) ≤ (xMT v0 v1) ∧ (xMT v0 v1) ≤ (Ln v2)
abbrev xRx (v0 v1 : Int) (v2 : Str) := List.drop (tN (W (v0 + 1))) (List.take (tN (W ((W (v0 + 1)) + v1))) v2)
abbrev xJG (v0 v1 : Int) (v2 : Str) (v3 : Bool) : Prop := AbC 91 (xCV (xRx v0 v1 v2)) (xAH v3)
abbrev xJ1 (v0 v1 : Int) (v2 : Str) (v3 : Bool) := xAJ ((Tok.mk 3 0 v0 (List.drop (tN (W (v0 + 1))) (List.take (tN (W ((W (v0 + 1)) + v1))) v2))), (W ((W (v0 + v1)) + 2)), v3)
def xP9 (a0 : Str) (a1 r1 : Int) (r2 : Bool) : rE I49 (xAC a0 a1) [Y, F, Y, F, Y, F] [xAI r1, xAH r2] = dn (xJ1 a1 r1 a0 r2) [xAt a1 a0, xD3 a0 a1, xFq a0 a1, xEm a0 a1, xFM a0 a1, xGY a0 a1, xGQ a1 a0, xGR a1 a0 r1, iN (dc (r1 < 0)), xJF a1 r1 a0, xJG a1 r1 a0 r2] := by kernel_rfl
abbrev xGS (v0 : Int) (v1 : Str) : Prop := (0 : Int) ≤ v0 ∧ v0 ≤ (Ln v1)
abbrev xGT (v0 : Int) (v1 : Str) (v2 : Bool) : Prop := AbC 92 (xFw (List.drop (tN v0) v1) [61, 61]) (xBk v2)
abbrev xJ2 (v0 : Int) := xAJ ((Tok.mk 4 0 v0 [61, 61]), (W (v0 + 2)), true)
def xQa (a0 : Str) (a1 : Int) (r1 : Bool) : rE I49 (xAC a0 a1) [Y, F, Y, F, F, Y] [xBk r1] = dn (xJ2 a1) [xAt a1 a0, xD3 a0 a1, xFq a0 a1, xEm a0 a1, xFM a0 a1, xGZ a0 a1, xGS a1 a0, xGT a1 a0 r1, iY r1] := by kernel_rfl
abbrev xJH (v0 : Int) (v1 : Str) : Prop := (0 : Int) ≤ v0 ∧ v0 ≤ (W (v0 + 1)) ∧ (W (v0 + 1)) ≤ (Ln v1)
abbrev xJI (v0 : Str) (v1 v2 : Int) : Prop := AbC 90 (xEE [40, 41, 91, 93, 44, 43, 45, 42, 60, 61] (xJR v0 v1)) (xAI v2)
abbrev xJ3 (v0 : Int) (v1 : Str) (v2 : Int) := xAJ ((Tok.mk 4 0 v0 (List.drop (tN v0) (List.take (tN (W (v0 + 1))) v1))), (W (v0 + 1)), (dc (v2 ≥ 0)))
def xQb (a0 : Str) (a1 : Int) (r1 : Bool) (r2 : Int) : rE I49 (xAC a0 a1) [Y, F, Y, F, F, F] [xBk r1, xAI r2] = dn (xJ3 a1 a0 r2) [xAt a1 a0, xD3 a0 a1, xFq a0 a1, xEm a0 a1, xFM a0 a1, xGZ a0 a1, xGS a1 a0, xGT a1 a0 r1, iN r1, xJH a1 a0, xJI a0 a1 r2] := by kernel_rfl
def xQc (a0 : Str) (a1 r1 : Int) : rE I49 (xAC a0 a1) [Y, F, F, F, Y, Y] [xAI r1] = dn (xAJ ((Tok.mk 0 0 0 []), 0, false)) [xAt a1 a0, xD3 a0 a1, xFq a0 a1, xFu a0 a1, iN false, xGY a0 a1, xGQ a1 a0, xGR a1 a0 r1, iY (dc (r1 < 0))] := by kernel_rfl
def xQd (a0 : Str) (a1 r1 : Int) (r2 : Bool) : rE I49 (xAC a0 a1) [Y, F, F, F, Y, F] [xAI r1, xAH r2] = dn (xJ1 a1 r1 a0 r2) [xAt a1 a0, xD3 a0 a1, xFq a0 a1, xFu a0 a1, iN false, xGY a0 a1, xGQ a1 a0, xGR a1 a0 r1, iN (dc (r1 < 0)), xJF a1 r1 a0, xJG a1 r1 a0 r2] := by kernel_rfl
def xQe (a0 : Str) (a1 : Int) (r1 : Bool) : rE I49 (xAC a0 a1) [Y, F, F, F, F, Y] [xBk r1] = dn (xJ2 a1) [xAt a1 a0, xD3 a0 a1, xFq a0 a1, xFu a0 a1, iN false, xGZ a0 a1, xGS a1 a0, xGT a1 a0 r1, iY r1] := by kernel_rfl
def xQf (a0 : Str) (a1 : Int) (r1 : Bool) (r2 : Int) : rE I49 (xAC a0 a1) [Y, F, F, F, F, F] [xBk r1, xAI r2] = dn (xJ3 a1 a0 r2) [xAt a1 a0, xD3 a0 a1, xFq a0 a1, xFu a0 a1, iN false, xGZ a0 a1, xGS a1 a0, xGT a1 a0 r1, iN r1, xJH a1 a0, xJI a0 a1 r2] := by kernel_rfl
def xQg (a0 : Str) (a1 : Int) : rE I49 (xAC a0 a1) [F, F, Y, Y] [] = st 8 I49 (xKa a0 a1 a1 (Tok.mk 0 0 0 [])) [xAt a1 a0, xEG a0 a1, iN false, xEm a0 a1, xIL a0 a1] := by kernel_rfl
def xQh (a0 : Str) (a1 r1 : Int) : rE I49 (xAC a0 a1) [F, F, Y, F, Y, Y] [xAI r1] = dn (xAJ ((Tok.mk 0 0 0 []), 0, false)) [xAt a1 a0, xEG a0 a1, iN false, xEm a0 a1, xFM a0 a1, xGY a0 a1, xGQ a1 a0, xGR a1 a0 r1, iY (dc (r1 < 0))] := by kernel_rfl
def xQi (a0 : Str) (a1 r1 : Int) (r2 : Bool) : rE I49 (xAC a0 a1) [F, F, Y, F, Y, F] [xAI r1, xAH r2] = dn (xJ1 a1 r1 a0 r2) [xAt a1 a0, xEG a0 a1, iN false, xEm a0 a1, xFM a0 a1, xGY a0 a1, xGQ a1 a0, xGR a1 a0 r1, iN (dc (r1 < 0)), xJF a1 r1 a0, xJG a1 r1 a0 r2] := by kernel_rfl
def xQj (a0 : Str) (a1 : Int) (r1 : Bool) : rE I49 (xAC a0 a1) [F, F, Y, F, F, Y] [xBk r1] = dn (xJ2 a1) [xAt a1 a0, xEG a0 a1, iN false, xEm a0 a1, xFM a0 a1, xGZ a0 a1, xGS a1 a0, xGT a1 a0 r1, iY r1] := by kernel_rfl
def xQk (a0 : Str) (a1 : Int) (r1 : Bool) (r2 : Int) : rE I49 (xAC a0 a1) [F, F, Y, F, F, F] [xBk r1, xAI r2] = dn (xJ3 a1 a0 r2) [xAt a1 a0, xEG a0 a1, iN false, xEm a0 a1, xFM a0 a1, xGZ a0 a1, xGS a1 a0, xGT a1 a0 r1, iN r1, xJH a1 a0, xJI a0 a1 r2] := by kernel_rfl
def xQl (a0 : Str) (a1 r1 : Int) : rE I49 (xAC a0 a1) [F, F, F, F, Y, Y] [xAI r1] = dn (xAJ ((Tok.mk 0 0 0 []), 0, false)) [xAt a1 a0, xEG a0 a1, iN false, xFu a0 a1, iN false, xGY a0 a1, xGQ a1 a0, xGR a1 a0 r1, iY (dc (r1 < 0))] := by kernel_rfl
def xQm (a0 : Str) (a1 r1 : Int) (r2 : Bool) : rE I49 (xAC a0 a1) [F, F, F, F, Y, F] [xAI r1, xAH r2] = dn (xJ1 a1 r1 a0 r2) [xAt a1 a0, xEG a0 a1, iN false, xFu a0 a1, iN false, xGY a0 a1, xGQ a1 a0, xGR a1 a0 r1, iN (dc (r1 < 0)), xJF a1 r1 a0, xJG a1 r1 a0 r2] := by kernel_rfl
def xQn (a0 : Str) (a1 : Int) (r1 : Bool) : rE I49 (xAC a0 a1) [F, F, F, F, F, Y] [xBk r1] = dn (xJ2 a1) [xAt a1 a0, xEG a0 a1, iN false, xFu a0 a1, iN false, xGZ a0 a1, xGS a1 a0, xGT a1 a0 r1, iY r1] := by kernel_rfl
def xQo (a0 : Str) (a1 : Int) (r1 : Bool) (r2 : Int) : rE I49 (xAC a0 a1) [F, F, F, F, F, F] [xBk r1, xAI r2] = dn (xJ3 a1 a0 r2) [xAt a1 a0, xEG a0 a1, iN false, xFu a0 a1, iN false, xGZ a0 a1, xGS a1 a0, xGT a1 a0 r1, iN r1, xJH a1 a0, xJI a0 a1 r2] := by kernel_rfl
theorem xWh {N : Nat} : ∀ n x0 x1 x7 b4 r, xB3 N n x0 x1 x7 b4 = some r → RS Tryz.f49 I49 4 (xHQ x0 x1 x7 b4) (xAJ r) := by
 intro n
 induction n with
 | zero => exact fun _ _ _ _ _ h => nE h
 | succ n ih =>
  exact fun x0 x1 x7 b4 r h =>
   cE h (fun h0 h => iE h fun h1 h => cE h (fun h2 h => cE h (fun h4 h => tS fk49 (xSX x0 x1 x7 b4) (oc6 h0 h1 h2 h1 h4 rfl on) (ih _ _ _ _ _ h)) fun h4 h =>
   cE h (fun h6 h => cE h (fun h8 h => tS fk49 (xSY x0 x1 x7 b4) (oc9 h0 h1 h2 h1 h4 h1 h6 h1 h8 on) (ih _ _ _ _ _ h)) fun h8 h =>
   iE h fun h9 h => dS h fk49 (xSZ x0 x1 x7 b4) (oc10 h0 h1 h2 h1 h4 h1 h6 h1 h8 h9 on)) fun h6 h =>
   iE h fun h8 h => dS h fk49 (xS0 x0 x1 x7 b4) (oc9 h0 h1 h2 h1 h4 h1 h6 rfl h8 on)) fun h2 h =>
   cE h (fun h5 h => cE h (fun h7 h => tS fk49 (xS1 x0 x1 x7 b4) (oc8 h0 h1 h2 rfl h1 h5 h1 h7 on) (ih _ _ _ _ _ h)) fun h7 h =>
   iE h fun h8 h => dS h fk49 (xS2 x0 x1 x7 b4) (oc9 h0 h1 h2 rfl h1 h5 h1 h7 h8 on)) fun h5 h =>
   iE h fun h7 h => dS h fk49 (xS3 x0 x1 x7 b4) (oc8 h0 h1 h2 rfl h1 h5 rfl h7 on)) fun h0 h =>
   iE h fun h2 h => dS h fk49 (xS4 x0 x1 x7 b4) (oc3 h0 rfl h2 on)
theorem xVv {N : Nat} : ∀ n x0 x1 x7 b4 r, xCk N n x0 x1 x7 b4 = some r → RS Tryz.f49 I49 8 (xKa x0 x1 x7 b4) (xAJ r) := by
 intro n
 induction n with
 | zero => exact fun _ _ _ _ _ h => nE h
 | succ n ih =>
  exact fun x0 x1 x7 b4 r h =>
   cE h (fun h0 h => iE h fun h1 h => cE h (fun h2 h => cE h (fun h4 h => tS fk49 (xS5 x0 x1 x7 b4) (oc5 h0 h1 h2 h1 h4 on) (ih _ _ _ _ _ h)) fun h4 h =>
   iE h fun h5 h => bE h fun r1 h6 h => dS h fk49 (xS6 x0 x1 x7 b4 r1) (oc7 h0 h1 h2 h1 h4 h5 (xGq h6) on)) fun h2 h =>
   iE h fun h4 h => bE h fun r1 h5 h => dS h fk49 (xP4 x0 x1 x7 b4 r1) (oc6 h0 h1 h2 rfl h4 (xGq h5) on)) fun h0 h =>
   iE h fun h3 h => bE h fun r1 h4 h => dS h fk49 (xP5 x0 x1 x7 b4 r1) (oc5 h0 rfl rfl h3 (xGq h4) on)
theorem xWi {N : Nat} : ∀ a0 a1 r, xFk N a0 a1 = some r → RE Tryz.f49 I49 (xAC a0 a1) (xAJ r) := fun a0 a1 r h =>
 iE h fun h0 h => cE h (fun h1 h => cE h (fun h2 h => tE fk49 (xP6 a0 a1) (oc3 h0 h1 h2 on) (xWh _ _ _ _ _ _ h)) fun h2 h =>
 cE h (fun h3 h => cE h (fun h4 h => tE fk49 (xP7 a0 a1) (oc5 h0 h1 h2 h3 h4 on) (xVv _ _ _ _ _ _ h)) fun h4 h =>
 cE h (fun h5 h => iE h fun h6 h => bE h fun r1 h7 h => cE h (fun h8 h => dE h fk49 (xP8 a0 a1 r1) (oc9 h0 h1 h2 h3 h4 h5 h6 (xA1 h7) h8 on)) fun h8 h =>
 iE h fun h9 h => bE h fun r2 h10 h => dE h fk49 (xP9 a0 a1 r1 r2) (oc11 h0 h1 h2 h3 h4 h5 h6 (xA1 h7) h8 h9 (xCW h10) on)) fun h5 h =>
 iE h fun h6 h => bE h fun r1 h7 h => cE h (fun h8 h => dE h fk49 (xQa a0 a1 r1) (oc9 h0 h1 h2 h3 h4 h5 h6 (xBT h7) h8 on)) fun h8 h =>
 iE h fun h9 h => bE h fun r2 h10 h => dE h fk49 (xQb a0 a1 r1 r2) (oc11 h0 h1 h2 h3 h4 h5 h6 (xBT h7) h8 h9 (xA1 h10) on)) fun h3 h =>
 cE h (fun h5 h => iE h fun h6 h => bE h fun r1 h7 h => cE h (fun h8 h => dE h fk49 (xQc a0 a1 r1) (oc9 h0 h1 h2 h3 rfl h5 h6 (xA1 h7) h8 on)) fun h8 h =>
 iE h fun h9 h => bE h fun r2 h10 h => dE h fk49 (xQd a0 a1 r1 r2) (oc11 h0 h1 h2 h3 rfl h5 h6 (xA1 h7) h8 h9 (xCW h10) on)) fun h5 h =>
 iE h fun h6 h => bE h fun r1 h7 h => cE h (fun h8 h => dE h fk49 (xQe a0 a1 r1) (oc9 h0 h1 h2 h3 rfl h5 h6 (xBT h7) h8 on)) fun h8 h =>
 iE h fun h9 h => bE h fun r2 h10 h => dE h fk49 (xQf a0 a1 r1 r2) (oc11 h0 h1 h2 h3 rfl h5 h6 (xBT h7) h8 h9 (xA1 h10) on)) fun h1 h =>
 cE h (fun h3 h => cE h (fun h4 h => tE fk49 (xQg a0 a1) (oc5 h0 h1 rfl h3 h4 on) (xVv _ _ _ _ _ _ h)) fun h4 h =>
 cE h (fun h5 h => iE h fun h6 h => bE h fun r1 h7 h => cE h (fun h8 h => dE h fk49 (xQh a0 a1 r1) (oc9 h0 h1 rfl h3 h4 h5 h6 (xA1 h7) h8 on)) fun h8 h =>
 iE h fun h9 h => bE h fun r2 h10 h => dE h fk49 (xQi a0 a1 r1 r2) (oc11 h0 h1 rfl h3 h4 h5 h6 (xA1 h7) h8 h9 (xCW h10) on)) fun h5 h =>
 iE h fun h6 h => bE h fun r1 h7 h => cE h (fun h8 h => dE h fk49 (xQj a0 a1 r1) (oc9 h0 h1 rfl h3 h4 h5 h6 (xBT h7) h8 on)) fun h8 h =>
 iE h fun h9 h => bE h fun r2 h10 h => dE h fk49 (xQk a0 a1 r1 r2) (oc11 h0 h1 rfl h3 h4 h5 h6 (xBT h7) h8 h9 (xA1 h10) on)) fun h3 h =>
 cE h (fun h5 h => iE h fun h6 h => bE h fun r1 h7 h => cE h (fun h8 h => dE h fk49 (xQl a0 a1 r1) (oc9 h0 h1 rfl h3 rfl h5 h6 (xA1 h7) h8 on)) fun h8 h =>
 iE h fun h9 h => bE h fun r2 h10 h => dE h fk49 (xQm a0 a1 r1 r2) (oc11 h0 h1 rfl h3 rfl h5 h6 (xA1 h7) h8 h9 (xCW h10) on)) fun h5 h =>
 iE h fun h6 h => bE h fun r1 h7 h => cE h (fun h8 h => dE h fk49 (xQn a0 a1 r1) (oc9 h0 h1 rfl h3 rfl h5 h6 (xBT h7) h8 on)) fun h8 h =>
 iE h fun h9 h => bE h fun r2 h10 h => dE h fk49 (xQo a0 a1 r1 r2) (oc11 h0 h1 rfl h3 rfl h5 h6 (xBT h7) h8 h9 (xA1 h10) on)
theorem xFI {N : Nat} {a0 : Str} {a1 : Int} {r : Tok × Int × Bool} (h : xFk N  a0 a1 = some r) : AbC 49 (xAC a0 a1) (xAJ r) :=
 AbsCalls.of_reach fk49 rfl rfl (Nat.le_of_ble_eq_true rfl) (xWi a0 a1 r h)
noncomputable def I30 : Info := { body := (Tryz.f30.body).getD .skip, nt := 44, results := [.tmp 2, .tmp 3], keep := [0, 4, 6, 8, 10, 12, 14, 16, 22, 32, 40, 72, 13], live := [(5, [0, 8, 10])], modes := [(8, [(3, .take, false)]), (9, [(0, .take, false), (2, .take, false)]), (11, [(0, .take, false)]), (12, [(0, .take, false)]), (13, [(0, .take, false)])] }
theorem fk30 : FnOk Tryz.prog 30 Tryz.f30 I30 := ⟨Tryz.func30, by kernel_rfl, by kernel_rfl, by kernel_rfl, by kernel_rfl⟩
def xJA (x0 : Str) (x4 : List Tok) (x5 : Int) : St := [(0, .v false [.str x0]), (8, .v false [.sl .own .tok x4]), (10, .v false [.int .i64 x5])]
def xSe (x0 : Str) (x4 : List Tok) (x5 : Int) : rS 5 I30 (xJA x0 x4 x5) [Y, Y] [] = st 5 I30 (xJA x0 x4 (W (x5 + 1))) [xCA x5 x0, xAt x5 x0, iY (xK4 x0 x5)] := by kernel_rfl
def xSf (x0 : Str) (x4 : List Tok) (x5 : Int) (r1 : Tok × Int × Bool) : rS 5 I30 (xJA x0 x4 x5) [Y, F, Y, Y] [xAJ r1] = dn (xAE ([], x5)) [xCA x5 x0, xAt x5 x0, xJr x0 x5, AbC 49 (xAC x0 x5) (xAJ r1), iY (!r1.2.2), iY true] := by kernel_rfl
def xSg (x0 : Str) (x4 : List Tok) (x5 : Int) (r1 : Tok × Int × Bool) : rS 5 I30 (xJA x0 x4 x5) [Y, F, F, Y] [xAJ r1] = dn (xAE ([], x5)) [xCA x5 x0, xAt x5 x0, xJr x0 x5, AbC 49 (xAC x0 x5) (xAJ r1), iN (!r1.2.2), iY ((Ln x4 : Int) == 60)] := by kernel_rfl
def xSh (x0 : Str) (x4 : List Tok) (x5 : Int) (r1 : Tok × Int × Bool) : rS 5 I30 (xJA x0 x4 x5) [Y, F, F, F] [xAJ r1] = st 5 I30 (xJA x0 (x4 ++ [r1.1]) r1.2.1) [xCA x5 x0, xAt x5 x0, xJr x0 x5, AbC 49 (xAC x0 x5) (xAJ r1), iN (!r1.2.2), iN ((Ln x4 : Int) == 60), Ln x4 + Ln [r1.1] ≤ Lim] := by kernel_rfl
def xSi (x0 : Str) (x4 : List Tok) (x5 : Int) : rS 5 I30 (xJA x0 x4 x5) [F] [] = dn (xAE (x4, (-1))) [xGf x5 x0] := by kernel_rfl
def xSj (a0 : Str) : rE I30 (xEb a0) [Y] [] = dn (xAE ([], 120)) [iY (xJX a0)] := by kernel_rfl
def xSk (a0 : Str) : rE I30 (xEb a0) [F] [] = st 5 I30 (xJA a0 [] 0) [iN (xJX a0)] := by kernel_rfl
theorem xV1 {N : Nat} : ∀ n x0 x4 x5 r, xDj N n x0 x4 x5 = some r → RS Tryz.f30 I30 5 (xJA x0 x4 x5) (xAE r) := by
 intro n
 induction n with
 | zero => exact fun _ _ _ _ h => nE h
 | succ n ih =>
  exact fun x0 x4 x5 r h =>
   cE h (fun h0 h => iE h fun h1 h => cE h (fun h2 h => tS fk30 (xSe x0 x4 x5) (oc3 h0 h1 h2 on) (ih _ _ _ _ h)) fun h2 h =>
   bE h fun r1 h3 h => cE h (fun h4 h => dS h fk30 (xSf x0 x4 x5 r1) (oc6 h0 h1 h2 (xFI h3) h4 rfl on)) fun h4 h =>
   cE h (fun h5 h => dS h fk30 (xSg x0 x4 x5 r1) (oc6 h0 h1 h2 (xFI h3) h4 h5 on)) fun h5 h =>
   iE h fun h6 h => tS fk30 (xSh x0 x4 x5 r1) (oc7 h0 h1 h2 (xFI h3) h4 h5 h6 on) (ih _ _ _ _ h)) fun h0 h =>
   dS h fk30 (xSi x0 x4 x5) (oc h0 on)
theorem xV2 {N : Nat} : ∀ a0 r, xEw N a0 = some r → RE Tryz.f30 I30 (xEb a0) (xAE r) := fun a0 r h =>
 cE h (fun h0 h => dE h fk30 (xSj a0) (oc h0 on)) fun h0 h =>
 tE fk30 (xSk a0) (oc h0 on) (xV1 _ _ _ _ _ h)
theorem xBn {N : Nat} {a0 : Str} {r : (List Tok) × Int} (h : xEw N  a0 = some r) : AbC 30 (xEb a0) (xAE r) :=
 AbsCalls.of_reach fk30 rfl rfl (Nat.le_of_ble_eq_true rfl) (xV2 a0 r h)
noncomputable def I51 : Info := { body := (Tryz.f51.body).getD .skip, nt := 31, results := [.cell 2 50], keep := [0, 4, 38, 1, 5], live := [], modes := [(1, [(5, .take, false)])], ext := [0] }
theorem fk51 : FnOk Tryz.prog 51 Tryz.f51 I51 := ⟨Tryz.func51, by kernel_rfl, by kernel_rfl, by kernel_rfl, by kernel_rfl⟩
abbrev xGU (v0 : Psr) : Prop := iY (dc ((Psr.bad v0) < 0))
def xS9 (a0 : Psr) : rE I51 (xCx a0) [Y, Y] [] = dn (xAf ((gD (Psr.list a0) (tN (Psr.pos a0)) Ty.tok.dflt), a0)) [xGU a0, iY (dc ((Psr.pos a0) < (Ln (Psr.list a0) : Int))), (0 : Int) ≤ (Psr.pos a0) ∧ (Psr.pos a0) < (Ln (Psr.list a0))] := by kernel_rfl
def xTa (a0 : Psr) : rE I51 (xCx a0) [Y, F] [] = dn (xAf ((Tok.mk 0 0 0 []), a0)) [xGU a0, iN (dc ((Psr.pos a0) < (Ln (Psr.list a0) : Int)))] := by kernel_rfl
abbrev xJJ (v0 : Psr) : Prop := iN (dc ((Psr.bad v0) < 0))
def xTb (a0 : Psr) : rE I51 (xCx a0) [F, F] [] = dn (xAf ((Tok.mk 0 0 0 []), a0)) [xJJ a0, iN false] := by kernel_rfl
theorem xWk {N : Nat} : ∀ a0 r, xBf N a0 = some r → RE Tryz.f51 I51 (xCx a0) (xAf r) := fun a0 r h =>
 cE h (fun h0 h => cE h (fun h1 h => iE h fun h2 h => dE h fk51 (xS9 a0) (oc3 h0 h1 h2 on)) fun h1 h =>
 dE h fk51 (xTa a0) (oc2 h0 h1 on)) fun h0 h =>
 dE h fk51 (xTb a0) (oc2 h0 rfl on)
theorem xAi {N : Nat} {a0 : Psr} {r : Tok × Psr} (h : xBf N  a0 = some r) : AbC 51 (xCx a0) (xAf r) :=
 AbsCalls.of_reach fk51 rfl rfl (Nat.le_of_ble_eq_true rfl) (xWk a0 r h)
noncomputable def I50 : Info := { body := (Tryz.f50.body).getD .skip, nt := 14, results := [.tmp 4], keep := [0, 2, 4, 8, 5], live := [], modes := [(1, [(3, .take, false)])] }
theorem fk50 : FnOk Tryz.prog 50 Tryz.f50 I50 := ⟨Tryz.func50, by kernel_rfl, by kernel_rfl, by kernel_rfl, by kernel_rfl⟩
def xS7 (a0 : Tok) (a1 : Str) : rE I50 (xBb a0 a1) [Y] [] = dn (xAs (((Tok.text a0) : Str) == a1)) [iY ((Tok.kind a0) == 1)] := by kernel_rfl
def xS8 (a0 : Tok) (a1 : Str) : rE I50 (xBb a0 a1) [F] [] = dn (xAs false) [iN ((Tok.kind a0) == 1)] := by kernel_rfl
theorem xWj {N : Nat} : ∀ a0 a1 r, xDo N a0 a1 = some r → RE Tryz.f50 I50 (xBb a0 a1) (xAs r) := fun a0 a1 r h =>
 cE h (fun h0 h => dE h fk50 (xS7 a0 a1) (oc h0 on)) fun h0 h =>
 dE h fk50 (xS8 a0 a1) (oc h0 on)
theorem xBl {N : Nat} {a0 : Tok} {a1 : Str} {r : Bool} (h : xDo N  a0 a1 = some r) : AbC 50 (xBb a0 a1) (xAs r) :=
 AbsCalls.of_reach fk50 rfl rfl (Nat.le_of_ble_eq_true rfl) (xWj a0 a1 r h)
noncomputable def I97 : Info := { body := (Tryz.f97.body).getD .skip, nt := 15, results := [.tmp 6], keep := [0, 2, 4, 12], live := [], modes := [(1, [(3, .take, false)])] }
theorem fk97 : FnOk Tryz.prog 97 Tryz.f97 I97 := ⟨Tryz.func97, by kernel_rfl, by kernel_rfl, by kernel_rfl, by kernel_rfl⟩
def xUI (a0 a1 a2 : Int) : rE I97 (xCl a0 a1 a2) [Y] [] = dn (xAT (dc (a0 ≤ a2))) [iY (dc (a1 ≤ a0))] := by kernel_rfl
def xUJ (a0 a1 a2 : Int) : rE I97 (xCl a0 a1 a2) [F] [] = dn (xAT false) [iN (dc (a1 ≤ a0))] := by kernel_rfl
theorem xWV {N : Nat} : ∀ a0 a1 a2 r, xEl N a0 a1 a2 = some r → RE Tryz.f97 I97 (xCl a0 a1 a2) (xAT r) := fun a0 a1 a2 r h =>
 cE h (fun h0 h => dE h fk97 (xUI a0 a1 a2) (oc h0 on)) fun h0 h =>
 dE h fk97 (xUJ a0 a1 a2) (oc h0 on)
theorem xC5 {N : Nat} {a0 : Int} {a1 : Int} {a2 : Int} {r : Bool} (h : xEl N  a0 a1 a2 = some r) : AbC 97 (xCl a0 a1 a2) (xAT r) :=
 AbsCalls.of_reach fk97 rfl rfl (Nat.le_of_ble_eq_true rfl) (xWV a0 a1 a2 r h)
noncomputable def I114 : Info := { body := (Tryz.f114.body).getD .skip, nt := 42, results := [.tmp 2], keep := [0, 4, 6, 8, 16, 76], live := [(2, [0, 6])], modes := [(4, [(4, .take, false)]), (5, [(0, .take, false), (2, .take, false), (5, .take, false), (11, .take, false)])] }
theorem xIu : FnOk Tryz.prog 114 Tryz.f114 I114 := ⟨Tryz.func114, by kernel_rfl, by kernel_rfl, by kernel_rfl, by kernel_rfl⟩
def xFD (x0 : Str) (x3 : Int) : St := [(0, .v false [.str x0]), (6, .v false [.int .i64 x3])]
def xOP (x0 : Str) (x3 : Int) : rS 2 I114 (xFD x0 x3) [Y, Y, Y, Y, Y, Y] [] = dn (xBE false) [xCA x3 x0, xAt x3 x0, xD3 x0 x3, xAt x3 x0, xHI x0 x3, iY (x3 == 0), iY true, iY true] := by kernel_rfl
def xOQ (x0 : Str) (x3 : Int) : rS 2 I114 (xFD x0 x3) [Y, Y, Y, F, Y, Y] [] = dn (xBE false) [xCA x3 x0, xAt x3 x0, xD3 x0 x3, xAt x3 x0, xHI x0 x3, xHU x3, xAt x3 x0, xRy x0 x3, iY true] := by kernel_rfl
def xOR (x0 : Str) (x3 : Int) : rS 2 I114 (xFD x0 x3) [Y, Y, Y, F, F, Y] [] = dn (xBE false) [xCA x3 x0, xAt x3 x0, xD3 x0 x3, xAt x3 x0, xHI x0 x3, xHU x3, xAt x3 x0, xMc x0 x3, xAt x3 x0, xRz x0 x3] := by kernel_rfl
def xOS (x0 : Str) (x3 : Int) : rS 2 I114 (xFD x0 x3) [Y, Y, Y, F, F, F] [] = st 2 I114 (xFD x0 (W (x3 + 1))) [xCA x3 x0, xAt x3 x0, xD3 x0 x3, xAt x3 x0, xHI x0 x3, xHU x3, xAt x3 x0, xMc x0 x3, xAt x3 x0, xRA x0 x3] := by kernel_rfl
def xOT (x0 : Str) (x3 : Int) : rS 2 I114 (xFD x0 x3) [Y, Y, F, F] [] = st 2 I114 (xFD x0 (W (x3 + 1))) [xCA x3 x0, xAt x3 x0, xD3 x0 x3, xAt x3 x0, xMY x0 x3, iN false] := by kernel_rfl
def xOU (x0 : Str) (x3 : Int) : rS 2 I114 (xFD x0 x3) [Y, F, Y, Y, Y, Y] [] = dn (xBE false) [xCA x3 x0, xAt x3 x0, xEG x0 x3, iY (!false), iY (x3 == 0), iY true, iY true] := by kernel_rfl
def xOV (x0 : Str) (x3 : Int) : rS 2 I114 (xFD x0 x3) [Y, F, Y, F, Y, Y] [] = dn (xBE false) [xCA x3 x0, xAt x3 x0, xEG x0 x3, iY (!false), xHU x3, xAt x3 x0, xRy x0 x3, iY true] := by kernel_rfl
def xOW (x0 : Str) (x3 : Int) : rS 2 I114 (xFD x0 x3) [Y, F, Y, F, F, Y] [] = dn (xBE false) [xCA x3 x0, xAt x3 x0, xEG x0 x3, iY (!false), xHU x3, xAt x3 x0, xMc x0 x3, xAt x3 x0, xRz x0 x3] := by kernel_rfl
def xOX (x0 : Str) (x3 : Int) : rS 2 I114 (xFD x0 x3) [Y, F, Y, F, F, F] [] = st 2 I114 (xFD x0 (W (x3 + 1))) [xCA x3 x0, xAt x3 x0, xEG x0 x3, iY (!false), xHU x3, xAt x3 x0, xMc x0 x3, xAt x3 x0, xRA x0 x3] := by kernel_rfl
def xOY (x0 : Str) (x3 : Int) (r1 : Bool) : rS 2 I114 (xFD x0 x3) [F] [xAT r1] = dn (xBE r1) [xGf x3 x0, AbC 97 (xCl (Ln x0 : Int) 1 8) (xAT r1)] := by kernel_rfl
def xNh (a0 : Str) : rE I114 (xEF a0) [] [] = st 2 I114 (xFD a0 0) [] := by kernel_rfl
theorem xVf {N : Nat} : ∀ n x0 x3 r, xC4 N n x0 x3 = some r → RS Tryz.f114 I114 2 (xFD x0 x3) (xBE r) := by
 intro n
 induction n with
 | zero => exact fun _ _ _ h => nE h
 | succ n ih =>
  exact fun x0 x3 r h =>
   cE h (fun h0 h => iE h fun h1 h => cE h (fun h2 h => cE h (fun h4 h => cE h (fun h5 h => dS h xIu (xOP x0 x3) (oc8 h0 h1 h2 h1 h4 h5 rfl rfl on)) fun h5 h =>
   cE h (fun h7 h => dS h xIu (xOQ x0 x3) (oc9 h0 h1 h2 h1 h4 h5 h1 h7 rfl on)) fun h7 h =>
   cE h (fun h9 h => dS h xIu (xOR x0 x3) (oc10 h0 h1 h2 h1 h4 h5 h1 h7 h1 h9 on)) fun h9 h =>
   tS xIu (xOS x0 x3) (oc10 h0 h1 h2 h1 h4 h5 h1 h7 h1 h9 on) (ih _ _ _ h)) fun h4 h =>
   tS xIu (xOT x0 x3) (oc6 h0 h1 h2 h1 h4 rfl on) (ih _ _ _ h)) fun h2 h =>
   cE h (fun h4 h => dS h xIu (xOU x0 x3) (oc7 h0 h1 h2 rfl h4 rfl rfl on)) fun h4 h =>
   cE h (fun h6 h => dS h xIu (xOV x0 x3) (oc8 h0 h1 h2 rfl h4 h1 h6 rfl on)) fun h6 h =>
   cE h (fun h8 h => dS h xIu (xOW x0 x3) (oc9 h0 h1 h2 rfl h4 h1 h6 h1 h8 on)) fun h8 h =>
   tS xIu (xOX x0 x3) (oc9 h0 h1 h2 rfl h4 h1 h6 h1 h8 on) (ih _ _ _ h)) fun h0 h =>
   bE h fun r1 h1 h => dS h xIu (xOY x0 x3 r1) (oc2 h0 (xC5 h1) on)
theorem xVg {N : Nat} : ∀ a0 r, xGp N a0 = some r → RE Tryz.f114 I114 (xEF a0) (xBE r) := fun a0 r h =>
 tE xIu (xNh a0) on (xVf _ _ _ _ h)
theorem xHg {N : Nat} {a0 : Str} {r : Bool} (h : xGp N  a0 = some r) : AbC 114 (xEF a0) (xBE r) :=
 AbsCalls.of_reach xIu rfl rfl (Nat.le_of_ble_eq_true rfl) (xVg a0 r h)
end Go.Ab.T
end
