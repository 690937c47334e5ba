/- The statement FnExactParseExpr holds: plain functions, certificates, laws. Conditions: none. -/
import Derived.LaidMore
import Derived.Lay
import Derived.Lib.AtoiErrMem
import Derived.Lib.LaidTab
import Derived.OpenVars
import Derived.SevenTiedAt
import Derived.Shelf.Abstract
import Derived.Shelf.Small.Strs
import Derived.Shelf.Strconv.ErrVarAll
import Derived.Shelf.Strconv.Itoa3
import Derived.Shelf.Strings.OnBuilder
import Derived.Shelf.Strings.Prefix
import Derived.Shelf.Strings.Search1
import Derived.Shelf.Strings.Split
import Derived.Stop.Joined
import Derived.Stop.LaidErr
import Derived.Test.YthbobcapimmnhaaGreatDoorCards
import Derived.Test.YthbobcapimmnhaaGreatDoorChecked
import Derived.Test.YthbobcapimmnhaaGreatDoorProg
import Derived.Test.YthbobcapimmnhaaGreatDoorRows
import Derived.Test.YthbobcapimmnhaaGreatDoorTie
import Derived.WalkKit
import Derived.Test.YthbobcapimmnhaaGreatDoorL2
set_option linter.all false
section
namespace Go.Ab
abbrev Ex (f : Fl) (e : Exp) : List CV := [.int .i64 (Exp.kind e), .int .i64 (Exp.n e), .str (Exp.text e), .sl f .exp (Exp.args e)]
abbrev Rr (f : Fl) (e : Rdr) : List CV := [.sl f .tok (Rdr.toks e), .int .i64 (Rdr.i e), .int .i64 (Rdr.fin e), .int .i64 (Rdr.bad e)]
abbrev Ps (f : Fl) (e : Psr) : List CV := [.sl f .tok (Psr.list e), .int .i64 (Psr.pos e), .int .i64 (Psr.bad e)]
end Go.Ab
end
section
namespace Go.Ab
def xEB (a0 : Int) : List Arg := [.val (.v false [.int .u8 a0])]
def xBx (r : Bool) : CallO := ⟨.v false [.bool r], [], []⟩
def xEY (N : Nat) (a0 : Int) : Option (Bool) := bif (decide (a0 ≥ 97)) then (some (decide (a0 ≤ 122))) else (some false)
def xEQ (a0 : Int) : List Arg := [.val (.v false [.int .u8 a0])]
def xBq (r : Bool) : CallO := ⟨.v false [.bool r], [], []⟩
def xEP (N : Nat) (a0 : Int) : Option (Bool) := bif (decide (a0 ≥ 48)) then (some (decide (a0 ≤ 57))) else (some false)
def xCP (a0 : Int) : List Arg := [.val (.v false [.int .i64 a0])]
def xBa (r : Str) : CallO := ⟨.v false [.str r], [], []⟩
def xB0 (N : Nat) : Nat → Int → Bool → Str → Option (Str)
 | 0, _, _, _ => none
 | n + 1, x0, x3, x4 => bif (x0 != 0) then (bif (decide ((Int.tmod x0 10) < 0)) then (if List.length (List.map (fun n => UInt8.ofNat (Int.toNat n)) [(IntKind.u8.wrap ((IntKind.i64.wrap (48 + (IntKind.i64.wrap (0 - (Int.tmod x0 10)))))))]) + List.length x4 ≤ Lim then (xB0 N n (IntKind.i64.wrap (Int.tdiv x0 10)) x3 ((List.map (fun n => UInt8.ofNat (Int.toNat n)) [(IntKind.u8.wrap ((IntKind.i64.wrap (48 + (IntKind.i64.wrap (0 - (Int.tmod x0 10)))))))]) ++ x4)) else none) else (if List.length (List.map (fun n => UInt8.ofNat (Int.toNat n)) [(IntKind.u8.wrap ((IntKind.i64.wrap (48 + (Int.tmod x0 10)))))]) + List.length x4 ≤ Lim then (xB0 N n (IntKind.i64.wrap (Int.tdiv x0 10)) x3 ((List.map (fun n => UInt8.ofNat (Int.toNat n)) [(IntKind.u8.wrap ((IntKind.i64.wrap (48 + (Int.tmod x0 10)))))]) ++ x4)) else none)) else (bif x3 then (if List.length [45] + List.length x4 ≤ Lim then some ([45] ++ x4) else none) else (some x4))
def xEC (N : Nat) (a0 : Int) : Option (Str) := bif (a0 == 0) then (some [48]) else ((xB0 N N a0 (decide (a0 < 0)) []))
def xCo (a0 : Str) (a1 : Int) : List Arg := [.val (.v false [.str a0]), .val (.v false [.int .i64 a1])]
def xBh (r : Int × Bool) : CallO := ⟨.tup [(false, [.int .i64 r.1]), (false, [.bool r.2])], [], []⟩
def xCS (N : Nat) : Nat → Str → Bool → Str → Int → Int → Option (Int × Bool)
 | 0, _, _, _, _, _ => none
 | n + 1, x0, x6, x7, x8, x9 => bif (decide (x9 < (List.length x7 : Int))) then (if (0 : Int) ≤ x9 ∧ x9 < (List.length x7) then bif (decide ((((List.getD x7 (Int.toNat x9) 0).toNat : Int) : Int) < 48)) then (some (0, false)) else (bif (decide ((((List.getD x7 (Int.toNat x9) 0).toNat : Int) : Int) > 57)) then (some (0, false)) else ((xCS N n x0 x6 x7 (IntKind.i64.wrap ((IntKind.i64.wrap (10 * x8)) + (IntKind.i64.wrap ((IntKind.u8.wrap (((List.getD x7 (Int.toNat x9) 0).toNat : Int) - 48)))))) (IntKind.i64.wrap (x9 + 1))))) else none) else (bif x6 then ((xEC N (IntKind.i64.wrap (0 - x8))).bind fun r1 => bif (!((r1 : Str) == x0)) then (some (0, false)) else (some ((IntKind.i64.wrap (0 - x8)), true))) else ((xEC N x8).bind fun r1 => bif (!((r1 : Str) == x0)) then (some (0, false)) else (some (x8, true))))
def xGq (N : Nat) (a0 : Str) (a1 : Int) : Option (Int × Bool) := bif (decide ((List.length a0 : Int) > 0)) then (if (0 : Int) ≤ 0 ∧ (0 : Int) < (List.length a0) then bif ((((List.getD a0 (Int.toNat 0) 0).toNat : Int) : Int) == 45) then (if (0 : Int) ≤ (1 : Int) ∧ (1 : Int) ≤ (List.length a0) then bif (decide (((List.length (List.drop (Int.toNat (1 : Int)) a0) : Int) : Int) < 1)) then (some (0, false)) else (bif (decide (((List.length (List.drop (Int.toNat (1 : Int)) a0) : Int) : Int) > a1)) then (some (0, false)) else ((xCS N N a0 ((((List.getD a0 (Int.toNat 0) 0).toNat : Int) : Int) == 45) (List.drop (Int.toNat (1 : Int)) a0) 0 0))) else none) else (bif (decide ((List.length a0 : Int) < 1)) then (some (0, false)) else (bif (decide ((List.length a0 : Int) > a1)) then (some (0, false)) else ((xCS N N a0 ((((List.getD a0 (Int.toNat 0) 0).toNat : Int) : Int) == 45) a0 0 0)))) else none) else (bif (decide ((List.length a0 : Int) < 1)) then (some (0, false)) else (bif (decide ((List.length a0 : Int) > a1)) then (some (0, false)) else ((xCS N N a0 false a0 0 0))))
def xFe (a0 : Str) : List Arg := [.val (.v false [.str a0])]
def xCl (r : Int × Bool) : CallO := ⟨.tup [(false, [.int .i64 r.1]), (false, [.bool r.2])], [], []⟩
def xEs (N : Nat) (a0 : Str) : Option (Int × Bool) := (xGq N a0 12).bind fun r1 => some (r1.1, r1.2)
def xDS (a0 : Str) : List Arg := [.val (.v false [.str a0])]
def xAV (r : Bool) : CallO := ⟨.v false [.bool r], [], []⟩
def xCg (N : Nat) : Nat → Str → Int → Option (Bool)
 | 0, _, _ => none
 | n + 1, x0, x3 => bif (decide (x3 < (List.length x0 : Int))) then (if (0 : Int) ≤ x3 ∧ x3 < (List.length x0) then bif (decide ((((List.getD x0 (Int.toNat x3) 0).toNat : Int) : Int) < 32)) then (some false) else (bif (decide ((((List.getD x0 (Int.toNat x3) 0).toNat : Int) : Int) > 126)) then (some false) else (bif ((((List.getD x0 (Int.toNat x3) 0).toNat : Int) : Int) == 34) then (some false) else ((xCg N n x0 (IntKind.i64.wrap (x3 + 1)))))) else none) else (some (decide ((List.length x0 : Int) ≤ 20)))
def xD1 (N : Nat) (a0 : Str) : Option (Bool) := (xCg N N a0 0)
def xA5 (a0 : Str) (a1 : Int) : List Arg := [.val (.v false [.str a0]), .val (.v false [.int .i64 a1])]
def xAY (r : Int) : CallO := ⟨.v false [.int .i64 r], [], []⟩
def xFF (N : Nat) (a0 : Str) (a1 : Int) : Option (Int) := if (0 : Int) ≤ a1 ∧ a1 < (List.length a0) then bif ((((List.getD a0 (Int.toNat a1) 0).toNat : Int) : Int) == 40) then (some 1) else (bif ((((List.getD a0 (Int.toNat a1) 0).toNat : Int) : Int) == 41) then (some 1) else (bif ((((List.getD a0 (Int.toNat a1) 0).toNat : Int) : Int) == 91) then (some 1) else (bif ((((List.getD a0 (Int.toNat a1) 0).toNat : Int) : Int) == 93) then (some 1) else (bif ((((List.getD a0 (Int.toNat a1) 0).toNat : Int) : Int) == 44) then (some 1) else (bif ((((List.getD a0 (Int.toNat a1) 0).toNat : Int) : Int) == 43) then (some 1) else (bif ((((List.getD a0 (Int.toNat a1) 0).toNat : Int) : Int) == 45) then (some 1) else (bif ((((List.getD a0 (Int.toNat a1) 0).toNat : Int) : Int) == 42) then (some 1) else (bif ((((List.getD a0 (Int.toNat a1) 0).toNat : Int) : Int) == 60) then (some 1) else (bif ((((List.getD a0 (Int.toNat a1) 0).toNat : Int) : Int) == 61) then (bif (decide ((IntKind.i64.wrap (a1 + 1)) < (List.length a0 : Int))) then (if (0 : Int) ≤ (IntKind.i64.wrap (a1 + 1)) ∧ (IntKind.i64.wrap (a1 + 1)) < (List.length a0) then bif ((((List.getD a0 (Int.toNat (IntKind.i64.wrap (a1 + 1))) 0).toNat : Int) : Int) == 61) then (some 2) else (some 1) else none) else (some 1)) else (some 0)))))))))) else none
def xDk (a0 : Str) (a1 : Int) : List Arg := [.val (.v false [.str a0]), .val (.v false [.int .i64 a1])]
def xAT (r : Tok × Int) : CallO := ⟨.tup [(true, [.int .i64 (Tok.kind r.1), .int .i64 (Tok.n r.1), .int .i64 (Tok.pos r.1), .str (Tok.text r.1)]), (false, [.int .i64 r.2])], [], []⟩
def xDl (N : Nat) : Nat → Str → Int → Int → Tok → Tok → Option (Tok × Int)
 | 0, _, _, _, _, _ => none
 | n + 1, x0, x1, x7, b4, b6 => bif (decide (x7 < (List.length x0 : Int))) then (if (0 : Int) ≤ x7 ∧ x7 < (List.length x0) then (xEY N ((List.getD x0 (Int.toNat x7) 0).toNat : Int)).bind fun r1 => bif r1 then ((xDl N n x0 x1 (IntKind.i64.wrap (x7 + 1)) b4 b6)) else ((xEP N ((List.getD x0 (Int.toNat x7) 0).toNat : Int)).bind fun r2 => bif r2 then ((xDl N n x0 x1 (IntKind.i64.wrap (x7 + 1)) b4 b6)) else (if (0 : Int) ≤ x1 ∧ x1 ≤ x7 ∧ x7 ≤ (List.length x0) then bif (decide ((IntKind.i64.wrap (x7 - x1)) > 8)) then (some ((Tok.mk 1 (Tok.n b6) (Tok.pos b6) (List.drop (Int.toNat x1) (List.take (Int.toNat x7) x0))), 0)) else (some ((Tok.mk 1 (Tok.n b6) (Tok.pos b6) (List.drop (Int.toNat x1) (List.take (Int.toNat x7) x0))), (IntKind.i64.wrap (x7 - x1)))) else none)) else none) else (if (0 : Int) ≤ x1 ∧ x1 ≤ x7 ∧ x7 ≤ (List.length x0) then bif (decide ((IntKind.i64.wrap (x7 - x1)) > 8)) then (some ((Tok.mk 1 (Tok.n b6) (Tok.pos b6) (List.drop (Int.toNat x1) (List.take (Int.toNat x7) x0))), 0)) else (some ((Tok.mk 1 (Tok.n b6) (Tok.pos b6) (List.drop (Int.toNat x1) (List.take (Int.toNat x7) x0))), (IntKind.i64.wrap (x7 - x1)))) else none)
def xCX (N : Nat) : Nat → Str → Int → Int → Tok → Tok → Option (Tok × Int)
 | 0, _, _, _, _, _ => none
 | n + 1, x0, x1, x7, b4, b6 => bif (decide (x7 < (List.length x0 : Int))) then (if (0 : Int) ≤ x7 ∧ x7 < (List.length x0) then (xEP N ((List.getD x0 (Int.toNat x7) 0).toNat : Int)).bind fun r1 => bif r1 then ((xCX N n x0 x1 (IntKind.i64.wrap (x7 + 1)) b4 b6)) else (if (0 : Int) ≤ x1 ∧ x1 ≤ x7 ∧ x7 ≤ (List.length x0) then (xEs N (List.drop (Int.toNat x1) (List.take (Int.toNat x7) x0))).bind fun r2 => bif (!r2.2) then (some ((Tok.mk 2 r2.1 (Tok.pos b6) (Tok.text b6)), 0)) else (bif (decide (r2.1 > 1000000000)) then (some ((Tok.mk 2 r2.1 (Tok.pos b6) (Tok.text b6)), 0)) else (some ((Tok.mk 2 r2.1 (Tok.pos b6) (Tok.text b6)), (IntKind.i64.wrap (x7 - x1))))) else none) else none) else (if (0 : Int) ≤ x1 ∧ x1 ≤ x7 ∧ x7 ≤ (List.length x0) then (xEs N (List.drop (Int.toNat x1) (List.take (Int.toNat x7) x0))).bind fun r1 => bif (!r1.2) then (some ((Tok.mk 2 r1.1 (Tok.pos b6) (Tok.text b6)), 0)) else (bif (decide (r1.1 > 1000000000)) then (some ((Tok.mk 2 r1.1 (Tok.pos b6) (Tok.text b6)), 0)) else (some ((Tok.mk 2 r1.1 (Tok.pos b6) (Tok.text b6)), (IntKind.i64.wrap (x7 - x1))))) else none)
def xEn (N : Nat) : Nat → Str → Int → Int → Tok → Tok → Option (Tok × Int)
 | 0, _, _, _, _, _ => none
 | n + 1, x0, x1, x7, b4, b6 => bif (decide (x7 < (List.length x0 : Int))) then (if (0 : Int) ≤ x7 ∧ x7 < (List.length x0) then bif ((((List.getD x0 (Int.toNat x7) 0).toNat : Int) : Int) != 34) then ((xEn N n x0 x1 (IntKind.i64.wrap (x7 + 1)) b4 b6)) else (if (0 : Int) ≤ (IntKind.i64.wrap (x1 + 1)) ∧ (IntKind.i64.wrap (x1 + 1)) ≤ x7 ∧ x7 ≤ (List.length x0) then bif (x7 == (List.length x0 : Int)) then (some ((Tok.mk 3 (Tok.n b6) (Tok.pos b6) (List.drop (Int.toNat (IntKind.i64.wrap (x1 + 1))) (List.take (Int.toNat x7) x0))), 0)) else ((xD1 N (List.drop (Int.toNat (IntKind.i64.wrap (x1 + 1))) (List.take (Int.toNat x7) x0))).bind fun r1 => bif (!r1) then (some ((Tok.mk 3 (Tok.n b6) (Tok.pos b6) (List.drop (Int.toNat (IntKind.i64.wrap (x1 + 1))) (List.take (Int.toNat x7) x0))), 0)) else (some ((Tok.mk 3 (Tok.n b6) (Tok.pos b6) (List.drop (Int.toNat (IntKind.i64.wrap (x1 + 1))) (List.take (Int.toNat x7) x0))), (IntKind.i64.wrap ((IntKind.i64.wrap (x7 + 1)) - x1))))) else none) else none) else (if (0 : Int) ≤ (IntKind.i64.wrap (x1 + 1)) ∧ (IntKind.i64.wrap (x1 + 1)) ≤ x7 ∧ x7 ≤ (List.length x0) then bif (x7 == (List.length x0 : Int)) then (some ((Tok.mk 3 (Tok.n b6) (Tok.pos b6) (List.drop (Int.toNat (IntKind.i64.wrap (x1 + 1))) (List.take (Int.toNat x7) x0))), 0)) else ((xD1 N (List.drop (Int.toNat (IntKind.i64.wrap (x1 + 1))) (List.take (Int.toNat x7) x0))).bind fun r1 => bif (!r1) then (some ((Tok.mk 3 (Tok.n b6) (Tok.pos b6) (List.drop (Int.toNat (IntKind.i64.wrap (x1 + 1))) (List.take (Int.toNat x7) x0))), 0)) else (some ((Tok.mk 3 (Tok.n b6) (Tok.pos b6) (List.drop (Int.toNat (IntKind.i64.wrap (x1 + 1))) (List.take (Int.toNat x7) x0))), (IntKind.i64.wrap ((IntKind.i64.wrap (x7 + 1)) - x1))))) else none)
def xGs (N : Nat) (a0 : Str) (a1 : Int) : Option (Tok × Int) := if (0 : Int) ≤ a1 ∧ a1 < (List.length a0) then (xEY N ((List.getD a0 (Int.toNat a1) 0).toNat : Int)).bind fun r1 => bif r1 then ((xDl N N a0 a1 a1 (Tok.mk 0 0 0 []) (Tok.mk 0 0 a1 []))) else ((xEP N ((List.getD a0 (Int.toNat a1) 0).toNat : Int)).bind fun r2 => bif r2 then ((xCX N N a0 a1 a1 (Tok.mk 0 0 0 []) (Tok.mk 0 0 a1 []))) else (bif ((((List.getD a0 (Int.toNat a1) 0).toNat : Int) : Int) == 34) then ((xEn N N a0 a1 (IntKind.i64.wrap (a1 + 1)) (Tok.mk 0 0 0 []) (Tok.mk 0 0 a1 []))) else ((xFF N a0 a1).bind fun r3 => if (0 : Int) ≤ a1 ∧ a1 ≤ (IntKind.i64.wrap (a1 + r3)) ∧ (IntKind.i64.wrap (a1 + r3)) ≤ (List.length a0) then some ((Tok.mk 4 0 a1 (List.drop (Int.toNat a1) (List.take (Int.toNat (IntKind.i64.wrap (a1 + r3))) a0))), (IntKind.i64.wrap ((IntKind.i64.wrap (a1 + r3)) - a1))) else none))) else none
def xEA (a0 : Str) : List Arg := [.val (.v false [.str a0])]
def xAS (r : (List Tok) × Int) : CallO := ⟨.tup [(false, [.sl .own .tok r.1]), (false, [.int .i64 r.2])], [], []⟩
def xDz (N : Nat) : Nat → Str → (List Tok) → Int → Option ((List Tok) × Int)
 | 0, _, _, _ => none
 | n + 1, x0, x4, x5 => bif (decide (x5 < (List.length x0 : Int))) then (if (0 : Int) ≤ x5 ∧ x5 < (List.length x0) then bif ((((List.getD x0 (Int.toNat x5) 0).toNat : Int) : Int) == 32) then ((xDz N n x0 x4 (IntKind.i64.wrap (x5 + 1)))) else ((xGs N x0 x5).bind fun r1 => bif (r1.2 == 0) then (some ([], x5)) else (bif ((List.length x4 : Int) == 60) then (some ([], x5)) else (if List.length x4 + List.length [r1.1] ≤ Lim then (xDz N n x0 (x4 ++ [r1.1]) (IntKind.i64.wrap (x5 + r1.2))) else none))) else none) else (some (x4, (-1)))
def xEW (N : Nat) (a0 : Str) : Option ((List Tok) × Int) := bif (decide ((List.length a0 : Int) > 120)) then (some ([], 120)) else ((xDz N N a0 [] 0))
def xC1 (a0 : Tok) (a1 : Str) : List Arg := [.val (.v true [.int .i64 (Tok.kind a0), .int .i64 (Tok.n a0), .int .i64 (Tok.pos a0), .str (Tok.text a0)]), .val (.v false [.str a1])]
def xAL (r : Bool) : CallO := ⟨.v false [.bool r], [], []⟩
def xCT (N : Nat) (a0 : Tok) (a1 : Str) : Option (Bool) := bif ((Tok.kind a0) == 4) then (some (((Tok.text a0) : Str) == a1)) else (some false)
def xEk (a0 : Tok) (a1 : Str) : List Arg := [.val (.v true [.int .i64 (Tok.kind a0), .int .i64 (Tok.n a0), .int .i64 (Tok.pos a0), .str (Tok.text a0)]), .val (.v false [.str a1])]
def xDL (r : Bool) : CallO := ⟨.v false [.bool r], [], []⟩
def xE5 (N : Nat) (a0 : Tok) (a1 : Str) : Option (Bool) := bif ((Tok.kind a0) == 1) then (some (((Tok.text a0) : Str) == a1)) else (some false)
def xAw (a0 : Rdr) (a1 : Str) : List Arg := [.box (Rr .ro a0), .val (.v false [.str a1])]
def xAd (r : Bool × Rdr) : CallO := ⟨.v false [.bool r.1], [(Rr .ro r.2)], []⟩
def xBg (N : Nat) (a0 : Rdr) (a1 : Str) : Option (Bool × Rdr) := bif (decide ((Rdr.bad a0) < 0)) then (bif (decide ((Rdr.i a0) < (List.length (Rdr.toks a0) : Int))) then (if (0 : Int) ≤ (Rdr.i a0) ∧ (Rdr.i a0) < (List.length (Rdr.toks a0)) then (xCT N (List.getD (Rdr.toks a0) (Int.toNat (Rdr.i a0)) Ty.tok.dflt) a1).bind fun r1 => bif r1 then (some (true, a0)) else ((xE5 N (List.getD (Rdr.toks a0) (Int.toNat (Rdr.i a0)) Ty.tok.dflt) a1).bind fun r2 => some (r2, a0)) else none) else (some (false, a0))) else (some (false, a0))
def xEm (a0 : Str) : List Arg := [.val (.v false [.str a0])]
def xA2 (r : Bool) : CallO := ⟨.v false [.bool r], [], []⟩
def xCE (N : Nat) : Nat → Str → Int → Option (Bool)
 | 0, _, _ => none
 | n + 1, x0, x3 => bif (decide (x3 < (List.length x0 : Int))) then (if (0 : Int) ≤ x3 ∧ x3 < (List.length x0) then bif (decide ((((List.getD x0 (Int.toNat x3) 0).toNat : Int) : Int) ≥ 97)) then (bif (decide ((((List.getD x0 (Int.toNat x3) 0).toNat : Int) : Int) ≥ 48)) then (bif (!(decide ((((List.getD x0 (Int.toNat x3) 0).toNat : Int) : Int) ≤ 122))) then (bif (x3 == 0) then (some false) else (bif (!(decide ((((List.getD x0 (Int.toNat x3) 0).toNat : Int) : Int) ≤ 57))) then (some false) else ((xCE N n x0 (IntKind.i64.wrap (x3 + 1)))))) else ((xCE N n x0 (IntKind.i64.wrap (x3 + 1))))) else (bif (!(decide ((((List.getD x0 (Int.toNat x3) 0).toNat : Int) : Int) ≤ 122))) then (bif (x3 == 0) then (some false) else (some false)) else ((xCE N n x0 (IntKind.i64.wrap (x3 + 1)))))) else (bif (decide ((((List.getD x0 (Int.toNat x3) 0).toNat : Int) : Int) ≥ 48)) then (bif (x3 == 0) then (some false) else (bif (!(decide ((((List.getD x0 (Int.toNat x3) 0).toNat : Int) : Int) ≤ 57))) then (some false) else ((xCE N n x0 (IntKind.i64.wrap (x3 + 1)))))) else (bif (x3 == 0) then (some false) else (some false))) else none) else (some (decide ((List.length x0 : Int) > 0)))
def xGz (N : Nat) (a0 : Str) : Option (Bool) := (xCE N N a0 0)
def xEG : List Arg := []
def xEa (r : (List Str)) : CallO := ⟨.v false [.sl .own .str r], [], []⟩
def xFE (N : Nat) : Option ((List Str)) := some [[108, 101, 116], [105, 110], [105, 102], [116, 104, 101, 110], [101, 108, 115, 101], [102, 111, 114], [100, 111], [108, 101, 110], [115, 117, 109], [116, 97, 107, 101], [115, 107, 105, 112], [114, 97, 110, 103, 101], [110, 116, 104], [119, 104, 101, 114, 101], [107, 101, 101, 112], [97, 100, 100], [103, 114, 111, 117, 112], [106, 111, 105, 110], [99, 111, 108, 117, 109, 110], [114, 111, 119, 115], [99, 108, 111, 99, 107], [99, 104, 97, 110, 99, 101], [102, 105, 108, 101], [116, 97, 98, 108, 101]]
def xF7 (a0 : List Str) (a1 : Str) : List Arg := [.val (.v false [.sl .ro .str a0]), .val (.v false [.str a1])]
def xEv (r : Bool) : CallO := ⟨.v false [.bool r], [], []⟩
def xEu (N : Nat) : Nat → (List Str) → Str → Int → Option (Bool)
 | 0, _, _, _ => none
 | n + 1, x0, x1, x5 => bif (decide (x5 < (List.length x0 : Int))) then (if (0 : Int) ≤ x5 ∧ x5 < (List.length x0) then bif (((List.getD x0 (Int.toNat x5) Ty.str.dflt) : Str) == x1) then (some true) else ((xEu N n x0 x1 (IntKind.i64.wrap (x5 + 1)))) else none) else (some false)
def xHQ (N : Nat) (a0 : List Str) (a1 : Str) : Option (Bool) := (xEu N N a0 a1 0)
def xEF (a0 : Str) : List Arg := [.val (.v false [.str a0])]
def xD8 (r : Bool) : CallO := ⟨.v false [.bool r], [], []⟩
def xEM (N : Nat) (a0 : Str) : Option (Bool) := (xFE N).bind fun r1 => (xHQ N r1 a0).bind fun r2 => some r2
def xBU (a0 : Str) : List Arg := [.val (.v false [.str a0])]
def xAA (r : Bool) : CallO := ⟨.v false [.bool r], [], []⟩
def xCK (N : Nat) (a0 : Str) : Option (Bool) := (xGz N a0).bind fun r1 => bif r1 then (bif (decide ((List.length a0 : Int) ≤ 8)) then ((xEM N a0).bind fun r2 => some (!r2)) else (some false)) else (some false)
def xCC (a0 : Rdr) : List Arg := [.box (Rr .ro a0)]
def xAI (r : Exp × Rdr) : CallO := ⟨.v true (Ex .own r.1), [(Rr .ro r.2)], []⟩
def xBA (N : Nat) (a0 : Rdr) : Option (Exp × Rdr) := bif (decide ((Rdr.bad a0) < 0)) then (bif (decide ((Rdr.i a0) < (List.length (Rdr.toks a0) : Int))) then (if (0 : Int) ≤ (Rdr.i a0) ∧ (Rdr.i a0) < (List.length (Rdr.toks a0)) then some ((Exp.mk 0 0 [] []), (Rdr.mk (Rdr.toks a0) (Rdr.i a0) (Rdr.fin a0) (Tok.pos (List.getD (Rdr.toks a0) (Int.toNat (Rdr.i a0)) Ty.tok.dflt)))) else none) else (some ((Exp.mk 0 0 [] []), (Rdr.mk (Rdr.toks a0) (Rdr.i a0) (Rdr.fin a0) (Rdr.fin a0))))) else (some ((Exp.mk 0 0 [] []), a0))
def xDq (a0 : Rdr) : List Arg := [.box (Rr .ro a0)]
def xCD (r : Str × Rdr) : CallO := ⟨.v false [.str r.1], [(Rr .ro r.2)], []⟩
def xC2 (N : Nat) (a0 : Rdr) : Option (Str × Rdr) := bif (decide ((Rdr.bad a0) ≥ 0)) then ((xBA N a0).bind fun r1 => some ([], r1.2)) else (bif (decide ((Rdr.i a0) ≥ (List.length (Rdr.toks a0) : Int))) then ((xBA N a0).bind fun r1 => some ([], r1.2)) else (if (0 : Int) ≤ (Rdr.i a0) ∧ (Rdr.i a0) < (List.length (Rdr.toks a0)) then bif (((Tok.kind (List.getD (Rdr.toks a0) (Int.toNat (Rdr.i a0)) Ty.tok.dflt)) : Int) != 1) then ((xBA N a0).bind fun r1 => some ([], r1.2)) else ((xCK N (Tok.text (List.getD (Rdr.toks a0) (Int.toNat (Rdr.i a0)) Ty.tok.dflt))).bind fun r1 => bif (!r1) then ((xBA N a0).bind fun r2 => some ([], r2.2)) else (if (0 : Int) ≤ (IntKind.i64.wrap ((IntKind.i64.wrap ((Rdr.i a0) + 1)) - 1)) ∧ (IntKind.i64.wrap ((IntKind.i64.wrap ((Rdr.i a0) + 1)) - 1)) < (List.length (Rdr.toks a0)) then some ((Tok.text (List.getD (Rdr.toks a0) (Int.toNat (IntKind.i64.wrap ((IntKind.i64.wrap ((Rdr.i a0) + 1)) - 1))) Ty.tok.dflt)), (Rdr.mk (Rdr.toks a0) (IntKind.i64.wrap ((Rdr.i a0) + 1)) (Rdr.fin a0) (Rdr.bad a0))) else none)) else none))
def xBp (a0 : Rdr) (a1 : Str) : List Arg := [.box (Rr .ro a0), .val (.v false [.str a1])]
def xAy (r : Rdr) : CallO := ⟨.tup [], [(Rr .ro r)], []⟩
def xBf (N : Nat) (a0 : Rdr) (a1 : Str) : Option (Rdr) := (xBg N a0 a1).bind fun r1 => bif (!r1.1) then ((xBA N r1.2).bind fun r2 => some r2.2) else (some (Rdr.mk (Rdr.toks r1.2) (IntKind.i64.wrap ((Rdr.i r1.2) + 1)) (Rdr.fin r1.2) (Rdr.bad r1.2)))
def xFO (a0 : Int) : List Arg := [.val (.v false [.int .i64 a0])]
def xE6 (r : Exp) : CallO := ⟨.v true (Ex .own r), [], []⟩
def xIk (N : Nat) (a0 : Int) : Option (Exp) := some (Exp.mk 1 a0 [] [])
def xFC (a0 : Str) : List Arg := [.val (.v false [.str a0])]
def xEO (r : Exp) : CallO := ⟨.v true (Ex .own r), [], []⟩
def xHM (N : Nat) (a0 : Str) : Option (Exp) := some (Exp.mk 3 0 a0 [])
def xAn (a0 : Str) : List Arg := [.val (.v false [.str a0])]
def xAh (r : Int) : CallO := ⟨.v false [.int .i64 r], [], []⟩
def xBR (N : Nat) (a0 : Str) : Option (Int) := bif ((a0 : Str) == [99, 108, 111, 99, 107]) then (some 0) else (bif ((a0 : Str) == [108, 101, 110]) then (some 1) else (bif ((a0 : Str) == [115, 117, 109]) then (some 1) else (bif ((a0 : Str) == [114, 111, 119, 115]) then (some 1) else (bif ((a0 : Str) == [99, 104, 97, 110, 99, 101]) then (some 1) else (bif ((a0 : Str) == [102, 105, 108, 101]) then (some 1) else (bif ((a0 : Str) == [116, 97, 107, 101]) then (some 2) else (bif ((a0 : Str) == [115, 107, 105, 112]) then (some 2) else (bif ((a0 : Str) == [114, 97, 110, 103, 101]) then (some 2) else (bif ((a0 : Str) == [110, 116, 104]) then (some 2) else (bif ((a0 : Str) == [107, 101, 101, 112]) then (some 2) else (bif ((a0 : Str) == [99, 111, 108, 117, 109, 110]) then (some 2) else (bif ((a0 : Str) == [116, 97, 98, 108, 101]) then (some 2) else (bif ((a0 : Str) == [119, 104, 101, 114, 101]) then (some 3) else (bif ((a0 : Str) == [103, 114, 111, 117, 112]) then (some 3) else (bif ((a0 : Str) == [106, 111, 105, 110]) then (some 3) else (bif ((a0 : Str) == [97, 100, 100]) then (some 4) else (some (-1))))))))))))))))))
def xDj (a0 : Int) (a1 : Exp) (a2 : Exp) : List Arg := [.val (.v false [.int .i64 a0]), .val (.v true (Ex .ro a1)), .val (.v true (Ex .ro a2))]
def xBz (r : Exp) : CallO := ⟨.v true (Ex .tip r), [], []⟩
def xDN (N : Nat) (a0 : Int) (a1 : Exp) (a2 : Exp) : Option (Exp) := some (Exp.mk 6 a0 [] [(Exp.re a1), (Exp.re a2)])
def xDU (a0 : Rdr) (a1 : Str) : List Arg := [.box (Rr .ro a0), .val (.v false [.str a1])]
def xBW (r : (List Exp) × Rdr) : CallO := ⟨.v false [.sl .tip .exp r.1], [(Rr .ro r.2)], []⟩
def xEl (N : Nat) (q0 : Rdr → Str → Option ((List Exp) × Rdr)) (q1 : Rdr → Option (Exp × Rdr)) (q2 : Rdr → Option (Exp × Rdr)) (q3 : Rdr → Option (Exp × Rdr)) (q4 : Rdr → Option (Exp × Rdr)) (q5 : Rdr → Option (Exp × Rdr)) : Nat → Str → (List Exp) → Rdr → Option ((List Exp) × Rdr)
 | 0, _, _, _ => none
 | n + 1, x1, x5, b0 => bif (decide ((Rdr.bad b0) < 0)) then ((q3 b0).bind fun r1 => if List.length x5 + List.length [(Exp.re r1.1)] ≤ Lim then (xBg N r1.2 [44]).bind fun r2 => bif (!r2.1) then ((xBf N r2.2 x1).bind fun r3 => some ((x5 ++ [(Exp.re r1.1)]), r3)) else ((xEl N q0 q1 q2 q3 q4 q5 n x1 (x5 ++ [(Exp.re r1.1)]) (Rdr.mk (Rdr.toks r2.2) (IntKind.i64.wrap ((Rdr.i r2.2) + 1)) (Rdr.fin r2.2) (Rdr.bad r2.2)))) else none) else ((xBf N b0 x1).bind fun r1 => some (x5, r1))
def xDe (N : Nat) (q0 : Rdr → Str → Option ((List Exp) × Rdr)) (q1 : Rdr → Option (Exp × Rdr)) (q2 : Rdr → Option (Exp × Rdr)) (q3 : Rdr → Option (Exp × Rdr)) (q4 : Rdr → Option (Exp × Rdr)) (q5 : Rdr → Option (Exp × Rdr)) (a0 : Rdr) (a1 : Str) : Option ((List Exp) × Rdr) := (xBg N a0 a1).bind fun r1 => bif r1.1 then (some ([], (Rdr.mk (Rdr.toks r1.2) (IntKind.i64.wrap ((Rdr.i r1.2) + 1)) (Rdr.fin r1.2) (Rdr.bad r1.2)))) else ((xEl N q0 q1 q2 q3 q4 q5 N a1 [] r1.2))
def xA7 (a0 : Rdr) : List Arg := [.box (Rr .ro a0)]
def xA1 (r : Exp × Rdr) : CallO := ⟨.v true (Ex .ro r.1), [(Rr .ro r.2)], []⟩
def xDf (N : Nat) (q0 : Rdr → Str → Option ((List Exp) × Rdr)) (q1 : Rdr → Option (Exp × Rdr)) (q2 : Rdr → Option (Exp × Rdr)) (q3 : Rdr → Option (Exp × Rdr)) (q4 : Rdr → Option (Exp × Rdr)) (q5 : Rdr → Option (Exp × Rdr)) (a0 : Rdr) : Option (Exp × Rdr) := bif (decide ((Rdr.bad a0) ≥ 0)) then ((xBA N a0).bind fun r1 => some (r1.1, r1.2)) else (bif (decide ((Rdr.i a0) ≥ (List.length (Rdr.toks a0) : Int))) then ((xBA N a0).bind fun r1 => some (r1.1, r1.2)) else (if (0 : Int) ≤ (Rdr.i a0) ∧ (Rdr.i a0) < (List.length (Rdr.toks a0)) then bif (((Tok.kind (List.getD (Rdr.toks a0) (Int.toNat (Rdr.i a0)) Ty.tok.dflt)) : Int) == 2) then ((xIk N (Tok.n (List.getD (Rdr.toks a0) (Int.toNat (Rdr.i a0)) Ty.tok.dflt))).bind fun r1 => some (r1, (Rdr.mk (Rdr.toks a0) (IntKind.i64.wrap ((Rdr.i a0) + 1)) (Rdr.fin a0) (Rdr.bad a0)))) else (bif (((Tok.kind (List.getD (Rdr.toks a0) (Int.toNat (Rdr.i a0)) Ty.tok.dflt)) : Int) == 3) then (some ((Exp.mk 2 0 (Tok.text (List.getD (Rdr.toks a0) (Int.toNat (Rdr.i a0)) Ty.tok.dflt)) []), (Rdr.mk (Rdr.toks a0) (IntKind.i64.wrap ((Rdr.i a0) + 1)) (Rdr.fin a0) (Rdr.bad a0)))) else (bif (((Tok.kind (List.getD (Rdr.toks a0) (Int.toNat (Rdr.i a0)) Ty.tok.dflt)) : Int) == 1) then ((xCK N (Tok.text (List.getD (Rdr.toks a0) (Int.toNat (Rdr.i a0)) Ty.tok.dflt))).bind fun r1 => bif r1 then ((xHM N (Tok.text (List.getD (Rdr.toks a0) (Int.toNat (Rdr.i a0)) Ty.tok.dflt))).bind fun r2 => some (r2, (Rdr.mk (Rdr.toks a0) (IntKind.i64.wrap ((Rdr.i a0) + 1)) (Rdr.fin a0) (Rdr.bad a0)))) else ((xBR N (Tok.text (List.getD (Rdr.toks a0) (Int.toNat (Rdr.i a0)) Ty.tok.dflt))).bind fun r2 => bif (decide (r2 ≥ 0)) then ((xBf N (Rdr.mk (Rdr.toks a0) (IntKind.i64.wrap ((Rdr.i a0) + 1)) (Rdr.fin a0) (Rdr.bad a0)) [40]).bind fun r3 => (q0 r3 [41]).bind fun r4 => some ((Exp.mk 5 0 (Tok.text (List.getD (Rdr.toks a0) (Int.toNat (Rdr.i a0)) Ty.tok.dflt)) r4.1), r4.2)
     ) else ((xCT N (List.getD (Rdr.toks a0) (Int.toNat (Rdr.i a0)) Ty.tok.dflt) [91]).bind fun r3 => bif r3 then ((q0 (Rdr.mk (Rdr.toks a0) (IntKind.i64.wrap ((Rdr.i a0) + 1)) (Rdr.fin a0) (Rdr.bad a0)) [93]).bind fun r4 => some ((Exp.mk 4 0 [] r4.1), r4.2)) else ((xCT N (List.getD (Rdr.toks a0) (Int.toNat (Rdr.i a0)) Ty.tok.dflt) [40]).bind fun r4 => bif r4 then ((q3 (Rdr.mk (Rdr.toks a0) (IntKind.i64.wrap ((Rdr.i a0) + 1)) (Rdr.fin a0) (Rdr.bad a0))).bind fun r5 => (xBf N r5.2 [41]).bind fun r6 => some (r5.1, r6)) else ((xBA N a0).bind fun r5 => some (r5.1, r5.2)))))) else ((xCT N (List.getD (Rdr.toks a0) (Int.toNat (Rdr.i a0)) Ty.tok.dflt) [91]).bind fun r1 => bif r1 then ((q0 (Rdr.mk (Rdr.toks a0) (IntKind.i64.wrap ((Rdr.i a0) + 1)) (Rdr.fin a0) (Rdr.bad a0)) [93]).bind fun r2 => some ((Exp.mk 4 0 [] r2.1), r2.2)) else ((xCT N (List.getD (Rdr.toks a0) (Int.toNat (Rdr.i a0)) Ty.tok.dflt) [40]).bind fun r2 => bif r2 then ((q3 (Rdr.mk (Rdr.toks a0) (IntKind.i64.wrap ((Rdr.i a0) + 1)) (Rdr.fin a0) (Rdr.bad a0))).bind fun r3 => (xBf N r3.2 [41]).bind fun r4 => some (r3.1, r4)) else ((xBA N a0).bind fun r3 => some (r3.1, r3.2)))))) else none))
def xCV (a0 : Rdr) : List Arg := [.box (Rr .ro a0)]
def xCy (r : Exp × Rdr) : CallO := ⟨.v true (Ex .ro r.1), [(Rr .ro r.2)], []⟩
def xCv (N : Nat) (q0 : Rdr → Str → Option ((List Exp) × Rdr)) (q1 : Rdr → Option (Exp × Rdr)) (q2 : Rdr → Option (Exp × Rdr)) (q3 : Rdr → Option (Exp × Rdr)) (q4 : Rdr → Option (Exp × Rdr)) (q5 : Rdr → Option (Exp × Rdr)) (a0 : Rdr) : Option (Exp × Rdr) := (q5 a0).bind fun r1 => (xBg N r1.2 [60]).bind fun r2 => bif r2.1 then ((q5 (Rdr.mk (Rdr.toks r2.2) (IntKind.i64.wrap ((Rdr.i r2.2) + 1)) (Rdr.fin r2.2) (Rdr.bad r2.2))).bind fun r3 => (xDN N 4 r1.1 r3.1).bind fun r4 => some (r4, r3.2)) else ((xBg N r2.2 [61, 61]).bind fun r3 => bif r3.1 then ((q5 (Rdr.mk (Rdr.toks r3.2) (IntKind.i64.wrap ((Rdr.i r3.2) + 1)) (Rdr.fin r3.2) (Rdr.bad r3.2))).bind fun r4 => (xDN N 5 r1.1 r4.1).bind fun r5 => some (r5, r4.2)) else (some (r1.1, r3.2)))
def xBX (a0 : Rdr) : List Arg := [.box (Rr .ro a0)]
def xAq (r : Exp × Rdr) : CallO := ⟨.v true (Ex .ro r.1), [(Rr .ro r.2)], []⟩
def xDg (N : Nat) (q0 : Rdr → Str → Option ((List Exp) × Rdr)) (q1 : Rdr → Option (Exp × Rdr)) (q2 : Rdr → Option (Exp × Rdr)) (q3 : Rdr → Option (Exp × Rdr)) (q4 : Rdr → Option (Exp × Rdr)) (q5 : Rdr → Option (Exp × Rdr)) (a0 : Rdr) : Option (Exp × Rdr) := (xBg N a0 [108, 101, 116]).bind fun r1 => bif r1.1 then ((xC2 N (Rdr.mk (Rdr.toks r1.2) (IntKind.i64.wrap ((Rdr.i r1.2) + 1)) (Rdr.fin r1.2) (Rdr.bad r1.2))).bind fun r2 => (xBf N r2.2 [61]).bind fun r3 => (q3 r3).bind fun r4 => (xBf N r4.2 [105, 110]).bind fun r5 => (q3 r5).bind fun r6 => some ((Exp.mk 7 0 r2.1 [(Exp.re r4.1), (Exp.re r6.1)]), r6.2)) else ((xBg N r1.2 [105, 102]).bind fun r2 => bif r2.1 then ((q3 (Rdr.mk (Rdr.toks r2.2) (IntKind.i64.wrap ((Rdr.i r2.2) + 1)) (Rdr.fin r2.2) (Rdr.bad r2.2))).bind fun r3 => (xBf N r3.2 [116, 104, 101, 110]).bind fun r4 => (q3 r4).bind fun r5 => (xBf N r5.2 [101, 108, 115, 101]).bind fun r6 => (q3 r6).bind fun r7 => some ((Exp.mk 8 0 [] [(Exp.re r3.1), (Exp.re r5.1), (Exp.re r7.1)]), r7.2)) else ((xBg N r2.2 [102, 111, 114]).bind fun r3 => bif r3.1 then ((xC2 N (Rdr.mk (Rdr.toks r3.2) (IntKind.i64.wrap ((Rdr.i r3.2) + 1)) (Rdr.fin r3.2) (Rdr.bad r3.2))).bind fun r4 => (xBf N r4.2 [105, 110]).bind fun r5 => (q3 r5).bind fun r6 => (xBf N r6.2 [100, 111]).bind fun r7 => (q3 r7).bind fun r8 => some ((Exp.mk 9 0 r4.1 [(Exp.re r6.1), (Exp.re r8.1)]), r8.2)) else ((q2 r3.2).bind fun r4 => some (r4.1, r4.2))))
def xDv (a0 : Rdr) : List Arg := [.box (Rr .ro a0)]
def xBn (r : Exp × Rdr) : CallO := ⟨.v true (Ex .ro r.1), [(Rr .ro r.2)], []⟩
def xCz (N : Nat) (q0 : Rdr → Str → Option ((List Exp) × Rdr)) (q1 : Rdr → Option (Exp × Rdr)) (q2 : Rdr → Option (Exp × Rdr)) (q3 : Rdr → Option (Exp × Rdr)) (q4 : Rdr → Option (Exp × Rdr)) (q5 : Rdr → Option (Exp × Rdr)) : Nat → Rdr → Exp → Exp → Option (Exp × Rdr)
 | 0, _, _, _ => none
 | n + 1, b0, b2, b3 => (xBg N b0 [42]).bind fun r1 => bif r1.1 then ((q1 (Rdr.mk (Rdr.toks r1.2) (IntKind.i64.wrap ((Rdr.i r1.2) + 1)) (Rdr.fin r1.2) (Rdr.bad r1.2))).bind fun r2 => (xDN N 3 b3 r2.1).bind fun r3 => (xCz N q0 q1 q2 q3 q4 q5 n r2.2 b2 r3)) else (some (b3, r1.2))
def xCw (N : Nat) (q0 : Rdr → Str → Option ((List Exp) × Rdr)) (q1 : Rdr → Option (Exp × Rdr)) (q2 : Rdr → Option (Exp × Rdr)) (q3 : Rdr → Option (Exp × Rdr)) (q4 : Rdr → Option (Exp × Rdr)) (q5 : Rdr → Option (Exp × Rdr)) (a0 : Rdr) : Option (Exp × Rdr) := (q1 a0).bind fun r1 => (xCz N q0 q1 q2 q3 q4 q5 N r1.2 (Exp.mk 0 0 [] []) r1.1)
def xDH (a0 : Rdr) : List Arg := [.box (Rr .ro a0)]
def xBS (r : Exp × Rdr) : CallO := ⟨.v true (Ex .ro r.1), [(Rr .ro r.2)], []⟩
def xCn (N : Nat) (q0 : Rdr → Str → Option ((List Exp) × Rdr)) (q1 : Rdr → Option (Exp × Rdr)) (q2 : Rdr → Option (Exp × Rdr)) (q3 : Rdr → Option (Exp × Rdr)) (q4 : Rdr → Option (Exp × Rdr)) (q5 : Rdr → Option (Exp × Rdr)) : Nat → Rdr → Exp → Exp → Option (Exp × Rdr)
 | 0, _, _, _ => none
 | n + 1, b0, b2, b3 => (xBg N b0 [43]).bind fun r1 => bif r1.1 then ((xBg N r1.2 [45]).bind fun r2 => bif r2.1 then ((q4 (Rdr.mk (Rdr.toks r2.2) (IntKind.i64.wrap ((Rdr.i r2.2) + 1)) (Rdr.fin r2.2) (Rdr.bad r2.2))).bind fun r3 => (xDN N 2 b3 r3.1).bind fun r4 => (xCn N q0 q1 q2 q3 q4 q5 n r3.2 b2 r4)) else ((q4 (Rdr.mk (Rdr.toks r2.2) (IntKind.i64.wrap ((Rdr.i r2.2) + 1)) (Rdr.fin r2.2) (Rdr.bad r2.2))).bind fun r3 => (xDN N 1 b3 r3.1).bind fun r4 => (xCn N q0 q1 q2 q3 q4 q5 n r3.2 b2 r4))) else ((xBg N r1.2 [45]).bind fun r2 => bif r2.1 then ((xBg N r2.2 [45]).bind fun r3 => bif r3.1 then ((q4 (Rdr.mk (Rdr.toks r3.2) (IntKind.i64.wrap ((Rdr.i r3.2) + 1)) (Rdr.fin r3.2) (Rdr.bad r3.2))).bind fun r4 => (xDN N 2 b3 r4.1).bind fun r5 => (xCn N q0 q1 q2 q3 q4 q5 n r4.2 b2 r5)) else ((q4 (Rdr.mk (Rdr.toks r3.2) (IntKind.i64.wrap ((Rdr.i r3.2) + 1)) (Rdr.fin r3.2) (Rdr.bad r3.2))).bind fun r4 => (xDN N 1 b3 r4.1).bind fun r5 => (xCn N q0 q1 q2 q3 q4 q5 n r4.2 b2 r5))) else (some (b3, r2.2)))
def xDA (N : Nat) (q0 : Rdr → Str → Option ((List Exp) × Rdr)) (q1 : Rdr → Option (Exp × Rdr)) (q2 : Rdr → Option (Exp × Rdr)) (q3 : Rdr → Option (Exp × Rdr)) (q4 : Rdr → Option (Exp × Rdr)) (q5 : Rdr → Option (Exp × Rdr)) (a0 : Rdr) : Option (Exp × Rdr) := (q4 a0).bind fun r1 => (xCn N q0 q1 q2 q3 q4 q5 N r1.2 (Exp.mk 0 0 [] []) r1.1)
structure spec_l11Args_rec where
 c_spec_l11Args : Rdr → Str → Option ((List Exp) × Rdr)
 c_spec_l11Atom : Rdr → Option (Exp × Rdr)
 c_spec_l11Compare : Rdr → Option (Exp × Rdr)
 c_spec_l11Expr : Rdr → Option (Exp × Rdr)
 c_spec_l11Product : Rdr → Option (Exp × Rdr)
 c_spec_l11Sum : Rdr → Option (Exp × Rdr)
def xAa (N : Nat) : Nat → spec_l11Args_rec
 | 0 => ⟨fun _ _ => none, fun _ => none, fun _ => none, fun _ => none, fun _ => none, fun _ => none⟩
 | d + 1 => ⟨xDe N (xAa N d).c_spec_l11Args (xAa N d).c_spec_l11Atom (xAa N d).c_spec_l11Compare (xAa N d).c_spec_l11Expr (xAa N d).c_spec_l11Product (xAa N d).c_spec_l11Sum, xDf N (xAa N d).c_spec_l11Args (xAa N d).c_spec_l11Atom (xAa N d).c_spec_l11Compare (xAa N d).c_spec_l11Expr (xAa N d).c_spec_l11Product (xAa N d).c_spec_l11Sum, xCv N (xAa N d).c_spec_l11Args (xAa N d).c_spec_l11Atom (xAa N d).c_spec_l11Compare (xAa N d).c_spec_l11Expr (xAa N d).c_spec_l11Product (xAa N d).c_spec_l11Sum, xDg N (xAa N d).c_spec_l11Args (xAa N d).c_spec_l11Atom (xAa N d).c_spec_l11Compare (xAa N d).c_spec_l11Expr (xAa N d).c_spec_l11Product (xAa N d).c_spec_l11Sum, xCw N (xAa N d).c_spec_l11Args (xAa N d).c_spec_l11Atom (xAa N d).c_spec_l11Compare (xAa N d).c_spec_l11Expr (xAa N d).c_spec_l11Product (xAa N d).c_spec_l11Sum, xDA N (xAa N d).c_spec_l11Args (xAa N d).c_spec_l11Atom (xAa N d).c_spec_l11Compare (xAa N d).c_spec_l11Expr (xAa N d).c_spec_l11Product (xAa N d).c_spec_l11Sum⟩
def xGy (N : Nat) (a0 : Rdr) : Option (Exp × Rdr) := (xAa N N).c_spec_l11Expr a0
def xCU (a0 : Exp) (a1 : Int) : List Arg := [.val (.v true (Ex .ro a0)), .val (.v false [.int .i64 a1])]
def xBo (r : Int) : CallO := ⟨.v false [.int .i64 r], [], []⟩
def xDp (N : Nat) (q0 : Exp → Int → Option (Int)) : Nat → Int → Int → Exp → Option (Int)
 | 0, _, _, _ => none
 | n + 1, x1, x5, b2 => bif (decide (x5 < (List.length (Exp.args b2) : Int))) then (bif (decide (x1 ≥ 0)) then (if (0 : Int) ≤ x5 ∧ x5 < (List.length (Exp.args b2)) then (q0 (List.getD (Exp.args b2) (Int.toNat x5) Ty.exp.dflt) x1).bind fun r1 => (xDp N q0 n r1 (IntKind.i64.wrap (x5 + 1)) b2) else none) else (some x1)) else (some x1)
def xFM (N : Nat) (q0 : Exp → Int → Option (Int)) (a0 : Exp) (a1 : Int) : Option (Int) := (xDp N q0 N (IntKind.i64.wrap (a1 - 1)) 0 a0)
def xD3 (N : Nat) : Nat → Exp → Int → Option (Int)
 | 0, _, _ => none
 | d + 1, a0, a1 => xFM N (xD3 N d) a0 a1
def xHL (N : Nat) (a0 : Exp) (a1 : Int) : Option (Int) := xD3 N N a0 a1
def xFD (a0 : Int) (a1 : Int) : List Arg := [.val (.v false [.int .i64 a0]), .val (.v false [.int .i64 a1])]
def xEX (r : Int) : CallO := ⟨.v false [.int .i64 r], [], []⟩
def xGV (N : Nat) (a0 : Int) (a1 : Int) : Option (Int) := bif (decide (a0 > a1)) then (some a0) else (some a1)
def xCQ (a0 : Exp) : List Arg := [.val (.v true (Ex .ro a0))]
def xBw (r : Int) : CallO := ⟨.v false [.int .i64 r], [], []⟩
def xDM (N : Nat) (q0 : Exp → Option (Int)) : Nat → Int → Int → Exp → Option (Int)
 | 0, _, _, _ => none
 | n + 1, x3, x4, b1 => bif (decide (x4 < (List.length (Exp.args b1) : Int))) then (if (0 : Int) ≤ x4 ∧ x4 < (List.length (Exp.args b1)) then (q0 (List.getD (Exp.args b1) (Int.toNat x4) Ty.exp.dflt)).bind fun r1 => (xGV N x3 r1).bind fun r2 => (xDM N q0 n r2 (IntKind.i64.wrap (x4 + 1)) b1) else none) else (some (IntKind.i64.wrap (x3 + 1)))
def xFm (N : Nat) (q0 : Exp → Option (Int)) (a0 : Exp) : Option (Int) := (xDM N q0 N 0 0 a0)
def xD9 (N : Nat) : Nat → Exp → Option (Int)
 | 0, _ => none
 | d + 1, a0 => xFm N (xD9 N d) a0
def xGI (N : Nat) (a0 : Exp) : Option (Int) := xD9 N N a0
def xFo (a0 : Int) (a1 : Int) (a2 : Int) : List Arg := [.val (.v false [.int .i64 a0]), .val (.v false [.int .i64 a1]), .val (.v false [.int .i64 a2])]
def xEq (r : Bool) : CallO := ⟨.v false [.bool r], [], []⟩
def xGU (N : Nat) (a0 : Int) (a1 : Int) (a2 : Int) : Option (Bool) := bif (decide (a0 ≥ a1)) then (some (decide (a0 ≤ a2))) else (some false)
def xAs (a0 : Exp) : List Arg := [.val (.v true (Ex .ro a0))]
def xAr (r : Bool) : CallO := ⟨.v false [.bool r], [], []⟩
def xFW (N : Nat) (a0 : Exp) : Option (Bool) := bif ((Exp.kind a0) == 1) then (bif ((List.length (Exp.args a0) : Int) == 0) then (bif (((Exp.text a0) : Str) == []) then ((xGU N (Exp.n a0) 0 1000000000).bind fun r1 => some r1) else (some false)) else (some false)) else (bif ((Exp.kind a0) == 2) then (bif ((List.length (Exp.args a0) : Int) == 0) then (bif ((Exp.n a0) == 0) then ((xD1 N (Exp.text a0)).bind fun r1 => some r1) else (some false)) else (some false)) else (bif ((Exp.kind a0) == 3) then (bif ((List.length (Exp.args a0) : Int) == 0) then (bif ((Exp.n a0) == 0) then ((xCK N (Exp.text a0)).bind fun r1 => some r1) else (some false)) else (some false)) else (bif ((Exp.kind a0) == 4) then (bif ((Exp.n a0) == 0) then (bif (((Exp.text a0) : Str) == []) then (some (decide ((List.length (Exp.args a0) : Int) ≤ 8))) else (some false)) else (some false)) else (bif ((Exp.kind a0) == 5) then (bif ((Exp.n a0) == 0) then ((xBR N (Exp.text a0)).bind fun r1 => some ((List.length (Exp.args a0) : Int) == r1)) else (some false)) else (bif ((Exp.kind a0) == 6) then (bif (((Exp.text a0) : Str) == []) then (bif ((List.length (Exp.args a0) : Int) == 2) then ((xGU N (Exp.n a0) 1 5).bind fun r1 => some r1) else (some false)) else (some false)) else (bif ((Exp.kind a0) == 7) then (bif ((Exp.n a0) == 0) then (bif ((List.length (Exp.args a0) : Int) == 2) then ((xCK N (Exp.text a0)).bind fun r1 => some r1) else (some false)) else (some false)) else (bif ((Exp.kind a0) == 9) then (bif ((Exp.n a0) == 0) then (bif ((List.length (Exp.args a0) : Int) == 2) then ((xCK N (Exp.text a0)).bind fun r1 => some r1) else (some false)) else (some false)) else (bif ((Exp.kind a0) == 8) then (bif ((Exp.n a0) == 0) then (bif (((Exp.text a0) : Str) == []) then (some ((List.length (Exp.args a0) : Int) == 3)
            ) else (some false)) else (some false)) else (some false)))))))))
def xDG (a0 : Exp) : List Arg := [.val (.v true (Ex .ro a0))]
def xB1 (r : Bool) : CallO := ⟨.v false [.bool r], [], []⟩
def xEd (N : Nat) (q0 : Exp → Option (Bool)) : Nat → Int → Exp → Option (Bool)
 | 0, _, _ => none
 | n + 1, x3, b1 => bif (decide (x3 < (List.length (Exp.args b1) : Int))) then (if (0 : Int) ≤ x3 ∧ x3 < (List.length (Exp.args b1)) then (q0 (List.getD (Exp.args b1) (Int.toNat x3) Ty.exp.dflt)).bind fun r1 => bif (!r1) then (some false) else ((xEd N q0 n (IntKind.i64.wrap (x3 + 1)) b1)) else none) else ((xFW N b1).bind fun r1 => some r1)
def xF0 (N : Nat) (q0 : Exp → Option (Bool)) (a0 : Exp) : Option (Bool) := (xEd N q0 N 0 a0)
def xEN (N : Nat) : Nat → Exp → Option (Bool)
 | 0, _ => none
 | d + 1, a0 => xF0 N (xEN N d) a0
def xIi (N : Nat) (a0 : Exp) : Option (Bool) := xEN N N a0
def xDc (a0 : Exp) : List Arg := [.val (.v true (Ex .ro a0))]
def xBe (r : Bool) : CallO := ⟨.v false [.bool r], [], []⟩
def xCJ (N : Nat) (a0 : Exp) : Option (Bool) := (xHL N a0 40).bind fun r1 => bif (decide (r1 ≥ 0)) then ((xGI N a0).bind fun r2 => bif (decide (r2 ≤ 8)) then ((xIi N a0).bind fun r3 => some r3) else (some false)) else (some false)
def xBk (a0 : Str) : List Arg := [.val (.v false [.str a0])]
def xAF (r : Exp × Int) : CallO := ⟨.tup [(true, (Ex .ro r.1)), (false, [.int .i64 r.2])], [], []⟩
def xEc (N : Nat) (a0 : Str) : Option (Exp × Int) := (xEW N a0).bind fun r1 => bif (decide (r1.2 ≥ 0)) then (some ((Exp.mk 0 0 [] []), r1.2)) else ((xGy N (Rdr.mk r1.1 0 (List.length a0 : Int) (-1))).bind fun r2 => bif (decide ((Rdr.bad r2.2) < 0)) then (bif (decide ((Rdr.i r2.2) < (List.length r1.1 : Int))) then ((xBA N r2.2).bind fun r3 => bif (decide ((Rdr.bad r3.2) ≥ 0)) then (some ((Exp.mk 0 0 [] []), (Rdr.bad r3.2))) else ((xCJ N r2.1).bind fun r4 => bif (!r4) then (some ((Exp.mk 0 0 [] []), 0)) else (some (r2.1, (-1))))) else (bif (decide ((Rdr.bad r2.2) ≥ 0)) then (some ((Exp.mk 0 0 [] []), (Rdr.bad r2.2))) else ((xCJ N r2.1).bind fun r3 => bif (!r3) then (some ((Exp.mk 0 0 [] []), 0)) else (some (r2.1, (-1)))))) else (bif (decide ((Rdr.bad r2.2) ≥ 0)) then (some ((Exp.mk 0 0 [] []), (Rdr.bad r2.2))) else ((xCJ N r2.1).bind fun r3 => bif (!r3) then (some ((Exp.mk 0 0 [] []), 0)) else (some (r2.1, (-1))))))
def xIr (a0 : Str) (a1 : Int) (a2 : Int) : List Arg := [.val (.v false [.str a0]), .val (.v false [.int .i64 a1]), .val (.v false [.int .i64 a2])]
def xFt (r : Int × Bool) : CallO := ⟨.tup [(false, [.int .i64 r.1]), (false, [.bool r.2])], [], []⟩
def xGb (N : Nat) (a0 : Str) (a1 a2 : Int) : Option (Int × Bool) := zEp a0 a1 a2
def xE2 (a0 : Str) (a1 : Int) : List Arg := [.val (.v false [.str a0]), .val (.v false [.int .u8 a1])]
def xAN (r : Int) : CallO := ⟨.v false [.int .i64 r], [], []⟩
def strings_IndexByte (N : Nat) (a0 : Str) (a1 : Int) : Option Int := zFI a0 a1
def xC7 (a0 : Str) : List Arg := [.val (.v false [.str a0])]
def xAM (r : Bool) : CallO := ⟨.v false [.bool r], [], []⟩
def xDO (N : Nat) : Nat → Str → Int → Option (Bool)
 | 0, _, _ => none
 | n + 1, x0, x3 => bif (decide (x3 < (List.length x0 : Int))) then (if (0 : Int) ≤ x3 ∧ x3 < (List.length x0) then bif (decide ((((List.getD x0 (Int.toNat x3) 0).toNat : Int) : Int) < 32)) then (some false) else (bif (decide ((((List.getD x0 (Int.toNat x3) 0).toNat : Int) : Int) > 126)) then (some false) else (bif ((((List.getD x0 (Int.toNat x3) 0).toNat : Int) : Int) == 34) then (some false) else ((xDO N n x0 (IntKind.i64.wrap (x3 + 1)))))) else none) else (some (decide ((List.length x0 : Int) ≤ 20)))
def xCI (N : Nat) (a0 : Str) : Option (Bool) := (xDO N N a0 0)
def xF4 (a0 : Str) (a1 : Str) : List Arg := [.val (.v false [.str a0]), .val (.v false [.str a1])]
def xBr (r : Bool) : CallO := ⟨.v false [.bool r], [], []⟩
def strings_HasPrefix (N : Nat) (a0 a1 : Str) : Option Bool := zFH a0 a1
def xAE (a0 : Str) (a1 : Int) : List Arg := [.val (.v false [.str a0]), .val (.v false [.int .i64 a1])]
def xAP (r : Tok × Int × Bool) : CallO := ⟨.tup [(true, [.int .i64 (Tok.kind r.1), .int .i64 (Tok.n r.1), .int .i64 (Tok.pos r.1), .str (Tok.text r.1)]), (false, [.int .i64 r.2.1]), (false, [.bool r.2.2])], [], []⟩
def xCe (N : Nat) : Nat → Str → Int → Int → Tok → Option (Tok × Int × Bool)
 | 0, _, _, _, _ => none
 | n + 1, x0, x1, x7, b4 => bif (decide (x7 < (List.length x0 : Int))) then (if (0 : Int) ≤ x7 ∧ x7 < (List.length x0) then bif (decide ((((List.getD x0 (Int.toNat x7) 0).toNat : Int) : Int) ≥ 97)) then (bif (decide ((((List.getD x0 (Int.toNat x7) 0).toNat : Int) : Int) ≤ 122)) then ((xCe N n x0 x1 (IntKind.i64.wrap (x7 + 1)) b4)) else (bif (decide ((((List.getD x0 (Int.toNat x7) 0).toNat : Int) : Int) ≥ 48)) then (bif (decide ((((List.getD x0 (Int.toNat x7) 0).toNat : Int) : Int) ≤ 57)) then ((xCe N n x0 x1 (IntKind.i64.wrap (x7 + 1)) b4)) else (if (0 : Int) ≤ x1 ∧ x1 ≤ x7 ∧ x7 ≤ (List.length x0) then some ((Tok.mk 1 0 x1 (List.drop (Int.toNat x1) (List.take (Int.toNat x7) x0))), x7, (decide ((IntKind.i64.wrap (x7 - x1)) ≤ 8))) else none)) else (if (0 : Int) ≤ x1 ∧ x1 ≤ x7 ∧ x7 ≤ (List.length x0) then some ((Tok.mk 1 0 x1 (List.drop (Int.toNat x1) (List.take (Int.toNat x7) x0))), x7, (decide ((IntKind.i64.wrap (x7 - x1)) ≤ 8))) else none))) else (bif (decide ((((List.getD x0 (Int.toNat x7) 0).toNat : Int) : Int) ≥ 48)) then (bif (decide ((((List.getD x0 (Int.toNat x7) 0).toNat : Int) : Int) ≤ 57)) then ((xCe N n x0 x1 (IntKind.i64.wrap (x7 + 1)) b4)) else (if (0 : Int) ≤ x1 ∧ x1 ≤ x7 ∧ x7 ≤ (List.length x0) then some ((Tok.mk 1 0 x1 (List.drop (Int.toNat x1) (List.take (Int.toNat x7) x0))), x7, (decide ((IntKind.i64.wrap (x7 - x1)) ≤ 8))) else none)) else (if (0 : Int) ≤ x1 ∧ x1 ≤ x7 ∧ x7 ≤ (List.length x0) then some ((Tok.mk 1 0 x1 (List.drop (Int.toNat x1) (List.take (Int.toNat x7) x0))), x7, (decide ((IntKind.i64.wrap (x7 - x1)) ≤ 8))) else none)) else none) else (if (0 : Int) ≤ x1 ∧ x1 ≤ x7 ∧ x7 ≤ (List.length x0) then some ((Tok.mk 1 0 x1 (List.drop (Int.toNat x1) (List.take (Int.toNat x7) x0))), x7, (decide ((IntKind.i64.wrap (x7 - x1)) ≤ 8))) else none)
def xCA (N : Nat) : Nat → Str → Int → Int → Tok → Option (Tok × Int × Bool)
 | 0, _, _, _, _ => none
 | n + 1, x0, x1, x7, b4 => bif (decide (x7 < (List.length x0 : Int))) then (if (0 : Int) ≤ x7 ∧ x7 < (List.length x0) then bif (decide ((((List.getD x0 (Int.toNat x7) 0).toNat : Int) : Int) ≥ 48)) then (bif (decide ((((List.getD x0 (Int.toNat x7) 0).toNat : Int) : Int) ≤ 57)) then ((xCA N n x0 x1 (IntKind.i64.wrap (x7 + 1)) b4)) else (if (0 : Int) ≤ x1 ∧ x1 ≤ x7 ∧ x7 ≤ (List.length x0) then (xGb N (List.drop (Int.toNat x1) (List.take (Int.toNat x7) x0)) 0 1000000000).bind fun r1 => some ((Tok.mk 2 r1.1 x1 []), x7, r1.2) else none)) else (if (0 : Int) ≤ x1 ∧ x1 ≤ x7 ∧ x7 ≤ (List.length x0) then (xGb N (List.drop (Int.toNat x1) (List.take (Int.toNat x7) x0)) 0 1000000000).bind fun r1 => some ((Tok.mk 2 r1.1 x1 []), x7, r1.2) else none) else none) else (if (0 : Int) ≤ x1 ∧ x1 ≤ x7 ∧ x7 ≤ (List.length x0) then (xGb N (List.drop (Int.toNat x1) (List.take (Int.toNat x7) x0)) 0 1000000000).bind fun r1 => some ((Tok.mk 2 r1.1 x1 []), x7, r1.2) else none)
def xFS (N : Nat) (a0 : Str) (a1 : Int) : Option (Tok × Int × Bool) := if (0 : Int) ≤ a1 ∧ a1 < (List.length a0) then bif (decide ((((List.getD a0 (Int.toNat a1) 0).toNat : Int) : Int) ≥ 97)) then (bif (decide ((((List.getD a0 (Int.toNat a1) 0).toNat : Int) : Int) ≤ 122)) then ((xCe N N a0 a1 a1 (Tok.mk 0 0 0 []))) else (bif (decide ((((List.getD a0 (Int.toNat a1) 0).toNat : Int) : Int) ≥ 48)) then (bif (decide ((((List.getD a0 (Int.toNat a1) 0).toNat : Int) : Int) ≤ 57)) then ((xCA N N a0 a1 a1 (Tok.mk 0 0 0 []))) else (bif ((((List.getD a0 (Int.toNat a1) 0).toNat : Int) : Int) == 34) then (if (0 : Int) ≤ (IntKind.i64.wrap (a1 + 1)) ∧ (IntKind.i64.wrap (a1 + 1)) ≤ (List.length a0) then (strings_IndexByte N (List.drop (Int.toNat (IntKind.i64.wrap (a1 + 1))) a0) 34).bind fun r1 => bif (decide (r1 < 0)) then (some ((Tok.mk 0 0 0 []), 0, false)) else (if (0 : Int) ≤ (IntKind.i64.wrap (a1 + 1)) ∧ (IntKind.i64.wrap (a1 + 1)) ≤ (IntKind.i64.wrap ((IntKind.i64.wrap (a1 + 1)) + r1)) ∧ (IntKind.i64.wrap ((IntKind.i64.wrap (a1 + 1)) + r1)) ≤ (List.length a0) then (xCI N (List.drop (Int.toNat (IntKind.i64.wrap (a1 + 1))) (List.take (Int.toNat (IntKind.i64.wrap ((IntKind.i64.wrap (a1 + 1)) + r1))) a0))).bind fun r2 => some ((Tok.mk 3 0 a1 (List.drop (Int.toNat (IntKind.i64.wrap (a1 + 1))) (List.take (Int.toNat (IntKind.i64.wrap ((IntKind.i64.wrap (a1 + 1)) + r1))) a0))), (IntKind.i64.wrap ((IntKind.i64.wrap (a1 + r1)) + 2)), r2) else none) else none) else (if (0 : Int) ≤ a1 ∧ a1 ≤ (List.length a0) then (strings_HasPrefix N (List.drop (Int.toNat a1) a0) [61, 61]).bind fun r1 => bif r1 then (some ((Tok.mk 4 0 a1 [61, 61]), (IntKind.i64.wrap (a1 + 2)), true)) else (if (0 : Int) ≤ a1 ∧ a1 ≤ (IntKind.i64.wrap (a1 + 1)) ∧ (IntKind.i64.wrap (a1 + 1)) ≤ (List.length a0) then (strings_IndexByte N [40, 41, 91, 93, 44, 43, 45, 42, 60, 61] ((List.getD a0 (Int.toNat a1) 0).toNat : Int)).bind fun r2 =>
     some ((Tok.mk 4 0 a1 (List.drop (Int.toNat a1) (List.take (Int.toNat (IntKind.i64.wrap (a1 + 1))) a0))), (IntKind.i64.wrap (a1 + 1)), (decide (r2 ≥ 0))) else none) else none))) else (bif ((((List.getD a0 (Int.toNat a1) 0).toNat : Int) : Int) == 34) then (if (0 : Int) ≤ (IntKind.i64.wrap (a1 + 1)) ∧ (IntKind.i64.wrap (a1 + 1)) ≤ (List.length a0) then (strings_IndexByte N (List.drop (Int.toNat (IntKind.i64.wrap (a1 + 1))) a0) 34).bind fun r1 => bif (decide (r1 < 0)) then (some ((Tok.mk 0 0 0 []), 0, false)) else (if (0 : Int) ≤ (IntKind.i64.wrap (a1 + 1)) ∧ (IntKind.i64.wrap (a1 + 1)) ≤ (IntKind.i64.wrap ((IntKind.i64.wrap (a1 + 1)) + r1)) ∧ (IntKind.i64.wrap ((IntKind.i64.wrap (a1 + 1)) + r1)) ≤ (List.length a0) then (xCI N (List.drop (Int.toNat (IntKind.i64.wrap (a1 + 1))) (List.take (Int.toNat (IntKind.i64.wrap ((IntKind.i64.wrap (a1 + 1)) + r1))) a0))).bind fun r2 => some ((Tok.mk 3 0 a1 (List.drop (Int.toNat (IntKind.i64.wrap (a1 + 1))) (List.take (Int.toNat (IntKind.i64.wrap ((IntKind.i64.wrap (a1 + 1)) + r1))) a0))), (IntKind.i64.wrap ((IntKind.i64.wrap (a1 + r1)) + 2)), r2) else none) else none) else (if (0 : Int) ≤ a1 ∧ a1 ≤ (List.length a0) then (strings_HasPrefix N (List.drop (Int.toNat a1) a0) [61, 61]).bind fun r1 => bif r1 then (some ((Tok.mk 4 0 a1 [61, 61]), (IntKind.i64.wrap (a1 + 2)), true)) else (if (0 : Int) ≤ a1 ∧ a1 ≤ (IntKind.i64.wrap (a1 + 1)) ∧ (IntKind.i64.wrap (a1 + 1)) ≤ (List.length a0) then (strings_IndexByte N [40, 41, 91, 93, 44, 43, 45, 42, 60, 61] ((List.getD a0 (Int.toNat a1) 0).toNat : Int)).bind fun r2 => some ((Tok.mk 4 0 a1 (List.drop (Int.toNat a1) (List.take (Int.toNat (IntKind.i64.wrap (a1 + 1))) a0))), (IntKind.i64.wrap (a1 + 1)), (decide (r2 ≥ 0))) else none) else none)))) else (bif (decide ((((List.getD a0 (Int.toNat a1) 0).toNat : Int) : Int) ≥ 48)) then (bif (decide ((((List.getD a0 (Int.toNat a1) 0).toNat : Int) : Int) ≤ 57)) then ((xCA N N a0 a1 a1 (Tok.mk 0 0 0 []))
     ) else (bif ((((List.getD a0 (Int.toNat a1) 0).toNat : Int) : Int) == 34) then (if (0 : Int) ≤ (IntKind.i64.wrap (a1 + 1)) ∧ (IntKind.i64.wrap (a1 + 1)) ≤ (List.length a0) then (strings_IndexByte N (List.drop (Int.toNat (IntKind.i64.wrap (a1 + 1))) a0) 34).bind fun r1 => bif (decide (r1 < 0)) then (some ((Tok.mk 0 0 0 []), 0, false)) else (if (0 : Int) ≤ (IntKind.i64.wrap (a1 + 1)) ∧ (IntKind.i64.wrap (a1 + 1)) ≤ (IntKind.i64.wrap ((IntKind.i64.wrap (a1 + 1)) + r1)) ∧ (IntKind.i64.wrap ((IntKind.i64.wrap (a1 + 1)) + r1)) ≤ (List.length a0) then (xCI N (List.drop (Int.toNat (IntKind.i64.wrap (a1 + 1))) (List.take (Int.toNat (IntKind.i64.wrap ((IntKind.i64.wrap (a1 + 1)) + r1))) a0))).bind fun r2 => some ((Tok.mk 3 0 a1 (List.drop (Int.toNat (IntKind.i64.wrap (a1 + 1))) (List.take (Int.toNat (IntKind.i64.wrap ((IntKind.i64.wrap (a1 + 1)) + r1))) a0))), (IntKind.i64.wrap ((IntKind.i64.wrap (a1 + r1)) + 2)), r2) else none) else none) else (if (0 : Int) ≤ a1 ∧ a1 ≤ (List.length a0) then (strings_HasPrefix N (List.drop (Int.toNat a1) a0) [61, 61]).bind fun r1 => bif r1 then (some ((Tok.mk 4 0 a1 [61, 61]), (IntKind.i64.wrap (a1 + 2)), true)) else (if (0 : Int) ≤ a1 ∧ a1 ≤ (IntKind.i64.wrap (a1 + 1)) ∧ (IntKind.i64.wrap (a1 + 1)) ≤ (List.length a0) then (strings_IndexByte N [40, 41, 91, 93, 44, 43, 45, 42, 60, 61] ((List.getD a0 (Int.toNat a1) 0).toNat : Int)).bind fun r2 => some ((Tok.mk 4 0 a1 (List.drop (Int.toNat a1) (List.take (Int.toNat (IntKind.i64.wrap (a1 + 1))) a0))), (IntKind.i64.wrap (a1 + 1)), (decide (r2 ≥ 0))) else none) else none))) else (bif ((((List.getD a0 (Int.toNat a1) 0).toNat : Int) : Int) == 34) then (if (0 : Int) ≤ (IntKind.i64.wrap (a1 + 1)) ∧ (IntKind.i64.wrap (a1 + 1)) ≤ (List.length a0) then (strings_IndexByte N (List.drop (Int.toNat (IntKind.i64.wrap (a1 + 1))) a0) 34).bind fun r1 => bif (decide (r1 < 0)) then (some ((Tok.mk 0 0 0 []), 0, false)) else (if (0 : Int) ≤ (IntKind.i64.wrap (a1 + 1)) ∧ (IntKind.i64.wrap (a1 + 1)) ≤ (IntKind.i64.wrap ((IntKind.i64.wrap (a1 + 1)) + r1)) ∧ (IntKind.i64.wrap ((IntKind.i64.wrap (a1 + 1)) + r1)) ≤ (List.length a0) then
        (xCI N (List.drop (Int.toNat (IntKind.i64.wrap (a1 + 1))) (List.take (Int.toNat (IntKind.i64.wrap ((IntKind.i64.wrap (a1 + 1)) + r1))) a0))).bind fun r2 => some ((Tok.mk 3 0 a1 (List.drop (Int.toNat (IntKind.i64.wrap (a1 + 1))) (List.take (Int.toNat (IntKind.i64.wrap ((IntKind.i64.wrap (a1 + 1)) + r1))) a0))), (IntKind.i64.wrap ((IntKind.i64.wrap (a1 + r1)) + 2)), r2) else none) else none) else (if (0 : Int) ≤ a1 ∧ a1 ≤ (List.length a0) then (strings_HasPrefix N (List.drop (Int.toNat a1) a0) [61, 61]).bind fun r1 => bif r1 then (some ((Tok.mk 4 0 a1 [61, 61]), (IntKind.i64.wrap (a1 + 2)), true)) else (if (0 : Int) ≤ a1 ∧ a1 ≤ (IntKind.i64.wrap (a1 + 1)) ∧ (IntKind.i64.wrap (a1 + 1)) ≤ (List.length a0) then (strings_IndexByte N [40, 41, 91, 93, 44, 43, 45, 42, 60, 61] ((List.getD a0 (Int.toNat a1) 0).toNat : Int)).bind fun r2 => some ((Tok.mk 4 0 a1 (List.drop (Int.toNat a1) (List.take (Int.toNat (IntKind.i64.wrap (a1 + 1))) a0))), (IntKind.i64.wrap (a1 + 1)), (decide (r2 ≥ 0))) else none) else none))) else none
def xEw (a0 : Str) : List Arg := [.val (.v false [.str a0])]
def xAH (r : (List Tok) × Int) : CallO := ⟨.tup [(false, [.sl .own .tok r.1]), (false, [.int .i64 r.2])], [], []⟩
def xDw (N : Nat) : Nat → Str → (List Tok) → Int → Option ((List Tok) × Int)
 | 0, _, _, _ => none
 | n + 1, x0, x4, x5 => bif (decide (x5 < (List.length x0 : Int))) then (if (0 : Int) ≤ x5 ∧ x5 < (List.length x0) then bif ((((List.getD x0 (Int.toNat x5) 0).toNat : Int) : Int) == 32) then ((xDw N n x0 x4 (IntKind.i64.wrap (x5 + 1)))) else ((xFS N x0 x5).bind fun r1 => bif (!r1.2.2) then (some ([], x5)) else (bif ((List.length x4 : Int) == 60) then (some ([], x5)) else (if List.length x4 + List.length [r1.1] ≤ Lim then (xDw N n x0 (x4 ++ [r1.1]) r1.2.1) else none))) else none) else (some (x4, (-1)))
def xES (N : Nat) (a0 : Str) : Option ((List Tok) × Int) := bif (decide ((List.length a0 : Int) > 120)) then (some ([], 120)) else ((xDw N N a0 [] 0))
def xCL (a0 : Psr) : List Arg := [.box (Ps .ro a0)]
def xAf (r : Tok × Psr) : CallO := ⟨.v true [.int .i64 (Tok.kind r.1), .int .i64 (Tok.n r.1), .int .i64 (Tok.pos r.1), .str (Tok.text r.1)], [(Ps .ro r.2)], []⟩
def xBm (N : Nat) (a0 : Psr) : Option (Tok × Psr) := bif (decide ((Psr.bad a0) < 0)) then (bif (decide ((Psr.pos a0) < (List.length (Psr.list a0) : Int))) then (if (0 : Int) ≤ (Psr.pos a0) ∧ (Psr.pos a0) < (List.length (Psr.list a0)) then some ((List.getD (Psr.list a0) (Int.toNat (Psr.pos a0)) Ty.tok.dflt), a0) else none) else (some ((Tok.mk 0 0 0 []), a0))) else (some ((Tok.mk 0 0 0 []), a0))
def xBi (a0 : Tok) (a1 : Str) : List Arg := [.val (.v true [.int .i64 (Tok.kind a0), .int .i64 (Tok.n a0), .int .i64 (Tok.pos a0), .str (Tok.text a0)]), .val (.v false [.str a1])]
def xAt (r : Bool) : CallO := ⟨.v false [.bool r], [], []⟩
def xDD (N : Nat) (a0 : Tok) (a1 : Str) : Option (Bool) := bif ((Tok.kind a0) == 1) then (some (((Tok.text a0) : Str) == a1)) else (some false)
def xCB (a0 : Int) (a1 : Int) (a2 : Int) : List Arg := [.val (.v false [.int .i64 a0]), .val (.v false [.int .i64 a1]), .val (.v false [.int .i64 a2])]
def xAZ (r : Bool) : CallO := ⟨.v false [.bool r], [], []⟩
def xEI (N : Nat) (a0 : Int) (a1 : Int) (a2 : Int) : Option (Bool) := bif (decide (a1 ≤ a0)) then (some (decide (a0 ≤ a2))) else (some false)
def xE3 (a0 : Str) : List Arg := [.val (.v false [.str a0])]
def xBN (r : Bool) : CallO := ⟨.v false [.bool r], [], []⟩
def xDh (N : Nat) : Nat → Str → Int → Option (Bool)
 | 0, _, _ => none
 | n + 1, x0, x3 => bif (decide (x3 < (List.length x0 : Int))) then (if (0 : Int) ≤ x3 ∧ x3 < (List.length x0) then bif (decide ((((List.getD x0 (Int.toNat x3) 0).toNat : Int) : Int) ≥ 97)) then (bif (!(decide ((((List.getD x0 (Int.toNat x3) 0).toNat : Int) : Int) ≤ 122))) then (bif (x3 == 0) then (some false) else (bif (decide ((((List.getD x0 (Int.toNat x3) 0).toNat : Int) : Int) < 48)) then (some false) else (bif (decide ((((List.getD x0 (Int.toNat x3) 0).toNat : Int) : Int) > 57)) then (some false) else ((xDh N n x0 (IntKind.i64.wrap (x3 + 1))))))) else ((xDh N n x0 (IntKind.i64.wrap (x3 + 1))))) else (bif (x3 == 0) then (some false) else (bif (decide ((((List.getD x0 (Int.toNat x3) 0).toNat : Int) : Int) < 48)) then (some false) else (bif (decide ((((List.getD x0 (Int.toNat x3) 0).toNat : Int) : Int) > 57)) then (some false) else ((xDh N n x0 (IntKind.i64.wrap (x3 + 1))))))) else none) else ((xEI N (List.length x0 : Int) 1 8).bind fun r1 => some r1)
def xG0 (N : Nat) (a0 : Str) : Option (Bool) := (xDh N N a0 0)
def xAj (a0 : Str) : List Arg := [.val (.v false [.str a0])]
def xAg (r : Int) : CallO := ⟨.v false [.int .i64 r], [], []⟩
def xCx (N : Nat) (a0 : Str) : Option (Int) := bif ((a0 : Str) == [99, 108, 111, 99, 107]) then (some 0) else (bif ((a0 : Str) == [108, 101, 110]) then (some 1) else (bif ((a0 : Str) == [115, 117, 109]) then (some 1) else (bif ((a0 : Str) == [114, 111, 119, 115]) then (some 1) else (bif ((a0 : Str) == [99, 104, 97, 110, 99, 101]) then (some 1) else (bif ((a0 : Str) == [102, 105, 108, 101]) then (some 1) else (bif ((a0 : Str) == [116, 97, 107, 101]) then (some 2) else (bif ((a0 : Str) == [115, 107, 105, 112]) then (some 2) else (bif ((a0 : Str) == [114, 97, 110, 103, 101]) then (some 2) else (bif ((a0 : Str) == [110, 116, 104]) then (some 2) else (bif ((a0 : Str) == [107, 101, 101, 112]) then (some 2) else (bif ((a0 : Str) == [99, 111, 108, 117, 109, 110]) then (some 2) else (bif ((a0 : Str) == [116, 97, 98, 108, 101]) then (some 2) else (bif ((a0 : Str) == [119, 104, 101, 114, 101]) then (some 3) else (bif ((a0 : Str) == [103, 114, 111, 117, 112]) then (some 3) else (bif ((a0 : Str) == [106, 111, 105, 110]) then (some 3) else (bif ((a0 : Str) == [97, 100, 100]) then (some 4) else (some (-1))))))))))))))))))
def xBy (a0 : Str) : List Arg := [.val (.v false [.str a0])]
def xBl (r : Bool) : CallO := ⟨.v false [.bool r], [], []⟩
def xEH (N : Nat) (a0 : Str) : Option (Bool) := bif ((a0 : Str) == [108, 101, 116]) then (some true) else (bif ((a0 : Str) == [105, 110]) then (some true) else (bif ((a0 : Str) == [105, 102]) then (some true) else (bif ((a0 : Str) == [116, 104, 101, 110]) then (some true) else (bif ((a0 : Str) == [101, 108, 115, 101]) then (some true) else (bif ((a0 : Str) == [102, 111, 114]) then (some true) else (bif ((a0 : Str) == [100, 111]) then (some true) else ((xCx N a0).bind fun r1 => some (decide (r1 ≥ 0)))))))))
def xC6 (a0 : Str) : List Arg := [.val (.v false [.str a0])]
def xAz (r : Bool) : CallO := ⟨.v false [.bool r], [], []⟩
def xCH (N : Nat) (a0 : Str) : Option (Bool) := (xG0 N a0).bind fun r1 => bif r1 then ((xEH N a0).bind fun r2 => some (!r2)) else (some false)
def xBT (a0 : Psr) : List Arg := [.box (Ps .ro a0)]
def xAU (r : Exp × Psr) : CallO := ⟨.v true (Ex .own r.1), [(Ps .ro r.2)], []⟩
def xBI (N : Nat) (a0 : Psr) : Option (Exp × Psr) := bif (decide ((Psr.bad a0) < 0)) then (some ((Exp.mk 0 0 [] []), (Psr.mk (Psr.list a0) (Psr.pos a0) (Psr.pos a0)))) else (some ((Exp.mk 0 0 [] []), a0))
def xDa (a0 : Psr) : List Arg := [.box (Ps .ro a0)]
def xCd (r : Str × Psr) : CallO := ⟨.v false [.str r.1], [(Ps .ro r.2)], []⟩
def xBJ (N : Nat) (a0 : Psr) : Option (Str × Psr) := (xBm N a0).bind fun r1 => bif ((Tok.kind r1.1) != 1) then ((xBI N r1.2).bind fun r2 => some ([], r2.2)) else ((xCH N (Tok.text r1.1)).bind fun r2 => bif (!r2) then ((xBI N r1.2).bind fun r3 => some ([], r3.2)) else (some ((Tok.text r1.1), (Psr.mk (Psr.list r1.2) (IntKind.i64.wrap ((Psr.pos r1.2) + 1)) (Psr.bad r1.2)))))
def xCY (a0 : Tok) (a1 : Str) : List Arg := [.val (.v true [.int .i64 (Tok.kind a0), .int .i64 (Tok.n a0), .int .i64 (Tok.pos a0), .str (Tok.text a0)]), .val (.v false [.str a1])]
def xBH (r : Bool) : CallO := ⟨.v false [.bool r], [], []⟩
def xER (N : Nat) (a0 : Tok) (a1 : Str) : Option (Bool) := bif ((Tok.kind a0) == 4) then (some (((Tok.text a0) : Str) == a1)) else (some false)
def xAR (a0 : Psr) (a1 : Str) : List Arg := [.box (Ps .ro a0), .val (.v false [.str a1])]
def xAp (r : Psr) : CallO := ⟨.tup [], [(Ps .ro r)], []⟩
def xAx (N : Nat) (a0 : Psr) (a1 : Str) : Option (Psr) := (xBm N a0).bind fun r1 => (xDD N r1.1 a1).bind fun r2 => bif r2 then (some (Psr.mk (Psr.list r1.2) (IntKind.i64.wrap ((Psr.pos r1.2) + 1)) (Psr.bad r1.2))) else ((xBm N r1.2).bind fun r3 => (xER N r3.1 a1).bind fun r4 => bif r4 then (some (Psr.mk (Psr.list r3.2) (IntKind.i64.wrap ((Psr.pos r3.2) + 1)) (Psr.bad r3.2))) else ((xBI N r3.2).bind fun r5 => some r5.2))
def xAm (a0 : Psr) (a1 : Str) : List Arg := [.box (Ps .ro a0), .val (.v false [.str a1])]
def xAc (r : Bool × Psr) : CallO := ⟨.v false [.bool r.1], [(Ps .ro r.2)], []⟩
def xAC (N : Nat) (a0 : Psr) (a1 : Str) : Option (Bool × Psr) := (xBm N a0).bind fun r1 => (xER N r1.1 a1).bind fun r2 => bif r2 then (some (true, (Psr.mk (Psr.list r1.2) (IntKind.i64.wrap ((Psr.pos r1.2) + 1)) (Psr.bad r1.2)))) else (some (false, r1.2))
def xDY (a0 : Int) : List Arg := [.val (.v false [.int .i64 a0])]
def xCZ (r : Str) : CallO := ⟨.v false [.str r], [], []⟩
def xFr (N : Nat) (a0 : Int) : Option (Str) := (xEI N a0 1 5).bind fun r1 => bif (!r1) then (some [63]) else (if (0 : Int) ≤ (IntKind.i64.wrap (a0 - 1)) ∧ (IntKind.i64.wrap (a0 - 1)) < (List.length [[43], [45], [42], [60], [61, 61]]) then some (List.getD [[43], [45], [42], [60], [61, 61]] (Int.toNat (IntKind.i64.wrap (a0 - 1))) Ty.str.dflt) else none)
def xAQ (a0 : Psr) : List Arg := [.box (Ps .ro a0)]
def xAG (r : Exp × Psr) : CallO := ⟨.v true (Ex .own r.1), [(Ps .ro r.2)], []⟩
def xCb (N : Nat) (q0 : Psr → Option (Exp × Psr)) (q1 : Psr → Option (Exp × Psr)) (q2 : Psr → Str → Option ((List Exp) × Psr)) (q3 : Psr → Option (Exp × Psr)) (q4 : Psr → Option (Exp × Psr)) (a0 : Psr) : Option (Exp × Psr) := (xBm N a0).bind fun r1 => bif ((Tok.kind r1.1) == 2) then (some ((Exp.mk 1 (Tok.n r1.1) [] []), (Psr.mk (Psr.list r1.2) (IntKind.i64.wrap ((Psr.pos r1.2) + 1)) (Psr.bad r1.2)))) else (bif ((Tok.kind r1.1) == 3) then (some ((Exp.mk 2 0 (Tok.text r1.1) []), (Psr.mk (Psr.list r1.2) (IntKind.i64.wrap ((Psr.pos r1.2) + 1)) (Psr.bad r1.2)))) else (bif ((Tok.kind r1.1) == 1) then ((xCH N (Tok.text r1.1)).bind fun r2 => bif r2 then (some ((Exp.mk 3 0 (Tok.text r1.1) []), (Psr.mk (Psr.list r1.2) (IntKind.i64.wrap ((Psr.pos r1.2) + 1)) (Psr.bad r1.2)))) else ((xCx N (Tok.text r1.1)).bind fun r3 => bif (decide (r3 ≥ 0)) then ((xAx N (Psr.mk (Psr.list r1.2) (IntKind.i64.wrap ((Psr.pos r1.2) + 1)) (Psr.bad r1.2)) [40]).bind fun r4 => (q2 r4 [41]).bind fun r5 => some ((Exp.mk 5 0 (Tok.text r1.1) r5.1), r5.2)) else ((xAC N r1.2 [91]).bind fun r4 => bif r4.1 then ((q2 r4.2 [93]).bind fun r5 => some ((Exp.mk 4 0 [] r5.1), r5.2)) else ((xAC N r4.2 [40]).bind fun r5 => bif r5.1 then ((q1 r5.2).bind fun r6 => (xAx N r6.2 [41]).bind fun r7 => some (r6.1, r7)) else ((xBI N r5.2).bind fun r6 => some (r6.1, r6.2)))))) else ((xAC N r1.2 [91]).bind fun r2 => bif r2.1 then ((q2 r2.2 [93]).bind fun r3 => some ((Exp.mk 4 0 [] r3.1), r3.2)) else ((xAC N r2.2 [40]).bind fun r3 => bif r3.1 then ((q1 r3.2).bind fun r4 => (xAx N r4.2 [41]).bind fun r5 => some (r4.1, r5)) else ((xBI N r3.2).bind fun r4 => some (r4.1, r4.2))))))
def xA4 (a0 : Psr) : List Arg := [.box (Ps .ro a0)]
def xAe (r : Exp × Psr) : CallO := ⟨.v true (Ex .own r.1), [(Ps .ro r.2)], []⟩
def xCs (N : Nat) (q0 : Psr → Option (Exp × Psr)) (q1 : Psr → Option (Exp × Psr)) (q2 : Psr → Str → Option ((List Exp) × Psr)) (q3 : Psr → Option (Exp × Psr)) (q4 : Psr → Option (Exp × Psr)) : Nat → (List Int) → Int → Int → Psr → Exp → Exp → Option (Exp × Psr)
 | 0, _, _, _, _, _, _ => none
 | n + 1, x115, x116, x117, b0, b2, b6 => bif (decide (x117 < x116)) then (if (0 : Int) ≤ x117 ∧ x117 < (List.length x115) then (xFr N (List.getD x115 (Int.toNat x117) Ty.int.dflt)).bind fun r1 => (xAC N b0 r1).bind fun r2 => bif r2.1 then ((q4 r2.2).bind fun r3 => some ((Exp.mk 6 (List.getD x115 (Int.toNat x117) Ty.int.dflt) [] [(Exp.re b6), (Exp.re r3.1)]), r3.2)) else ((xCs N q0 q1 q2 q3 q4 n x115 x116 (IntKind.i64.wrap (x117 + 1)) r2.2 b2 b6)) else none) else (some (b6, b0))
def xCc (N : Nat) (q0 : Psr → Option (Exp × Psr)) (q1 : Psr → Option (Exp × Psr)) (q2 : Psr → Str → Option ((List Exp) × Psr)) (q3 : Psr → Option (Exp × Psr)) (q4 : Psr → Option (Exp × Psr)) (a0 : Psr) : Option (Exp × Psr) := (xBm N a0).bind fun r1 => (xDD N r1.1 [108, 101, 116]).bind fun r2 => bif r2 then ((xBJ N (Psr.mk (Psr.list r1.2) (IntKind.i64.wrap ((Psr.pos r1.2) + 1)) (Psr.bad r1.2))).bind fun r3 => (xAx N r3.2 [61]).bind fun r4 => (q1 r4).bind fun r5 => if 0 + List.length [(Exp.re r5.1)] ≤ Lim then (xAx N r5.2 [105, 110]).bind fun r6 => (q1 r6).bind fun r7 => if List.length ([] ++ [(Exp.re r5.1)]) + List.length [(Exp.re r7.1)] ≤ Lim then some ((Exp.mk 7 0 r3.1 (([] ++ [(Exp.re r5.1)]) ++ [(Exp.re r7.1)])), r7.2) else none else none) else ((xBm N r1.2).bind fun r3 => (xDD N r3.1 [105, 102]).bind fun r4 => bif r4 then ((q1 (Psr.mk (Psr.list r3.2) (IntKind.i64.wrap ((Psr.pos r3.2) + 1)) (Psr.bad r3.2))).bind fun r5 => if 0 + List.length [(Exp.re r5.1)] ≤ Lim then (xAx N r5.2 [116, 104, 101, 110]).bind fun r6 => (q1 r6).bind fun r7 => if List.length ([] ++ [(Exp.re r5.1)]) + List.length [(Exp.re r7.1)] ≤ Lim then (xAx N r7.2 [101, 108, 115, 101]).bind fun r8 => (q1 r8).bind fun r9 => if List.length (([] ++ [(Exp.re r5.1)]) ++ [(Exp.re r7.1)]) + List.length [(Exp.re r9.1)] ≤ Lim then some ((Exp.mk 8 0 [] ((([] ++ [(Exp.re r5.1)]) ++ [(Exp.re r7.1)]) ++ [(Exp.re r9.1)])), r9.2) else none else none else none) else ((xBm N r3.2).bind fun r5 => (xDD N r5.1 [102, 111, 114]).bind fun r6 => bif r6 then ((xBJ N (Psr.mk (Psr.list r5.2) (IntKind.i64.wrap ((Psr.pos r5.2) + 1)) (Psr.bad r5.2))).bind fun r7 => (xAx N r7.2 [105, 110]).bind fun r8 => (q1 r8).bind fun r9 =>
     if 0 + List.length [(Exp.re r9.1)] ≤ Lim then (xAx N r9.2 [100, 111]).bind fun r10 => (q1 r10).bind fun r11 => if List.length ([] ++ [(Exp.re r9.1)]) + List.length [(Exp.re r11.1)] ≤ Lim then some ((Exp.mk 9 0 r7.1 (([] ++ [(Exp.re r9.1)]) ++ [(Exp.re r11.1)])), r11.2) else none else none) else ((q4 r5.2).bind fun r7 => (xCs N q0 q1 q2 q3 q4 N [4, 5] (List.length [4, 5] : Int) 0 r7.2 (Exp.mk 0 0 [] []) r7.1))))
def xB2 (a0 : Psr) (a1 : Str) : List Arg := [.box (Ps .ro a0), .val (.v false [.str a1])]
def xAX (r : (List Exp) × Psr) : CallO := ⟨.v false [.sl .own .exp r.1], [(Ps .ro r.2)], []⟩
def xB3 (N : Nat) (q0 : Psr → Option (Exp × Psr)) (q1 : Psr → Option (Exp × Psr)) (q2 : Psr → Str → Option ((List Exp) × Psr)) (q3 : Psr → Option (Exp × Psr)) (q4 : Psr → Option (Exp × Psr)) : Nat → Str → (List Exp) → Psr → Option ((List Exp) × Psr)
 | 0, _, _, _ => none
 | n + 1, x1, x5, b0 => bif (decide ((Psr.bad b0) < 0)) then ((q1 b0).bind fun r1 => if List.length x5 + List.length [(Exp.re r1.1)] ≤ Lim then (xAC N r1.2 x1).bind fun r2 => bif r2.1 then (some ((x5 ++ [(Exp.re r1.1)]), r2.2)) else ((xAx N r2.2 [44]).bind fun r3 => (xB3 N q0 q1 q2 q3 q4 n x1 (x5 ++ [(Exp.re r1.1)]) r3)) else none) else (some (x5, b0))
def xB5 (N : Nat) (q0 : Psr → Option (Exp × Psr)) (q1 : Psr → Option (Exp × Psr)) (q2 : Psr → Str → Option ((List Exp) × Psr)) (q3 : Psr → Option (Exp × Psr)) (q4 : Psr → Option (Exp × Psr)) (a0 : Psr) (a1 : Str) : Option ((List Exp) × Psr) := (xAC N a0 a1).bind fun r1 => bif r1.1 then (some ([], r1.2)) else ((xB3 N q0 q1 q2 q3 q4 N a1 [] r1.2))
def xB6 (a0 : Psr) : List Arg := [.box (Ps .ro a0)]
def xA0 (r : Exp × Psr) : CallO := ⟨.v true (Ex .own r.1), [(Ps .ro r.2)], []⟩
def xBF (N : Nat) (q0 : Psr → Option (Exp × Psr)) (q1 : Psr → Option (Exp × Psr)) (q2 : Psr → Str → Option ((List Exp) × Psr)) (q3 : Psr → Option (Exp × Psr)) (q4 : Psr → Option (Exp × Psr)) : Nat → Psr → Exp → Exp → Option (Exp × Psr)
 | 0, _, _, _ => none
 | n + 1, b0, b2, b3 => (xAC N b0 [42]).bind fun r1 => bif r1.1 then ((q0 r1.2).bind fun r2 => (xBF N q0 q1 q2 q3 q4 n r2.2 b2 (Exp.mk 6 3 [] [(Exp.re b3), (Exp.re r2.1)]))) else (some (b3, r1.2))
def xBL (N : Nat) (q0 : Psr → Option (Exp × Psr)) (q1 : Psr → Option (Exp × Psr)) (q2 : Psr → Str → Option ((List Exp) × Psr)) (q3 : Psr → Option (Exp × Psr)) (q4 : Psr → Option (Exp × Psr)) (a0 : Psr) : Option (Exp × Psr) := (q0 a0).bind fun r1 => (xBF N q0 q1 q2 q3 q4 N r1.2 (Exp.mk 0 0 [] []) r1.1)
def xDt (a0 : Psr) : List Arg := [.box (Ps .ro a0)]
def xBP (r : Exp × Psr) : CallO := ⟨.v true (Ex .own r.1), [(Ps .ro r.2)], []⟩
def xBO (N : Nat) (q0 : Psr → Option (Exp × Psr)) (q1 : Psr → Option (Exp × Psr)) (q2 : Psr → Str → Option ((List Exp) × Psr)) (q3 : Psr → Option (Exp × Psr)) (q4 : Psr → Option (Exp × Psr)) : Nat → Psr → Exp → Exp → Option (Exp × Psr)
 | 0, _, _, _ => none
 | n + 1, b0, b2, b3 => bif (decide ((Psr.bad b0) < 0)) then ((xAC N b0 [43]).bind fun r1 => bif (!r1.1) then ((xAC N r1.2 [45]).bind fun r2 => bif (!r2.1) then (some (b3, r2.2)) else ((q3 r2.2).bind fun r3 => (xBO N q0 q1 q2 q3 q4 n r3.2 b2 (Exp.mk 6 2 [] [(Exp.re b3), (Exp.re r3.1)])))) else ((q3 r1.2).bind fun r2 => (xBO N q0 q1 q2 q3 q4 n r2.2 b2 (Exp.mk 6 1 [] [(Exp.re b3), (Exp.re r2.1)])))) else (some (b3, b0))
def xCt (N : Nat) (q0 : Psr → Option (Exp × Psr)) (q1 : Psr → Option (Exp × Psr)) (q2 : Psr → Str → Option ((List Exp) × Psr)) (q3 : Psr → Option (Exp × Psr)) (q4 : Psr → Option (Exp × Psr)) (a0 : Psr) : Option (Exp × Psr) := (q3 a0).bind fun r1 => (xBO N q0 q1 q2 q3 q4 N r1.2 (Exp.mk 0 0 [] []) r1.1)
structure impl_parser_atom_rec where
 c_impl_parser_atom : Psr → Option (Exp × Psr)
 c_impl_parser_expr : Psr → Option (Exp × Psr)
 c_impl_parser_list2 : Psr → Str → Option ((List Exp) × Psr)
 c_impl_parser_product : Psr → Option (Exp × Psr)
 c_impl_parser_sum : Psr → Option (Exp × Psr)
def xAb (N : Nat) : Nat → impl_parser_atom_rec
 | 0 => ⟨fun _ => none, fun _ => none, fun _ _ => none, fun _ => none, fun _ => none⟩
 | d + 1 => ⟨xCb N (xAb N d).c_impl_parser_atom (xAb N d).c_impl_parser_expr (xAb N d).c_impl_parser_list2 (xAb N d).c_impl_parser_product (xAb N d).c_impl_parser_sum, xCc N (xAb N d).c_impl_parser_atom (xAb N d).c_impl_parser_expr (xAb N d).c_impl_parser_list2 (xAb N d).c_impl_parser_product (xAb N d).c_impl_parser_sum, xB5 N (xAb N d).c_impl_parser_atom (xAb N d).c_impl_parser_expr (xAb N d).c_impl_parser_list2 (xAb N d).c_impl_parser_product (xAb N d).c_impl_parser_sum, xBL N (xAb N d).c_impl_parser_atom (xAb N d).c_impl_parser_expr (xAb N d).c_impl_parser_list2 (xAb N d).c_impl_parser_product (xAb N d).c_impl_parser_sum, xCt N (xAb N d).c_impl_parser_atom (xAb N d).c_impl_parser_expr (xAb N d).c_impl_parser_list2 (xAb N d).c_impl_parser_product (xAb N d).c_impl_parser_sum⟩
def xE8 (N : Nat) (a0 : Psr) : Option (Exp × Psr) := (xAb N N).c_impl_parser_expr a0
def xCp (a0 : Exp) : List Arg := [.val (.v true (Ex .ro a0))]
def xA8 (r : Int) : CallO := ⟨.v false [.int .i64 r], [], []⟩
def xC9 (N : Nat) (q0 : Exp → Option (Int)) : Nat → Int → (List Exp) → Int → Int → Option (Int)
 | 0, _, _, _, _ => none
 | n + 1, x3, x7, x8, x9 => bif (decide (x9 < x8)) then (if (0 : Int) ≤ x9 ∧ x9 < (List.length x7) then (q0 (List.getD x7 (Int.toNat x9) Ty.exp.dflt)).bind fun r1 => (xC9 N q0 n (IntKind.i64.wrap (x3 + r1)) x7 x8 (IntKind.i64.wrap (x9 + 1))) else none) else (some x3)
def xFh (N : Nat) (q0 : Exp → Option (Int)) (a0 : Exp) : Option (Int) := (xC9 N q0 N 1 (Exp.args a0) (List.length (Exp.args a0) : Int) 0)
def xDs (N : Nat) : Nat → Exp → Option (Int)
 | 0, _ => none
 | d + 1, a0 => xFh N (xDs N d) a0
def xGB (N : Nat) (a0 : Exp) : Option (Int) := xDs N N a0
def xCN (a0 : Exp) : List Arg := [.val (.v true (Ex .ro a0))]
def xBt (r : Int) : CallO := ⟨.v false [.int .i64 r], [], []⟩
def xDI (N : Nat) (q0 : Exp → Option (Int)) : Nat → Int → (List Exp) → Int → Int → Option (Int)
 | 0, _, _, _, _ => none
 | n + 1, x3, x7, x8, x9 => bif (decide (x9 < x8)) then (if (0 : Int) ≤ x9 ∧ x9 < (List.length x7) then (q0 (List.getD x7 (Int.toNat x9) Ty.exp.dflt)).bind fun r1 => (xDI N q0 n (if r1 > x3 then r1 else x3) x7 x8 (IntKind.i64.wrap (x9 + 1))) else none) else (some (IntKind.i64.wrap (x3 + 1)))
def xFg (N : Nat) (q0 : Exp → Option (Int)) (a0 : Exp) : Option (Int) := (xDI N q0 N 0 (Exp.args a0) (List.length (Exp.args a0) : Int) 0)
def xD4 (N : Nat) : Nat → Exp → Option (Int)
 | 0, _ => none
 | d + 1, a0 => xFg N (xD4 N d) a0
def xGA (N : Nat) (a0 : Exp) : Option (Int) := xD4 N N a0
def xAv (a0 : Exp) : List Arg := [.val (.v true (Ex .ro a0))]
def xAD (r : Bool) : CallO := ⟨.v false [.bool r], [], []⟩
def xGf (N : Nat) (a0 : Exp) : Option (Bool) := bif ((Exp.kind a0) == 1) then ((xEI N (Exp.n a0) 0 1000000000).bind fun r1 => bif r1 then (bif (((Exp.text a0) : Str) == []) then (some ((List.length (Exp.args a0) : Int) == 0)) else (some false)) else (some false)) else (bif ((Exp.kind a0) == 2) then (bif ((Exp.n a0) == 0) then ((xCI N (Exp.text a0)).bind fun r1 => bif r1 then (some ((List.length (Exp.args a0) : Int) == 0)) else (some false)) else (some false)) else (bif ((Exp.kind a0) == 3) then (bif ((Exp.n a0) == 0) then ((xCH N (Exp.text a0)).bind fun r1 => bif r1 then (some ((List.length (Exp.args a0) : Int) == 0)) else (some false)) else (some false)) else (bif ((Exp.kind a0) == 4) then (bif ((Exp.n a0) == 0) then (bif (((Exp.text a0) : Str) == []) then (some (decide ((List.length (Exp.args a0) : Int) ≤ 8))) else (some false)) else (some false)) else (bif ((Exp.kind a0) == 5) then (bif ((Exp.n a0) == 0) then ((xCx N (Exp.text a0)).bind fun r1 => some ((List.length (Exp.args a0) : Int) == r1)) else (some false)) else (bif ((Exp.kind a0) == 6) then ((xEI N (Exp.n a0) 1 5).bind fun r1 => bif r1 then (bif (((Exp.text a0) : Str) == []) then (some ((List.length (Exp.args a0) : Int) == 2)) else (some false)) else (some false)) else (bif ((Exp.kind a0) == 7) then (bif ((Exp.n a0) == 0) then ((xCH N (Exp.text a0)).bind fun r1 => bif r1 then (some ((List.length (Exp.args a0) : Int) == 2)) else (some false)) else (some false)) else (bif ((Exp.kind a0) == 9) then (bif ((Exp.n a0) == 0) then ((xCH N (Exp.text a0)).bind fun r1 => bif r1 then (some ((List.length (Exp.args a0) : Int) == 2)) else (some false)) else (some false)) else (bif ((Exp.kind a0) == 8) then (bif ((Exp.n a0) == 0) then (bif (((Exp.text a0) : Str) == []) then (some ((List.length (Exp.args a0) : Int) == 3)
             ) else (some false)) else (some false)) else (some false)))))))))
def xC0 (a0 : Exp) : List Arg := [.val (.v true (Ex .ro a0))]
def xBv (r : Bool) : CallO := ⟨.v false [.bool r], [], []⟩
def xDx (N : Nat) (q0 : Exp → Option (Bool)) : Nat → (List Exp) → Int → Int → Exp → Option (Bool)
 | 0, _, _, _, _ => none
 | n + 1, x6, x7, x8, b1 => bif (decide (x8 < x7)) then (if (0 : Int) ≤ x8 ∧ x8 < (List.length x6) then (q0 (List.getD x6 (Int.toNat x8) Ty.exp.dflt)).bind fun r1 => bif (!r1) then (some false) else ((xDx N q0 n x6 x7 (IntKind.i64.wrap (x8 + 1)) b1)) else none) else ((xGf N b1).bind fun r1 => some r1)
def xFs (N : Nat) (q0 : Exp → Option (Bool)) (a0 : Exp) : Option (Bool) := (xDx N q0 N (Exp.args a0) (List.length (Exp.args a0) : Int) 0 a0)
def xEg (N : Nat) : Nat → Exp → Option (Bool)
 | 0, _ => none
 | d + 1, a0 => xFs N (xEg N d) a0
def xGZ (N : Nat) (a0 : Exp) : Option (Bool) := xEg N N a0
def xC4 (a0 : Exp) : List Arg := [.val (.v true (Ex .ro a0))]
def xBb (r : Bool) : CallO := ⟨.v false [.bool r], [], []⟩
def xCG (N : Nat) (a0 : Exp) : Option (Bool) := (xGB N a0).bind fun r1 => bif (decide (r1 ≤ 40)) then ((xGA N a0).bind fun r2 => bif (decide (r2 ≤ 8)) then ((xGZ N a0).bind fun r3 => some r3) else (some false)) else (some false)
def xAW (a0 : Str) : List Arg := [.val (.v false [.str a0])]
def xAo (r : Exp × Int) : CallO := ⟨.tup [(true, (Ex .own r.1)), (false, [.int .i64 r.2])], [], []⟩
def xDE (N : Nat) (a0 : Str) : Option (Exp × Int) := (xES N a0).bind fun r1 => bif (decide (r1.2 ≥ 0)) then (some ((Exp.mk 0 0 [] []), r1.2)) else ((xE8 N (Psr.mk r1.1 0 (-1))).bind fun r2 => bif (decide ((Psr.bad r2.2) < 0)) then (bif (decide ((Psr.pos r2.2) < (List.length r1.1 : Int))) then (bif (decide ((Psr.pos r2.2) ≥ (List.length r1.1 : Int))) then (some ((Exp.mk 0 0 [] []), (List.length a0 : Int))) else (bif (decide ((Psr.pos r2.2) ≥ 0)) then (if (0 : Int) ≤ (Psr.pos r2.2) ∧ (Psr.pos r2.2) < (List.length r1.1) then some ((Exp.mk 0 0 [] []), (Tok.pos (List.getD r1.1 (Int.toNat (Psr.pos r2.2)) Ty.tok.dflt))) else none) else ((xCG N r2.1).bind fun r3 => bif (!r3) then (some ((Exp.mk 0 0 [] []), 0)) else (some (r2.1, (-1)))))) else (bif (decide ((Psr.bad r2.2) ≥ (List.length r1.1 : Int))) then (some ((Exp.mk 0 0 [] []), (List.length a0 : Int))) else (bif (decide ((Psr.bad r2.2) ≥ 0)) then (if (0 : Int) ≤ (Psr.bad r2.2) ∧ (Psr.bad r2.2) < (List.length r1.1) then some ((Exp.mk 0 0 [] []), (Tok.pos (List.getD r1.1 (Int.toNat (Psr.bad r2.2)) Ty.tok.dflt))) else none) else ((xCG N r2.1).bind fun r3 => bif (!r3) then (some ((Exp.mk 0 0 [] []), 0)) else (some (r2.1, (-1))))))) else (bif (decide ((Psr.bad r2.2) ≥ (List.length r1.1 : Int))) then (some ((Exp.mk 0 0 [] []), (List.length a0 : Int))) else (bif (decide ((Psr.bad r2.2) ≥ 0)) then (if (0 : Int) ≤ (Psr.bad r2.2) ∧ (Psr.bad r2.2) < (List.length r1.1) then some ((Exp.mk 0 0 [] []), (Tok.pos (List.getD r1.1 (Int.toNat (Psr.bad r2.2)) Ty.tok.dflt))) else none) else ((xCG N r2.1).bind fun r3 => bif (!r3) then (some ((Exp.mk 0 0 [] []), 0)) else (some (r2.1, (-1)))))))
def xCi (a0 : Exp) (a1 : Exp) : List Arg := [.val (.v true (Ex .ro a0)), .val (.v true (Ex .ro a1))]
def xAB (r : Bool) : CallO := ⟨.v false [.bool r], [], []⟩
def xEx (N : Nat) (q0 : Exp → Exp → Option (Bool)) (q1 : (List Exp) → (List Exp) → Option (Bool)) (a0 : Exp) (a1 : Exp) : Option (Bool) := bif ((Exp.kind a0) != (Exp.kind a1)) then (some false) else (bif ((Exp.n a0) != (Exp.n a1)) then (some false) else (bif (!(((Exp.text a0) : Str) == (Exp.text a1))) then (some false) else ((q1 (Exp.args a0) (Exp.args a1)).bind fun r1 => bif (!r1) then (some false) else (some true))))
def xDQ (a0 : List Exp) (a1 : List Exp) : List Arg := [.val (.v false [.sl .ro .exp a0]), .val (.v false [.sl .ro .exp a1])]
def xCf (r : Bool) : CallO := ⟨.v false [.bool r], [], []⟩
def xEh (N : Nat) (q0 : Exp → Exp → Option (Bool)) (q1 : (List Exp) → (List Exp) → Option (Bool)) : Nat → (List Exp) → (List Exp) → Int → Option (Bool)
 | 0, _, _, _ => none
 | n + 1, x0, x1, x5 => bif (decide (x5 < (List.length x0 : Int))) then (if (0 : Int) ≤ x5 ∧ x5 < (List.length x0) then if (0 : Int) ≤ x5 ∧ x5 < (List.length x1) then (q0 (List.getD x0 (Int.toNat x5) Ty.exp.dflt) (List.getD x1 (Int.toNat x5) Ty.exp.dflt)).bind fun r1 => bif (!r1) then (some false) else ((xEh N q0 q1 n x0 x1 (IntKind.i64.wrap (x5 + 1)))) else none else none) else (some true)
def xEi (N : Nat) (q0 : Exp → Exp → Option (Bool)) (q1 : (List Exp) → (List Exp) → Option (Bool)) (a0 : List Exp) (a1 : List Exp) : Option (Bool) := bif ((List.length a0 : Int) != (List.length a1 : Int)) then (some false) else ((xEh N q0 q1 N a0 a1 0))
structure laws_eqExpr_rec where
 c_laws_eqExpr : Exp → Exp → Option (Bool)
 c_laws_eqExprS : (List Exp) → (List Exp) → Option (Bool)
def xBM (N : Nat) : Nat → laws_eqExpr_rec
 | 0 => ⟨fun _ _ => none, fun _ _ => none⟩
 | d + 1 => ⟨xEx N (xBM N d).c_laws_eqExpr (xBM N d).c_laws_eqExprS, xEi N (xBM N d).c_laws_eqExpr (xBM N d).c_laws_eqExprS⟩
def xG4 (N : Nat) (a0 : Exp) (a1 : Exp) : Option (Bool) := (xBM N N).c_laws_eqExpr a0 a1
def xEz (a0 : Int) : List Arg := [.val (.v false [.int .i64 a0])]
def xCk (r : Str) : CallO := ⟨.v false [.str r], [], []⟩
def xDZ (N : Nat) : Nat → Int → Str → Option (Str)
 | 0, _, _ => none
 | n + 1, x0, x3 => bif (decide (x0 > 0)) then (if List.length (List.map (fun n => UInt8.ofNat (Int.toNat n)) [(IntKind.u8.wrap ((IntKind.i64.wrap (48 + (Int.tmod x0 10)))))]) + List.length x3 ≤ Lim then (xDZ N n (IntKind.i64.wrap (Int.tdiv x0 10)) ((List.map (fun n => UInt8.ofNat (Int.toNat n)) [(IntKind.u8.wrap ((IntKind.i64.wrap (48 + (Int.tmod x0 10)))))]) ++ x3)) else none) else (if List.length [109] + List.length x3 ≤ Lim then some ([109] ++ x3) else none)
def xEU (N : Nat) (a0 : Int) : Option (Str) := bif (decide (a0 ≤ 0)) then (some [109, 48]) else ((xDZ N N a0 []))
def xDb (a0 : List Exp) (a1 : Int) : List Arg := [.val (.v false [.sl (.lnt 0) .exp a0]), .val (.v false [.int .i64 a1])]
def xBZ (r : Int × (List Exp)) : CallO := ⟨.v false [.int .i64 r.1], [], [.sl (.lnt 0) .exp r.2]⟩
def xDK (N : Nat) (q0 : (List Exp) → Int → Option (Int × (List Exp))) : Nat → (List Exp) → Int → Int → Option (Int × (List Exp))
 | 0, _, _, _ => none
 | n + 1, x0, x1, x5 => bif (decide (x5 < (List.length x0 : Int))) then (if (0 : Int) ≤ x5 ∧ x5 < (List.length x0) then if (0 : Int) ≤ x5 ∧ x5 < (List.length (List.set x0 (Int.toNat x5) (Exp.mk x1 (Exp.n (List.getD x0 (Int.toNat x5) Ty.exp.dflt)) (Exp.text (List.getD x0 (Int.toNat x5) Ty.exp.dflt)) (Exp.args (List.getD x0 (Int.toNat x5) Ty.exp.dflt))))) then (xEU N (IntKind.i64.wrap ((IntKind.i64.wrap (x1 + 1)) + 1))).bind fun r1 => if (0 : Int) ≤ x5 ∧ x5 < (List.length ((fun (z8 : List Exp) => List.set z8 (Int.toNat x5) (Exp.mk (Exp.kind (List.getD z8 (Int.toNat x5) Ty.exp.dflt)) (IntKind.i64.wrap (x1 + 1)) (Exp.text (List.getD z8 (Int.toNat x5) Ty.exp.dflt)) (Exp.args (List.getD z8 (Int.toNat x5) Ty.exp.dflt)))) (List.set x0 (Int.toNat x5) (Exp.mk x1 (Exp.n (List.getD x0 (Int.toNat x5) Ty.exp.dflt)) (Exp.text (List.getD x0 (Int.toNat x5) Ty.exp.dflt)) (Exp.args (List.getD x0 (Int.toNat x5) Ty.exp.dflt)))))) then if (0 : Int) ≤ x5 ∧ x5 < (List.length ((fun (z9 : List Exp) => List.set z9 (Int.toNat x5) (Exp.mk (Exp.kind (List.getD z9 (Int.toNat x5) Ty.exp.dflt)) (Exp.n (List.getD z9 (Int.toNat x5) Ty.exp.dflt)) r1 (Exp.args (List.getD z9 (Int.toNat x5) Ty.exp.dflt)))) ((fun (z8 : List Exp) => List.set z8 (Int.toNat x5) (Exp.mk (Exp.kind (List.getD z8 (Int.toNat x5) Ty.exp.dflt)) (IntKind.i64.wrap (x1 + 1)) (Exp.text (List.getD z8 (Int.toNat x5) Ty.exp.dflt)) (Exp.args (List.getD z8 (Int.toNat x5) Ty.exp.dflt)))) (List.set x0 (Int.toNat x5) (Exp.mk x1 (Exp.n (List.getD x0 (Int.toNat x5) Ty.exp.dflt)) (Exp.text (List.getD x0 (Int.toNat x5) Ty.exp.dflt)) (Exp.args (List.getD x0 (Int.toNat x5) Ty.exp.dflt))))))) then (q0 (Exp.args (List.getD ((fun (z9 : List Exp) => List.set z9 (Int.toNat x5) (Exp.mk (Exp.kind (List.getD z9 (Int.toNat x5) Ty.exp.dflt)) (Exp.n (List.getD z9 (Int.toNat x5) Ty.exp.dflt)) r1 (Exp.args (List.getD z9 (Int.toNat x5) Ty.exp.dflt)))) ((fun (z8 : List Exp) => List.set z8 (Int.toNat x5) (Exp.mk (Exp.kind (List.getD z8 (Int.toNat x5) Ty.exp.dflt)) (IntKind.i64.wrap (x1 + 1)) (Exp.text (List.getD z8 (Int.toNat x5) Ty.exp.dflt)) (Exp.args (List.getD z8 (Int.toNat x5) Ty.exp.dflt)))) (List.set x0 (Int.toNat x5) (Exp.mk x1 (Exp.n (List.getD x0 (Int.toNat x5) Ty.exp.dflt)) (Exp.text (List.getD x0 (Int.toNat x5) Ty.exp.dflt)) (Exp.args (List.getD x0 (Int.toNat x5) Ty.exp.dflt)))))) (Int.toNat x5) Ty.exp.dflt)) (IntKind.i64.wrap ((IntKind.i64.wrap ((IntKind.i64.wrap (x1 + 1)) + 1)) + 1))).bind fun r2 =>
     if List.length r2.2 = List.length (Exp.args (List.getD ((fun (z9 : List Exp) => List.set z9 (Int.toNat x5) (Exp.mk (Exp.kind (List.getD z9 (Int.toNat x5) Ty.exp.dflt)) (Exp.n (List.getD z9 (Int.toNat x5) Ty.exp.dflt)) r1 (Exp.args (List.getD z9 (Int.toNat x5) Ty.exp.dflt)))) ((fun (z8 : List Exp) => List.set z8 (Int.toNat x5) (Exp.mk (Exp.kind (List.getD z8 (Int.toNat x5) Ty.exp.dflt)) (IntKind.i64.wrap (x1 + 1)) (Exp.text (List.getD z8 (Int.toNat x5) Ty.exp.dflt)) (Exp.args (List.getD z8 (Int.toNat x5) Ty.exp.dflt)))) (List.set x0 (Int.toNat x5) (Exp.mk x1 (Exp.n (List.getD x0 (Int.toNat x5) Ty.exp.dflt)) (Exp.text (List.getD x0 (Int.toNat x5) Ty.exp.dflt)) (Exp.args (List.getD x0 (Int.toNat x5) Ty.exp.dflt)))))) (Int.toNat x5) Ty.exp.dflt)) then (xDK N q0 n ((fun (z10 : List Exp) => List.set z10 (Int.toNat x5) (Exp.mk (Exp.kind (List.getD z10 (Int.toNat x5) Ty.exp.dflt)) (Exp.n (List.getD z10 (Int.toNat x5) Ty.exp.dflt)) (Exp.text (List.getD z10 (Int.toNat x5) Ty.exp.dflt)) r2.2)) ((fun (z9 : List Exp) => List.set z9 (Int.toNat x5) (Exp.mk (Exp.kind (List.getD z9 (Int.toNat x5) Ty.exp.dflt)) (Exp.n (List.getD z9 (Int.toNat x5) Ty.exp.dflt)) r1 (Exp.args (List.getD z9 (Int.toNat x5) Ty.exp.dflt)))) ((fun (z8 : List Exp) => List.set z8 (Int.toNat x5) (Exp.mk (Exp.kind (List.getD z8 (Int.toNat x5) Ty.exp.dflt)) (IntKind.i64.wrap (x1 + 1)) (Exp.text (List.getD z8 (Int.toNat x5) Ty.exp.dflt)) (Exp.args (List.getD z8 (Int.toNat x5) Ty.exp.dflt)))) (List.set x0 (Int.toNat x5) (Exp.mk x1 (Exp.n (List.getD x0 (Int.toNat x5) Ty.exp.dflt)) (Exp.text (List.getD x0 (Int.toNat x5) Ty.exp.dflt)) (Exp.args (List.getD x0 (Int.toNat x5) Ty.exp.dflt))))))) r2.1 (IntKind.i64.wrap (x5 + 1))) else none else none else none else none else none) else (some (x1, x0))
def xFj (N : Nat) (q0 : (List Exp) → Int → Option (Int × (List Exp))) (a0 : List Exp) (a1 : Int) : Option (Int × (List Exp)) := (xDK N q0 N a0 a1 0)
def xD7 (N : Nat) : Nat → (List Exp) → Int → Option (Int × (List Exp))
 | 0, _, _ => none
 | d + 1, a0, a1 => xFj N (xD7 N d) a0 a1
def xGE (N : Nat) (a0 : List Exp) (a1 : Int) : Option (Int × (List Exp)) := xD7 N N a0 a1
def xE9 (a0 : Exp) (a1 : Int) : List Arg := [.val (.v true [.int .i64 (Exp.kind a0), .int .i64 (Exp.n a0), .str (Exp.text a0), .sl (.lnt 0) .exp (Exp.args a0)]), .val (.v false [.int .i64 a1])]
def xBV (r : Int × (List Exp)) : CallO := ⟨.v false [.int .i64 r.1], [], [.sl (.lnt 0) .exp r.2]⟩
def xFu (N : Nat) (a0 : Exp) (a1 : Int) : Option (Int × (List Exp)) := (xGE N (Exp.args a0) a1).bind fun r1 => if List.length r1.2 = List.length (Exp.args a0) then some (r1.1, r1.2) else none
def xCq (a0 : List Exp) (a1 : Int) : List Arg := [.val (.v false [.sl .ro .exp a0]), .val (.v false [.int .i64 a1])]
def xAO (r : Int) : CallO := ⟨.v false [.int .i64 r], [], []⟩
def xDJ (N : Nat) (q0 : (List Exp) → Int → Option (Int)) : Nat → (List Exp) → Int → Int → Option (Int)
 | 0, _, _, _ => none
 | n + 1, x0, x1, x5 => bif (decide (x5 < (List.length x0 : Int))) then (if (0 : Int) ≤ x5 ∧ x5 < (List.length x0) then bif (((Exp.kind (List.getD x0 (Int.toNat x5) Ty.exp.dflt)) : Int) != x1) then (some (-1)) else (bif (((Exp.n (List.getD x0 (Int.toNat x5) Ty.exp.dflt)) : Int) != (IntKind.i64.wrap (x1 + 1))) then (some (-1)) else ((xEU N (IntKind.i64.wrap ((IntKind.i64.wrap (x1 + 1)) + 1))).bind fun r1 => bif (!(((Exp.text (List.getD x0 (Int.toNat x5) Ty.exp.dflt)) : Str) == r1)) then (some (-1)) else ((q0 (Exp.args (List.getD x0 (Int.toNat x5) Ty.exp.dflt)) (IntKind.i64.wrap ((IntKind.i64.wrap ((IntKind.i64.wrap (x1 + 1)) + 1)) + 1))).bind fun r2 => bif (decide (r2 < 0)) then (some (-1)) else ((xDJ N q0 n x0 r2 (IntKind.i64.wrap (x5 + 1))))))) else none) else (some x1)
def xFi (N : Nat) (q0 : (List Exp) → Int → Option (Int)) (a0 : List Exp) (a1 : Int) : Option (Int) := (xDJ N q0 N a0 a1 0)
def xD6 (N : Nat) : Nat → (List Exp) → Int → Option (Int)
 | 0, _, _ => none
 | d + 1, a0, a1 => xFi N (xD6 N d) a0 a1
def xGD (N : Nat) (a0 : List Exp) (a1 : Int) : Option (Int) := xD6 N N a0 a1
def xEy (a0 : Exp) (a1 : Int) : List Arg := [.val (.v true (Ex .ro a0)), .val (.v false [.int .i64 a1])]
def xBd (r : Int) : CallO := ⟨.v false [.int .i64 r], [], []⟩
def xET (N : Nat) (a0 : Exp) (a1 : Int) : Option (Int) := (xGD N (Exp.args a0) a1).bind fun r1 => bif (decide (r1 < 0)) then (some (-1)) else (some r1)
def xAJ (a0 : Str) : List Arg := [.val (.v false [.str a0])]
def xAK (r : Bool) : CallO := ⟨.v false [.bool r], [], []⟩
def xD5 (N : Nat) (a0 : Str) : Option (Bool) := bif (decide ((List.length a0 : Int) > 1048576)) then (some true) else ((xEc N a0).bind fun r1 => (xDE N a0).bind fun r2 => (xG4 N r2.1 r1.1).bind fun r3 => bif (!r3) then (some false) else (bif (r2.2 != r1.2) then (some false) else ((xFu N r2.1 1).bind fun r4 => if List.length r4.2 = List.length (Exp.args r2.1) then (xET N (Exp.mk (Exp.kind r2.1) (Exp.n r2.1) (Exp.text r2.1) r4.2) 1).bind fun r5 => bif (decide (r5 < 0)) then (some false) else (bif (r5 != r4.1) then (some false) else ((xDE N a0).bind fun r6 => (xG4 N r6.1 r1.1).bind fun r7 => bif (!r7) then (some false) else (bif (r6.2 != r1.2) then (some false) else ((xET N (Exp.mk (Exp.kind r2.1) (Exp.n r2.1) (Exp.text r2.1) r4.2) 1).bind fun r8 => bif (decide (r8 < 0)) then (some false) else (bif (r8 != r4.1) then (some false) else (some true)))))) else none)))
end Go.Ab
end
section
namespace Go.Ab
theorem xWE {P : Program} {w : World} {nm : String} {k : IntKind} {zs : List Int} (h : Lib.TabIs P w nm k zs) : ∃ (g : Nat) (o : Obj), w.heap[g]? = some o ∧ ∀ w' : World, w'.heap[g]? = some o → Lib.TabIs P w' nm k zs := by
 unfold Lib.TabIs World.var? at h
 obtain ⟨g, hg, h⟩ := Option.bind_eq_some_iff.1 h
 split at h
 · rename_i cs ty fr hh
   refine ⟨g, _, hh, fun w' hw => ?_⟩
   unfold Lib.TabIs World.var?
   rw [hg, jS, hw]
   exact h
 · cases h
end Go.Ab
namespace Go.Ab
variable [Inhabited Lb]
open Go.Proofs Go.Shelf Go.RowKit Go.Lib
variable {P : Program} {ρ : Ren}
theorem xJs (L : Lays.n137 P ρ) : ∀ args w, (callFunc (ρ.f 137) args).run P w = .ok (.enter (ρ.f 137) args) w := enters_of L.f137 (by kernel_rfl) rfl
theorem xJr (L : Lays.n99 P ρ) : ∀ args w, (callFunc (ρ.f 99) args).run P w = .ok (.enter (ρ.f 99) args) w := enters_of L.f99 (by kernel_rfl) rfl
end Go.Ab
end
section
namespace Go.Ab
open Go.Proofs Go.Shelf Go.RowKit Go.Lib
variable {P : Program} {ρ : Ren}
def xSu (s : Str) (e : Ending) : Prop :=
 (∃ v, Lib.atoiAll s = .ok v ∧ e = .returned (.tuple #[.int .i64 v, .nilIface])) ∨ ((∀ v, Lib.atoiAll s ≠ .ok v) ∧ ∃ n t b, e = .returned (.tuple #[.int .i64 n, .iface t (.pointer (some ⟨b, 0, none⟩))]))
theorem xO7 (L : LaysC.n172 P ρ) (s : ByteArray) (hl : s.size ≤ 1000000) (w : World) (he : (∃ t1 p1, w.var? P "strconv.ErrSyntax" = some #[.iface t1 p1]) ∧ ∃ t2 p2, w.var? P "strconv.ErrRange" = some #[.iface t2 p2]) :
 Calls P (ρ.f 172) #[.string s] w fun e w' => xSu s.data.toList e ∧ Below w.heap.size w w' := by
 obtain ⟨⟨t1, p1, h1⟩, t2, p2, h2⟩ := he
 cases hc : Lib.atoiAll s.data.toList with
 | ok v =>
   refine (Any.strconv_Atoi_ok L s (by omega) v hc w).mono ?_
   rintro e w' ⟨rfl, hw⟩
   refine ⟨.inl ⟨v, hc, rfl⟩, ?_⟩
   rcases hw with rfl | ⟨t, rfl⟩
   · exact Below.refl _ _
   · exact Lib.bytesWorld_below w _ t
 | range =>
   refine (Any.strconv_Atoi_range_var L s (by omega) hc t2 p2 w h2).mono ?_
   rintro e w' ⟨N, rfl, _, _, hb⟩
   exact ⟨.inr ⟨fun v h => (by rw [hc] at h; cases h), _, _, _, rfl⟩, hb⟩
 | _ =>
   refine (Any.strconv_Atoi_syntax_var L s (by omega) hc t1 p1 w h1).mono ?_
   rintro e w' ⟨N, rfl, _, _, hb⟩
   exact ⟨.inr ⟨fun v h => (by rw [hc] at h; cases h), _, _, _, rfl⟩, hb⟩
theorem xPh (L : LaysM.n171 P ρ) (n : Int) (h0 : -9223372036854775808 ≤ n) (h1 : n ≤ 9223372036854775807) (w : World) (ht : Lib.TabIs P w "internal/strconv.uint64pow10" .u64 Lib.pow10Tab) :
 Calls P (ρ.f 171) #[.int .i64 n] w fun e w' => e = .returned (.string ⟨(Lib.itoa n).toArray⟩) ∧ Below w.heap.size w w' := by
 refine (Any.strconv_Itoa L n h0 h1 w ht).mono ?_
 rintro e w' ⟨he, k, os, rfl⟩
 refine ⟨he, rfl, rfl, rfl, ?_, fun j hj => ?_⟩
 · show w.heap.size ≤ (w.heap ++ os).size
   rw [Array.size_append]; omega
 · show (w.heap ++ os)[j]? = _
   rw [Array.getElem?_append_left hj]
theorem xO2 {w : World} {nm : String} {cs : Array Value} (h : w.var? P nm = some cs) : ∃ (g : Nat) (o : Obj), w.heap[g]? = some o ∧ ∀ w' : World, w'.heap[g]? = some o → w'.var? P nm = some cs := by
 unfold World.var? at h
 obtain ⟨g, hg, h⟩ := Option.bind_eq_some_iff.1 h
 split at h
 · rename_i cs ty fr hh
   refine ⟨g, _, hh, fun w' hw => ?_⟩
   unfold World.var?
   rw [hg, jS, hw]
   exact h
 · cases h
end Go.Ab
end
section
namespace Go.Proofs
open Go.Shelf
def Tryz.lays137_ren : Go.Shelf.Ren := ⟨fun | 137 => 90 | 217 => 112 | 266 => 130 | n => n, fun | 9 => 9 | 5 => 5 | 3 => 3 | n => n, fun | n => n⟩
theorem Tryz.lays137 : Go.Proofs.Lays.n137 Tryz.prog Tryz.lays137_ren := {
 mixed := by kernel_rfl
 f137 := Tryz.func90.trans (congrArg some (by kernel_rfl))
 f217 := Tryz.func112.trans (congrArg some (by kernel_rfl))
 f266 := Tryz.func130.trans (congrArg some (by kernel_rfl))
 t3 := Tryz.underlying3
 a3 := Tryz.isAgg3
 z3 := Tryz.sizeOf3
 v3 := Tryz.zeroValue3
 t5 := Tryz.underlying5
 a5 := Tryz.isAgg5
 z5 := Tryz.sizeOf5
 v5 := Tryz.zeroValue5
 t9 := Tryz.underlying9
 a9 := Tryz.isAgg9
 z9 := Tryz.sizeOf9
 v9 := Tryz.zeroValue9 }
def Tryz.laysM171_ren : Go.Shelf.Ren := ⟨fun | 171 => 102 | 243 => 123 | 246 => 133 | 283 => 143 | 284 => 144 | 285 => 145 | 286 => 146 | 129 => 153 | 317 => 152 | 318 => 154 | 319 => 155 | 320 => 156 | 337 => 161 | 338 => 162 | n => n, fun | 3 => 3 | 9 => 9 | 2 => 2 | 4 => 4 | 171 => 122 | 0 => 0 | 53 => 123 | 37 => 32 | 5 => 5 | 173 => 126 | 212 => 137 | 51 => 138 | 20 => 20 | 213 => 139 | 46 => 104 | 232 => 150 | 233 => 151 | n => n, fun | 17 => 3 | 18 => 4 | 19 => 5 | n => n⟩
theorem Tryz.laysM171 : Go.Proofs.LaysM.n171 Tryz.prog Tryz.laysM171_ren := {
 mixed := by kernel_rfl
 f129 := Tryz.func153.trans (congrArg some (by kernel_rfl))
 f171 := Tryz.func102.trans (congrArg some (by kernel_rfl))
 f243 := Tryz.func123.trans (congrArg some (by kernel_rfl))
 f246 := Tryz.func133.trans (congrArg some (by kernel_rfl))
 f283 := Tryz.func143.trans (congrArg some (by kernel_rfl))
 f284 := Tryz.func144.trans (congrArg some (by kernel_rfl))
 f285 := Tryz.func145.trans (congrArg some (by kernel_rfl))
 f286 := Tryz.func146.trans (congrArg some (by kernel_rfl))
 f317 := Tryz.func152.trans (congrArg some (by kernel_rfl))
 f318 := Tryz.func154.trans (congrArg some (by kernel_rfl))
 f319 := Tryz.func155.trans (congrArg some (by kernel_rfl))
 f320 := Tryz.func156.trans (congrArg some (by kernel_rfl))
 f337 := Tryz.func161.trans (congrArg some (by kernel_rfl))
 f338 := Tryz.func162.trans (congrArg some (by kernel_rfl))
 t0 := Tryz.underlying0
 a0 := Tryz.isAgg0
 z0 := Tryz.sizeOf0
 v0 := Tryz.zeroValue0
 t2 := Tryz.underlying2
 a2 := Tryz.isAgg2
 z2 := Tryz.sizeOf2
 v2 := Tryz.zeroValue2
 t3 := Tryz.underlying3
 a3 := Tryz.isAgg3
 z3 := Tryz.sizeOf3
 v3 := Tryz.zeroValue3
 t4 := Tryz.underlying4
 a4 := Tryz.isAgg4
 z4 := Tryz.sizeOf4
 v4 := Tryz.zeroValue4
 t5 := Tryz.underlying5
 a5 := Tryz.isAgg5
 z5 := Tryz.sizeOf5
 v5 := Tryz.zeroValue5
 t9 := Tryz.underlying9
 a9 := Tryz.isAgg9
 z9 := Tryz.sizeOf9
 v9 := Tryz.zeroValue9
 t20 := Tryz.underlying20
 a20 := Tryz.isAgg20
 z20 := Tryz.sizeOf20
 v20 := Tryz.zeroValue20
 t37 := Tryz.underlying32
 a37 := Tryz.isAgg32
 z37 := Tryz.sizeOf32
 v37 := Tryz.zeroValue32
 t46 := Tryz.underlying104
 a46 := Tryz.isAgg104
 z46 := Tryz.sizeOf104
 v46 := Tryz.zeroValue104
 t51 := Tryz.underlying138
 a51 := Tryz.isAgg138
 z51 := Tryz.sizeOf138
 v51 := Tryz.zeroValue138
 t53 := Tryz.underlying123
 a53 := Tryz.isAgg123
 z53 := Tryz.sizeOf123
 v53 := Tryz.zeroValue123
 t171 := Tryz.underlying122
 a171 := Tryz.isAgg122
 z171 := Tryz.sizeOf122
 v171 := Tryz.zeroValue122
 t173 := Tryz.underlying126
 a173 := Tryz.isAgg126
 z173 := Tryz.sizeOf126
 v173 := Tryz.zeroValue126
 t212 := Tryz.underlying137
 a212 := Tryz.isAgg137
 z212 := Tryz.sizeOf137
 v212 := Tryz.zeroValue137
 t213 := Tryz.underlying139
 a213 := Tryz.isAgg139
 z213 := Tryz.sizeOf139
 t232 := Tryz.underlying150
 a232 := Tryz.isAgg150
 z232 := Tryz.sizeOf150
 v232 := Tryz.zeroValue150
 t233 := Tryz.underlying151
 a233 := Tryz.isAgg151
 z233 := Tryz.sizeOf151
 v233 := Tryz.zeroValue151
 g17 := by kernel_rfl
 g18 := by kernel_rfl
 g19 := by kernel_rfl
 i0 := by kernel_rfl
 i2 := by kernel_rfl
 i3 := by kernel_rfl
 i4 := by kernel_rfl
 i5 := by kernel_rfl
 i9 := by kernel_rfl
 i20 := by kernel_rfl
 i37 := by kernel_rfl
 i46 := by kernel_rfl
 i51 := by kernel_rfl
 i53 := by kernel_rfl
 i171 := by kernel_rfl
 i173 := by kernel_rfl
 i212 := by kernel_rfl
 i232 := by kernel_rfl
 i233 := by kernel_rfl
 m17 := by kernel_rfl
 m18 := by kernel_rfl
 m19 := by kernel_rfl }
def Tryz.laysC172_ren : Go.Shelf.Ren := ⟨fun | 172 => 111 | 244 => 128 | 245 => 129 | 247 => 138 | 279 => 139 | 280 => 140 | 281 => 141 | 282 => 142 | 287 => 149 | 316 => 150 | 171 => 102 | 205 => 151 | 321 => 159 | 322 => 160 | 243 => 123 | 246 => 133 | 283 => 143 | 284 => 144 | 285 => 145 | 286 => 146 | 129 => 153 | 317 => 152 | 318 => 154 | 319 => 155 | 320 => 156 | 337 => 161 | 338 => 162 | n => n, fun | 9 => 9 | 3 => 3 | 75 => 99 | 76 => 100 | 4 => 4 | 5 => 5 | 167 => 116 | 37 => 32 | 0 => 0 | 85 => 117 | 2 => 2 | 168 => 119 | 53 => 123 | 175 => 129 | 46 => 104 | 210 => 133 | 127 => 128 | 145 => 148 | 143 => 146 | 21 => 21 | 171 => 122 | 173 => 126 | 212 => 137 | 51 => 138 | 20 => 20 | 213 => 139 | 232 => 150 | 233 => 151 | 80 => 67 | n => n, fun | 15 => 1 | 16 => 2 | 17 => 3 | 18 => 4 | 19 => 5 | n => n⟩
theorem Tryz.laysC172 : Go.Proofs.LaysC.n172 Tryz.prog Tryz.laysC172_ren := {
 mixed := by kernel_rfl
 f129 := Tryz.func153.trans (congrArg some (by kernel_rfl))
 f171 := Tryz.func102.trans (congrArg some (by kernel_rfl))
 f172 := Tryz.func111.trans (congrArg some (by kernel_rfl))
 f205 := Tryz.func151.trans (congrArg some (by kernel_rfl))
 f243 := Tryz.func123.trans (congrArg some (by kernel_rfl))
 f244 := Tryz.func128.trans (congrArg some (by kernel_rfl))
 f245 := Tryz.func129.trans (congrArg some (by kernel_rfl))
 f246 := Tryz.func133.trans (congrArg some (by kernel_rfl))
 f247 := Tryz.func138.trans (congrArg some (by kernel_rfl))
 f279 := Tryz.func139.trans (congrArg some (by kernel_rfl))
 f280 := Tryz.func140.trans (congrArg some (by kernel_rfl))
 f281 := Tryz.func141.trans (congrArg some (by kernel_rfl))
 f282 := Tryz.func142.trans (congrArg some (by kernel_rfl))
 f283 := Tryz.func143.trans (congrArg some (by kernel_rfl))
 f284 := Tryz.func144.trans (congrArg some (by kernel_rfl))
 f285 := Tryz.func145.trans (congrArg some (by kernel_rfl))
 f286 := Tryz.func146.trans (congrArg some (by kernel_rfl))
 f287 := Tryz.func149.trans (congrArg some (by kernel_rfl))
 f316 := Tryz.func150.trans (congrArg some (by kernel_rfl))
 f317 := Tryz.func152.trans (congrArg some (by kernel_rfl))
 f318 := Tryz.func154.trans (congrArg some (by kernel_rfl))
 f319 := Tryz.func155.trans (congrArg some (by kernel_rfl))
 f320 := Tryz.func156.trans (congrArg some (by kernel_rfl))
 f321 := Tryz.func159.trans (congrArg some (by kernel_rfl))
 f322 := Tryz.func160.trans (congrArg some (by kernel_rfl))
 f337 := Tryz.func161.trans (congrArg some (by kernel_rfl))
 f338 := Tryz.func162.trans (congrArg some (by kernel_rfl))
 t0 := Tryz.underlying0
 a0 := Tryz.isAgg0
 z0 := Tryz.sizeOf0
 v0 := Tryz.zeroValue0
 t2 := Tryz.underlying2
 a2 := Tryz.isAgg2
 z2 := Tryz.sizeOf2
 v2 := Tryz.zeroValue2
 t3 := Tryz.underlying3
 a3 := Tryz.isAgg3
 z3 := Tryz.sizeOf3
 v3 := Tryz.zeroValue3
 t4 := Tryz.underlying4
 a4 := Tryz.isAgg4
 z4 := Tryz.sizeOf4
 v4 := Tryz.zeroValue4
 t5 := Tryz.underlying5
 a5 := Tryz.isAgg5
 z5 := Tryz.sizeOf5
 v5 := Tryz.zeroValue5
 t9 := Tryz.underlying9
 a9 := Tryz.isAgg9
 z9 := Tryz.sizeOf9
 v9 := Tryz.zeroValue9
 t20 := Tryz.underlying20
 a20 := Tryz.isAgg20
 z20 := Tryz.sizeOf20
 v20 := Tryz.zeroValue20
 t21 := Tryz.underlying21
 a21 := Tryz.isAgg21
 z21 := Tryz.sizeOf21
 v21 := Tryz.zeroValue21
 t37 := Tryz.underlying32
 a37 := Tryz.isAgg32
 z37 := Tryz.sizeOf32
 v37 := Tryz.zeroValue32
 t46 := Tryz.underlying104
 a46 := Tryz.isAgg104
 z46 := Tryz.sizeOf104
 v46 := Tryz.zeroValue104
 t51 := Tryz.underlying138
 a51 := Tryz.isAgg138
 z51 := Tryz.sizeOf138
 v51 := Tryz.zeroValue138
 t53 := Tryz.underlying123
 a53 := Tryz.isAgg123
 z53 := Tryz.sizeOf123
 v53 := Tryz.zeroValue123
 t75 := Tryz.underlying99
 a75 := Tryz.isAgg99
 z75 := Tryz.sizeOf99
 v75 := Tryz.zeroValue99
 t76 := Tryz.underlying100
 a76 := Tryz.isAgg100
 z76 := Tryz.sizeOf100
 v76 := Tryz.zeroValue100
 t85 := Tryz.underlying117
 a85 := Tryz.isAgg117
 z85 := Tryz.sizeOf117
 v85 := Tryz.zeroValue117
 t127 := Tryz.underlying128
 a127 := Tryz.isAgg128
 z127 := Tryz.sizeOf128
 v127 := Tryz.zeroValue128
 t143 := Tryz.underlying146
 a143 := Tryz.isAgg146
 z143 := Tryz.sizeOf146
 v143 := Tryz.zeroValue146
 t145 := Tryz.underlying148
 a145 := Tryz.isAgg148
 z145 := Tryz.sizeOf148
 v145 := Tryz.zeroValue148
 t167 := Tryz.underlying116
 a167 := Tryz.isAgg116
 z167 := Tryz.sizeOf116
 v167 := Tryz.zeroValue116
 t168 := Tryz.underlying119
 a168 := Tryz.isAgg119
 z168 := Tryz.sizeOf119
 v168 := Tryz.zeroValue119
 t171 := Tryz.underlying122
 a171 := Tryz.isAgg122
 z171 := Tryz.sizeOf122
 v171 := Tryz.zeroValue122
 t173 := Tryz.underlying126
 a173 := Tryz.isAgg126
 z173 := Tryz.sizeOf126
 v173 := Tryz.zeroValue126
 t175 := Tryz.underlying129
 a175 := Tryz.isAgg129
 z175 := Tryz.sizeOf129
 v175 := Tryz.zeroValue129
 t210 := Tryz.underlying133
 a210 := Tryz.isAgg133
 z210 := Tryz.sizeOf133
 v210 := Tryz.zeroValue133
 t212 := Tryz.underlying137
 a212 := Tryz.isAgg137
 z212 := Tryz.sizeOf137
 v212 := Tryz.zeroValue137
 t213 := Tryz.underlying139
 a213 := Tryz.isAgg139
 z213 := Tryz.sizeOf139
 t232 := Tryz.underlying150
 a232 := Tryz.isAgg150
 z232 := Tryz.sizeOf150
 v232 := Tryz.zeroValue150
 t233 := Tryz.underlying151
 a233 := Tryz.isAgg151
 z233 := Tryz.sizeOf151
 v233 := Tryz.zeroValue151
 g15 := by kernel_rfl
 g16 := by kernel_rfl
 g17 := by kernel_rfl
 g18 := by kernel_rfl
 g19 := by kernel_rfl
 t80 := Tryz.underlying67
 a80 := Tryz.isAgg67
 z80 := Tryz.sizeOf67
 v80 := Tryz.zeroValue67
 i0 := by kernel_rfl
 i2 := by kernel_rfl
 i3 := by kernel_rfl
 i4 := by kernel_rfl
 i5 := by kernel_rfl
 i9 := by kernel_rfl
 i20 := by kernel_rfl
 i21 := by kernel_rfl
 i37 := by kernel_rfl
 i46 := by kernel_rfl
 i51 := by kernel_rfl
 i53 := by kernel_rfl
 i75 := by kernel_rfl
 i76 := by kernel_rfl
 i80 := by kernel_rfl
 i85 := by kernel_rfl
 i127 := by kernel_rfl
 i143 := by kernel_rfl
 i145 := by kernel_rfl
 i167 := by kernel_rfl
 i168 := by kernel_rfl
 i171 := by kernel_rfl
 i173 := by kernel_rfl
 i175 := by kernel_rfl
 i210 := by kernel_rfl
 i212 := by kernel_rfl
 i232 := by kernel_rfl
 i233 := by kernel_rfl
 m15 := by kernel_rfl
 m16 := by kernel_rfl
 m17 := by kernel_rfl
 m18 := by kernel_rfl
 m19 := by kernel_rfl
 c0 := by kernel_rfl
 c2 := by kernel_rfl
 c3 := by kernel_rfl
 c4 := by kernel_rfl
 c5 := by kernel_rfl
 c9 := by kernel_rfl
 c20 := by kernel_rfl
 c21 := by kernel_rfl
 c37 := by kernel_rfl
 c46 := by kernel_rfl
 c51 := by kernel_rfl
 c53 := by kernel_rfl
 c75 := by kernel_rfl
 c76 := by kernel_rfl
 c80 := by kernel_rfl
 c85 := by kernel_rfl
 c127 := by kernel_rfl
 c143 := by kernel_rfl
 c145 := by kernel_rfl
 c167 := by kernel_rfl
 c168 := by kernel_rfl
 c171 := by kernel_rfl
 c173 := by kernel_rfl
 c175 := by kernel_rfl
 c210 := by kernel_rfl
 c212 := by kernel_rfl
 c213 := by kernel_rfl
 c232 := by kernel_rfl
 c233 := by kernel_rfl }
def Tryz.lays99_ren : Go.Shelf.Ren := ⟨fun | 99 => 92 | 206 => 113 | n => n, fun | 9 => 9 | 4 => 4 | 3 => 3 | n => n, fun | n => n⟩
theorem Tryz.lays99 : Go.Proofs.Lays.n99 Tryz.prog Tryz.lays99_ren := {
 mixed := by kernel_rfl
 f99 := Tryz.func92.trans (congrArg some (by kernel_rfl))
 f206 := Tryz.func113.trans (congrArg some (by kernel_rfl))
 t3 := Tryz.underlying3
 a3 := Tryz.isAgg3
 z3 := Tryz.sizeOf3
 v3 := Tryz.zeroValue3
 t4 := Tryz.underlying4
 a4 := Tryz.isAgg4
 z4 := Tryz.sizeOf4
 v4 := Tryz.zeroValue4
 t9 := Tryz.underlying9
 a9 := Tryz.isAgg9
 z9 := Tryz.sizeOf9
 v9 := Tryz.zeroValue9 }
end Go.Proofs
end
section
namespace Go.Ab
open Go.Proofs Go.RowKit Go.Shelf
theorem xLE : ∀ args w, (callFunc 89 args).run Tryz.prog w = .ok (.enter 89 args) w := enters_of Tryz.func89 (by kernel_rfl) rfl
theorem xM7 : Enters Tryz.prog 111 := enters_of Tryz.func111 (by kernel_rfl) rfl
theorem xLD : Enters Tryz.prog 102 := enters_of Tryz.func102 (by kernel_rfl) rfl
set_option maxRecDepth 100000 in
set_option maxHeartbeats 4000000 in
theorem xMi (s : ByteArray) (lo hi : Int) (hl : s.size ≤ 1000000) {Q : World → Prop} (hQ : ∀ w w', Q w → Below w.heap.size w w' → Q w') (ht : ∀ w, Q w → Lib.TabIs Tryz.prog w "internal/strconv.uint64pow10" .u64 Lib.pow10Tab)
 (he : ∀ w, Q w → (∃ t1 p1, w.var? Tryz.prog "strconv.ErrSyntax" = some #[.iface t1 p1]) ∧ ∃ t2 p2, w.var? Tryz.prog "strconv.ErrRange" = some #[.iface t2 p2]) (w : World) (hw : Q w) :
 Calls Tryz.prog 89 #[.string s, .int .i64 lo, .int .i64 hi] w fun e w' => e = .returned (.tuple #[.int .i64 (zHG s.data.toList lo hi).1, .bool (zHG s.data.toList lo hi).2]) ∧ Below w.heap.size w w' := by
 have hA := xO7 Tryz.laysC172 s hl w (he w hw)
 change Calls Tryz.prog 111 _ _ _ at hA
 have e1 := xM7
 have e2 := xLD
 by_cases hok : ∃ v, Lib.atoiAll s.data.toList = .ok v
 · obtain ⟨v, hv⟩ := hok
   obtain ⟨vb0, vb1⟩ := Lib.atoiAll_bounds hv
   have hA : Calls Tryz.prog 111 #[.string s] w fun e w' => e = .returned (.tuple #[.int .i64 v, .nilIface]) ∧ Below w.heap.size w w' := hA.mono fun e w' ⟨h, hb⟩ => ⟨by
    rcases h with ⟨v', h1, h2⟩ | ⟨h1, _⟩
    · rw [hv] at h1; cases h1; exact h2
    · exact absurd hv (h1 v), hb⟩
   have hI : ∀ W, Below w.heap.size w W → ∀ (f : Ending → World → Prop), (∀ W', Below w.heap.size w W' → f (.returned (.string ⟨(Lib.itoa v).toArray⟩)) W') → Calls Tryz.prog 102 #[.int .i64 v] W f := fun W hb f hf =>
    (xPh Tryz.laysM171 v vb0 vb1 W (ht W (hQ w W hw hb))).mono fun e W' ⟨h1, h2⟩ => by rw [h1]; exact hf W' (hb.trans (h2.mono hb.size))
   have hN : zHG s.data.toList lo hi = if v < lo then (0, false) else if v > hi then (0, false) else if Lib.itoa v = s.data.toList then (v, true) else (0, false) := by unfold zHG; rw [hv]
   rw [hN]
   clear hN hv
   by_cases h1 : v < lo
   · rw [if_pos h1]
     go_enter Tryz.func89, Tryz.ntmps89
     go_wp2_with (go_at_call 111; refine hA.mono ?_; rintro e W1 ⟨rfl, hb⟩)
     go_wp2
     go_ret2
     exact ⟨rfl, hb⟩
   · rw [if_neg h1]
     by_cases h2 : v > hi
     · rw [if_pos h2]
       go_enter Tryz.func89, Tryz.ntmps89
       go_wp2_with (go_at_call 111; refine hA.mono ?_; rintro e W1 ⟨rfl, hb⟩)
       go_wp2
       go_ret2
       exact ⟨rfl, hb⟩
     · rw [if_neg h2]
       go_enter Tryz.func89, Tryz.ntmps89
       go_wp2_with (go_at_call 111; refine hA.mono ?_; rintro e W1 ⟨rfl, hb⟩)
       go_wp2_with (go_at_call 102; refine hI _ (by assumption) _ ?_; intro W2 hb2)
       all_goals first
        | (go_ret2; exact ⟨rfl, hb2⟩)
        | (exfalso; simp_all [ByteArray.toList_eq]; done)
        | (exfalso; rename_i hx; rw [ByteArray.toList_eq, h] at hx; rcases hx with (hx | hx) | hx <;> first | omega | (simp at hx; done))
 · have hN : zHG s.data.toList lo hi = (0, false) := by
    unfold zHG
    cases hc : Lib.atoiAll s.data.toList with
    | ok v => exact absurd ⟨v, hc⟩ hok
    | _ => rfl
   have hA : Calls Tryz.prog 111 #[.string s] w fun e w' => (∃ n t b, e = .returned (.tuple #[.int .i64 n, .iface t (.pointer (some ⟨b, 0, none⟩))])) ∧ Below w.heap.size w w' := hA.mono fun e w' ⟨h, hb⟩ => ⟨by
    rcases h with ⟨v', h1, h2⟩ | ⟨_, h1⟩
    · exact absurd ⟨v', h1⟩ hok
    · exact h1, hb⟩
   rw [hN]
   clear hN hok
   go_enter Tryz.func89, Tryz.ntmps89
   go_wp2_with (go_at_call 111; refine hA.mono ?_; rintro e W1 ⟨⟨n, t, b, rfl⟩, hb⟩)
   go_wp2
   go_ret2
   exact ⟨rfl, hb⟩
end Go.Ab
end
section
open Go.Proofs
namespace Go.Ab.T
variable [Inhabited Lb]
abbrev AbC (f : FuncId) (a : List Arg) (r : CallO) : Prop := AbsCalls Tryz.prog f a r
abbrev W (x : Int) : Int := IntKind.i64.wrap x
abbrev Ln {α : Type} (l : List α) : Nat := List.length l
abbrev tN (x : Int) : Nat := Int.toNat x
abbrev gD {α : Type} (l : List α) (i : Nat) (d : α) : α := List.getD l i d
abbrev iY (b : Bool) : Prop := b = true
abbrev iN (b : Bool) : Prop := b = false
abbrev dc (p : Prop) [Decidable p] : Bool := decide p
abbrev vd : Val := Ty.val.dflt
abbrev rd : Rowd := Ty.row.dflt
end Go.Ab.T
end
section
open Go.Proofs
namespace Go.Ab.T
set_option maxRecDepth 100000
variable [Inhabited Lb]
def p10 : String := ((Go.Proofs.YthbobcapimmnhaaGreatDoor.Rows.fnExactParseErrorRow.laid[2]?).map fun x => x.1).getD ""
def Tab10 : Prop := ∀ w : World, (∀ x ∈ zDP, w.heap[x.1]? = some x.2) → Lib.TabIs Tryz.prog w p10 .u64 Lib.pow10Tab
variable [Nonempty Tab10]
theorem xYT : Tab10 := (inferInstance : Nonempty Tab10).elim fun h => h
def ErrVars : Prop := ∀ w : World, (∀ x ∈ zDP, w.heap[x.1]? = some x.2) → (∃ t1 p1, w.var? Tryz.prog "strconv.ErrSyntax" = some #[.iface t1 p1]) ∧ ∃ t2 p2, w.var? Tryz.prog "strconv.ErrRange" = some #[.iface t2 p2]
variable [Nonempty ErrVars]
theorem xSB : ErrVars := (inferInstance : Nonempty ErrVars).elim fun h => h
def tt : TT := [(3, { zero := some [.int .i64 0], ik := some .i64 }),
 (4, { zero := some [.bool false], isBool := true }),
 (5, { zero := some [.int .u8 0], ik := some .u8 }),
 (9, { zero := some [.str []], isStr := true }),
 (23, { zero := some [.sl .own .exp []], elem := some (25, .exp) }),
 (25, { sz := 4, agg := true, zero := some [.int .i64 0, .int .i64 0, .str [], .sl .own .exp []], offs := [0, 1, 2, 3], fsz := [1, 1, 1, 1] }),
 (32, { zero := some [.sl .own .byte []], elem := some (5, .byte) }),
 (37, { zero := some [.sl .own .tok []], elem := some (50, .tok) }),
 (43, { sz := 4, agg := true, zero := some [.sl .own .tok [], .int .i64 0, .int .i64 0, .int .i64 0], offs := [0, 1, 2, 3], fsz := [1, 1, 1, 1] }),
 (47, { sz := 3, agg := true, zero := some [.sl .own .tok [], .int .i64 0, .int .i64 0], offs := [0, 1, 2], fsz := [1, 1, 1] }),
 (50, { sz := 4, agg := true, zero := some [.int .i64 0, .int .i64 0, .int .i64 0, .str []], offs := [0, 1, 2, 3], fsz := [1, 1, 1, 1] }),
 (69, { zero := some [.sl .own .int []], elem := some (3, .int) }),
 (73, { zero := some [.sl .own .str []], elem := some (9, .str) }),
 (79, { sz := 3, agg := true, zero := some [.sl .own .byte [], .int .i64 0, .int .i64 0], offs := [0, 1, 2], fsz := [1, 1, 1] })]
theorem ttok : TTok Tryz.prog tt := zIg (by kernel_rfl)
theorem mix : Tryz.prog.follows .mixedOrders = true := by kernel_rfl
def F : Bool := false
def Y : Bool := true
noncomputable def rE (I : Info) (ag : List Arg) (bs : List Bool) (cs : List CallO) : Option Res := run tt (AbsCalls Tryz.prog) I 3000 false [.code I.body] ⟨zBp 0 ag, bs, cs, []⟩
noncomputable def rS (k : Nat) (I : Info) (σ : St) (bs : List Bool) (cs : List CallO) : Option Res := run tt (AbsCalls Tryz.prog) I 3000 true (stkAt k I.body) ⟨σ, bs, cs, []⟩
noncomputable def dn (r : CallO) (ob : List Prop) : Option Res := some (.done r ob)
noncomputable def st (k : Nat) (I : Info) (σ : St) (ob : List Prop) : Option Res := some (.stop (stkAt k I.body) σ ob)
def RE (fn : Func) (I : Info) (ag : List Arg) (r : CallO) : Prop := Reach Tryz.prog fn I [.code I.body] (zBp 0 ag) r
def RS (fn : Func) (I : Info) (k : Nat) (σ : St) (r : CallO) : Prop := Reach Tryz.prog fn I (stkAt k I.body) σ r
section
variable {ρ : Type} {f : FuncId} {fn : Func} {I : Info} {ag : List Arg} {bs : List Bool} {cs : List CallO} {k j : Nat} {σ σ' : St} {ob : List Prop} {ro : ρ → CallO} {x r : ρ} {q : CallO}
theorem dE (e : some x = some r) (hf : FnOk Tryz.prog f fn I) (h : rE I ag bs cs = dn (ro x) ob) (o : ∀ p ∈ ob, p) : RE fn I ag (ro r) := by
 cases e; exact Reach.done ttok mix hf h o
theorem dS (e : some x = some r) (hf : FnOk Tryz.prog f fn I) (h : rS k I σ bs cs = dn (ro x) ob) (o : ∀ p ∈ ob, p) : RS fn I k σ (ro r) := by
 cases e; exact Reach.done ttok mix hf h o
theorem tE (hf : FnOk Tryz.prog f fn I) (h : rE I ag bs cs = st k I σ ob) (o : ∀ p ∈ ob, p) (t : RS fn I k σ q) : RE fn I ag q := Reach.stop ttok mix hf h o t
theorem tS (hf : FnOk Tryz.prog f fn I) (h : rS j I σ' bs cs = st k I σ ob) (o : ∀ p ∈ ob, p) (t : RS fn I k σ q) : RS fn I j σ' q := Reach.stop ttok mix hf h o t
end
theorem oc {p : Prop} {l : List Prop} (h : p) (t : ∀ q ∈ l, q) : ∀ q ∈ p :: l, q := zIf h t
theorem on : ∀ q ∈ ([] : List Prop), q := zIj
theorem oc2 {p0 p1 : Prop} {l : List Prop} (h0 : p0) (h1 : p1) (t : ∀ q ∈ l, q) : ∀ q ∈ p0 :: p1 :: l, q := oc h0 (oc h1 t)
theorem oc3 {p0 p1 p2 : Prop} {l : List Prop} (h0 : p0) (h1 : p1) (h2 : p2) (t : ∀ q ∈ l, q) : ∀ q ∈ p0 :: p1 :: p2 :: l, q := oc h0 (oc2 h1 h2 t)
theorem oc4 {p0 p1 p2 p3 : Prop} {l : List Prop} (h0 : p0) (h1 : p1) (h2 : p2) (h3 : p3) (t : ∀ q ∈ l, q) : ∀ q ∈ p0 :: p1 :: p2 :: p3 :: l, q := oc h0 (oc3 h1 h2 h3 t)
theorem oc5 {p0 p1 p2 p3 p4 : Prop} {l : List Prop} (h0 : p0) (h1 : p1) (h2 : p2) (h3 : p3) (h4 : p4) (t : ∀ q ∈ l, q) : ∀ q ∈ p0 :: p1 :: p2 :: p3 :: p4 :: l, q := oc h0 (oc4 h1 h2 h3 h4 t)
theorem oc6 {p0 p1 p2 p3 p4 p5 : Prop} {l : List Prop} (h0 : p0) (h1 : p1) (h2 : p2) (h3 : p3) (h4 : p4) (h5 : p5) (t : ∀ q ∈ l, q) : ∀ q ∈ p0 :: p1 :: p2 :: p3 :: p4 :: p5 :: l, q := oc h0 (oc5 h1 h2 h3 h4 h5 t)
theorem oc7 {p0 p1 p2 p3 p4 p5 p6 : Prop} {l : List Prop} (h0 : p0) (h1 : p1) (h2 : p2) (h3 : p3) (h4 : p4) (h5 : p5) (h6 : p6) (t : ∀ q ∈ l, q) : ∀ q ∈ p0 :: p1 :: p2 :: p3 :: p4 :: p5 :: p6 :: l, q := oc h0 (oc6 h1 h2 h3 h4 h5 h6 t)
theorem oc8 {p0 p1 p2 p3 p4 p5 p6 p7 : Prop} {l : List Prop} (h0 : p0) (h1 : p1) (h2 : p2) (h3 : p3) (h4 : p4) (h5 : p5) (h6 : p6) (h7 : p7) (t : ∀ q ∈ l, q) : ∀ q ∈ p0 :: p1 :: p2 :: p3 :: p4 :: p5 :: p6 :: p7 :: l, q := oc h0 (oc7 h1 h2 h3 h4 h5 h6 h7 t)
theorem oc9 {p0 p1 p2 p3 p4 p5 p6 p7 p8 : Prop} {l : List Prop} (h0 : p0) (h1 : p1) (h2 : p2) (h3 : p3) (h4 : p4) (h5 : p5) (h6 : p6) (h7 : p7) (h8 : p8) (t : ∀ q ∈ l, q) : ∀ q ∈ p0 :: p1 :: p2 :: p3 :: p4 :: p5 :: p6 :: p7 :: p8 :: l, q := oc h0 (oc8 h1 h2 h3 h4 h5 h6 h7 h8 t)
theorem oc10 {p0 p1 p2 p3 p4 p5 p6 p7 p8 p9 : Prop} {l : List Prop} (h0 : p0) (h1 : p1) (h2 : p2) (h3 : p3) (h4 : p4) (h5 : p5) (h6 : p6) (h7 : p7) (h8 : p8) (h9 : p9) (t : ∀ q ∈ l, q) : ∀ q ∈ p0 :: p1 :: p2 :: p3 :: p4 :: p5 :: p6 :: p7 :: p8 :: p9 :: l, q := oc h0 (oc9 h1 h2 h3 h4 h5 h6 h7 h8 h9 t)
theorem oc11 {p0 p1 p2 p3 p4 p5 p6 p7 p8 p9 p10 : Prop} {l : List Prop} (h0 : p0) (h1 : p1) (h2 : p2) (h3 : p3) (h4 : p4) (h5 : p5) (h6 : p6) (h7 : p7) (h8 : p8) (h9 : p9) (h10 : p10) (t : ∀ q ∈ l, q) : ∀ q ∈ p0 :: p1 :: p2 :: p3 :: p4 :: p5 :: p6 :: p7 :: p8 :: p9 :: p10 :: l, q := oc h0 (oc10 h1 h2 h3 h4 h5 h6 h7 h8 h9 h10 t)
theorem oc12 {p0 p1 p2 p3 p4 p5 p6 p7 p8 p9 p10 p11 : Prop} {l : List Prop} (h0 : p0) (h1 : p1) (h2 : p2) (h3 : p3) (h4 : p4) (h5 : p5) (h6 : p6) (h7 : p7) (h8 : p8) (h9 : p9) (h10 : p10) (h11 : p11) (t : ∀ q ∈ l, q) : ∀ q ∈ p0 :: p1 :: p2 :: p3 :: p4 :: p5 :: p6 :: p7 :: p8 :: p9 :: p10 :: p11 :: l, q := oc h0 (oc11 h1 h2 h3 h4 h5 h6 h7 h8 h9 h10 h11 t)
theorem cE {α : Type} {C : Prop} {b : Bool} {x y : Option α} {r : α} (h : cond b x y = some r) (f : b = true → x = some r → C) (g : b = false → y = some r → C) : C := (zIc h).elim (fun h => f h.1 h.2) fun h => g h.1 h.2
theorem bE {α β : Type} {C : Prop} {o : Option α} {f : α → Option β} {r : β} (h : Option.bind o f = some r) (g : ∀ a, o = some a → f a = some r → C) : C := (zIa h).elim fun a h => g a h.1 h.2
theorem iE {α : Type} {C p : Prop} [Decidable p] {x : Option α} {r : α} (h : (if p then x else none) = some r) (g : p → x = some r → C) : C := (zIh h).elim g
theorem nE {α : Type} {C : Prop} {r : α} (h : none = some r) : C := nomatch h
noncomputable def I79 : Info := { body := (Tryz.f79.body).getD .skip, nt := 9, results := [.tmp 2], keep := [0, 4], live := [], modes := [(1, [(2, .take, false)])] }
theorem fk79 : FnOk Tryz.prog 79 Tryz.f79 I79 := ⟨Tryz.func79, by kernel_rfl, by kernel_rfl, by kernel_rfl, by kernel_rfl⟩
def xVy (a0 : Int) : rE I79 (xEB a0) [Y] [] = dn (xBx (dc (a0 ≤ 122))) [iY (dc (a0 ≥ 97))] := by kernel_rfl
def xVz (a0 : Int) : rE I79 (xEB a0) [F] [] = dn (xBx false) [iN (dc (a0 ≥ 97))] := by kernel_rfl
theorem xYx {N : Nat} : ∀ a0 r, xEY N a0 = some r → RE Tryz.f79 I79 (xEB a0) (xBx r) := fun a0 r h =>
 cE h (fun h0 h => dE h fk79 (xVy a0) (oc h0 on)) fun h0 h =>
 dE h fk79 (xVz a0) (oc h0 on)
theorem xC3 {N : Nat} {a0 : Int} {r : Bool} (h : xEY N  a0 = some r) : AbC 79 (xEB a0) (xBx r) :=
 AbsCalls.of_reach fk79 rfl rfl (Nat.le_of_ble_eq_true rfl) (xYx a0 r h)
noncomputable def I80 : Info := { body := (Tryz.f80.body).getD .skip, nt := 9, results := [.tmp 2], keep := [0, 4], live := [], modes := [(1, [(2, .take, false)])] }
theorem fk80 : FnOk Tryz.prog 80 Tryz.f80 I80 := ⟨Tryz.func80, by kernel_rfl, by kernel_rfl, by kernel_rfl, by kernel_rfl⟩
def xVA (a0 : Int) : rE I80 (xEQ a0) [Y] [] = dn (xBq (dc (a0 ≤ 57))) [iY (dc (a0 ≥ 48))] := by kernel_rfl
def xVB (a0 : Int) : rE I80 (xEQ a0) [F] [] = dn (xBq false) [iN (dc (a0 ≥ 48))] := by kernel_rfl
theorem xYy {N : Nat} : ∀ a0 r, xEP N a0 = some r → RE Tryz.f80 I80 (xEQ a0) (xBq r) := fun a0 r h =>
 cE h (fun h0 h => dE h fk80 (xVA a0) (oc h0 on)) fun h0 h =>
 dE h fk80 (xVB a0) (oc h0 on)
theorem xCF {N : Nat} {a0 : Int} {r : Bool} (h : xEP N  a0 = some r) : AbC 80 (xEQ a0) (xBq r) :=
 AbsCalls.of_reach fk80 rfl rfl (Nat.le_of_ble_eq_true rfl) (xYy a0 r h)
noncomputable def I72 : Info := { body := (Tryz.f72.body).getD .skip, nt := 31, results := [.tmp 2], keep := [0, 4, 6, 8, 10, 14, 22, 30, 54], live := [(5, [0, 6, 8])], modes := [(11, [(0, .take, false)])] }
theorem fk72 : FnOk Tryz.prog 72 Tryz.f72 I72 := ⟨Tryz.func72, by kernel_rfl, by kernel_rfl, by kernel_rfl, by kernel_rfl⟩
def xK7 (x0 : Int) (x3 : Bool) (x4 : Str) : St := [(0, .v false [.int .i64 x0]), (6, .v false [.bool x3]), (8, .v false [.str x4])]
abbrev xNM (v0 : Int) := List.map (fun n => UInt8.ofNat (tN n)) [(IntKind.u8.wrap ((W (48 + (W (0 - (Int.tmod v0 10)))))))]
def xVg (x0 : Int) (x3 : Bool) (x4 : Str) : rS 5 I72 (xK7 x0 x3 x4) [Y, Y] [] = st 5 I72 (xK7 (W (Int.tdiv x0 10)) x3 ((xNM x0) ++ x4)) [iY (x0 != 0), 10 ≠ (0 : Int), iY (dc ((Int.tmod x0 10) < 0)), Ln (xNM x0) + Ln x4 ≤ Lim, 10 ≠ (0 : Int)] := by kernel_rfl
abbrev xLQ (v0 : Int) := List.map (fun n => UInt8.ofNat (tN n)) [(IntKind.u8.wrap ((W (48 + (Int.tmod v0 10)))))]
abbrev xXk (v0 : Int) (v1 : Str) : Prop := Ln (xLQ v0) + Ln v1 ≤ Lim
def xVh (x0 : Int) (x3 : Bool) (x4 : Str) : rS 5 I72 (xK7 x0 x3 x4) [Y, F] [] = st 5 I72 (xK7 (W (Int.tdiv x0 10)) x3 ((xLQ x0) ++ x4)) [iY (x0 != 0), 10 ≠ (0 : Int), iN (dc ((Int.tmod x0 10) < 0)), xXk x0 x4, 10 ≠ (0 : Int)] := by kernel_rfl
def xVi (x0 : Int) (x3 : Bool) (x4 : Str) : rS 5 I72 (xK7 x0 x3 x4) [F, Y] [] = dn (xBa ([45] ++ x4)) [iN (x0 != 0), iY x3, Ln [45] + Ln x4 ≤ Lim] := by kernel_rfl
def xVj (x0 : Int) (x3 : Bool) (x4 : Str) : rS 5 I72 (xK7 x0 x3 x4) [F, F] [] = dn (xBa x4) [iN (x0 != 0), iN x3] := by kernel_rfl
def xVk (a0 : Int) : rE I72 (xCP a0) [Y] [] = dn (xBa [48]) [iY (a0 == 0)] := by kernel_rfl
abbrev xIV (v0 : Int) : Prop := iN (v0 == 0)
def xVl (a0 : Int) : rE I72 (xCP a0) [F] [] = st 5 I72 (xK7 a0 (dc (a0 < 0)) []) [xIV a0] := by kernel_rfl
theorem xYt {N : Nat} : ∀ n x0 x3 x4 r, xB0 N n x0 x3 x4 = some r → RS Tryz.f72 I72 5 (xK7 x0 x3 x4) (xBa r) := by
 intro n
 induction n with
 | zero => exact fun _ _ _ _ h => nE h
 | succ n ih =>
  exact fun x0 x3 x4 r h =>
   cE h (fun h0 h => cE h (fun h2 h => iE h fun h3 h => tS fk72 (xVg x0 x3 x4) (oc5 h0 (by decide) h2 h3 (by decide) on) (ih _ _ _ _ h)) fun h2 h =>
   iE h fun h3 h => tS fk72 (xVh x0 x3 x4) (oc5 h0 (by decide) h2 h3 (by decide) on) (ih _ _ _ _ h)) fun h0 h =>
   cE h (fun h1 h => iE h fun h2 h => dS h fk72 (xVi x0 x3 x4) (oc3 h0 h1 h2 on)) fun h1 h =>
   dS h fk72 (xVj x0 x3 x4) (oc2 h0 h1 on)
theorem xYu {N : Nat} : ∀ a0 r, xEC N a0 = some r → RE Tryz.f72 I72 (xCP a0) (xBa r) := fun a0 r h =>
 cE h (fun h0 h => dE h fk72 (xVk a0) (oc h0 on)) fun h0 h =>
 tE fk72 (xVl a0) (oc h0 on) (xYt _ _ _ _ _ h)
theorem xEV {N : Nat} {a0 : Int} {r : Str} (h : xEC N  a0 = some r) : AbC 72 (xCP a0) (xBa r) :=
 AbsCalls.of_reach fk72 rfl rfl (Nat.le_of_ble_eq_true rfl) (xYu a0 r h)
noncomputable def I107 : Info := { body := (Tryz.f107.body).getD .skip, nt := 63, results := [.tmp 4, .tmp 5], keep := [0, 2, 8, 10, 12, 14, 16, 18, 38, 60, 68, 92, 110, 122], live := [(9, [0, 12, 14, 16, 18])], modes := [(1, [(3, .take, false)]), (5, [(3, .take, false)]), (11, [(4, .take, false)])] }
theorem xHq : FnOk Tryz.prog 107 Tryz.f107 I107 := ⟨Tryz.func107, by kernel_rfl, by kernel_rfl, by kernel_rfl, by kernel_rfl⟩
def xHg (x0 : Str) (x6 : Bool) (x7 : Str) (x8 x9 : Int) : St := [(0, .v false [.str x0]), (12, .v false [.bool x6]), (14, .v false [.str x7]), (16, .v false [.int .i64 x8]), (18, .v false [.int .i64 x9])]
abbrev xCO (v0 : Int) (v1 : Str) : Prop := iY (dc (v0 < (Ln v1 : Int)))
abbrev xAu (v0 : Int) (v1 : Str) : Prop := (0 : Int) ≤ v0 ∧ v0 < (Ln v1)
abbrev xE1 (v0 : Str) (v1 : Int) := (((gD v0 (tN v1) 0).toNat : Int) : Int)
abbrev xSL (v0 : Str) (v1 : Int) : Prop := iY (dc ((xE1 v0 v1) < 48))
def xPA (x0 : Str) (x6 : Bool) (x7 : Str) (x8 x9 : Int) : rS 9 I107 (xHg x0 x6 x7 x8 x9) [Y, Y, Y] [] = dn (xBh (0, false)) [xCO x9 x7, xAu x9 x7, xSL x7 x9, iY true] := by kernel_rfl
abbrev xNd (v0 : Str) (v1 : Int) : Prop := iN (dc ((xE1 v0 v1) < 48))
abbrev xSM (v0 : Str) (v1 : Int) : Prop := iY (dc ((xE1 v0 v1) > 57))
def xPB (x0 : Str) (x6 : Bool) (x7 : Str) (x8 x9 : Int) : rS 9 I107 (xHg x0 x6 x7 x8 x9) [Y, F, Y] [] = dn (xBh (0, false)) [xCO x9 x7, xAu x9 x7, xNd x7 x9, xAu x9 x7, xSM x7 x9] := by kernel_rfl
abbrev xSN (v0 : Str) (v1 : Int) : Prop := iN (dc ((xE1 v0 v1) > 57))
abbrev xKM (v0 : Str) (v1 : Int) := ((gD v0 (tN v1) 0).toNat : Int)
def xPC (x0 : Str) (x6 : Bool) (x7 : Str) (x8 x9 : Int) : rS 9 I107 (xHg x0 x6 x7 x8 x9) [Y, F, F] [] = st 9 I107 (xHg x0 x6 x7 (W ((W (10 * x8)) + (W ((IntKind.u8.wrap ((xKM x7 x9) - 48)))))) (W (x9 + 1))) [xCO x9 x7, xAu x9 x7, xNd x7 x9, xAu x9 x7, xSN x7 x9, xAu x9 x7] := by kernel_rfl
abbrev xGR (v0 : Int) (v1 : Str) : Prop := iN (dc (v0 < (Ln v1 : Int)))
def xPD (x0 : Str) (x6 : Bool) (x7 : Str) (x8 x9 : Int) (r1 : Str) : rS 9 I107 (xHg x0 x6 x7 x8 x9) [F, Y, Y] [xBa r1] = dn (xBh (0, false)) [xGR x9 x7, iY x6, AbC 72 (xCP (W (0 - x8))) (xBa r1), iY (!((r1 : Str) == x0))] := by kernel_rfl
def xPE (x0 : Str) (x6 : Bool) (x7 : Str) (x8 x9 : Int) (r1 : Str) : rS 9 I107 (xHg x0 x6 x7 x8 x9) [F, Y, F] [xBa r1] = dn (xBh ((W (0 - x8)), true)) [xGR x9 x7, iY x6, AbC 72 (xCP (W (0 - x8))) (xBa r1), iN (!((r1 : Str) == x0))] := by kernel_rfl
def xPF (x0 : Str) (x6 : Bool) (x7 : Str) (x8 x9 : Int) (r1 : Str) : rS 9 I107 (xHg x0 x6 x7 x8 x9) [F, F, Y] [xBa r1] = dn (xBh (0, false)) [xGR x9 x7, iN x6, AbC 72 (xCP x8) (xBa r1), iY (!((r1 : Str) == x0))] := by kernel_rfl
def xPG (x0 : Str) (x6 : Bool) (x7 : Str) (x8 x9 : Int) (r1 : Str) : rS 9 I107 (xHg x0 x6 x7 x8 x9) [F, F, F] [xBa r1] = dn (xBh (x8, true)) [xGR x9 x7, iN x6, AbC 72 (xCP x8) (xBa r1), iN (!((r1 : Str) == x0))] := by kernel_rfl
abbrev xJz (v0 : Str) := dc ((Ln v0 : Int) > 0)
abbrev xNe (v0 : Str) : Prop := iY (xJz v0)
abbrev xKa (v0 : Str) : Prop := (0 : Int) ≤ 0 ∧ (0 : Int) < (Ln v0)
abbrev xKN (v0 : Str) := (((gD v0 (tN 0) 0).toNat : Int) : Int) == 45
abbrev xNI (v0 : Str) : Prop := iY (xKN v0)
abbrev xNJ (v0 : Str) : Prop := (0 : Int) ≤ (1 : Int) ∧ (1 : Int) ≤ (Ln v0)
abbrev xKO (v0 : Str) := ((Ln (List.drop (tN (1 : Int)) v0) : Int) : Int)
def xPH (a0 : Str) (a1 : Int) : rE I107 (xCo a0 a1) [Y, Y, Y, Y] [] = dn (xBh (0, false)) [xNe a0, xKa a0, xNI a0, xNJ a0, iY (dc ((xKO a0) < 1)), iY true] := by kernel_rfl
abbrev xSk (v0 : Str) : Prop := iN (dc ((xKO v0) < 1))
def xPI (a0 : Str) (a1 : Int) : rE I107 (xCo a0 a1) [Y, Y, F, Y] [] = dn (xBh (0, false)) [xNe a0, xKa a0, xNI a0, xNJ a0, xSk a0, iY (dc ((xKO a0) > a1))] := by kernel_rfl
abbrev xSG (v0 : Str) := List.drop (tN (1 : Int)) v0
def xPJ (a0 : Str) (a1 : Int) : rE I107 (xCo a0 a1) [Y, Y, F, F] [] = st 9 I107 (xHg a0 (xKN a0) (xSG a0) 0 0) [xNe a0, xKa a0, xNI a0, xNJ a0, xSk a0, iN (dc ((xKO a0) > a1))] := by kernel_rfl
abbrev xNK (v0 : Str) : Prop := iN (xKN v0)
def xOf (a0 : Str) (a1 : Int) : rE I107 (xCo a0 a1) [Y, F, Y, Y] [] = dn (xBh (0, false)) [xNe a0, xKa a0, xNK a0, iY (dc ((Ln a0 : Int) < 1)), iY true] := by kernel_rfl
abbrev xMy (v0 : Str) : Prop := iN (dc ((Ln v0 : Int) < 1))
def xOg (a0 : Str) (a1 : Int) : rE I107 (xCo a0 a1) [Y, F, F, Y] [] = dn (xBh (0, false)) [xNe a0, xKa a0, xNK a0, xMy a0, iY (dc ((Ln a0 : Int) > a1))] := by kernel_rfl
def xOh (a0 : Str) (a1 : Int) : rE I107 (xCo a0 a1) [Y, F, F, F] [] = st 9 I107 (xHg a0 (xKN a0) a0 0 0) [xNe a0, xKa a0, xNK a0, xMy a0, iN (dc ((Ln a0 : Int) > a1))] := by kernel_rfl
def xOi (a0 : Str) (a1 : Int) : rE I107 (xCo a0 a1) [F, F, Y, Y] [] = dn (xBh (0, false)) [iN (xJz a0), iN false, iY (dc ((Ln a0 : Int) < 1)), iY true] := by kernel_rfl
def xOj (a0 : Str) (a1 : Int) : rE I107 (xCo a0 a1) [F, F, F, Y] [] = dn (xBh (0, false)) [iN (xJz a0), iN false, xMy a0, iY (dc ((Ln a0 : Int) > a1))] := by kernel_rfl
def xOk (a0 : Str) (a1 : Int) : rE I107 (xCo a0 a1) [F, F, F, F] [] = st 9 I107 (xHg a0 false a0 0 0) [iN (xJz a0), iN false, xMy a0, iN (dc ((Ln a0 : Int) > a1))] := by kernel_rfl
theorem xNv {N : Nat} : ∀ n x0 x6 x7 x8 x9 r, xCS N n x0 x6 x7 x8 x9 = some r → RS Tryz.f107 I107 9 (xHg x0 x6 x7 x8 x9) (xBh r) := by
 intro n
 induction n with
 | zero => exact fun _ _ _ _ _ _ h => nE h
 | succ n ih =>
  exact fun x0 x6 x7 x8 x9 r h =>
   cE h (fun h0 h => iE h fun h1 h => cE h (fun h2 h => dS h xHq (xPA x0 x6 x7 x8 x9) (oc4 h0 h1 h2 rfl on)) fun h2 h =>
   cE h (fun h4 h => dS h xHq (xPB x0 x6 x7 x8 x9) (oc5 h0 h1 h2 h1 h4 on)) fun h4 h =>
   tS xHq (xPC x0 x6 x7 x8 x9) (oc6 h0 h1 h2 h1 h4 h1 on) (ih _ _ _ _ _ _ h)) fun h0 h =>
   cE h (fun h1 h => bE h fun r1 h2 h => cE h (fun h3 h => dS h xHq (xPD x0 x6 x7 x8 x9 r1) (oc4 h0 h1 (xEV h2) h3 on)) fun h3 h =>
   dS h xHq (xPE x0 x6 x7 x8 x9 r1) (oc4 h0 h1 (xEV h2) h3 on)) fun h1 h =>
   bE h fun r1 h2 h => cE h (fun h3 h => dS h xHq (xPF x0 x6 x7 x8 x9 r1) (oc4 h0 h1 (xEV h2) h3 on)) fun h3 h =>
   dS h xHq (xPG x0 x6 x7 x8 x9 r1) (oc4 h0 h1 (xEV h2) h3 on)
theorem xWM {N : Nat} : ∀ a0 a1 r, xGq N a0 a1 = some r → RE Tryz.f107 I107 (xCo a0 a1) (xBh r) := fun a0 a1 r h =>
 cE h (fun h0 h => iE h fun h1 h => cE h (fun h2 h => iE h fun h3 h => cE h (fun h4 h => dE h xHq (xPH a0 a1) (oc6 h0 h1 h2 h3 h4 rfl on)) fun h4 h =>
 cE h (fun h5 h => dE h xHq (xPI a0 a1) (oc6 h0 h1 h2 h3 h4 h5 on)) fun h5 h =>
 tE xHq (xPJ a0 a1) (oc6 h0 h1 h2 h3 h4 h5 on) (xNv _ _ _ _ _ _ _ h)) fun h2 h =>
 cE h (fun h3 h => dE h xHq (xOf a0 a1) (oc5 h0 h1 h2 h3 rfl on)) fun h3 h =>
 cE h (fun h4 h => dE h xHq (xOg a0 a1) (oc5 h0 h1 h2 h3 h4 on)) fun h4 h =>
 tE xHq (xOh a0 a1) (oc5 h0 h1 h2 h3 h4 on) (xNv _ _ _ _ _ _ _ h)) fun h0 h =>
 cE h (fun h2 h => dE h xHq (xOi a0 a1) (oc4 h0 rfl h2 rfl on)) fun h2 h =>
 cE h (fun h3 h => dE h xHq (xOj a0 a1) (oc4 h0 rfl h2 h3 on)) fun h3 h =>
 tE xHq (xOk a0 a1) (oc4 h0 rfl h2 h3 on) (xNv _ _ _ _ _ _ _ h)
theorem xJ1 {N : Nat} {a0 : Str} {a1 : Int} {r : Int × Bool} (h : xGq N  a0 a1 = some r) : AbC 107 (xCo a0 a1) (xBh r) :=
 AbsCalls.of_reach xHq rfl rfl (Nat.le_of_ble_eq_true rfl) (xWM a0 a1 r h)
noncomputable def I81 : Info := { body := (Tryz.f81.body).getD .skip, nt := 8, results := [.tmp 2, .tmp 3], keep := [0, 4, 6], live := [], modes := [] }
theorem fk81 : FnOk Tryz.prog 81 Tryz.f81 I81 := ⟨Tryz.func81, by kernel_rfl, by kernel_rfl, by kernel_rfl, by kernel_rfl⟩
def xVC (a0 : Str) (r1 : Int × Bool) : rE I81 (xFe a0) [] [xBh r1] = dn (xCl (r1.1, r1.2)) [AbC 107 (xCo a0 12) (xBh r1)] := by kernel_rfl
theorem xYz {N : Nat} : ∀ a0 r, xEs N a0 = some r → RE Tryz.f81 I81 (xFe a0) (xCl r) := fun a0 r h =>
 bE h fun r1 h0 h => dE h fk81 (xVC a0 r1) (oc (xJ1 h0) on)
theorem xD2 {N : Nat} {a0 : Str} {r : Int × Bool} (h : xEs N  a0 = some r) : AbC 81 (xFe a0) (xCl r) :=
 AbsCalls.of_reach fk81 rfl rfl (Nat.le_of_ble_eq_true rfl) (xYz a0 r h)
noncomputable def I82 : Info := { body := (Tryz.f82.body).getD .skip, nt := 29, results := [.tmp 2], keep := [0, 4, 6, 14, 50], live := [(2, [0, 6])], modes := [(4, [(4, .take, false), (10, .take, false)])] }
theorem fk82 : FnOk Tryz.prog 82 Tryz.f82 I82 := ⟨Tryz.func82, by kernel_rfl, by kernel_rfl, by kernel_rfl, by kernel_rfl⟩
def xK8 (x0 : Str) (x3 : Int) : St := [(0, .v false [.str x0]), (6, .v false [.int .i64 x3])]
abbrev xLR (v0 : Str) (v1 : Int) := dc ((((gD v0 (tN v1) 0).toNat : Int) : Int) < 32)
def xVD (x0 : Str) (x3 : Int) : rS 2 I82 (xK8 x0 x3) [Y, Y, Y, Y] [] = dn (xAV false) [xCO x3 x0, xAu x3 x0, iY (xLR x0 x3), iY true, iY true] := by kernel_rfl
abbrev xKb (v0 : Str) (v1 : Int) : Prop := iN (xLR v0 v1)
abbrev xLS (v0 : Str) (v1 : Int) := dc ((((gD v0 (tN v1) 0).toNat : Int) : Int) > 126)
def xVE (x0 : Str) (x3 : Int) : rS 2 I82 (xK8 x0 x3) [Y, F, Y, Y] [] = dn (xAV false) [xCO x3 x0, xAu x3 x0, xKb x0 x3, xAu x3 x0, iY (xLS x0 x3), iY true] := by kernel_rfl
abbrev xMz (v0 : Str) (v1 : Int) : Prop := iN (xLS v0 v1)
abbrev xHG (v0 : Str) (v1 : Int) : Prop := iY ((xE1 v0 v1) == 34)
def xVF (x0 : Str) (x3 : Int) : rS 2 I82 (xK8 x0 x3) [Y, F, F, Y] [] = dn (xAV false) [xCO x3 x0, xAu x3 x0, xKb x0 x3, xAu x3 x0, xMz x0 x3, xAu x3 x0, xHG x0 x3] := by kernel_rfl
abbrev xHH (v0 : Str) (v1 : Int) : Prop := iN ((xE1 v0 v1) == 34)
def xVG (x0 : Str) (x3 : Int) : rS 2 I82 (xK8 x0 x3) [Y, F, F, F] [] = st 2 I82 (xK8 x0 (W (x3 + 1))) [xCO x3 x0, xAu x3 x0, xKb x0 x3, xAu x3 x0, xMz x0 x3, xAu x3 x0, xHH x0 x3] := by kernel_rfl
def xVH (x0 : Str) (x3 : Int) : rS 2 I82 (xK8 x0 x3) [F] [] = dn (xAV (dc ((Ln x0 : Int) ≤ 20))) [xGR x3 x0] := by kernel_rfl
def xVI (a0 : Str) : rE I82 (xDS a0) [] [] = st 2 I82 (xK8 a0 0) [] := by kernel_rfl
theorem xYA {N : Nat} : ∀ n x0 x3 r, xCg N n x0 x3 = some r → RS Tryz.f82 I82 2 (xK8 x0 x3) (xAV r) := by
 intro n
 induction n with
 | zero => exact fun _ _ _ h => nE h
 | succ n ih =>
  exact fun x0 x3 r h =>
   cE h (fun h0 h => iE h fun h1 h => cE h (fun h2 h => dS h fk82 (xVD x0 x3) (oc5 h0 h1 h2 rfl rfl on)) fun h2 h =>
   cE h (fun h4 h => dS h fk82 (xVE x0 x3) (oc6 h0 h1 h2 h1 h4 rfl on)) fun h4 h =>
   cE h (fun h6 h => dS h fk82 (xVF x0 x3) (oc7 h0 h1 h2 h1 h4 h1 h6 on)) fun h6 h =>
   tS fk82 (xVG x0 x3) (oc7 h0 h1 h2 h1 h4 h1 h6 on) (ih _ _ _ h)) fun h0 h =>
   dS h fk82 (xVH x0 x3) (oc h0 on)
theorem xYB {N : Nat} : ∀ a0 r, xD1 N a0 = some r → RE Tryz.f82 I82 (xDS a0) (xAV r) := fun a0 r h =>
 tE fk82 (xVI a0) on (xYA _ _ _ _ h)
theorem xDT {N : Nat} {a0 : Str} {r : Bool} (h : xD1 N  a0 = some r) : AbC 82 (xDS a0) (xAV r) :=
 AbsCalls.of_reach fk82 rfl rfl (Nat.le_of_ble_eq_true rfl) (xYB a0 r h)
noncomputable def I83 : Info := { body := (Tryz.f83.body).getD .skip, nt := 32, results := [.tmp 4], keep := [0, 2, 8, 14, 16, 36, 62], live := [], modes := [(13, [(5, .take, false)])] }
theorem fk83 : FnOk Tryz.prog 83 Tryz.f83 I83 := ⟨Tryz.func83, by kernel_rfl, by kernel_rfl, by kernel_rfl, by kernel_rfl⟩
abbrev xLT (v0 : Str) (v1 : Int) := (((gD v0 (tN v1) 0).toNat : Int) : Int) == 40
def xVJ (a0 : Str) (a1 : Int) : rE I83 (xA5 a0 a1) [Y, Y] [] = dn (xAY 1) [xAu a1 a0, iY (xLT a0 a1), iY (xLT a0 a1)] := by kernel_rfl
abbrev xHi (v0 : Str) (v1 : Int) : Prop := iN (xLT v0 v1)
abbrev xLU (v0 : Str) (v1 : Int) := (((gD v0 (tN v1) 0).toNat : Int) : Int) == 41
def xVK (a0 : Str) (a1 : Int) : rE I83 (xA5 a0 a1) [F, Y, Y] [] = dn (xAY 1) [xAu a1 a0, xHi a0 a1, iY (xLU a0 a1), iY (xLU a0 a1)] := by kernel_rfl
abbrev xHI (v0 : Str) (v1 : Int) : Prop := iN (xLU v0 v1)
abbrev xLV (v0 : Str) (v1 : Int) := (((gD v0 (tN v1) 0).toNat : Int) : Int) == 91
def xVL (a0 : Str) (a1 : Int) : rE I83 (xA5 a0 a1) [F, F, Y, Y] [] = dn (xAY 1) [xAu a1 a0, xHi a0 a1, xHI a0 a1, iY (xLV a0 a1), iY (xLV a0 a1)] := by kernel_rfl
abbrev xH1 (v0 : Str) (v1 : Int) : Prop := iN (xLV v0 v1)
abbrev xLW (v0 : Str) (v1 : Int) := (((gD v0 (tN v1) 0).toNat : Int) : Int) == 93
def xVM (a0 : Str) (a1 : Int) : rE I83 (xA5 a0 a1) [F, F, F, Y, Y] [] = dn (xAY 1) [xAu a1 a0, xHi a0 a1, xHI a0 a1, xH1 a0 a1, iY (xLW a0 a1), iY (xLW a0 a1)] := by kernel_rfl
abbrev xIt (v0 : Str) (v1 : Int) : Prop := iN (xLW v0 v1)
abbrev xLX (v0 : Str) (v1 : Int) := (((gD v0 (tN v1) 0).toNat : Int) : Int) == 44
def xVN (a0 : Str) (a1 : Int) : rE I83 (xA5 a0 a1) [F, F, F, F, Y, Y] [] = dn (xAY 1) [xAu a1 a0, xHi a0 a1, xHI a0 a1, xH1 a0 a1, xIt a0 a1, iY (xLX a0 a1), iY (xLX a0 a1)] := by kernel_rfl
abbrev xI3 (v0 : Str) (v1 : Int) : Prop := iN (xLX v0 v1)
abbrev xLY (v0 : Str) (v1 : Int) := (((gD v0 (tN v1) 0).toNat : Int) : Int) == 43
def xVO (a0 : Str) (a1 : Int) : rE I83 (xA5 a0 a1) [F, F, F, F, F, Y, Y] [] = dn (xAY 1) [xAu a1 a0, xHi a0 a1, xHI a0 a1, xH1 a0 a1, xIt a0 a1, xI3 a0 a1, iY (xLY a0 a1), iY (xLY a0 a1)] := by kernel_rfl
abbrev xJD (v0 : Str) (v1 : Int) : Prop := iN (xLY v0 v1)
abbrev xLZ (v0 : Str) (v1 : Int) := (((gD v0 (tN v1) 0).toNat : Int) : Int) == 45
def xVP (a0 : Str) (a1 : Int) : rE I83 (xA5 a0 a1) [F, F, F, F, F, F, Y, Y] [] = dn (xAY 1) [xAu a1 a0, xHi a0 a1, xHI a0 a1, xH1 a0 a1, xIt a0 a1, xI3 a0 a1, xJD a0 a1, iY (xLZ a0 a1), iY (xLZ a0 a1)] := by kernel_rfl
abbrev xKc (v0 : Str) (v1 : Int) : Prop := iN (xLZ v0 v1)
abbrev xL0 (v0 : Str) (v1 : Int) := (((gD v0 (tN v1) 0).toNat : Int) : Int) == 42
def xVQ (a0 : Str) (a1 : Int) : rE I83 (xA5 a0 a1) [F, F, F, F, F, F, F, Y, Y] [] = dn (xAY 1) [xAu a1 a0, xHi a0 a1, xHI a0 a1, xH1 a0 a1, xIt a0 a1, xI3 a0 a1, xJD a0 a1, xKc a0 a1, iY (xL0 a0 a1), iY (xL0 a0 a1)] := by kernel_rfl
abbrev xLf (v0 : Str) (v1 : Int) : Prop := iN (xL0 v0 v1)
def xVR (a0 : Str) (a1 : Int) : rE I83 (xA5 a0 a1) [F, F, F, F, F, F, F, F, Y] [] = dn (xAY 1) [xAu a1 a0, xHi a0 a1, xHI a0 a1, xH1 a0 a1, xIt a0 a1, xI3 a0 a1, xJD a0 a1, xKc a0 a1, xLf a0 a1, iY ((xE1 a0 a1) == 60)] := by kernel_rfl
abbrev xMA (v0 : Str) (v1 : Int) : Prop := iN ((xE1 v0 v1) == 60)
abbrev xN1 (v0 : Str) (v1 : Int) : Prop := iY ((xE1 v0 v1) == 61)
abbrev xL1 (v0 : Int) := tN (W (v0 + 1))
def xVS (a0 : Str) (a1 : Int) : rE I83 (xA5 a0 a1) [F, F, F, F, F, F, F, F, F, Y, Y, Y] [] = dn (xAY 2) [xAu a1 a0, xHi a0 a1, xHI a0 a1, xH1 a0 a1, xIt a0 a1, xI3 a0 a1, xJD a0 a1, xKc a0 a1, xLf a0 a1, xMA a0 a1, xN1 a0 a1, iY (dc ((W (a1 + 1)) < (Ln a0 : Int))), (0 : Int) ≤ (W (a1 + 1)) ∧ (W (a1 + 1)) < (Ln a0), iY ((((gD a0 (xL1 a1) 0).toNat : Int) : Int) == 61)] := by kernel_rfl
def xRP (a0 : Str) (a1 : Int) : rE I83 (xA5 a0 a1) [F, F, F, F, F, F, F, F, F, Y, Y, F] [] = dn (xAY 1) [xAu a1 a0, xHi a0 a1, xHI a0 a1, xH1 a0 a1, xIt a0 a1, xI3 a0 a1, xJD a0 a1, xKc a0 a1, xLf a0 a1, xMA a0 a1, xN1 a0 a1, iY (dc ((W (a1 + 1)) < (Ln a0 : Int))), (0 : Int) ≤ (W (a1 + 1)) ∧ (W (a1 + 1)) < (Ln a0), iN ((((gD a0 (xL1 a1) 0).toNat : Int) : Int) == 61)] := by kernel_rfl
def xRQ (a0 : Str) (a1 : Int) : rE I83 (xA5 a0 a1) [F, F, F, F, F, F, F, F, F, Y, F, F] [] = dn (xAY 1) [xAu a1 a0, xHi a0 a1, xHI a0 a1, xH1 a0 a1, xIt a0 a1, xI3 a0 a1, xJD a0 a1, xKc a0 a1, xLf a0 a1, xMA a0 a1, xN1 a0 a1, iN (dc ((W (a1 + 1)) < (Ln a0 : Int))), iN false] := by kernel_rfl
def xRR (a0 : Str) (a1 : Int) : rE I83 (xA5 a0 a1) [F, F, F, F, F, F, F, F, F, F] [] = dn (xAY 0) [xAu a1 a0, xHi a0 a1, xHI a0 a1, xH1 a0 a1, xIt a0 a1, xI3 a0 a1, xJD a0 a1, xKc a0 a1, xLf a0 a1, xMA a0 a1, iN ((xE1 a0 a1) == 61)] := by kernel_rfl
theorem xYC {N : Nat} : ∀ a0 a1 r, xFF N a0 a1 = some r → RE Tryz.f83 I83 (xA5 a0 a1) (xAY r) := fun a0 a1 r h =>
 iE h fun h0 h => cE h (fun h1 h => dE h fk83 (xVJ a0 a1) (oc3 h0 h1 h1 on)) fun h1 h =>
 cE h (fun h2 h => dE h fk83 (xVK a0 a1) (oc4 h0 h1 h2 h2 on)) fun h2 h =>
 cE h (fun h3 h => dE h fk83 (xVL a0 a1) (oc5 h0 h1 h2 h3 h3 on)) fun h3 h =>
 cE h (fun h4 h => dE h fk83 (xVM a0 a1) (oc6 h0 h1 h2 h3 h4 h4 on)) fun h4 h =>
 cE h (fun h5 h => dE h fk83 (xVN a0 a1) (oc7 h0 h1 h2 h3 h4 h5 h5 on)) fun h5 h =>
 cE h (fun h6 h => dE h fk83 (xVO a0 a1) (oc8 h0 h1 h2 h3 h4 h5 h6 h6 on)) fun h6 h =>
 cE h (fun h7 h => dE h fk83 (xVP a0 a1) (oc9 h0 h1 h2 h3 h4 h5 h6 h7 h7 on)) fun h7 h =>
 cE h (fun h8 h => dE h fk83 (xVQ a0 a1) (oc10 h0 h1 h2 h3 h4 h5 h6 h7 h8 h8 on)) fun h8 h =>
 cE h (fun h9 h => dE h fk83 (xVR a0 a1) (oc10 h0 h1 h2 h3 h4 h5 h6 h7 h8 h9 on)) fun h9 h =>
 cE h (fun h10 h => cE h (fun h11 h => iE h fun h12 h => cE h (fun h13 h => dE h fk83 (xVS a0 a1) (oc12 h0 h1 h2 h3 h4 h5 h6 h7 h8 h9 h10 h11 (oc2 h12 h13 on))) fun h13 h =>
 dE h fk83 (xRP a0 a1) (oc12 h0 h1 h2 h3 h4 h5 h6 h7 h8 h9 h10 h11 (oc2 h12 h13 on))) fun h11 h =>
 dE h fk83 (xRQ a0 a1) (oc12 h0 h1 h2 h3 h4 h5 h6 h7 h8 h9 h10 h11 (oc rfl on))) fun h10 h =>
 dE h fk83 (xRR a0 a1) (oc11 h0 h1 h2 h3 h4 h5 h6 h7 h8 h9 h10 on)
theorem xJm {N : Nat} {a0 : Str} {a1 : Int} {r : Int} (h : xFF N  a0 a1 = some r) : AbC 83 (xA5 a0 a1) (xAY r) :=
 AbsCalls.of_reach fk83 rfl rfl (Nat.le_of_ble_eq_true rfl) (xYC a0 a1 r h)
noncomputable def I43 : Info := { body := (Tryz.f43.body).getD .skip, nt := 136, results := [.cell 4 50, .tmp 5], keep := [0, 2, 8, 10, 12, 14, 16, 18, 48, 88, 112, 116, 144, 182, 186, 218, 256, 9, 13], live := [(7, [0, 2, 8, 12, 14, 9, 13]), (14, [0, 2, 8, 12, 14, 9, 13]), (23, [0, 2, 8, 12, 14, 9, 13])], modes := [(7, [(4, .take, false), (9, .take, false)]), (14, [(4, .take, false)]), (16, [(5, .take, false)]), (19, [(0, .take, false), (2, .take, false)]), (23, [(4, .take, false)]), (27, [(4, .take, false)])] }
theorem fk43 : FnOk Tryz.prog 43 Tryz.f43 I43 := ⟨Tryz.func43, by kernel_rfl, by kernel_rfl, by kernel_rfl, by kernel_rfl⟩
def xJU (x0 : Str) (x1 x7 : Int) (b4 b6 : Tok) : St := [(0, .v false [.str x0]), (2, .v false [.int .i64 x1]), (8, .v false [.ptr 4 0]), (12, .v false [.ptr 6 0]), (14, .v false [.int .i64 x7]), (9, .v true [.int .i64 (Tok.kind b4), .int .i64 (Tok.n b4), .int .i64 (Tok.pos b4), .str (Tok.text b4)]), (13, .v true [.int .i64 (Tok.kind b6), .int .i64 (Tok.n b6), .int .i64 (Tok.pos b6), .str (Tok.text b6)])]
def xHW (x0 : Str) (x1 x7 : Int) (b4 b6 : Tok) : St := [(0, .v false [.str x0]), (2, .v false [.int .i64 x1]), (8, .v false [.ptr 4 0]), (12, .v false [.ptr 6 0]), (14, .v false [.int .i64 x7]), (9, .v true [.int .i64 (Tok.kind b4), .int .i64 (Tok.n b4), .int .i64 (Tok.pos b4), .str (Tok.text b4)]), (13, .v true [.int .i64 (Tok.kind b6), .int .i64 (Tok.n b6), .int .i64 (Tok.pos b6), .str (Tok.text b6)])]
def xHX (x0 : Str) (x1 x7 : Int) (b4 b6 : Tok) : St := [(0, .v false [.str x0]), (2, .v false [.int .i64 x1]), (8, .v false [.ptr 4 0]), (12, .v false [.ptr 6 0]), (14, .v false [.int .i64 x7]), (9, .v true [.int .i64 (Tok.kind b4), .int .i64 (Tok.n b4), .int .i64 (Tok.pos b4), .str (Tok.text b4)]), (13, .v true [.int .i64 (Tok.kind b6), .int .i64 (Tok.n b6), .int .i64 (Tok.pos b6), .str (Tok.text b6)])]
abbrev xI4 (v0 : Str) (v1 : Int) (v2 : Bool) : Prop := AbC 79 (xEB (xKM v0 v1)) (xBx v2)
def xUc (x0 : Str) (x1 x7 : Int) (b4 b6 : Tok) (r1 : Bool) : rS 7 I43 (xJU x0 x1 x7 b4 b6) [Y, Y, Y] [xBx r1] = st 7 I43 (xJU x0 x1 (W (x7 + 1)) b4 b6) [xCO x7 x0, xAu x7 x0, xI4 x0 x7 r1, iY r1, iY true] := by kernel_rfl
abbrev xH2 (v0 : Str) (v1 : Int) (v2 : Bool) : Prop := AbC 80 (xEQ (xKM v0 v1)) (xBq v2)
def xUd (x0 : Str) (x1 x7 : Int) (b4 b6 : Tok) (r1 r2 : Bool) : rS 7 I43 (xJU x0 x1 x7 b4 b6) [Y, F, Y] [xBx r1, xBq r2] = st 7 I43 (xJU x0 x1 (W (x7 + 1)) b4 b6) [xCO x7 x0, xAu x7 x0, xI4 x0 x7 r1, iN r1, xAu x7 x0, xH2 x0 x7 r2, iY r2] := by kernel_rfl
abbrev xFH (v0 v1 : Int) (v2 : Str) : Prop := (0 : Int) ≤ v0 ∧ v0 ≤ v1 ∧ v1 ≤ (Ln v2)
abbrev xKP (v0 : Tok) (v1 v2 : Int) (v3 : Str) := Tok.mk 1 (Tok.n v0) (Tok.pos v0) (List.drop (tN v1) (List.take (tN v2) v3))
def xUe (x0 : Str) (x1 x7 : Int) (b4 b6 : Tok) (r1 r2 : Bool) : rS 7 I43 (xJU x0 x1 x7 b4 b6) [Y, F, F, Y] [xBx r1, xBq r2] = dn (xAT ((xKP b6 x1 x7 x0), 0)) [xCO x7 x0, xAu x7 x0, xI4 x0 x7 r1, iN r1, xAu x7 x0, xH2 x0 x7 r2, iN r2, xFH x1 x7 x0, iY (dc ((W (x7 - x1)) > 8))] := by kernel_rfl
def xUf (x0 : Str) (x1 x7 : Int) (b4 b6 : Tok) (r1 r2 : Bool) : rS 7 I43 (xJU x0 x1 x7 b4 b6) [Y, F, F, F] [xBx r1, xBq r2] = dn (xAT ((xKP b6 x1 x7 x0), (W (x7 - x1)))) [xCO x7 x0, xAu x7 x0, xI4 x0 x7 r1, iN r1, xAu x7 x0, xH2 x0 x7 r2, iN r2, xFH x1 x7 x0, iN (dc ((W (x7 - x1)) > 8))] := by kernel_rfl
def xUg (x0 : Str) (x1 x7 : Int) (b4 b6 : Tok) : rS 7 I43 (xJU x0 x1 x7 b4 b6) [F, F, Y] [] = dn (xAT ((xKP b6 x1 x7 x0), 0)) [xGR x7 x0, iN false, xFH x1 x7 x0, iY (dc ((W (x7 - x1)) > 8))] := by kernel_rfl
def xUh (x0 : Str) (x1 x7 : Int) (b4 b6 : Tok) : rS 7 I43 (xJU x0 x1 x7 b4 b6) [F, F, F] [] = dn (xAT ((xKP b6 x1 x7 x0), (W (x7 - x1)))) [xGR x7 x0, iN false, xFH x1 x7 x0, iN (dc ((W (x7 - x1)) > 8))] := by kernel_rfl
def xQ5 (x0 : Str) (x1 x7 : Int) (b4 b6 : Tok) (r1 : Bool) : rS 14 I43 (xHW x0 x1 x7 b4 b6) [Y, Y] [xBq r1] = st 14 I43 (xHW x0 x1 (W (x7 + 1)) b4 b6) [xCO x7 x0, xAu x7 x0, xH2 x0 x7 r1, iY r1] := by kernel_rfl
abbrev xNN (v0 v1 : Int) (v2 : Str) := List.drop (tN v0) (List.take (tN v1) v2)
abbrev xKd (v0 v1 : Int) (v2 : Str) (v3 : Int × Bool) : Prop := AbC 81 (xFe (xNN v0 v1 v2)) (xCl v3)
abbrev xKQ (v0 : Int × Bool) (v1 : Tok) := xAT ((Tok.mk 2 v0.1 (Tok.pos v1) (Tok.text v1)), 0)
def xQ6 (x0 : Str) (x1 x7 : Int) (b4 b6 : Tok) (r1 : Bool) (r2 : Int × Bool) : rS 14 I43 (xHW x0 x1 x7 b4 b6) [Y, F, Y, Y] [xBq r1, xCl r2] = dn (xKQ r2 b6) [xCO x7 x0, xAu x7 x0, xH2 x0 x7 r1, iN r1, xFH x1 x7 x0, xKd x1 x7 x0 r2, iY (!r2.2), iY true] := by kernel_rfl
def xQ7 (x0 : Str) (x1 x7 : Int) (b4 b6 : Tok) (r1 : Bool) (r2 : Int × Bool) : rS 14 I43 (xHW x0 x1 x7 b4 b6) [Y, F, F, Y] [xBq r1, xCl r2] = dn (xKQ r2 b6) [xCO x7 x0, xAu x7 x0, xH2 x0 x7 r1, iN r1, xFH x1 x7 x0, xKd x1 x7 x0 r2, iN (!r2.2), iY (dc (r2.1 > 1000000000))] := by kernel_rfl
abbrev xNO (v0 : Int × Bool) (v1 : Tok) := Tok.mk 2 v0.1 (Tok.pos v1) (Tok.text v1)
def xQ8 (x0 : Str) (x1 x7 : Int) (b4 b6 : Tok) (r1 : Bool) (r2 : Int × Bool) : rS 14 I43 (xHW x0 x1 x7 b4 b6) [Y, F, F, F] [xBq r1, xCl r2] = dn (xAT ((xNO r2 b6), (W (x7 - x1)))) [xCO x7 x0, xAu x7 x0, xH2 x0 x7 r1, iN r1, xFH x1 x7 x0, xKd x1 x7 x0 r2, iN (!r2.2), iN (dc (r2.1 > 1000000000))] := by kernel_rfl
def xOA (x0 : Str) (x1 x7 : Int) (b4 b6 : Tok) (r1 : Int × Bool) : rS 14 I43 (xHW x0 x1 x7 b4 b6) [F, F, Y, Y] [xCl r1] = dn (xKQ r1 b6) [xGR x7 x0, iN false, xFH x1 x7 x0, xKd x1 x7 x0 r1, iY (!r1.2), iY true] := by kernel_rfl
def xOB (x0 : Str) (x1 x7 : Int) (b4 b6 : Tok) (r1 : Int × Bool) : rS 14 I43 (xHW x0 x1 x7 b4 b6) [F, F, F, Y] [xCl r1] = dn (xKQ r1 b6) [xGR x7 x0, iN false, xFH x1 x7 x0, xKd x1 x7 x0 r1, iN (!r1.2), iY (dc (r1.1 > 1000000000))] := by kernel_rfl
def xOC (x0 : Str) (x1 x7 : Int) (b4 b6 : Tok) (r1 : Int × Bool) : rS 14 I43 (xHW x0 x1 x7 b4 b6) [F, F, F, F] [xCl r1] = dn (xAT ((xNO r1 b6), (W (x7 - x1)))) [xGR x7 x0, iN false, xFH x1 x7 x0, xKd x1 x7 x0 r1, iN (!r1.2), iN (dc (r1.1 > 1000000000))] := by kernel_rfl
def xOD (x0 : Str) (x1 x7 : Int) (b4 b6 : Tok) : rS 23 I43 (xHX x0 x1 x7 b4 b6) [Y, Y] [] = st 23 I43 (xHX x0 x1 (W (x7 + 1)) b4 b6) [xCO x7 x0, xAu x7 x0, iY ((xE1 x0 x7) != 34)] := by kernel_rfl
abbrev xN4 (v0 : Str) (v1 : Int) : Prop := iN ((xE1 v0 v1) != 34)
abbrev xKe (v0 v1 : Int) (v2 : Str) : Prop := (0 : Int) ≤ (W (v0 + 1)) ∧ (W (v0 + 1)) ≤ v1 ∧ v1 ≤ (Ln v2)
abbrev xKR (v0 : Tok) (v1 v2 : Int) (v3 : Str) := xAT ((Tok.mk 3 (Tok.n v0) (Tok.pos v0) (List.drop (tN (W (v1 + 1))) (List.take (tN v2) v3))), 0)
def xOE (x0 : Str) (x1 x7 : Int) (b4 b6 : Tok) : rS 23 I43 (xHX x0 x1 x7 b4 b6) [Y, F, Y, Y] [] = dn (xKR b6 x1 x7 x0) [xCO x7 x0, xAu x7 x0, xN4 x0 x7, xKe x1 x7 x0, iY (x7 == (Ln x0 : Int)), iY true] := by kernel_rfl
abbrev xSH (v0 v1 : Int) (v2 : Str) := List.drop (tN (W (v0 + 1))) (List.take (tN v1) v2)
abbrev xMB (v0 v1 : Int) (v2 : Str) (v3 : Bool) : Prop := AbC 82 (xDS (xSH v0 v1 v2)) (xAV v3)
def xOF (x0 : Str) (x1 x7 : Int) (b4 b6 : Tok) (r1 : Bool) : rS 23 I43 (xHX x0 x1 x7 b4 b6) [Y, F, F, Y] [xAV r1] = dn (xKR b6 x1 x7 x0) [xCO x7 x0, xAu x7 x0, xN4 x0 x7, xKe x1 x7 x0, iN (x7 == (Ln x0 : Int)), xMB x1 x7 x0 r1, iY (!r1)] := by kernel_rfl
abbrev xNP (v0 : Tok) (v1 v2 : Int) (v3 : Str) := xAT ((Tok.mk 3 (Tok.n v0) (Tok.pos v0) (List.drop (tN (W (v1 + 1))) (List.take (tN v2) v3))), (W ((W (v2 + 1)) - v1)))
def xOG (x0 : Str) (x1 x7 : Int) (b4 b6 : Tok) (r1 : Bool) : rS 23 I43 (xHX x0 x1 x7 b4 b6) [Y, F, F, F] [xAV r1] = dn (xNP b6 x1 x7 x0) [xCO x7 x0, xAu x7 x0, xN4 x0 x7, xKe x1 x7 x0, iN (x7 == (Ln x0 : Int)), xMB x1 x7 x0 r1, iN (!r1)] := by kernel_rfl
def xOH (x0 : Str) (x1 x7 : Int) (b4 b6 : Tok) : rS 23 I43 (xHX x0 x1 x7 b4 b6) [F, F, Y, Y] [] = dn (xKR b6 x1 x7 x0) [xGR x7 x0, iN false, xKe x1 x7 x0, iY (x7 == (Ln x0 : Int)), iY true] := by kernel_rfl
def xOI (x0 : Str) (x1 x7 : Int) (b4 b6 : Tok) (r1 : Bool) : rS 23 I43 (xHX x0 x1 x7 b4 b6) [F, F, F, Y] [xAV r1] = dn (xKR b6 x1 x7 x0) [xGR x7 x0, iN false, xKe x1 x7 x0, iN (x7 == (Ln x0 : Int)), xMB x1 x7 x0 r1, iY (!r1)] := by kernel_rfl
def xOJ (x0 : Str) (x1 x7 : Int) (b4 b6 : Tok) (r1 : Bool) : rS 23 I43 (xHX x0 x1 x7 b4 b6) [F, F, F, F] [xAV r1] = dn (xNP b6 x1 x7 x0) [xGR x7 x0, iN false, xKe x1 x7 x0, iN (x7 == (Ln x0 : Int)), xMB x1 x7 x0 r1, iN (!r1)] := by kernel_rfl
def xQ9 (a0 : Str) (a1 : Int) (r1 : Bool) : rE I43 (xDk a0 a1) [Y] [xBx r1] = st 7 I43 (xJU a0 a1 a1 (Tok.mk 0 0 0 []) (Tok.mk 0 0 a1 [])) [xAu a1 a0, xI4 a0 a1 r1, iY r1] := by kernel_rfl
def xRa (a0 : Str) (a1 : Int) (r1 r2 : Bool) : rE I43 (xDk a0 a1) [F, Y] [xBx r1, xBq r2] = st 14 I43 (xHW a0 a1 a1 (Tok.mk 0 0 0 []) (Tok.mk 0 0 a1 [])) [xAu a1 a0, xI4 a0 a1 r1, iN r1, xAu a1 a0, xH2 a0 a1 r2, iY r2] := by kernel_rfl
def xRb (a0 : Str) (a1 : Int) (r1 r2 : Bool) : rE I43 (xDk a0 a1) [F, F, Y] [xBx r1, xBq r2] = st 23 I43 (xHX a0 a1 (W (a1 + 1)) (Tok.mk 0 0 0 []) (Tok.mk 0 0 a1 [])) [xAu a1 a0, xI4 a0 a1 r1, iN r1, xAu a1 a0, xH2 a0 a1 r2, iN r2, xAu a1 a0, xHG a0 a1] := by kernel_rfl
def xRc (a0 : Str) (a1 : Int) (r1 r2 : Bool) (r3 : Int) : rE I43 (xDk a0 a1) [F, F, F] [xBx r1, xBq r2, xAY r3] = dn (xAT ((Tok.mk 4 0 a1 (List.drop (tN a1) (List.take (tN (W (a1 + r3))) a0))), (W ((W (a1 + r3)) - a1)))) [xAu a1 a0, xI4 a0 a1 r1, iN r1, xAu a1 a0, xH2 a0 a1 r2, iN r2, xAu a1 a0, xHH a0 a1, AbC 83 (xA5 a0 a1) (xAY r3), (0 : Int) ≤ a1 ∧ a1 ≤ (W (a1 + r3)) ∧ (W (a1 + r3)) ≤ (Ln a0)] := by kernel_rfl
theorem xX3 {N : Nat} : ∀ n x0 x1 x7 b4 b6 r, xDl N n x0 x1 x7 b4 b6 = some r → RS Tryz.f43 I43 7 (xJU x0 x1 x7 b4 b6) (xAT r) := by
 intro n
 induction n with
 | zero => exact fun _ _ _ _ _ _ h => nE h
 | succ n ih =>
  exact fun x0 x1 x7 b4 b6 r h =>
   cE h (fun h0 h => iE h fun h1 h => bE h fun r1 h2 h => cE h (fun h3 h => tS fk43 (xUc x0 x1 x7 b4 b6 r1) (oc5 h0 h1 (xC3 h2) h3 rfl on) (ih _ _ _ _ _ _ h)) fun h3 h =>
   bE h fun r2 h5 h => cE h (fun h6 h => tS fk43 (xUd x0 x1 x7 b4 b6 r1 r2) (oc7 h0 h1 (xC3 h2) h3 h1 (xCF h5) h6 on) (ih _ _ _ _ _ _ h)) fun h6 h =>
   iE h fun h7 h => cE h (fun h8 h => dS h fk43 (xUe x0 x1 x7 b4 b6 r1 r2) (oc9 h0 h1 (xC3 h2) h3 h1 (xCF h5) h6 h7 h8 on)) fun h8 h =>
   dS h fk43 (xUf x0 x1 x7 b4 b6 r1 r2) (oc9 h0 h1 (xC3 h2) h3 h1 (xCF h5) h6 h7 h8 on)) fun h0 h =>
   iE h fun h2 h => cE h (fun h3 h => dS h fk43 (xUg x0 x1 x7 b4 b6) (oc4 h0 rfl h2 h3 on)) fun h3 h =>
   dS h fk43 (xUh x0 x1 x7 b4 b6) (oc4 h0 rfl h2 h3 on)
theorem xW6 {N : Nat} : ∀ n x0 x1 x7 b4 b6 r, xCX N n x0 x1 x7 b4 b6 = some r → RS Tryz.f43 I43 14 (xHW x0 x1 x7 b4 b6) (xAT r) := by
 intro n
 induction n with
 | zero => exact fun _ _ _ _ _ _ h => nE h
 | succ n ih =>
  exact fun x0 x1 x7 b4 b6 r h =>
   cE h (fun h0 h => iE h fun h1 h => bE h fun r1 h2 h => cE h (fun h3 h => tS fk43 (xQ5 x0 x1 x7 b4 b6 r1) (oc4 h0 h1 (xCF h2) h3 on) (ih _ _ _ _ _ _ h)) fun h3 h =>
   iE h fun h4 h => bE h fun r2 h5 h => cE h (fun h6 h => dS h fk43 (xQ6 x0 x1 x7 b4 b6 r1 r2) (oc8 h0 h1 (xCF h2) h3 h4 (xD2 h5) h6 rfl on)) fun h6 h =>
   cE h (fun h7 h => dS h fk43 (xQ7 x0 x1 x7 b4 b6 r1 r2) (oc8 h0 h1 (xCF h2) h3 h4 (xD2 h5) h6 h7 on)) fun h7 h =>
   dS h fk43 (xQ8 x0 x1 x7 b4 b6 r1 r2) (oc8 h0 h1 (xCF h2) h3 h4 (xD2 h5) h6 h7 on)) fun h0 h =>
   iE h fun h2 h => bE h fun r1 h3 h => cE h (fun h4 h => dS h fk43 (xOA x0 x1 x7 b4 b6 r1) (oc6 h0 rfl h2 (xD2 h3) h4 rfl on)) fun h4 h =>
   cE h (fun h5 h => dS h fk43 (xOB x0 x1 x7 b4 b6 r1) (oc6 h0 rfl h2 (xD2 h3) h4 h5 on)) fun h5 h =>
   dS h fk43 (xOC x0 x1 x7 b4 b6 r1) (oc6 h0 rfl h2 (xD2 h3) h4 h5 on)
theorem xW7 {N : Nat} : ∀ n x0 x1 x7 b4 b6 r, xEn N n x0 x1 x7 b4 b6 = some r → RS Tryz.f43 I43 23 (xHX x0 x1 x7 b4 b6) (xAT r) := by
 intro n
 induction n with
 | zero => exact fun _ _ _ _ _ _ h => nE h
 | succ n ih =>
  exact fun x0 x1 x7 b4 b6 r h =>
   cE h (fun h0 h => iE h fun h1 h => cE h (fun h2 h => tS fk43 (xOD x0 x1 x7 b4 b6) (oc3 h0 h1 h2 on) (ih _ _ _ _ _ _ h)) fun h2 h =>
   iE h fun h3 h => cE h (fun h4 h => dS h fk43 (xOE x0 x1 x7 b4 b6) (oc6 h0 h1 h2 h3 h4 rfl on)) fun h4 h =>
   bE h fun r1 h5 h => cE h (fun h6 h => dS h fk43 (xOF x0 x1 x7 b4 b6 r1) (oc7 h0 h1 h2 h3 h4 (xDT h5) h6 on)) fun h6 h =>
   dS h fk43 (xOG x0 x1 x7 b4 b6 r1) (oc7 h0 h1 h2 h3 h4 (xDT h5) h6 on)) fun h0 h =>
   iE h fun h2 h => cE h (fun h3 h => dS h fk43 (xOH x0 x1 x7 b4 b6) (oc5 h0 rfl h2 h3 rfl on)) fun h3 h =>
   bE h fun r1 h4 h => cE h (fun h5 h => dS h fk43 (xOI x0 x1 x7 b4 b6 r1) (oc6 h0 rfl h2 h3 (xDT h4) h5 on)) fun h5 h =>
   dS h fk43 (xOJ x0 x1 x7 b4 b6 r1) (oc6 h0 rfl h2 h3 (xDT h4) h5 on)
theorem xX4 {N : Nat} : ∀ a0 a1 r, xGs N a0 a1 = some r → RE Tryz.f43 I43 (xDk a0 a1) (xAT r) := fun a0 a1 r h =>
 iE h fun h0 h => bE h fun r1 h1 h => cE h (fun h2 h => tE fk43 (xQ9 a0 a1 r1) (oc3 h0 (xC3 h1) h2 on) (xX3 _ _ _ _ _ _ _ h)) fun h2 h =>
 bE h fun r2 h4 h => cE h (fun h5 h => tE fk43 (xRa a0 a1 r1 r2) (oc6 h0 (xC3 h1) h2 h0 (xCF h4) h5 on) (xW6 _ _ _ _ _ _ _ h)) fun h5 h =>
 cE h (fun h7 h => tE fk43 (xRb a0 a1 r1 r2) (oc8 h0 (xC3 h1) h2 h0 (xCF h4) h5 h0 h7 on) (xW7 _ _ _ _ _ _ _ h)) fun h7 h =>
 bE h fun r3 h8 h => iE h fun h9 h => dE h fk43 (xRc a0 a1 r1 r2 r3) (oc10 h0 (xC3 h1) h2 h0 (xCF h4) h5 h0 h7 (xJm h8) h9 on)
theorem xGJ {N : Nat} {a0 : Str} {a1 : Int} {r : Tok × Int} (h : xGs N  a0 a1 = some r) : AbC 43 (xDk a0 a1) (xAT r) :=
 AbsCalls.of_reach fk43 rfl rfl (Nat.le_of_ble_eq_true rfl) (xX4 a0 a1 r h)
noncomputable def I23 : Info := { body := (Tryz.f23.body).getD .skip, nt := 46, results := [.tmp 2, .tmp 3], keep := [0, 4, 6, 8, 10, 12, 14, 20, 32, 40, 70, 13], live := [(5, [0, 8, 10])], modes := [(8, [(3, .take, false)]), (9, [(2, .take, false)]), (11, [(0, .take, false)]), (13, [(0, .take, false)])] }
theorem fk23 : FnOk Tryz.prog 23 Tryz.f23 I23 := ⟨Tryz.func23, by kernel_rfl, by kernel_rfl, by kernel_rfl, by kernel_rfl⟩
def xKn (x0 : Str) (x4 : List Tok) (x5 : Int) : St := [(0, .v false [.str x0]), (8, .v false [.sl .own .tok x4]), (10, .v false [.int .i64 x5])]
abbrev xL2 (v0 : Str) (v1 : Int) := (((gD v0 (tN v1) 0).toNat : Int) : Int) == 32
def xTk (x0 : Str) (x4 : List Tok) (x5 : Int) : rS 5 I23 (xKn x0 x4 x5) [Y, Y] [] = st 5 I23 (xKn x0 x4 (W (x5 + 1))) [xCO x5 x0, xAu x5 x0, iY (xL2 x0 x5)] := by kernel_rfl
abbrev xKf (v0 : Str) (v1 : Int) : Prop := iN (xL2 v0 v1)
def xTl (x0 : Str) (x4 : List Tok) (x5 : Int) (r1 : Tok × Int) : rS 5 I23 (xKn x0 x4 x5) [Y, F, Y, Y] [xAT r1] = dn (xAS ([], x5)) [xCO x5 x0, xAu x5 x0, xKf x0 x5, AbC 43 (xDk x0 x5) (xAT r1), iY (r1.2 == 0), iY true] := by kernel_rfl
def xTm (x0 : Str) (x4 : List Tok) (x5 : Int) (r1 : Tok × Int) : rS 5 I23 (xKn x0 x4 x5) [Y, F, F, Y] [xAT r1] = dn (xAS ([], x5)) [xCO x5 x0, xAu x5 x0, xKf x0 x5, AbC 43 (xDk x0 x5) (xAT r1), iN (r1.2 == 0), iY ((Ln x4 : Int) == 60)] := by kernel_rfl
def xTn (x0 : Str) (x4 : List Tok) (x5 : Int) (r1 : Tok × Int) : rS 5 I23 (xKn x0 x4 x5) [Y, F, F, F] [xAT r1] = st 5 I23 (xKn x0 (x4 ++ [r1.1]) (W (x5 + r1.2))) [xCO x5 x0, xAu x5 x0, xKf x0 x5, AbC 43 (xDk x0 x5) (xAT r1), iN (r1.2 == 0), iN ((Ln x4 : Int) == 60), Ln x4 + Ln [r1.1] ≤ Lim] := by kernel_rfl
def xTo (x0 : Str) (x4 : List Tok) (x5 : Int) : rS 5 I23 (xKn x0 x4 x5) [F] [] = dn (xAS (x4, (-1))) [xGR x5 x0] := by kernel_rfl
abbrev xKS (v0 : Str) := dc ((Ln v0 : Int) > 120)
def xTp (a0 : Str) : rE I23 (xEA a0) [Y] [] = dn (xAS ([], 120)) [iY (xKS a0)] := by kernel_rfl
def xTq (a0 : Str) : rE I23 (xEA a0) [F] [] = st 5 I23 (xKn a0 [] 0) [iN (xKS a0)] := by kernel_rfl
theorem xXJ {N : Nat} : ∀ n x0 x4 x5 r, xDz N n x0 x4 x5 = some r → RS Tryz.f23 I23 5 (xKn x0 x4 x5) (xAS r) := by
 intro n
 induction n with
 | zero => exact fun _ _ _ _ h => nE h
 | succ n ih =>
  exact fun x0 x4 x5 r h =>
   cE h (fun h0 h => iE h fun h1 h => cE h (fun h2 h => tS fk23 (xTk x0 x4 x5) (oc3 h0 h1 h2 on) (ih _ _ _ _ h)) fun h2 h =>
   bE h fun r1 h3 h => cE h (fun h4 h => dS h fk23 (xTl x0 x4 x5 r1) (oc6 h0 h1 h2 (xGJ h3) h4 rfl on)) fun h4 h =>
   cE h (fun h5 h => dS h fk23 (xTm x0 x4 x5 r1) (oc6 h0 h1 h2 (xGJ h3) h4 h5 on)) fun h5 h =>
   iE h fun h6 h => tS fk23 (xTn x0 x4 x5 r1) (oc7 h0 h1 h2 (xGJ h3) h4 h5 h6 on) (ih _ _ _ _ h)) fun h0 h =>
   dS h fk23 (xTo x0 x4 x5) (oc h0 on)
theorem xXK {N : Nat} : ∀ a0 r, xEW N a0 = some r → RE Tryz.f23 I23 (xEA a0) (xAS r) := fun a0 r h =>
 cE h (fun h0 h => dE h fk23 (xTp a0) (oc h0 on)) fun h0 h =>
 tE fk23 (xTq a0) (oc h0 on) (xXJ _ _ _ _ _ h)
theorem xCm {N : Nat} {a0 : Str} {r : (List Tok) × Int} (h : xEW N  a0 = some r) : AbC 23 (xEA a0) (xAS r) :=
 AbsCalls.of_reach fk23 rfl rfl (Nat.le_of_ble_eq_true rfl) (xXK a0 r h)
noncomputable def I85 : Info := { body := (Tryz.f85.body).getD .skip, nt := 14, results := [.tmp 4], keep := [0, 2, 4, 8, 5], live := [], modes := [(1, [(3, .take, false)])] }
theorem fk85 : FnOk Tryz.prog 85 Tryz.f85 I85 := ⟨Tryz.func85, by kernel_rfl, by kernel_rfl, by kernel_rfl, by kernel_rfl⟩
def xVT (a0 : Tok) (a1 : Str) : rE I85 (xC1 a0 a1) [Y] [] = dn (xAL (((Tok.text a0) : Str) == a1)) [iY ((Tok.kind a0) == 4)] := by kernel_rfl
def xVU (a0 : Tok) (a1 : Str) : rE I85 (xC1 a0 a1) [F] [] = dn (xAL false) [iN ((Tok.kind a0) == 4)] := by kernel_rfl
theorem xYD {N : Nat} : ∀ a0 a1 r, xCT N a0 a1 = some r → RE Tryz.f85 I85 (xC1 a0 a1) (xAL r) := fun a0 a1 r h =>
 cE h (fun h0 h => dE h fk85 (xVT a0 a1) (oc h0 on)) fun h0 h =>
 dE h fk85 (xVU a0 a1) (oc h0 on)
theorem xBK {N : Nat} {a0 : Tok} {a1 : Str} {r : Bool} (h : xCT N  a0 a1 = some r) : AbC 85 (xC1 a0 a1) (xAL r) :=
 AbsCalls.of_reach fk85 rfl rfl (Nat.le_of_ble_eq_true rfl) (xYD a0 a1 r h)
noncomputable def I86 : Info := { body := (Tryz.f86.body).getD .skip, nt := 14, results := [.tmp 4], keep := [0, 2, 4, 8, 5], live := [], modes := [(1, [(3, .take, false)])] }
theorem fk86 : FnOk Tryz.prog 86 Tryz.f86 I86 := ⟨Tryz.func86, by kernel_rfl, by kernel_rfl, by kernel_rfl, by kernel_rfl⟩
def xVV (a0 : Tok) (a1 : Str) : rE I86 (xEk a0 a1) [Y] [] = dn (xDL (((Tok.text a0) : Str) == a1)) [iY ((Tok.kind a0) == 1)] := by kernel_rfl
def xVW (a0 : Tok) (a1 : Str) : rE I86 (xEk a0 a1) [F] [] = dn (xDL false) [iN ((Tok.kind a0) == 1)] := by kernel_rfl
theorem xYE {N : Nat} : ∀ a0 a1 r, xE5 N a0 a1 = some r → RE Tryz.f86 I86 (xEk a0 a1) (xDL r) := fun a0 a1 r h =>
 cE h (fun h0 h => dE h fk86 (xVV a0 a1) (oc h0 on)) fun h0 h =>
 dE h fk86 (xVW a0 a1) (oc h0 on)
theorem xIZ {N : Nat} {a0 : Tok} {a1 : Str} {r : Bool} (h : xE5 N  a0 a1 = some r) : AbC 86 (xEk a0 a1) (xDL r) :=
 AbsCalls.of_reach fk86 rfl rfl (Nat.le_of_ble_eq_true rfl) (xYE a0 a1 r h)
noncomputable def I45 : Info := { body := (Tryz.f45.body).getD .skip, nt := 50, results := [.tmp 4], keep := [0, 2, 8, 1], live := [], modes := [(1, [(5, .take, false), (17, .take, false), (30, .take, false)])], ext := [0] }
theorem fk45 : FnOk Tryz.prog 45 Tryz.f45 I45 := ⟨Tryz.func45, by kernel_rfl, by kernel_rfl, by kernel_rfl, by kernel_rfl⟩
abbrev xJF (v0 : Rdr) : Prop := iY (dc ((Rdr.bad v0) < 0))
abbrev xL3 (v0 : Rdr) := dc ((Rdr.i v0) < (Ln (Rdr.toks v0) : Int))
abbrev xN5 (v0 : Rdr) : Prop := iY (xL3 v0)
abbrev xFA (v0 : Rdr) : Prop := (0 : Int) ≤ (Rdr.i v0) ∧ (Rdr.i v0) < (Ln (Rdr.toks v0))
abbrev xId (v0 : Rdr) := gD (Rdr.toks v0) (tN (Rdr.i v0)) Ty.tok.dflt
def xUi (a0 : Rdr) (a1 : Str) (r1 : Bool) : rE I45 (xAw a0 a1) [Y, Y, Y] [xAL r1] = dn (xAd (true, a0)) [xJF a0, xN5 a0, xFA a0, AbC 85 (xC1 (xId a0) a1) (xAL r1), iY r1] := by kernel_rfl
def xUj (a0 : Rdr) (a1 : Str) (r1 r2 : Bool) : rE I45 (xAw a0 a1) [Y, Y, F] [xAL r1, xDL r2] = dn (xAd (r2, a0)) [xJF a0, xN5 a0, xFA a0, AbC 85 (xC1 (xId a0) a1) (xAL r1), iN r1, xFA a0, AbC 86 (xEk (xId a0) a1) (xDL r2)] := by kernel_rfl
def xUk (a0 : Rdr) (a1 : Str) : rE I45 (xAw a0 a1) [Y, F] [] = dn (xAd (false, a0)) [xJF a0, iN (xL3 a0)] := by kernel_rfl
def xUl (a0 : Rdr) (a1 : Str) : rE I45 (xAw a0 a1) [F, F] [] = dn (xAd (false, a0)) [iN (dc ((Rdr.bad a0) < 0)), iN false] := by kernel_rfl
theorem xX5 {N : Nat} : ∀ a0 a1 r, xBg N a0 a1 = some r → RE Tryz.f45 I45 (xAw a0 a1) (xAd r) := fun a0 a1 r h =>
 cE h (fun h0 h => cE h (fun h1 h => iE h fun h2 h => bE h fun r1 h3 h => cE h (fun h4 h => dE h fk45 (xUi a0 a1 r1) (oc5 h0 h1 h2 (xBK h3) h4 on)) fun h4 h =>
 bE h fun r2 h6 h => dE h fk45 (xUj a0 a1 r1 r2) (oc7 h0 h1 h2 (xBK h3) h4 h2 (xIZ h6) on)) fun h1 h =>
 dE h fk45 (xUk a0 a1) (oc2 h0 h1 on)) fun h0 h =>
 dE h fk45 (xUl a0 a1) (oc2 h0 rfl on)
theorem xAl {N : Nat} {a0 : Rdr} {a1 : Str} {r : Bool × Rdr} (h : xBg N  a0 a1 = some r) : AbC 45 (xAw a0 a1) (xAd r) :=
 AbsCalls.of_reach fk45 rfl rfl (Nat.le_of_ble_eq_true rfl) (xX5 a0 a1 r h)
noncomputable def I108 : Info := { body := (Tryz.f108.body).getD .skip, nt := 45, results := [.tmp 2], keep := [0, 4, 6, 8, 10, 18, 82], live := [(2, [0, 6])], modes := [(4, [(4, .take, false)]), (5, [(4, .take, false)]), (6, [(0, .take, false), (2, .take, false), (5, .take, false), (6, .take, false)])] }
theorem xH5 : FnOk Tryz.prog 108 Tryz.f108 I108 := ⟨Tryz.func108, by kernel_rfl, by kernel_rfl, by kernel_rfl, by kernel_rfl⟩
def xFq (x0 : Str) (x3 : Int) : St := [(0, .v false [.str x0]), (6, .v false [.int .i64 x3])]
abbrev xEo (v0 : Str) (v1 : Int) : Prop := iY (dc ((xE1 v0 v1) ≥ 97))
abbrev xEJ (v0 : Str) (v1 : Int) : Prop := iY (dc ((xE1 v0 v1) ≥ 48))
abbrev xJA (v0 : Str) (v1 : Int) := dc ((((gD v0 (tN v1) 0).toNat : Int) : Int) ≤ 122)
abbrev xIu (v0 : Str) (v1 : Int) : Prop := iY (!(xJA v0 v1))
def xPK (x0 : Str) (x3 : Int) : rS 2 I108 (xFq x0 x3) [Y, Y, Y, Y, Y, Y] [] = dn (xA2 false) [xCO x3 x0, xAu x3 x0, xEo x0 x3, xAu x3 x0, xAu x3 x0, xEJ x0 x3, xAu x3 x0, xIu x0 x3, iY (x3 == 0), iY true] := by kernel_rfl
abbrev xIW (v0 : Str) (v1 : Int) := dc ((((gD v0 (tN v1) 0).toNat : Int) : Int) ≤ 57)
def xPL (x0 : Str) (x3 : Int) : rS 2 I108 (xFq x0 x3) [Y, Y, Y, Y, F, Y] [] = dn (xA2 false) [xCO x3 x0, xAu x3 x0, xEo x0 x3, xAu x3 x0, xAu x3 x0, xEJ x0 x3, xAu x3 x0, xIu x0 x3, xIV x3, iY (!(xIW x0 x3))] := by kernel_rfl
def xPM (x0 : Str) (x3 : Int) : rS 2 I108 (xFq x0 x3) [Y, Y, Y, Y, F, F] [] = st 2 I108 (xFq x0 (W (x3 + 1))) [xCO x3 x0, xAu x3 x0, xEo x0 x3, xAu x3 x0, xAu x3 x0, xEJ x0 x3, xAu x3 x0, xIu x0 x3, xIV x3, iN (!(xIW x0 x3))] := by kernel_rfl
abbrev xN6 (v0 : Str) (v1 : Int) : Prop := iN (!(xJA v0 v1))
def xPN (x0 : Str) (x3 : Int) : rS 2 I108 (xFq x0 x3) [Y, Y, Y, F, F] [] = st 2 I108 (xFq x0 (W (x3 + 1))) [xCO x3 x0, xAu x3 x0, xEo x0 x3, xAu x3 x0, xAu x3 x0, xEJ x0 x3, xAu x3 x0, xN6 x0 x3, iN false] := by kernel_rfl
abbrev xF2 (v0 : Str) (v1 : Int) : Prop := iN (dc ((xE1 v0 v1) ≥ 48))
def xPO (x0 : Str) (x3 : Int) : rS 2 I108 (xFq x0 x3) [Y, Y, F, Y, Y, Y] [] = dn (xA2 false) [xCO x3 x0, xAu x3 x0, xEo x0 x3, xAu x3 x0, xAu x3 x0, xF2 x0 x3, xIu x0 x3, iY (x3 == 0), iY true] := by kernel_rfl
def xPP (x0 : Str) (x3 : Int) : rS 2 I108 (xFq x0 x3) [Y, Y, F, Y, F, Y] [] = dn (xA2 false) [xCO x3 x0, xAu x3 x0, xEo x0 x3, xAu x3 x0, xAu x3 x0, xF2 x0 x3, xIu x0 x3, xIV x3, iY (!false)] := by kernel_rfl
def xPQ (x0 : Str) (x3 : Int) : rS 2 I108 (xFq x0 x3) [Y, Y, F, F, F] [] = st 2 I108 (xFq x0 (W (x3 + 1))) [xCO x3 x0, xAu x3 x0, xEo x0 x3, xAu x3 x0, xAu x3 x0, xF2 x0 x3, xN6 x0 x3, iN false] := by kernel_rfl
abbrev xE4 (v0 : Str) (v1 : Int) : Prop := iN (dc ((xE1 v0 v1) ≥ 97))
def xPR (x0 : Str) (x3 : Int) : rS 2 I108 (xFq x0 x3) [Y, F, Y, Y, Y, Y] [] = dn (xA2 false) [xCO x3 x0, xAu x3 x0, xE4 x0 x3, xAu x3 x0, xEJ x0 x3, xAu x3 x0, iY (!false), iY (x3 == 0), iY true] := by kernel_rfl
def xPS (x0 : Str) (x3 : Int) : rS 2 I108 (xFq x0 x3) [Y, F, Y, Y, F, Y] [] = dn (xA2 false) [xCO x3 x0, xAu x3 x0, xE4 x0 x3, xAu x3 x0, xEJ x0 x3, xAu x3 x0, iY (!false), xIV x3, iY (!(xIW x0 x3))] := by kernel_rfl
def xPT (x0 : Str) (x3 : Int) : rS 2 I108 (xFq x0 x3) [Y, F, Y, Y, F, F] [] = st 2 I108 (xFq x0 (W (x3 + 1))) [xCO x3 x0, xAu x3 x0, xE4 x0 x3, xAu x3 x0, xEJ x0 x3, xAu x3 x0, iY (!false), xIV x3, iN (!(xIW x0 x3))] := by kernel_rfl
def xOl (x0 : Str) (x3 : Int) : rS 2 I108 (xFq x0 x3) [Y, F, F, Y, Y, Y] [] = dn (xA2 false) [xCO x3 x0, xAu x3 x0, xE4 x0 x3, xAu x3 x0, xF2 x0 x3, iY (!false), iY (x3 == 0), iY true] := by kernel_rfl
def xOm (x0 : Str) (x3 : Int) : rS 2 I108 (xFq x0 x3) [Y, F, F, Y, F, Y] [] = dn (xA2 false) [xCO x3 x0, xAu x3 x0, xE4 x0 x3, xAu x3 x0, xF2 x0 x3, iY (!false), xIV x3, iY (!false)] := by kernel_rfl
def xOn (x0 : Str) (x3 : Int) : rS 2 I108 (xFq x0 x3) [F] [] = dn (xA2 (xJz x0)) [xGR x3 x0] := by kernel_rfl
def xOo (a0 : Str) : rE I108 (xEm a0) [] [] = st 2 I108 (xFq a0 0) [] := by kernel_rfl
theorem xWN {N : Nat} : ∀ n x0 x3 r, xCE N n x0 x3 = some r → RS Tryz.f108 I108 2 (xFq x0 x3) (xA2 r) := by
 intro n
 induction n with
 | zero => exact fun _ _ _ h => nE h
 | succ n ih =>
  exact fun x0 x3 r h =>
   cE h (fun h0 h => iE h fun h1 h => cE h (fun h2 h => cE h (fun h5 h => cE h (fun h7 h => cE h (fun h8 h => dS h xH5 (xPK x0 x3) (oc10 h0 h1 h2 h1 h1 h5 h1 h7 h8 rfl on)) fun h8 h =>
   cE h (fun h9 h => dS h xH5 (xPL x0 x3) (oc10 h0 h1 h2 h1 h1 h5 h1 h7 h8 h9 on)) fun h9 h =>
   tS xH5 (xPM x0 x3) (oc10 h0 h1 h2 h1 h1 h5 h1 h7 h8 h9 on) (ih _ _ _ h)) fun h7 h =>
   tS xH5 (xPN x0 x3) (oc9 h0 h1 h2 h1 h1 h5 h1 h7 rfl on) (ih _ _ _ h)) fun h5 h =>
   cE h (fun h6 h => cE h (fun h7 h => dS h xH5 (xPO x0 x3) (oc9 h0 h1 h2 h1 h1 h5 h6 h7 rfl on)) fun h7 h =>
   dS h xH5 (xPP x0 x3) (oc9 h0 h1 h2 h1 h1 h5 h6 h7 rfl on)) fun h6 h =>
   tS xH5 (xPQ x0 x3) (oc8 h0 h1 h2 h1 h1 h5 h6 rfl on) (ih _ _ _ h)) fun h2 h =>
   cE h (fun h4 h => cE h (fun h7 h => dS h xH5 (xPR x0 x3) (oc9 h0 h1 h2 h1 h4 h1 rfl h7 rfl on)) fun h7 h =>
   cE h (fun h8 h => dS h xH5 (xPS x0 x3) (oc9 h0 h1 h2 h1 h4 h1 rfl h7 h8 on)) fun h8 h =>
   tS xH5 (xPT x0 x3) (oc9 h0 h1 h2 h1 h4 h1 rfl h7 h8 on) (ih _ _ _ h)) fun h4 h =>
   cE h (fun h6 h => dS h xH5 (xOl x0 x3) (oc8 h0 h1 h2 h1 h4 rfl h6 rfl on)) fun h6 h =>
   dS h xH5 (xOm x0 x3) (oc8 h0 h1 h2 h1 h4 rfl h6 rfl on)) fun h0 h =>
   dS h xH5 (xOn x0 x3) (oc h0 on)
theorem xWO {N : Nat} : ∀ a0 r, xGz N a0 = some r → RE Tryz.f108 I108 (xEm a0) (xA2 r) := fun a0 r h =>
 tE xH5 (xOo a0) on (xWN _ _ _ _ h)
theorem xGr {N : Nat} {a0 : Str} {r : Bool} (h : xGz N  a0 = some r) : AbC 108 (xEm a0) (xA2 r) :=
 AbsCalls.of_reach xH5 rfl rfl (Nat.le_of_ble_eq_true rfl) (xWO a0 r h)
noncomputable def I126 : Info := { body := (Tryz.f126.body).getD .skip, nt := 2, results := [.tmp 0], keep := [0], live := [], modes := [] }
theorem xXd : FnOk Tryz.prog 126 Tryz.f126 I126 := ⟨Tryz.func126, by kernel_rfl, by kernel_rfl, by kernel_rfl, by kernel_rfl⟩
def xQE : rE I126 (xEG ) [] [] = dn (xEa [[108, 101, 116], [105, 110], [105, 102], [116, 104, 101, 110], [101, 108, 115, 101], [102, 111, 114], [100, 111], [108, 101, 110], [115, 117, 109], [116, 97, 107, 101], [115, 107, 105, 112], [114, 97, 110, 103, 101], [110, 116, 104], [119, 104, 101, 114, 101], [107, 101, 101, 112], [97, 100, 100], [103, 114, 111, 117, 112], [106, 111, 105, 110], [99, 111, 108, 117, 109, 110], [114, 111, 119, 115], [99, 108, 111, 99, 107], [99, 104, 97, 110, 99, 101], [102, 105, 108, 101], [116, 97, 98, 108, 101]]) [] := by kernel_rfl
theorem xWZ {N : Nat} : ∀ r, xFE N = some r → RE Tryz.f126 I126 (xEG ) (xEa r) := fun r h =>
 dE h xXd (xQE) on
theorem xIA {N : Nat} {r : (List Str)} (h : xFE N   = some r) : AbC 126 (xEG ) (xEa r) :=
 AbsCalls.of_reach xXd rfl rfl (Nat.le_of_ble_eq_true rfl) (xWZ  r h)
noncomputable def I125 : Info := { body := (Tryz.f125.body).getD .skip, nt := 18, results := [.tmp 4], keep := [0, 2, 8, 10, 18, 34], live := [(2, [0, 2, 10])], modes := [] }
theorem xNz : FnOk Tryz.prog 125 Tryz.f125 I125 := ⟨Tryz.func125, by kernel_rfl, by kernel_rfl, by kernel_rfl, by kernel_rfl⟩
def xJ2 (x0 : List Str) (x1 : Str) (x5 : Int) : St := [(0, .v false [.sl .ro .str x0]), (2, .v false [.str x1]), (10, .v false [.int .i64 x5])]
def xQA (x0 : List Str) (x1 : Str) (x5 : Int) : rS 2 I125 (xJ2 x0 x1 x5) [Y, Y] [] = dn (xEv true) [iY (dc (x5 < (Ln x0 : Int))), (0 : Int) ≤ x5 ∧ x5 < (Ln x0), iY (((gD x0 (tN x5) Ty.str.dflt) : Str) == x1)] := by kernel_rfl
def xQB (x0 : List Str) (x1 : Str) (x5 : Int) : rS 2 I125 (xJ2 x0 x1 x5) [Y, F] [] = st 2 I125 (xJ2 x0 x1 (W (x5 + 1))) [iY (dc (x5 < (Ln x0 : Int))), (0 : Int) ≤ x5 ∧ x5 < (Ln x0), iN (((gD x0 (tN x5) Ty.str.dflt) : Str) == x1)] := by kernel_rfl
def xQC (x0 : List Str) (x1 : Str) (x5 : Int) : rS 2 I125 (xJ2 x0 x1 x5) [F] [] = dn (xEv false) [iN (dc (x5 < (Ln x0 : Int)))] := by kernel_rfl
def xQD (a0 : List Str) (a1 : Str) : rE I125 (xF7 a0 a1) [] [] = st 2 I125 (xJ2 a0 a1 0) [] := by kernel_rfl
theorem xWX {N : Nat} : ∀ n x0 x1 x5 r, xEu N n x0 x1 x5 = some r → RS Tryz.f125 I125 2 (xJ2 x0 x1 x5) (xEv r) := by
 intro n
 induction n with
 | zero => exact fun _ _ _ _ h => nE h
 | succ n ih =>
  exact fun x0 x1 x5 r h =>
   cE h (fun h0 h => iE h fun h1 h => cE h (fun h2 h => dS h xNz (xQA x0 x1 x5) (oc3 h0 h1 h2 on)) fun h2 h =>
   tS xNz (xQB x0 x1 x5) (oc3 h0 h1 h2 on) (ih _ _ _ _ h)) fun h0 h =>
   dS h xNz (xQC x0 x1 x5) (oc h0 on)
theorem xWY {N : Nat} : ∀ a0 a1 r, xHQ N a0 a1 = some r → RE Tryz.f125 I125 (xF7 a0 a1) (xEv r) := fun a0 a1 r h =>
 tE xNz (xQD a0 a1) on (xWX _ _ _ _ _ h)
theorem xK1 {N : Nat} {a0 : List Str} {a1 : Str} {r : Bool} (h : xHQ N  a0 a1 = some r) : AbC 125 (xF7 a0 a1) (xEv r) :=
 AbsCalls.of_reach xNz rfl rfl (Nat.le_of_ble_eq_true rfl) (xWY a0 a1 r h)
noncomputable def I109 : Info := { body := (Tryz.f109.body).getD .skip, nt := 6, results := [.tmp 2], keep := [0, 4], live := [], modes := [] }
theorem xXc : FnOk Tryz.prog 109 Tryz.f109 I109 := ⟨Tryz.func109, by kernel_rfl, by kernel_rfl, by kernel_rfl, by kernel_rfl⟩
def xPU (a0 : Str) (r1 : (List Str)) (r2 : Bool) : rE I109 (xEF a0) [] [xEa r1, xEv r2] = dn (xD8 r2) [AbC 126 xEG (xEa r1), AbC 125 (xF7 r1 a0) (xEv r2)] := by kernel_rfl
theorem xWP {N : Nat} : ∀ a0 r, xEM N a0 = some r → RE Tryz.f109 I109 (xEF a0) (xD8 r) := fun a0 r h =>
 bE h fun r1 h0 h => bE h fun r2 h1 h => dE h xXc (xPU a0 r1 r2) (oc2 (xIA h0) (xK1 h1) on)
theorem xIz {N : Nat} {a0 : Str} {r : Bool} (h : xEM N  a0 = some r) : AbC 109 (xEF a0) (xD8 r) :=
 AbsCalls.of_reach xXc rfl rfl (Nat.le_of_ble_eq_true rfl) (xWP a0 r h)
noncomputable def I87 : Info := { body := (Tryz.f87.body).getD .skip, nt := 15, results := [.tmp 2], keep := [0, 4], live := [], modes := [(1, [(2, .take, false), (7, .take, false)])] }
theorem fk87 : FnOk Tryz.prog 87 Tryz.f87 I87 := ⟨Tryz.func87, by kernel_rfl, by kernel_rfl, by kernel_rfl, by kernel_rfl⟩
def xVX (a0 : Str) (r1 r2 : Bool) : rE I87 (xBU a0) [Y, Y] [xA2 r1, xD8 r2] = dn (xAA (!r2)) [AbC 108 (xEm a0) (xA2 r1), iY r1, iY (dc ((Ln a0 : Int) ≤ 8)), AbC 109 (xEF a0) (xD8 r2)] := by kernel_rfl
def xVY (a0 : Str) (r1 : Bool) : rE I87 (xBU a0) [Y, F] [xA2 r1] = dn (xAA false) [AbC 108 (xEm a0) (xA2 r1), iY r1, iN (dc ((Ln a0 : Int) ≤ 8))] := by kernel_rfl
def xVZ (a0 : Str) (r1 : Bool) : rE I87 (xBU a0) [F, F] [xA2 r1] = dn (xAA false) [AbC 108 (xEm a0) (xA2 r1), iN r1, iN false] := by kernel_rfl
theorem xYF {N : Nat} : ∀ a0 r, xCK N a0 = some r → RE Tryz.f87 I87 (xBU a0) (xAA r) := fun a0 r h =>
 bE h fun r1 h0 h => cE h (fun h1 h => cE h (fun h2 h => bE h fun r2 h3 h => dE h fk87 (xVX a0 r1 r2) (oc4 (xGr h0) h1 h2 (xIz h3) on)) fun h2 h =>
 dE h fk87 (xVY a0 r1) (oc3 (xGr h0) h1 h2 on)) fun h1 h =>
 dE h fk87 (xVZ a0 r1) (oc3 (xGr h0) h1 rfl on)
theorem xBC {N : Nat} {a0 : Str} {r : Bool} (h : xCK N  a0 = some r) : AbC 87 (xBU a0) (xAA r) :=
 AbsCalls.of_reach fk87 rfl rfl (Nat.le_of_ble_eq_true rfl) (xYF a0 r h)
noncomputable def I29 : Info := { body := (Tryz.f29.body).getD .skip, nt := 40, results := [.cell 2 25], keep := [0, 4, 14, 48, 1, 5], live := [], modes := [], ext := [0] }
theorem fk29 : FnOk Tryz.prog 29 Tryz.f29 I29 := ⟨Tryz.func29, by kernel_rfl, by kernel_rfl, by kernel_rfl, by kernel_rfl⟩
def xTv (a0 : Rdr) : rE I29 (xCC a0) [Y, Y] [] = dn (xAI ((Exp.mk 0 0 [] []), (Rdr.mk (Rdr.toks a0) (Rdr.i a0) (Rdr.fin a0) (Tok.pos (xId a0))))) [xJF a0, xN5 a0, xFA a0] := by kernel_rfl
def xTw (a0 : Rdr) : rE I29 (xCC a0) [Y, F] [] = dn (xAI ((Exp.mk 0 0 [] []), (Rdr.mk (Rdr.toks a0) (Rdr.i a0) (Rdr.fin a0) (Rdr.fin a0)))) [xJF a0, iN (xL3 a0)] := by kernel_rfl
def xTx (a0 : Rdr) : rE I29 (xCC a0) [F] [] = dn (xAI ((Exp.mk 0 0 [] []), a0)) [iN (dc ((Rdr.bad a0) < 0))] := by kernel_rfl
theorem xXM {N : Nat} : ∀ a0 r, xBA N a0 = some r → RE Tryz.f29 I29 (xCC a0) (xAI r) := fun a0 r h =>
 cE h (fun h0 h => cE h (fun h1 h => iE h fun h2 h => dE h fk29 (xTv a0) (oc3 h0 h1 h2 on)) fun h1 h =>
 dE h fk29 (xTw a0) (oc2 h0 h1 on)) fun h0 h =>
 dE h fk29 (xTx a0) (oc h0 on)
theorem xBY {N : Nat} {a0 : Rdr} {r : Exp × Rdr} (h : xBA N  a0 = some r) : AbC 29 (xCC a0) (xAI r) :=
 AbsCalls.of_reach fk29 rfl rfl (Nat.le_of_ble_eq_true rfl) (xXM a0 r h)
noncomputable def I46 : Info := { body := (Tryz.f46.body).getD .skip, nt := 71, results := [.tmp 2], keep := [0, 4, 96, 1], live := [], modes := [(1, [(5, .take, false), (17, .take, false), (31, .take, false)])], ext := [0] }
theorem fk46 : FnOk Tryz.prog 46 Tryz.f46 I46 := ⟨Tryz.func46, by kernel_rfl, by kernel_rfl, by kernel_rfl, by kernel_rfl⟩
abbrev xI5 (v0 : Rdr) (v1 : Exp × Rdr) : Prop := AbC 29 (xCC v0) (xAI v1)
def xUm (a0 : Rdr) (r1 : Exp × Rdr) : rE I46 (xDq a0) [Y, Y, Y, Y] [xAI r1] = dn (xCD ([], r1.2)) [iY (dc ((Rdr.bad a0) ≥ 0)), iY true, iY true, iY true, xI5 a0 r1] := by kernel_rfl
abbrev xGm (v0 : Rdr) : Prop := iN (dc ((Rdr.bad v0) ≥ 0))
abbrev xL4 (v0 : Rdr) := dc ((Rdr.i v0) ≥ (Ln (Rdr.toks v0) : Int))
def xUn (a0 : Rdr) (r1 : Exp × Rdr) : rE I46 (xDq a0) [F, Y, Y, Y] [xAI r1] = dn (xCD ([], r1.2)) [xGm a0, iY (xL4 a0), iY true, iY true, xI5 a0 r1] := by kernel_rfl
abbrev xGQ (v0 : Rdr) : Prop := iN (xL4 v0)
abbrev xNQ (v0 : Rdr) := ((Tok.kind (gD (Rdr.toks v0) (tN (Rdr.i v0)) Ty.tok.dflt)) : Int) != 1
def xUo (a0 : Rdr) (r1 : Exp × Rdr) : rE I46 (xDq a0) [F, F, Y, Y] [xAI r1] = dn (xCD ([], r1.2)) [xGm a0, xGQ a0, xFA a0, iY (xNQ a0), iY true, xI5 a0 r1] := by kernel_rfl
abbrev xSl (v0 : Rdr) : Prop := iN (xNQ v0)
abbrev xJB (v0 : Rdr) := Tok.text (gD (Rdr.toks v0) (tN (Rdr.i v0)) Ty.tok.dflt)
abbrev xJG (v0 : Rdr) (v1 : Bool) : Prop := AbC 87 (xBU (xJB v0)) (xAA v1)
def xUp (a0 : Rdr) (r1 : Bool) (r2 : Exp × Rdr) : rE I46 (xDq a0) [F, F, F, Y] [xAA r1, xAI r2] = dn (xCD ([], r2.2)) [xGm a0, xGQ a0, xFA a0, xSl a0, xFA a0, xJG a0 r1, iY (!r1), xI5 a0 r2] := by kernel_rfl
abbrev xJC (v0 : Rdr) := Rdr.mk (Rdr.toks v0) (W ((Rdr.i v0) + 1)) (Rdr.fin v0) (Rdr.bad v0)
abbrev xL5 (v0 : Rdr) := W ((Rdr.i v0) + 1)
def xUq (a0 : Rdr) (r1 : Bool) : rE I46 (xDq a0) [F, F, F, F] [xAA r1] = dn (xCD ((Tok.text (gD (Rdr.toks a0) (tN (W ((xL5 a0) - 1))) Ty.tok.dflt)), (xJC a0))) [xGm a0, xGQ a0, xFA a0, xSl a0, xFA a0, xJG a0 r1, iN (!r1), (0 : Int) ≤ (W ((xL5 a0) - 1)) ∧ (W ((xL5 a0) - 1)) < (Ln (Rdr.toks a0))] := by kernel_rfl
theorem xX6 {N : Nat} : ∀ a0 r, xC2 N a0 = some r → RE Tryz.f46 I46 (xDq a0) (xCD r) := fun a0 r h =>
 cE h (fun h0 h => bE h fun r1 h4 h => dE h fk46 (xUm a0 r1) (oc5 h0 rfl rfl rfl (xBY h4) on)) fun h0 h =>
 cE h (fun h1 h => bE h fun r1 h4 h => dE h fk46 (xUn a0 r1) (oc5 h0 h1 rfl rfl (xBY h4) on)) fun h1 h =>
 iE h fun h2 h => cE h (fun h3 h => bE h fun r1 h5 h => dE h fk46 (xUo a0 r1) (oc6 h0 h1 h2 h3 rfl (xBY h5) on)) fun h3 h =>
 bE h fun r1 h5 h => cE h (fun h6 h => bE h fun r2 h7 h => dE h fk46 (xUp a0 r1 r2) (oc8 h0 h1 h2 h3 h2 (xBC h5) h6 (xBY h7) on)) fun h6 h =>
 iE h fun h7 h => dE h fk46 (xUq a0 r1) (oc8 h0 h1 h2 h3 h2 (xBC h5) h6 h7 on)
theorem xHN {N : Nat} {a0 : Rdr} {r : Str × Rdr} (h : xC2 N  a0 = some r) : AbC 46 (xDq a0) (xCD r) :=
 AbsCalls.of_reach fk46 rfl rfl (Nat.le_of_ble_eq_true rfl) (xX6 a0 r h)
noncomputable def I47 : Info := { body := (Tryz.f47.body).getD .skip, nt := 18, results := [], keep := [0, 2, 14, 1], live := [], modes := [], ext := [0] }
theorem fk47 : FnOk Tryz.prog 47 Tryz.f47 I47 := ⟨Tryz.func47, by kernel_rfl, by kernel_rfl, by kernel_rfl, by kernel_rfl⟩
def xUr (a0 : Rdr) (a1 : Str) (r1 : Bool × Rdr) (r2 : Exp × Rdr) : rE I47 (xBp a0 a1) [Y] [xAd r1, xAI r2] = dn (xAy r2.2) [AbC 45 (xAw a0 a1) (xAd r1), iY (!r1.1), AbC 29 (xCC r1.2) (xAI r2)] := by kernel_rfl
abbrev xHJ (v0 : Bool × Rdr) := Rdr.mk (Rdr.toks v0.2) (W ((Rdr.i v0.2) + 1)) (Rdr.fin v0.2) (Rdr.bad v0.2)
def xUs (a0 : Rdr) (a1 : Str) (r1 : Bool × Rdr) : rE I47 (xBp a0 a1) [F] [xAd r1] = dn (xAy (xHJ r1)) [AbC 45 (xAw a0 a1) (xAd r1), iN (!r1.1)] := by kernel_rfl
theorem xX7 {N : Nat} : ∀ a0 a1 r, xBf N a0 a1 = some r → RE Tryz.f47 I47 (xBp a0 a1) (xAy r) := fun a0 a1 r h =>
 bE h fun r1 h0 h => cE h (fun h1 h => bE h fun r2 h2 h => dE h fk47 (xUr a0 a1 r1 r2) (oc3 (xAl h0) h1 (xBY h2) on)) fun h1 h =>
 dE h fk47 (xUs a0 a1 r1) (oc2 (xAl h0) h1 on)
theorem xCh {N : Nat} {a0 : Rdr} {a1 : Str} {r : Rdr} (h : xBf N  a0 a1 = some r) : AbC 47 (xBp a0 a1) (xAy r) :=
 AbsCalls.of_reach fk47 rfl rfl (Nat.le_of_ble_eq_true rfl) (xX7 a0 a1 r h)
noncomputable def I67 : Info := { body := (Tryz.f67.body).getD .skip, nt := 5, results := [.cell 2 25], keep := [0, 4, 5], live := [], modes := [] }
theorem fk67 : FnOk Tryz.prog 67 Tryz.f67 I67 := ⟨Tryz.func67, by kernel_rfl, by kernel_rfl, by kernel_rfl, by kernel_rfl⟩
def xVf (a0 : Int) : rE I67 (xFO a0) [] [] = dn (xE6 (Exp.mk 1 a0 [] [])) [] := by kernel_rfl
theorem xYs {N : Nat} : ∀ a0 r, xIk N a0 = some r → RE Tryz.f67 I67 (xFO a0) (xE6 r) := fun a0 r h =>
 dE h fk67 (xVf a0) on
theorem xJ0 {N : Nat} {a0 : Int} {r : Exp} (h : xIk N  a0 = some r) : AbC 67 (xFO a0) (xE6 r) :=
 AbsCalls.of_reach fk67 rfl rfl (Nat.le_of_ble_eq_true rfl) (xYs a0 r h)
noncomputable def I101 : Info := { body := (Tryz.f101.body).getD .skip, nt := 5, results := [.cell 2 25], keep := [0, 4, 5], live := [], modes := [] }
theorem xXb : FnOk Tryz.prog 101 Tryz.f101 I101 := ⟨Tryz.func101, by kernel_rfl, by kernel_rfl, by kernel_rfl, by kernel_rfl⟩
def xPn (a0 : Str) : rE I101 (xFC a0) [] [] = dn (xEO (Exp.mk 3 0 a0 [])) [] := by kernel_rfl
theorem xWJ {N : Nat} : ∀ a0 r, xHM N a0 = some r → RE Tryz.f101 I101 (xFC a0) (xEO r) := fun a0 r h =>
 dE h xXb (xPn a0) on
theorem xJO {N : Nat} {a0 : Str} {r : Exp} (h : xHM N  a0 = some r) : AbC 101 (xFC a0) (xEO r) :=
 AbsCalls.of_reach xXb rfl rfl (Nat.le_of_ble_eq_true rfl) (xWJ a0 r h)
noncomputable def I106 : Info := { body := (Tryz.f106.body).getD .skip, nt := 26, results := [.tmp 2], keep := [0, 4, 6, 8, 12, 24, 40, 48], live := [], modes := [] }
theorem xGX : FnOk Tryz.prog 106 Tryz.f106 I106 := ⟨Tryz.func106, by kernel_rfl, by kernel_rfl, by kernel_rfl, by kernel_rfl⟩
abbrev xL6 (v0 : Str) := (v0 : Str) == [99, 108, 111, 99, 107]
def xPq (a0 : Str) : rE I106 (xAn a0) [Y] [] = dn (xAh 0) [iY (xL6 a0)] := by kernel_rfl
abbrev xDu (v0 : Str) : Prop := iN (xL6 v0)
abbrev xMC (v0 : Str) : Prop := iY ((v0 : Str) == [108, 101, 110])
def xPr (a0 : Str) : rE I106 (xAn a0) [F, Y, Y] [] = dn (xAh 1) [xDu a0, xMC a0, xMC a0] := by kernel_rfl
abbrev xDF (v0 : Str) : Prop := iN ((v0 : Str) == [108, 101, 110])
abbrev xMD (v0 : Str) : Prop := iY ((v0 : Str) == [115, 117, 109])
def xPs (a0 : Str) : rE I106 (xAn a0) [F, F, Y, Y] [] = dn (xAh 1) [xDu a0, xDF a0, xMD a0, xMD a0] := by kernel_rfl
abbrev xDW (v0 : Str) : Prop := iN ((v0 : Str) == [115, 117, 109])
abbrev xME (v0 : Str) : Prop := iY ((v0 : Str) == [114, 111, 119, 115])
def xPt (a0 : Str) : rE I106 (xAn a0) [F, F, F, Y, Y] [] = dn (xAh 1) [xDu a0, xDF a0, xDW a0, xME a0, xME a0] := by kernel_rfl
abbrev xEe (v0 : Str) : Prop := iN ((v0 : Str) == [114, 111, 119, 115])
abbrev xMF (v0 : Str) : Prop := iY ((v0 : Str) == [99, 104, 97, 110, 99, 101])
def xPu (a0 : Str) : rE I106 (xAn a0) [F, F, F, F, Y, Y] [] = dn (xAh 1) [xDu a0, xDF a0, xDW a0, xEe a0, xMF a0, xMF a0] := by kernel_rfl
abbrev xEp (v0 : Str) : Prop := iN ((v0 : Str) == [99, 104, 97, 110, 99, 101])
abbrev xL7 (v0 : Str) := (v0 : Str) == [102, 105, 108, 101]
def xPv (a0 : Str) : rE I106 (xAn a0) [F, F, F, F, F, Y] [] = dn (xAh 1) [xDu a0, xDF a0, xDW a0, xEe a0, xEp a0, iY (xL7 a0)] := by kernel_rfl
abbrev xEE (v0 : Str) : Prop := iN (xL7 v0)
abbrev xMG (v0 : Str) : Prop := iY ((v0 : Str) == [116, 97, 107, 101])
def xPw (a0 : Str) : rE I106 (xAn a0) [F, F, F, F, F, F, Y, Y] [] = dn (xAh 2) [xDu a0, xDF a0, xDW a0, xEe a0, xEp a0, xEE a0, xMG a0, xMG a0] := by kernel_rfl
abbrev xE0 (v0 : Str) : Prop := iN ((v0 : Str) == [116, 97, 107, 101])
abbrev xMH (v0 : Str) : Prop := iY ((v0 : Str) == [115, 107, 105, 112])
def xPx (a0 : Str) : rE I106 (xAn a0) [F, F, F, F, F, F, F, Y, Y] [] = dn (xAh 2) [xDu a0, xDF a0, xDW a0, xEe a0, xEp a0, xEE a0, xE0 a0, xMH a0, xMH a0] := by kernel_rfl
abbrev xFn (v0 : Str) : Prop := iN ((v0 : Str) == [115, 107, 105, 112])
abbrev xMI (v0 : Str) : Prop := iY ((v0 : Str) == [114, 97, 110, 103, 101])
def xPy (a0 : Str) : rE I106 (xAn a0) [F, F, F, F, F, F, F, F, Y, Y] [] = dn (xAh 2) [xDu a0, xDF a0, xDW a0, xEe a0, xEp a0, xEE a0, xE0 a0, xFn a0, xMI a0, xMI a0] := by kernel_rfl
abbrev xFI (v0 : Str) : Prop := iN ((v0 : Str) == [114, 97, 110, 103, 101])
abbrev xMJ (v0 : Str) : Prop := iY ((v0 : Str) == [110, 116, 104])
def xPz (a0 : Str) : rE I106 (xAn a0) [F, F, F, F, F, F, F, F, F, Y, Y] [] = dn (xAh 2) [xDu a0, xDF a0, xDW a0, xEe a0, xEp a0, xEE a0, xE0 a0, xFn a0, xFI a0, xMJ a0, xMJ a0] := by kernel_rfl
abbrev xF3 (v0 : Str) : Prop := iN ((v0 : Str) == [110, 116, 104])
abbrev xMK (v0 : Str) : Prop := iY ((v0 : Str) == [107, 101, 101, 112])
def xN7 (a0 : Str) : rE I106 (xAn a0) [F, F, F, F, F, F, F, F, F, F, Y, Y] [] = dn (xAh 2) [xDu a0, xDF a0, xDW a0, xEe a0, xEp a0, xEE a0, xE0 a0, xFn a0, xFI a0, xF3 a0, xMK a0, xMK a0] := by kernel_rfl
abbrev xGv (v0 : Str) : Prop := iN ((v0 : Str) == [107, 101, 101, 112])
abbrev xML (v0 : Str) : Prop := iY ((v0 : Str) == [99, 111, 108, 117, 109, 110])
def xN8 (a0 : Str) : rE I106 (xAn a0) [F, F, F, F, F, F, F, F, F, F, F, Y, Y] [] = dn (xAh 2) [xDu a0, xDF a0, xDW a0, xEe a0, xEp a0, xEE a0, xE0 a0, xFn a0, xFI a0, xF3 a0, xGv a0, xML a0, xML a0] := by kernel_rfl
abbrev xHj (v0 : Str) : Prop := iN ((v0 : Str) == [99, 111, 108, 117, 109, 110])
abbrev xL8 (v0 : Str) := (v0 : Str) == [116, 97, 98, 108, 101]
def xN9 (a0 : Str) : rE I106 (xAn a0) [F, F, F, F, F, F, F, F, F, F, F, F, Y] [] = dn (xAh 2) [xDu a0, xDF a0, xDW a0, xEe a0, xEp a0, xEE a0, xE0 a0, xFn a0, xFI a0, xF3 a0, xGv a0, xHj a0, iY (xL8 a0)] := by kernel_rfl
abbrev xH3 (v0 : Str) : Prop := iN (xL8 v0)
abbrev xMM (v0 : Str) : Prop := iY ((v0 : Str) == [119, 104, 101, 114, 101])
def xOa (a0 : Str) : rE I106 (xAn a0) [F, F, F, F, F, F, F, F, F, F, F, F, F, Y, Y] [] = dn (xAh 3) [xDu a0, xDF a0, xDW a0, xEe a0, xEp a0, xEE a0, xE0 a0, xFn a0, xFI a0, xF3 a0, xGv a0, xHj a0, xH3 a0, xMM a0, xMM a0] := by kernel_rfl
abbrev xI6 (v0 : Str) : Prop := iN ((v0 : Str) == [119, 104, 101, 114, 101])
abbrev xMN (v0 : Str) : Prop := iY ((v0 : Str) == [103, 114, 111, 117, 112])
def xOb (a0 : Str) : rE I106 (xAn a0) [F, F, F, F, F, F, F, F, F, F, F, F, F, F, Y, Y] [] = dn (xAh 3) [xDu a0, xDF a0, xDW a0, xEe a0, xEp a0, xEE a0, xE0 a0, xFn a0, xFI a0, xF3 a0, xGv a0, xHj a0, xH3 a0, xI6 a0, xMN a0, xMN a0] := by kernel_rfl
abbrev xKg (v0 : Str) : Prop := iN ((v0 : Str) == [103, 114, 111, 117, 112])
abbrev xL9 (v0 : Str) := (v0 : Str) == [106, 111, 105, 110]
def xOc (a0 : Str) : rE I106 (xAn a0) [F, F, F, F, F, F, F, F, F, F, F, F, F, F, F, Y] [] = dn (xAh 3) [xDu a0, xDF a0, xDW a0, xEe a0, xEp a0, xEE a0, xE0 a0, xFn a0, xFI a0, xF3 a0, xGv a0, xHj a0, xH3 a0, xI6 a0, xKg a0, iY (xL9 a0)] := by kernel_rfl
abbrev xMO (v0 : Str) : Prop := iN (xL9 v0)
abbrev xKT (v0 : Str) := (v0 : Str) == [97, 100, 100]
def xOd (a0 : Str) : rE I106 (xAn a0) [F, F, F, F, F, F, F, F, F, F, F, F, F, F, F, F, Y] [] = dn (xAh 4) [xDu a0, xDF a0, xDW a0, xEe a0, xEp a0, xEE a0, xE0 a0, xFn a0, xFI a0, xF3 a0, xGv a0, xHj a0, xH3 a0, xI6 a0, xKg a0, xMO a0, iY (xKT a0)] := by kernel_rfl
def xOe (a0 : Str) : rE I106 (xAn a0) [F, F, F, F, F, F, F, F, F, F, F, F, F, F, F, F, F] [] = dn (xAh (-1)) [xDu a0, xDF a0, xDW a0, xEe a0, xEp a0, xEE a0, xE0 a0, xFn a0, xFI a0, xF3 a0, xGv a0, xHj a0, xH3 a0, xI6 a0, xKg a0, xMO a0, iN (xKT a0)] := by kernel_rfl
theorem xWL {N : Nat} : ∀ a0 r, xBR N a0 = some r → RE Tryz.f106 I106 (xAn a0) (xAh r) := fun a0 r h =>
 cE h (fun h0 h => dE h xGX (xPq a0) (oc h0 on)) fun h0 h =>
 cE h (fun h1 h => dE h xGX (xPr a0) (oc3 h0 h1 h1 on)) fun h1 h =>
 cE h (fun h2 h => dE h xGX (xPs a0) (oc4 h0 h1 h2 h2 on)) fun h2 h =>
 cE h (fun h3 h => dE h xGX (xPt a0) (oc5 h0 h1 h2 h3 h3 on)) fun h3 h =>
 cE h (fun h4 h => dE h xGX (xPu a0) (oc6 h0 h1 h2 h3 h4 h4 on)) fun h4 h =>
 cE h (fun h5 h => dE h xGX (xPv a0) (oc6 h0 h1 h2 h3 h4 h5 on)) fun h5 h =>
 cE h (fun h6 h => dE h xGX (xPw a0) (oc8 h0 h1 h2 h3 h4 h5 h6 h6 on)) fun h6 h =>
 cE h (fun h7 h => dE h xGX (xPx a0) (oc9 h0 h1 h2 h3 h4 h5 h6 h7 h7 on)) fun h7 h =>
 cE h (fun h8 h => dE h xGX (xPy a0) (oc10 h0 h1 h2 h3 h4 h5 h6 h7 h8 h8 on)) fun h8 h =>
 cE h (fun h9 h => dE h xGX (xPz a0) (oc11 h0 h1 h2 h3 h4 h5 h6 h7 h8 h9 h9 on)) fun h9 h =>
 cE h (fun h10 h => dE h xGX (xN7 a0) (oc12 h0 h1 h2 h3 h4 h5 h6 h7 h8 h9 h10 h10 on)) fun h10 h =>
 cE h (fun h11 h => dE h xGX (xN8 a0) (oc12 h0 h1 h2 h3 h4 h5 h6 h7 h8 h9 h10 h11 (oc h11 on))) fun h11 h =>
 cE h (fun h12 h => dE h xGX (xN9 a0) (oc12 h0 h1 h2 h3 h4 h5 h6 h7 h8 h9 h10 h11 (oc h12 on))) fun h12 h =>
 cE h (fun h13 h => dE h xGX (xOa a0) (oc12 h0 h1 h2 h3 h4 h5 h6 h7 h8 h9 h10 h11 (oc3 h12 h13 h13 on))) fun h13 h =>
 cE h (fun h14 h => dE h xGX (xOb a0) (oc12 h0 h1 h2 h3 h4 h5 h6 h7 h8 h9 h10 h11 (oc4 h12 h13 h14 h14 on))) fun h14 h =>
 cE h (fun h15 h => dE h xGX (xOc a0) (oc12 h0 h1 h2 h3 h4 h5 h6 h7 h8 h9 h10 h11 (oc4 h12 h13 h14 h15 on))) fun h15 h =>
 cE h (fun h16 h => dE h xGX (xOd a0) (oc12 h0 h1 h2 h3 h4 h5 h6 h7 h8 h9 h10 h11 (oc5 h12 h13 h14 h15 h16 on))) fun h16 h =>
 dE h xGX (xOe a0) (oc12 h0 h1 h2 h3 h4 h5 h6 h7 h8 h9 h10 h11 (oc5 h12 h13 h14 h15 h16 on))
theorem xDo {N : Nat} {a0 : Str} {r : Int} (h : xBR N  a0 = some r) : AbC 106 (xAn a0) (xAh r) :=
 AbsCalls.of_reach xGX rfl rfl (Nat.le_of_ble_eq_true rfl) (xWL a0 r h)
noncomputable def I66 : Info := { body := (Tryz.f66.body).getD .skip, nt := 12, results := [.cell 6 25], keep := [0, 2, 4, 8, 10, 12, 9, 11, 13], live := [], modes := [] }
theorem fk66 : FnOk Tryz.prog 66 Tryz.f66 I66 := ⟨Tryz.func66, by kernel_rfl, by kernel_rfl, by kernel_rfl, by kernel_rfl⟩
def xVe (a0 : Int) (a1 a2 : Exp) : rE I66 (xDj a0 a1 a2) [] [] = dn (xBz (Exp.mk 6 a0 [] [(Exp.re a1), (Exp.re a2)])) [] := by kernel_rfl
theorem xYr {N : Nat} : ∀ a0 a1 a2 r, xDN N a0 a1 a2 = some r → RE Tryz.f66 I66 (xDj a0 a1 a2) (xBz r) := fun a0 a1 a2 r h =>
 dE h fk66 (xVe a0 a1 a2) on
theorem xEt {N : Nat} {a0 : Int} {a1 : Exp} {a2 : Exp} {r : Exp} (h : xDN N  a0 a1 a2 = some r) : AbC 66 (xDj a0 a1 a2) (xBz r) :=
 AbsCalls.of_reach fk66 rfl rfl (Nat.le_of_ble_eq_true rfl) (xYr a0 a1 a2 r h)
end Go.Ab.T
end
section
open Go.Proofs
namespace Go.Ab.T
set_option maxRecDepth 100000
variable [Inhabited Lb]
variable [Nonempty Tab10]
variable [Nonempty ErrVars]
def G137 (q : Rdr → Str → Option ((List Exp) × Rdr)) : Prop := ∀ a0 a1 r, q a0 a1 = some r → AbC 137 (xDU a0 a1) (xBW r)
def G127 (q : Rdr → Option (Exp × Rdr)) : Prop := ∀ a0 r, q a0 = some r → AbC 127 (xA7 a0) (xA1 r)
def G48 (q : Rdr → Option (Exp × Rdr)) : Prop := ∀ a0 r, q a0 = some r → AbC 48 (xCV a0) (xCy r)
def G28 (q : Rdr → Option (Exp × Rdr)) : Prop := ∀ a0 r, q a0 = some r → AbC 28 (xBX a0) (xAq r)
def G110 (q : Rdr → Option (Exp × Rdr)) : Prop := ∀ a0 r, q a0 = some r → AbC 110 (xDv a0) (xBn r)
def G88 (q : Rdr → Option (Exp × Rdr)) : Prop := ∀ a0 r, q a0 = some r → AbC 88 (xDH a0) (xBS r)
noncomputable def I137 : Info := { body := (Tryz.f137.body).getD .skip, nt := 44, results := [.tmp 4], keep := [0, 2, 8, 10, 18, 46, 62, 1], live := [(5, [0, 2, 10, 1])], modes := [(4, [(0, .take, false)]), (6, [(0, .take, false), (4, .take, false)]), (10, [(0, .take, false)])], ext := [0], casts := [(5, [(10, 0, false)])], fcast := [(8, 0, false)] }
theorem xNa : FnOk Tryz.prog 137 Tryz.f137 I137 := ⟨Tryz.func137, by kernel_rfl, by kernel_rfl, by kernel_rfl, by kernel_rfl⟩
def xJ4 (x1 : Str) (x5 : List Exp) (b0 : Rdr) : St := [(0, .v false [.ptr 0 0]), (2, .v false [.str x1]), (10, .v false [.sl .tip .exp x5]), (1, .v true [.sl .ro .tok (Rdr.toks b0), .int .i64 (Rdr.i b0), .int .i64 (Rdr.fin b0), .int .i64 (Rdr.bad b0)])]
abbrev xI7 (v0 : Rdr) (v1 : Exp × Rdr) : Prop := AbC 28 (xBX v0) (xAq v1)
def xQX (x1 : Str) (x5 : List Exp) (b0 : Rdr) (r1 : Exp × Rdr) (r2 : Bool × Rdr) (r3 : Rdr) : rS 5 I137 (xJ4 x1 x5 b0) [Y, Y] [xAq r1, xAd r2, xAy r3] = dn (xBW ((x5 ++ [(Exp.re r1.1)]), r3)) [xJF b0, xI7 b0 r1, Ln x5 + Ln [(Exp.re r1.1)] ≤ Lim, AbC 45 (xAw r1.2 [44]) (xAd r2), iY (!r2.1), AbC 47 (xBp r2.2 x1) (xAy r3)] := by kernel_rfl
def xQY (x1 : Str) (x5 : List Exp) (b0 : Rdr) (r1 : Exp × Rdr) (r2 : Bool × Rdr) : rS 5 I137 (xJ4 x1 x5 b0) [Y, F] [xAq r1, xAd r2] = st 5 I137 (xJ4 x1 (x5 ++ [(Exp.re r1.1)]) (xHJ r2)) [xJF b0, xI7 b0 r1, Ln x5 + Ln [(Exp.re r1.1)] ≤ Lim, AbC 45 (xAw r1.2 [44]) (xAd r2), iN (!r2.1)] := by kernel_rfl
def xQZ (x1 : Str) (x5 : List Exp) (b0 r1 : Rdr) : rS 5 I137 (xJ4 x1 x5 b0) [F] [xAy r1] = dn (xBW (x5, r1)) [iN (dc ((Rdr.bad b0) < 0)), AbC 47 (xBp b0 x1) (xAy r1)] := by kernel_rfl
def xQ0 (a0 : Rdr) (a1 : Str) (r1 : Bool × Rdr) : rE I137 (xDU a0 a1) [Y] [xAd r1] = dn (xBW ([], (xHJ r1))) [AbC 45 (xAw a0 a1) (xAd r1), iY r1.1] := by kernel_rfl
def xQ1 (a0 : Rdr) (a1 : Str) (r1 : Bool × Rdr) : rE I137 (xDU a0 a1) [F] [xAd r1] = st 5 I137 (xJ4 a1 [] r1.2) [AbC 45 (xAw a0 a1) (xAd r1), iN r1.1] := by kernel_rfl
theorem xW3 {N q0 q1 q2 q3 q4 q5} (g0 : G137 q0) (g1 : G127 q1) (g2 : G48 q2) (g3 : G28 q3) (g4 : G110 q4) (g5 : G88 q5) : ∀ n x1 x5 b0 r, xEl N q0 q1 q2 q3 q4 q5 n x1 x5 b0 = some r → RS Tryz.f137 I137 5 (xJ4 x1 x5 b0) (xBW r) := by
 intro n
 induction n with
 | zero => exact fun _ _ _ _ h => nE h
 | succ n ih =>
  exact fun x1 x5 b0 r h =>
   cE h (fun h0 h => bE h fun r1 h1 h => iE h fun h2 h => bE h fun r2 h3 h => cE h (fun h4 h => bE h fun r3 h5 h => dS h xNa (xQX x1 x5 b0 r1 r2 r3) (oc6 h0 (g3 _ _ h1) h2 (xAl h3) h4 (xCh h5) on)) fun h4 h =>
   tS xNa (xQY x1 x5 b0 r1 r2) (oc5 h0 (g3 _ _ h1) h2 (xAl h3) h4 on) (ih _ _ _ _ h)) fun h0 h =>
   bE h fun r1 h1 h => dS h xNa (xQZ x1 x5 b0 r1) (oc2 h0 (xCh h1) on)
theorem xW4 {N q0 q1 q2 q3 q4 q5} (g0 : G137 q0) (g1 : G127 q1) (g2 : G48 q2) (g3 : G28 q3) (g4 : G110 q4) (g5 : G88 q5) : ∀ a0 a1 r, xDe N q0 q1 q2 q3 q4 q5 a0 a1 = some r → RE Tryz.f137 I137 (xDU a0 a1) (xBW r) := fun a0 a1 r h =>
 bE h fun r1 h0 h => cE h (fun h1 h => dE h xNa (xQ0 a0 a1 r1) (oc2 (xAl h0) h1 on)) fun h1 h =>
 tE xNa (xQ1 a0 a1 r1) (oc2 (xAl h0) h1 on) (xW3 g0 g1 g2 g3 g4 g5 _ _ _ _ _ h)
theorem xHT {N q0 q1 q2 q3 q4 q5} (g0 : G137 q0) (g1 : G127 q1) (g2 : G48 q2) (g3 : G28 q3) (g4 : G110 q4) (g5 : G88 q5) {a0} {a1} {r} (h : xDe N q0 q1 q2 q3 q4 q5 a0 a1 = some r) : AbC 137 (xDU a0 a1) (xBW r) :=
 AbsCalls.of_reach xNa rfl rfl (Nat.le_of_ble_eq_true rfl) (xW4 g0 g1 g2 g3 g4 g5 a0 a1 r h)
noncomputable def I127 : Info := { body := (Tryz.f127.body).getD .skip, nt := 141, results := [.cell 2 25], keep := [0, 4, 6, 8, 42, 68, 98, 128, 168, 218, 246, 1, 5, 7, 9], live := [], modes := [(1, [(5, .take, false)]), (10, [(3, .take, false)]), (13, [(3, .take, false)])], ext := [0], fcast := [(5, 3, true)] }
theorem xIC : FnOk Tryz.prog 127 Tryz.f127 I127 := ⟨Tryz.func127, by kernel_rfl, by kernel_rfl, by kernel_rfl, by kernel_rfl⟩
def xQF (a0 : Rdr) (r1 : Exp × Rdr) : rE I127 (xA7 a0) [Y, Y] [xAI r1] = dn (xA1 (r1.1, r1.2)) [iY (dc ((Rdr.bad a0) ≥ 0)), iY true, xI5 a0 r1] := by kernel_rfl
def xQG (a0 : Rdr) (r1 : Exp × Rdr) : rE I127 (xA7 a0) [F, Y] [xAI r1] = dn (xA1 (r1.1, r1.2)) [xGm a0, iY (xL4 a0), xI5 a0 r1] := by kernel_rfl
abbrev xNR (v0 : Exp) (v1 : Rdr) := xA1 (v0, (Rdr.mk (Rdr.toks v1) (W ((Rdr.i v1) + 1)) (Rdr.fin v1) (Rdr.bad v1)))
abbrev xNS (v0 : Rdr) := ((Tok.kind (gD (Rdr.toks v0) (tN (Rdr.i v0)) Ty.tok.dflt)) : Int) == 2
def xQH (a0 : Rdr) (r1 : Exp) : rE I127 (xA7 a0) [F, F, Y] [xE6 r1] = dn (xNR r1 a0) [xGm a0, xGQ a0, xFA a0, iY (xNS a0), AbC 67 (xFO (Tok.n (xId a0))) (xE6 r1)] := by kernel_rfl
abbrev xIv (v0 : Rdr) : Prop := iN (xNS v0)
abbrev xNT (v0 : Rdr) := ((Tok.kind (gD (Rdr.toks v0) (tN (Rdr.i v0)) Ty.tok.dflt)) : Int) == 3
def xQI (a0 : Rdr) : rE I127 (xA7 a0) [F, F, F, Y] [] = dn (xA1 ((Exp.mk 2 0 (xJB a0) []), (xJC a0))) [xGm a0, xGQ a0, xFA a0, xIv a0, iY (xNT a0)] := by kernel_rfl
abbrev xI8 (v0 : Rdr) : Prop := iN (xNT v0)
abbrev xNU (v0 : Rdr) := ((Tok.kind (gD (Rdr.toks v0) (tN (Rdr.i v0)) Ty.tok.dflt)) : Int) == 1
abbrev xIw (v0 : Rdr) : Prop := iY (xNU v0)
def xQJ (a0 : Rdr) (r1 : Bool) (r2 : Exp) : rE I127 (xA7 a0) [F, F, F, F, Y, Y] [xAA r1, xEO r2] = dn (xNR r2 a0) [xGm a0, xGQ a0, xFA a0, xIv a0, xI8 a0, xIw a0, xJG a0 r1, iY r1, AbC 101 (xFC (xJB a0)) (xEO r2)] := by kernel_rfl
abbrev xMP (v0 : Rdr) (v1 : Int) : Prop := AbC 106 (xAn (xJB v0)) (xAh v1)
def xQK (a0 : Rdr) (r1 : Bool) (r2 : Int) (r3 : Rdr) (r4 : (List Exp) × Rdr) : rE I127 (xA7 a0) [F, F, F, F, Y, F, Y, Y] [xAA r1, xAh r2, xAy r3, xBW r4] = dn (xA1 ((Exp.mk 5 0 (xJB a0) r4.1), r4.2)) [xGm a0, xGQ a0, xFA a0, xIv a0, xI8 a0, xIw a0, xJG a0 r1, iN r1, xIw a0, xMP a0 r2, iY (dc (r2 ≥ 0)), AbC 47 (xBp (xJC a0) [40]) (xAy r3), AbC 137 (xDU r3 [41]) (xBW r4)] := by kernel_rfl
abbrev xI9 (v0 : Int) : Prop := iN (dc (v0 ≥ 0))
abbrev xKh (v0 : Rdr) (v1 : Bool) : Prop := AbC 85 (xC1 (xId v0) [91]) (xAL v1)
abbrev xSm (v0 : Rdr) (v1 : (List Exp) × Rdr) : Prop := AbC 137 (xDU (xJC v0) [93]) (xBW v1)
def xQL (a0 : Rdr) (r1 : Bool) (r2 : Int) (r3 : Bool) (r4 : (List Exp) × Rdr) : rE I127 (xA7 a0) [F, F, F, F, Y, F, Y, F, Y] [xAA r1, xAh r2, xAL r3, xBW r4] = dn (xA1 ((Exp.mk 4 0 [] r4.1), r4.2)) [xGm a0, xGQ a0, xFA a0, xIv a0, xI8 a0, xIw a0, xJG a0 r1, iN r1, xIw a0, xMP a0 r2, xI9 r2, xKh a0 r3, iY r3, xSm a0 r4] := by kernel_rfl
abbrev xMQ (v0 : Rdr) (v1 : Bool) : Prop := AbC 85 (xC1 (xId v0) [40]) (xAL v1)
abbrev xSn (v0 : Rdr) (v1 : Exp × Rdr) : Prop := AbC 28 (xBX (xJC v0)) (xAq v1)
def xQM (a0 : Rdr) (r1 : Bool) (r2 : Int) (r3 r4 : Bool) (r5 : Exp × Rdr) (r6 : Rdr) : rE I127 (xA7 a0) [F, F, F, F, Y, F, Y, F, F, Y] [xAA r1, xAh r2, xAL r3, xAL r4, xAq r5, xAy r6] = dn (xA1 (r5.1, r6)) [xGm a0, xGQ a0, xFA a0, xIv a0, xI8 a0, xIw a0, xJG a0 r1, iN r1, xIw a0, xMP a0 r2, xI9 r2, xKh a0 r3, iN r3, xMQ a0 r4, iY r4, xSn a0 r5, AbC 47 (xBp r5.2 [41]) (xAy r6)] := by kernel_rfl
def xQN (a0 : Rdr) (r1 : Bool) (r2 : Int) (r3 r4 : Bool) (r5 : Exp × Rdr) : rE I127 (xA7 a0) [F, F, F, F, Y, F, Y, F, F, F] [xAA r1, xAh r2, xAL r3, xAL r4, xAI r5] = dn (xA1 (r5.1, r5.2)) [xGm a0, xGQ a0, xFA a0, xIv a0, xI8 a0, xIw a0, xJG a0 r1, iN r1, xIw a0, xMP a0 r2, xI9 r2, xKh a0 r3, iN r3, xMQ a0 r4, iN r4, xI5 a0 r5] := by kernel_rfl
abbrev xKi (v0 : Rdr) : Prop := iN (xNU v0)
def xQO (a0 : Rdr) (r1 : Bool) (r2 : (List Exp) × Rdr) : rE I127 (xA7 a0) [F, F, F, F, F, F, F, F, Y] [xAL r1, xBW r2] = dn (xA1 ((Exp.mk 4 0 [] r2.1), r2.2)) [xGm a0, xGQ a0, xFA a0, xIv a0, xI8 a0, xKi a0, iN false, xKi a0, iN false, xKh a0 r1, iY r1, xSm a0 r2] := by kernel_rfl
def xOy (a0 : Rdr) (r1 r2 : Bool) (r3 : Exp × Rdr) (r4 : Rdr) : rE I127 (xA7 a0) [F, F, F, F, F, F, F, F, F, Y] [xAL r1, xAL r2, xAq r3, xAy r4] = dn (xA1 (r3.1, r4)) [xGm a0, xGQ a0, xFA a0, xIv a0, xI8 a0, xKi a0, iN false, xKi a0, iN false, xKh a0 r1, iN r1, xMQ a0 r2, iY r2, xSn a0 r3, AbC 47 (xBp r3.2 [41]) (xAy r4)] := by kernel_rfl
def xOz (a0 : Rdr) (r1 r2 : Bool) (r3 : Exp × Rdr) : rE I127 (xA7 a0) [F, F, F, F, F, F, F, F, F, F] [xAL r1, xAL r2, xAI r3] = dn (xA1 (r3.1, r3.2)) [xGm a0, xGQ a0, xFA a0, xIv a0, xI8 a0, xKi a0, iN false, xKi a0, iN false, xKh a0 r1, iN r1, xMQ a0 r2, iN r2, xI5 a0 r3] := by kernel_rfl
theorem xW0 {N q0 q1 q2 q3 q4 q5} (g0 : G137 q0) (g1 : G127 q1) (g2 : G48 q2) (g3 : G28 q3) (g4 : G110 q4) (g5 : G88 q5) : ∀ a0 r, xDf N q0 q1 q2 q3 q4 q5 a0 = some r → RE Tryz.f127 I127 (xA7 a0) (xA1 r) := fun a0 r h =>
 cE h (fun h0 h => bE h fun r1 h2 h => dE h xIC (xQF a0 r1) (oc3 h0 rfl (xBY h2) on)) fun h0 h =>
 cE h (fun h1 h => bE h fun r1 h2 h => dE h xIC (xQG a0 r1) (oc3 h0 h1 (xBY h2) on)) fun h1 h =>
 iE h fun h2 h => cE h (fun h3 h => bE h fun r1 h4 h => dE h xIC (xQH a0 r1) (oc5 h0 h1 h2 h3 (xJ0 h4) on)) fun h3 h =>
 cE h (fun h4 h => dE h xIC (xQI a0) (oc5 h0 h1 h2 h3 h4 on)) fun h4 h =>
 cE h (fun h5 h => bE h fun r1 h6 h => cE h (fun h7 h => bE h fun r2 h8 h => dE h xIC (xQJ a0 r1 r2) (oc9 h0 h1 h2 h3 h4 h5 (xBC h6) h7 (xJO h8) on)) fun h7 h =>
 bE h fun r2 h9 h => cE h (fun h10 h => bE h fun r3 h11 h => bE h fun r4 h12 h => dE h xIC (xQK a0 r1 r2 r3 r4) (oc12 h0 h1 h2 h3 h4 h5 (xBC h6) h7 h5 (xDo h9) h10 (xCh h11) (oc (g0 _ _ _ h12) on))) fun h10 h =>
 bE h fun r3 h11 h => cE h (fun h12 h => bE h fun r4 h13 h => dE h xIC (xQL a0 r1 r2 r3 r4) (oc12 h0 h1 h2 h3 h4 h5 (xBC h6) h7 h5 (xDo h9) h10 (xBK h11) (oc2 h12 (g0 _ _ _ h13) on))) fun h12 h =>
 bE h fun r4 h13 h => cE h (fun h14 h => bE h fun r5 h15 h => bE h fun r6 h16 h => dE h xIC (xQM a0 r1 r2 r3 r4 r5 r6) (oc12 h0 h1 h2 h3 h4 h5 (xBC h6) h7 h5 (xDo h9) h10 (xBK h11) (oc5 h12 (xBK h13) h14 (g3 _ _ h15) (xCh h16) on))) fun h14 h =>
 bE h fun r5 h15 h => dE h xIC (xQN a0 r1 r2 r3 r4 r5) (oc12 h0 h1 h2 h3 h4 h5 (xBC h6) h7 h5 (xDo h9) h10 (xBK h11) (oc4 h12 (xBK h13) h14 (xBY h15) on))) fun h5 h =>
 bE h fun r1 h9 h => cE h (fun h10 h => bE h fun r2 h11 h => dE h xIC (xQO a0 r1 r2) (oc12 h0 h1 h2 h3 h4 h5 rfl h5 rfl (xBK h9) h10 (g0 _ _ _ h11) on)) fun h10 h =>
 bE h fun r2 h11 h => cE h (fun h12 h => bE h fun r3 h13 h => bE h fun r4 h14 h => dE h xIC (xOy a0 r1 r2 r3 r4) (oc12 h0 h1 h2 h3 h4 h5 rfl h5 rfl (xBK h9) h10 (xBK h11) (oc3 h12 (g3 _ _ h13) (xCh h14) on))) fun h12 h =>
 bE h fun r3 h13 h => dE h xIC (xOz a0 r1 r2 r3) (oc12 h0 h1 h2 h3 h4 h5 rfl h5 rfl (xBK h9) h10 (xBK h11) (oc2 h12 (xBY h13) on))
theorem xHU {N q0 q1 q2 q3 q4 q5} (g0 : G137 q0) (g1 : G127 q1) (g2 : G48 q2) (g3 : G28 q3) (g4 : G110 q4) (g5 : G88 q5) {a0} {r} (h : xDf N q0 q1 q2 q3 q4 q5 a0 = some r) : AbC 127 (xA7 a0) (xA1 r) :=
 AbsCalls.of_reach xIC rfl rfl (Nat.le_of_ble_eq_true rfl) (xW0 g0 g1 g2 g3 g4 g5 a0 r h)
noncomputable def I48 : Info := { body := (Tryz.f48.body).getD .skip, nt := 37, results := [.cell 2 25], keep := [0, 4, 6, 12, 42, 1, 5, 7], live := [], modes := [], ext := [0], fcast := [(5, 3, true)] }
theorem fk48 : FnOk Tryz.prog 48 Tryz.f48 I48 := ⟨Tryz.func48, by kernel_rfl, by kernel_rfl, by kernel_rfl, by kernel_rfl⟩
abbrev xSo (v0 : Bool × Rdr) (v1 : Exp × Rdr) : Prop := AbC 88 (xDH (xHJ v0)) (xBS v1)
def xUt (a0 : Rdr) (r1 : Exp × Rdr) (r2 : Bool × Rdr) (r3 : Exp × Rdr) (r4 : Exp) : rE I48 (xCV a0) [Y] [xBS r1, xAd r2, xBS r3, xBz r4] = dn (xCy (r4, r3.2)) [AbC 88 (xDH a0) (xBS r1), AbC 45 (xAw r1.2 [60]) (xAd r2), iY r2.1, xSo r2 r3, AbC 66 (xDj 4 r1.1 r3.1) (xBz r4)] := by kernel_rfl
def xUu (a0 : Rdr) (r1 : Exp × Rdr) (r2 : Bool × Rdr) (r3 : Bool × Rdr) (r4 : Exp × Rdr) (r5 : Exp) : rE I48 (xCV a0) [F, Y] [xBS r1, xAd r2, xAd r3, xBS r4, xBz r5] = dn (xCy (r5, r4.2)) [AbC 88 (xDH a0) (xBS r1), AbC 45 (xAw r1.2 [60]) (xAd r2), iN r2.1, AbC 45 (xAw r2.2 [61, 61]) (xAd r3), iY r3.1, xSo r3 r4, AbC 66 (xDj 5 r1.1 r4.1) (xBz r5)] := by kernel_rfl
def xUv (a0 : Rdr) (r1 : Exp × Rdr) (r2 : Bool × Rdr) (r3 : Bool × Rdr) : rE I48 (xCV a0) [F, F] [xBS r1, xAd r2, xAd r3] = dn (xCy (r1.1, r3.2)) [AbC 88 (xDH a0) (xBS r1), AbC 45 (xAw r1.2 [60]) (xAd r2), iN r2.1, AbC 45 (xAw r2.2 [61, 61]) (xAd r3), iN r3.1] := by kernel_rfl
theorem xX8 {N q0 q1 q2 q3 q4 q5} (g0 : G137 q0) (g1 : G127 q1) (g2 : G48 q2) (g3 : G28 q3) (g4 : G110 q4) (g5 : G88 q5) : ∀ a0 r, xCv N q0 q1 q2 q3 q4 q5 a0 = some r → RE Tryz.f48 I48 (xCV a0) (xCy r) := fun a0 r h =>
 bE h fun r1 h0 h => bE h fun r2 h1 h => cE h (fun h2 h => bE h fun r3 h3 h => bE h fun r4 h4 h => dE h fk48 (xUt a0 r1 r2 r3 r4) (oc5 (g5 _ _ h0) (xAl h1) h2 (g5 _ _ h3) (xEt h4) on)) fun h2 h =>
 bE h fun r3 h3 h => cE h (fun h4 h => bE h fun r4 h5 h => bE h fun r5 h6 h => dE h fk48 (xUu a0 r1 r2 r3 r4 r5) (oc7 (g5 _ _ h0) (xAl h1) h2 (xAl h3) h4 (g5 _ _ h5) (xEt h6) on)) fun h4 h =>
 dE h fk48 (xUv a0 r1 r2 r3) (oc5 (g5 _ _ h0) (xAl h1) h2 (xAl h3) h4 on)
theorem xHe {N q0 q1 q2 q3 q4 q5} (g0 : G137 q0) (g1 : G127 q1) (g2 : G48 q2) (g3 : G28 q3) (g4 : G110 q4) (g5 : G88 q5) {a0} {r} (h : xCv N q0 q1 q2 q3 q4 q5 a0 = some r) : AbC 48 (xCV a0) (xCy r) :=
 AbsCalls.of_reach fk48 rfl rfl (Nat.le_of_ble_eq_true rfl) (xX8 g0 g1 g2 g3 g4 g5 a0 r h)
noncomputable def I28 : Info := { body := (Tryz.f28.body).getD .skip, nt := 86, results := [.cell 2 25], keep := [0, 4, 6, 8, 10, 12, 14, 16, 18, 68, 118, 1, 5, 9, 11, 13, 17], live := [], modes := [(7, [(0, .take, false)]), (21, [(0, .take, false)])], ext := [0], fcast := [(5, 3, true)] }
theorem fk28 : FnOk Tryz.prog 28 Tryz.f28 I28 := ⟨Tryz.func28, by kernel_rfl, by kernel_rfl, by kernel_rfl, by kernel_rfl⟩
abbrev xMR (v0 : Rdr) (v1 : Bool × Rdr) : Prop := AbC 45 (xAw v0 [108, 101, 116]) (xAd v1)
abbrev xSp (v0 : Bool × Rdr) (v1 : Str × Rdr) : Prop := AbC 46 (xDq (xHJ v0)) (xCD v1)
def xTr (a0 : Rdr) (r1 : Bool × Rdr) (r2 : Str × Rdr) (r3 : Rdr) (r4 : Exp × Rdr) (r5 : Rdr) (r6 : Exp × Rdr) : rE I28 (xBX a0) [Y] [xAd r1, xCD r2, xAy r3, xAq r4, xAy r5, xAq r6] = dn (xAq ((Exp.mk 7 0 r2.1 [(Exp.re r4.1), (Exp.re r6.1)]), r6.2)) [xMR a0 r1, iY r1.1, xSp r1 r2, AbC 47 (xBp r2.2 [61]) (xAy r3), xI7 r3 r4, AbC 47 (xBp r4.2 [105, 110]) (xAy r5), xI7 r5 r6] := by kernel_rfl
def xTs (a0 : Rdr) (r1 : Bool × Rdr) (r2 : Bool × Rdr) (r3 : Exp × Rdr) (r4 : Rdr) (r5 : Exp × Rdr) (r6 : Rdr) (r7 : Exp × Rdr) : rE I28 (xBX a0) [F, Y] [xAd r1, xAd r2, xAq r3, xAy r4, xAq r5, xAy r6, xAq r7] = dn (xAq ((Exp.mk 8 0 [] [(Exp.re r3.1), (Exp.re r5.1), (Exp.re r7.1)]), r7.2)) [xMR a0 r1, iN r1.1, AbC 45 (xAw r1.2 [105, 102]) (xAd r2), iY r2.1, AbC 28 (xBX (xHJ r2)) (xAq r3), AbC 47 (xBp r3.2 [116, 104, 101, 110]) (xAy r4), xI7 r4 r5, AbC 47 (xBp r5.2 [101, 108, 115, 101]) (xAy r6), xI7 r6 r7] := by kernel_rfl
def xTt (a0 : Rdr) (r1 : Bool × Rdr) (r2 : Bool × Rdr) (r3 : Bool × Rdr) (r4 : Str × Rdr) (r5 : Rdr) (r6 : Exp × Rdr) (r7 : Rdr) (r8 : Exp × Rdr) : rE I28 (xBX a0) [F, F, Y] [xAd r1, xAd r2, xAd r3, xCD r4, xAy r5, xAq r6, xAy r7, xAq r8] = dn (xAq ((Exp.mk 9 0 r4.1 [(Exp.re r6.1), (Exp.re r8.1)]), r8.2)) [xMR a0 r1, iN r1.1, AbC 45 (xAw r1.2 [105, 102]) (xAd r2), iN r2.1, AbC 45 (xAw r2.2 [102, 111, 114]) (xAd r3), iY r3.1, xSp r3 r4, AbC 47 (xBp r4.2 [105, 110]) (xAy r5), xI7 r5 r6, AbC 47 (xBp r6.2 [100, 111]) (xAy r7), xI7 r7 r8] := by kernel_rfl
def xTu (a0 : Rdr) (r1 : Bool × Rdr) (r2 : Bool × Rdr) (r3 : Bool × Rdr) (r4 : Exp × Rdr) : rE I28 (xBX a0) [F, F, F] [xAd r1, xAd r2, xAd r3, xCy r4] = dn (xAq (r4.1, r4.2)) [xMR a0 r1, iN r1.1, AbC 45 (xAw r1.2 [105, 102]) (xAd r2), iN r2.1, AbC 45 (xAw r2.2 [102, 111, 114]) (xAd r3), iN r3.1, AbC 48 (xCV r3.2) (xCy r4)] := by kernel_rfl
theorem xXL {N q0 q1 q2 q3 q4 q5} (g0 : G137 q0) (g1 : G127 q1) (g2 : G48 q2) (g3 : G28 q3) (g4 : G110 q4) (g5 : G88 q5) : ∀ a0 r, xDg N q0 q1 q2 q3 q4 q5 a0 = some r → RE Tryz.f28 I28 (xBX a0) (xAq r) := fun a0 r h =>
 bE h fun r1 h0 h => cE h (fun h1 h => bE h fun r2 h2 h => bE h fun r3 h3 h => bE h fun r4 h4 h => bE h fun r5 h5 h => bE h fun r6 h6 h => dE h fk28 (xTr a0 r1 r2 r3 r4 r5 r6) (oc7 (xAl h0) h1 (xHN h2) (xCh h3) (g3 _ _ h4) (xCh h5) (g3 _ _ h6) on)) fun h1 h =>
 bE h fun r2 h2 h => cE h (fun h3 h => bE h fun r3 h4 h => bE h fun r4 h5 h => bE h fun r5 h6 h => bE h fun r6 h7 h => bE h fun r7 h8 h => dE h fk28 (xTs a0 r1 r2 r3 r4 r5 r6 r7) (oc9 (xAl h0) h1 (xAl h2) h3 (g3 _ _ h4) (xCh h5) (g3 _ _ h6) (xCh h7) (g3 _ _ h8) on)) fun h3 h =>
 bE h fun r3 h4 h => cE h (fun h5 h => bE h fun r4 h6 h => bE h fun r5 h7 h => bE h fun r6 h8 h => bE h fun r7 h9 h => bE h fun r8 h10 h => dE h fk28 (xTt a0 r1 r2 r3 r4 r5 r6 r7 r8) (oc11 (xAl h0) h1 (xAl h2) h3 (xAl h4) h5 (xHN h6) (xCh h7) (g3 _ _ h8) (xCh h9) (g3 _ _ h10) on)) fun h5 h =>
 bE h fun r4 h6 h => dE h fk28 (xTu a0 r1 r2 r3 r4) (oc7 (xAl h0) h1 (xAl h2) h3 (xAl h4) h5 (g2 _ _ h6) on)
theorem xHV {N q0 q1 q2 q3 q4 q5} (g0 : G137 q0) (g1 : G127 q1) (g2 : G48 q2) (g3 : G28 q3) (g4 : G110 q4) (g5 : G88 q5) {a0} {r} (h : xDg N q0 q1 q2 q3 q4 q5 a0 = some r) : AbC 28 (xBX a0) (xAq r) :=
 AbsCalls.of_reach fk28 rfl rfl (Nat.le_of_ble_eq_true rfl) (xXL g0 g1 g2 g3 g4 g5 a0 r h)
noncomputable def I110 : Info := { body := (Tryz.f110.body).getD .skip, nt := 21, results := [.cell 2 25], keep := [0, 4, 6, 14, 1, 5, 7], live := [(2, [0, 4, 6, 1, 5, 7])], modes := [], ext := [0], casts := [(2, [(7, 3, true)])] }
theorem xPf : FnOk Tryz.prog 110 Tryz.f110 I110 := ⟨Tryz.func110, by kernel_rfl, by kernel_rfl, by kernel_rfl, by kernel_rfl⟩
def xK4 (b0 : Rdr) (b2 b3 : Exp) : St := [(0, .v false [.ptr 0 0]), (4, .v false [.ptr 2 0]), (6, .v false [.ptr 3 0]), (1, .v true [.sl .ro .tok (Rdr.toks b0), .int .i64 (Rdr.i b0), .int .i64 (Rdr.fin b0), .int .i64 (Rdr.bad b0)]), (5, .v true [.int .i64 (Exp.kind b2), .int .i64 (Exp.n b2), .str (Exp.text b2), .sl .own .exp (Exp.args b2)]), (7, .v true [.int .i64 (Exp.kind b3), .int .i64 (Exp.n b3), .str (Exp.text b3), .sl .ro .exp (Exp.args b3)])]
def xPV (b0 : Rdr) (b2 b3 : Exp) (r1 : Bool × Rdr) (r2 : Exp × Rdr) (r3 : Exp) : rS 2 I110 (xK4 b0 b2 b3) [Y] [xAd r1, xA1 r2, xBz r3] = st 2 I110 (xK4 r2.2 b2 r3) [AbC 45 (xAw b0 [42]) (xAd r1), iY r1.1, AbC 127 (xA7 (xHJ r1)) (xA1 r2), AbC 66 (xDj 3 b3 r2.1) (xBz r3)] := by kernel_rfl
def xPW (b0 : Rdr) (b2 b3 : Exp) (r1 : Bool × Rdr) : rS 2 I110 (xK4 b0 b2 b3) [F] [xAd r1] = dn (xBn (b3, r1.2)) [AbC 45 (xAw b0 [42]) (xAd r1), iN r1.1] := by kernel_rfl
def xPX (a0 : Rdr) (r1 : Exp × Rdr) : rE I110 (xDv a0) [] [xA1 r1] = st 2 I110 (xK4 r1.2 (Exp.mk 0 0 [] []) r1.1) [AbC 127 (xA7 a0) (xA1 r1)] := by kernel_rfl
theorem xWQ {N q0 q1 q2 q3 q4 q5} (g0 : G137 q0) (g1 : G127 q1) (g2 : G48 q2) (g3 : G28 q3) (g4 : G110 q4) (g5 : G88 q5) : ∀ n b0 b2 b3 r, xCz N q0 q1 q2 q3 q4 q5 n b0 b2 b3 = some r → RS Tryz.f110 I110 2 (xK4 b0 b2 b3) (xBn r) := by
 intro n
 induction n with
 | zero => exact fun _ _ _ _ h => nE h
 | succ n ih =>
  exact fun b0 b2 b3 r h =>
   bE h fun r1 h0 h => cE h (fun h1 h => bE h fun r2 h2 h => bE h fun r3 h3 h => tS xPf (xPV b0 b2 b3 r1 r2 r3) (oc4 (xAl h0) h1 (g1 _ _ h2) (xEt h3) on) (ih _ _ _ _ h)) fun h1 h =>
   dS h xPf (xPW b0 b2 b3 r1) (oc2 (xAl h0) h1 on)
theorem xWR {N q0 q1 q2 q3 q4 q5} (g0 : G137 q0) (g1 : G127 q1) (g2 : G48 q2) (g3 : G28 q3) (g4 : G110 q4) (g5 : G88 q5) : ∀ a0 r, xCw N q0 q1 q2 q3 q4 q5 a0 = some r → RE Tryz.f110 I110 (xDv a0) (xBn r) := fun a0 r h =>
 bE h fun r1 h0 h => tE xPf (xPX a0 r1) (oc (g1 _ _ h0) on) (xWQ g0 g1 g2 g3 g4 g5 _ _ _ _ _ h)
theorem xHf {N q0 q1 q2 q3 q4 q5} (g0 : G137 q0) (g1 : G127 q1) (g2 : G48 q2) (g3 : G28 q3) (g4 : G110 q4) (g5 : G88 q5) {a0} {r} (h : xCw N q0 q1 q2 q3 q4 q5 a0 = some r) : AbC 110 (xDv a0) (xBn r) :=
 AbsCalls.of_reach xPf rfl rfl (Nat.le_of_ble_eq_true rfl) (xWR g0 g1 g2 g3 g4 g5 a0 r h)
noncomputable def I88 : Info := { body := (Tryz.f88.body).getD .skip, nt := 29, results := [.cell 2 25], keep := [0, 4, 6, 8, 24, 28, 1, 5, 7], live := [(2, [0, 4, 6, 1, 5, 7])], modes := [(2, [(2, .take, false)]), (7, [(0, .take, false)])], ext := [0], casts := [(2, [(7, 3, true)])] }
theorem fk88 : FnOk Tryz.prog 88 Tryz.f88 I88 := ⟨Tryz.func88, by kernel_rfl, by kernel_rfl, by kernel_rfl, by kernel_rfl⟩
def xJp (b0 : Rdr) (b2 b3 : Exp) : St := [(0, .v false [.ptr 0 0]), (4, .v false [.ptr 2 0]), (6, .v false [.ptr 3 0]), (1, .v true [.sl .ro .tok (Rdr.toks b0), .int .i64 (Rdr.i b0), .int .i64 (Rdr.fin b0), .int .i64 (Rdr.bad b0)]), (5, .v true [.int .i64 (Exp.kind b2), .int .i64 (Exp.n b2), .str (Exp.text b2), .sl .own .exp (Exp.args b2)]), (7, .v true [.int .i64 (Exp.kind b3), .int .i64 (Exp.n b3), .str (Exp.text b3), .sl .ro .exp (Exp.args b3)])]
abbrev xLg (v0 : Rdr) (v1 : Bool × Rdr) : Prop := AbC 45 (xAw v0 [43]) (xAd v1)
abbrev xJH (v0 v1 : Bool × Rdr) : Prop := AbC 45 (xAw v0.2 [45]) (xAd v1)
abbrev xMS (v0 : Bool × Rdr) (v1 : Exp × Rdr) : Prop := AbC 110 (xDv (xHJ v0)) (xBn v1)
def xV0 (b0 : Rdr) (b2 b3 : Exp) (r1 : Bool × Rdr) (r2 : Bool × Rdr) (r3 : Exp × Rdr) (r4 : Exp) : rS 2 I88 (xJp b0 b2 b3) [Y, Y, Y] [xAd r1, xAd r2, xBn r3, xBz r4] = st 2 I88 (xJp r3.2 b2 r4) [xLg b0 r1, iY r1.1, iY true, xJH r1 r2, iY r2.1, xMS r2 r3, AbC 66 (xDj 2 b3 r3.1) (xBz r4)] := by kernel_rfl
def xV1 (b0 : Rdr) (b2 b3 : Exp) (r1 : Bool × Rdr) (r2 : Bool × Rdr) (r3 : Exp × Rdr) (r4 : Exp) : rS 2 I88 (xJp b0 b2 b3) [Y, Y, F] [xAd r1, xAd r2, xBn r3, xBz r4] = st 2 I88 (xJp r3.2 b2 r4) [xLg b0 r1, iY r1.1, iY true, xJH r1 r2, iN r2.1, xMS r2 r3, AbC 66 (xDj 1 b3 r3.1) (xBz r4)] := by kernel_rfl
def xV2 (b0 : Rdr) (b2 b3 : Exp) (r1 : Bool × Rdr) (r2 : Bool × Rdr) (r3 : Bool × Rdr) (r4 : Exp × Rdr) (r5 : Exp) : rS 2 I88 (xJp b0 b2 b3) [F, Y, Y] [xAd r1, xAd r2, xAd r3, xBn r4, xBz r5] = st 2 I88 (xJp r4.2 b2 r5) [xLg b0 r1, iN r1.1, xJH r1 r2, iY r2.1, xJH r2 r3, iY r3.1, xMS r3 r4, AbC 66 (xDj 2 b3 r4.1) (xBz r5)] := by kernel_rfl
def xV3 (b0 : Rdr) (b2 b3 : Exp) (r1 : Bool × Rdr) (r2 : Bool × Rdr) (r3 : Bool × Rdr) (r4 : Exp × Rdr) (r5 : Exp) : rS 2 I88 (xJp b0 b2 b3) [F, Y, F] [xAd r1, xAd r2, xAd r3, xBn r4, xBz r5] = st 2 I88 (xJp r4.2 b2 r5) [xLg b0 r1, iN r1.1, xJH r1 r2, iY r2.1, xJH r2 r3, iN r3.1, xMS r3 r4, AbC 66 (xDj 1 b3 r4.1) (xBz r5)] := by kernel_rfl
def xV4 (b0 : Rdr) (b2 b3 : Exp) (r1 : Bool × Rdr) (r2 : Bool × Rdr) : rS 2 I88 (xJp b0 b2 b3) [F, F] [xAd r1, xAd r2] = dn (xBS (b3, r2.2)) [xLg b0 r1, iN r1.1, xJH r1 r2, iN r2.1] := by kernel_rfl
def xV5 (a0 : Rdr) (r1 : Exp × Rdr) : rE I88 (xDH a0) [] [xBn r1] = st 2 I88 (xJp r1.2 (Exp.mk 0 0 [] []) r1.1) [AbC 110 (xDv a0) (xBn r1)] := by kernel_rfl
theorem xYG {N q0 q1 q2 q3 q4 q5} (g0 : G137 q0) (g1 : G127 q1) (g2 : G48 q2) (g3 : G28 q3) (g4 : G110 q4) (g5 : G88 q5) : ∀ n b0 b2 b3 r, xCn N q0 q1 q2 q3 q4 q5 n b0 b2 b3 = some r → RS Tryz.f88 I88 2 (xJp b0 b2 b3) (xBS r) := by
 intro n
 induction n with
 | zero => exact fun _ _ _ _ h => nE h
 | succ n ih =>
  exact fun b0 b2 b3 r h =>
   bE h fun r1 h0 h => cE h (fun h1 h => bE h fun r2 h3 h => cE h (fun h4 h => bE h fun r3 h5 h => bE h fun r4 h6 h => tS fk88 (xV0 b0 b2 b3 r1 r2 r3 r4) (oc7 (xAl h0) h1 rfl (xAl h3) h4 (g4 _ _ h5) (xEt h6) on) (ih _ _ _ _ h)) fun h4 h =>
   bE h fun r3 h5 h => bE h fun r4 h6 h => tS fk88 (xV1 b0 b2 b3 r1 r2 r3 r4) (oc7 (xAl h0) h1 rfl (xAl h3) h4 (g4 _ _ h5) (xEt h6) on) (ih _ _ _ _ h)) fun h1 h =>
   bE h fun r2 h2 h => cE h (fun h3 h => bE h fun r3 h4 h => cE h (fun h5 h => bE h fun r4 h6 h => bE h fun r5 h7 h => tS fk88 (xV2 b0 b2 b3 r1 r2 r3 r4 r5) (oc8 (xAl h0) h1 (xAl h2) h3 (xAl h4) h5 (g4 _ _ h6) (xEt h7) on) (ih _ _ _ _ h)) fun h5 h =>
   bE h fun r4 h6 h => bE h fun r5 h7 h => tS fk88 (xV3 b0 b2 b3 r1 r2 r3 r4 r5) (oc8 (xAl h0) h1 (xAl h2) h3 (xAl h4) h5 (g4 _ _ h6) (xEt h7) on) (ih _ _ _ _ h)) fun h3 h =>
   dS h fk88 (xV4 b0 b2 b3 r1 r2) (oc4 (xAl h0) h1 (xAl h2) h3 on)
theorem xYH {N q0 q1 q2 q3 q4 q5} (g0 : G137 q0) (g1 : G127 q1) (g2 : G48 q2) (g3 : G28 q3) (g4 : G110 q4) (g5 : G88 q5) : ∀ a0 r, xDA N q0 q1 q2 q3 q4 q5 a0 = some r → RE Tryz.f88 I88 (xDH a0) (xBS r) := fun a0 r h =>
 bE h fun r1 h0 h => tE fk88 (xV5 a0 r1) (oc (g4 _ _ h0) on) (xYG g0 g1 g2 g3 g4 g5 _ _ _ _ _ h)
theorem xIm {N q0 q1 q2 q3 q4 q5} (g0 : G137 q0) (g1 : G127 q1) (g2 : G48 q2) (g3 : G28 q3) (g4 : G110 q4) (g5 : G88 q5) {a0} {r} (h : xDA N q0 q1 q2 q3 q4 q5 a0 = some r) : AbC 88 (xDH a0) (xBS r) :=
 AbsCalls.of_reach fk88 rfl rfl (Nat.le_of_ble_eq_true rfl) (xYH g0 g1 g2 g3 g4 g5 a0 r h)
theorem xIl {N : Nat} : ∀ d, G137 (xAa N d).c_spec_l11Args ∧ G127 (xAa N d).c_spec_l11Atom ∧ G48 (xAa N d).c_spec_l11Compare ∧ G28 (xAa N d).c_spec_l11Expr ∧ G110 (xAa N d).c_spec_l11Product ∧ G88 (xAa N d).c_spec_l11Sum := by
 intro d
 induction d with
 | zero => exact ⟨fun _ _ _ h => nE h, fun _ _ h => nE h, fun _ _ h => nE h, fun _ _ h => nE h, fun _ _ h => nE h, fun _ _ h => nE h⟩
 | succ d ih =>
  obtain ⟨ih0, ih1, ih2, ih3, ih4, ih5⟩ := ih
  exact ⟨fun _ _ _ h => xHT (N := N) ih0 ih1 ih2 ih3 ih4 ih5 h, fun _ _ h => xHU (N := N) ih0 ih1 ih2 ih3 ih4 ih5 h, fun _ _ h => xHe (N := N) ih0 ih1 ih2 ih3 ih4 ih5 h, fun _ _ h => xHV (N := N) ih0 ih1 ih2 ih3 ih4 ih5 h, fun _ _ h => xHf (N := N) ih0 ih1 ih2 ih3 ih4 ih5 h, fun _ _ h => xIm (N := N) ih0 ih1 ih2 ih3 ih4 ih5 h⟩
theorem xCW {N : Nat} {a0 : Rdr} {r : Exp × Rdr} (h : xGy N a0 = some r) : AbC 28 (xBX a0) (xAq r) := (xIl N).2.2.2.1 _ r h
def G40 (q : Exp → Int → Option (Int)) : Prop := ∀ a0 a1 r, q a0 a1 = some r → AbC 40 (xCU a0 a1) (xBo r)
noncomputable def I40 : Info := { body := (Tryz.f40.body).getD .skip, nt := 27, results := [.tmp 4], keep := [0, 2, 4, 8, 10, 32, 5], live := [(3, [2, 4, 10, 5])], modes := [(3, [(5, .take, false)])] }
theorem fk40 : FnOk Tryz.prog 40 Tryz.f40 I40 := ⟨Tryz.func40, by kernel_rfl, by kernel_rfl, by kernel_rfl, by kernel_rfl⟩
def xM2 (x1 x5 : Int) (b2 : Exp) : St := [(2, .v false [.int .i64 x1]), (4, .v false [.ptr 2 0]), (10, .v false [.int .i64 x5]), (5, .v true [.int .i64 (Exp.kind b2), .int .i64 (Exp.n b2), .str (Exp.text b2), .sl .ro .exp (Exp.args b2)])]
abbrev xKU (v0 : Int) (v1 : Exp) := dc (v0 < (Ln (Exp.args v1) : Int))
abbrev xLh (v0 : Int) (v1 : Exp) : Prop := iY (xKU v0 v1)
abbrev xMT (v0 : Int) (v1 : Exp) : Prop := (0 : Int) ≤ v0 ∧ v0 < (Ln (Exp.args v1))
abbrev xKV (v0 : Exp) (v1 : Int) := gD (Exp.args v0) (tN v1) Ty.exp.dflt
def xT1 (x1 x5 : Int) (b2 : Exp) (r1 : Int) : rS 3 I40 (xM2 x1 x5 b2) [Y, Y] [xBo r1] = st 3 I40 (xM2 r1 (W (x5 + 1)) b2) [xLh x5 b2, iY (dc (x1 ≥ 0)), xMT x5 b2, AbC 40 (xCU (xKV b2 x5) x1) (xBo r1)] := by kernel_rfl
def xT2 (x1 x5 : Int) (b2 : Exp) : rS 3 I40 (xM2 x1 x5 b2) [Y, F] [] = dn (xBo x1) [xLh x5 b2, xI9 x1] := by kernel_rfl
def xT3 (x1 x5 : Int) (b2 : Exp) : rS 3 I40 (xM2 x1 x5 b2) [F, F] [] = dn (xBo x1) [iN (xKU x5 b2), iN false] := by kernel_rfl
def xT4 (a0 : Exp) (a1 : Int) : rE I40 (xCU a0 a1) [] [] = st 3 I40 (xM2 (W (a1 - 1)) 0 a0) [] := by kernel_rfl
theorem xXX {N q0} (g0 : G40 q0) : ∀ n x1 x5 b2 r, xDp N q0 n x1 x5 b2 = some r → RS Tryz.f40 I40 3 (xM2 x1 x5 b2) (xBo r) := by
 intro n
 induction n with
 | zero => exact fun _ _ _ _ h => nE h
 | succ n ih =>
  exact fun x1 x5 b2 r h =>
   cE h (fun h0 h => cE h (fun h1 h => iE h fun h2 h => bE h fun r1 h3 h => tS fk40 (xT1 x1 x5 b2 r1) (oc4 h0 h1 h2 (g0 _ _ _ h3) on) (ih _ _ _ _ h)) fun h1 h =>
   dS h fk40 (xT2 x1 x5 b2) (oc2 h0 h1 on)) fun h0 h =>
   dS h fk40 (xT3 x1 x5 b2) (oc2 h0 rfl on)
theorem xXY {N q0} (g0 : G40 q0) : ∀ a0 a1 r, xFM N q0 a0 a1 = some r → RE Tryz.f40 I40 (xCU a0 a1) (xBo r) := fun a0 a1 r h =>
 tE fk40 (xT4 a0 a1) on (xXX g0 _ _ _ _ _ h)
theorem xHS {N q0} (g0 : G40 q0) {a0} {a1} {r} (h : xFM N q0 a0 a1 = some r) : AbC 40 (xCU a0 a1) (xBo r) :=
 AbsCalls.of_reach fk40 rfl rfl (Nat.le_of_ble_eq_true rfl) (xXY g0 a0 a1 r h)
theorem xGo {N : Nat} : ∀ d, G40 (xD3 N d)
 | 0 => fun _ _ _ h => nE h
 | d + 1 => fun _ _ _ h => xHS (N := N) (xGo d) h
theorem xGp {N : Nat} {a0 : Exp} {a1 : Int} {r : Int} (h : xHL N a0 a1 = some r) : AbC 40 (xCU a0 a1) (xBo r) := xGo N _ _ r h
noncomputable def I77 : Info := { body := (Tryz.f77.body).getD .skip, nt := 10, results := [.tmp 4], keep := [0, 2, 8, 14], live := [], modes := [] }
theorem fk77 : FnOk Tryz.prog 77 Tryz.f77 I77 := ⟨Tryz.func77, by kernel_rfl, by kernel_rfl, by kernel_rfl, by kernel_rfl⟩
def xVm (a0 a1 : Int) : rE I77 (xFD a0 a1) [Y] [] = dn (xEX a0) [iY (dc (a0 > a1))] := by kernel_rfl
def xVn (a0 a1 : Int) : rE I77 (xFD a0 a1) [F] [] = dn (xEX a1) [iN (dc (a0 > a1))] := by kernel_rfl
theorem xYv {N : Nat} : ∀ a0 a1 r, xGV N a0 a1 = some r → RE Tryz.f77 I77 (xFD a0 a1) (xEX r) := fun a0 a1 r h =>
 cE h (fun h0 h => dE h fk77 (xVm a0 a1) (oc h0 on)) fun h0 h =>
 dE h fk77 (xVn a0 a1) (oc h0 on)
theorem xK2 {N : Nat} {a0 : Int} {a1 : Int} {r : Int} (h : xGV N  a0 a1 = some r) : AbC 77 (xFD a0 a1) (xEX r) :=
 AbsCalls.of_reach fk77 rfl rfl (Nat.le_of_ble_eq_true rfl) (xYv a0 a1 r h)
def G41 (q : Exp → Option (Int)) : Prop := ∀ a0 r, q a0 = some r → AbC 41 (xCQ a0) (xBw r)
noncomputable def I41 : Info := { body := (Tryz.f41.body).getD .skip, nt := 22, results := [.tmp 2], keep := [0, 2, 4, 6, 8, 18, 3], live := [(3, [2, 6, 8, 3])], modes := [] }
theorem fk41 : FnOk Tryz.prog 41 Tryz.f41 I41 := ⟨Tryz.func41, by kernel_rfl, by kernel_rfl, by kernel_rfl, by kernel_rfl⟩
def xNp (x3 x4 : Int) (b1 : Exp) : St := [(2, .v false [.ptr 1 0]), (6, .v false [.int .i64 x3]), (8, .v false [.int .i64 x4]), (3, .v true [.int .i64 (Exp.kind b1), .int .i64 (Exp.n b1), .str (Exp.text b1), .sl .ro .exp (Exp.args b1)])]
def xT5 (x3 x4 : Int) (b1 : Exp) (r1 r2 : Int) : rS 3 I41 (xNp x3 x4 b1) [Y] [xBw r1, xEX r2] = st 3 I41 (xNp r2 (W (x4 + 1)) b1) [xLh x4 b1, xMT x4 b1, AbC 41 (xCQ (xKV b1 x4)) (xBw r1), AbC 77 (xFD x3 r1) (xEX r2)] := by kernel_rfl
def xT6 (x3 x4 : Int) (b1 : Exp) : rS 3 I41 (xNp x3 x4 b1) [F] [] = dn (xBw (W (x3 + 1))) [iN (xKU x4 b1)] := by kernel_rfl
def xT7 (a0 : Exp) : rE I41 (xCQ a0) [] [] = st 3 I41 (xNp 0 0 a0) [] := by kernel_rfl
theorem xXZ {N q0} (g0 : G41 q0) : ∀ n x3 x4 b1 r, xDM N q0 n x3 x4 b1 = some r → RS Tryz.f41 I41 3 (xNp x3 x4 b1) (xBw r) := by
 intro n
 induction n with
 | zero => exact fun _ _ _ _ h => nE h
 | succ n ih =>
  exact fun x3 x4 b1 r h =>
   cE h (fun h0 h => iE h fun h1 h => bE h fun r1 h2 h => bE h fun r2 h3 h => tS fk41 (xT5 x3 x4 b1 r1 r2) (oc4 h0 h1 (g0 _ _ h2) (xK2 h3) on) (ih _ _ _ _ h)) fun h0 h =>
   dS h fk41 (xT6 x3 x4 b1) (oc h0 on)
theorem xX0 {N q0} (g0 : G41 q0) : ∀ a0 r, xFm N q0 a0 = some r → RE Tryz.f41 I41 (xCQ a0) (xBw r) := fun a0 r h =>
 tE fk41 (xT7 a0) on (xXZ g0 _ _ _ _ _ h)
theorem xHp {N q0} (g0 : G41 q0) {a0} {r} (h : xFm N q0 a0 = some r) : AbC 41 (xCQ a0) (xBw r) :=
 AbsCalls.of_reach fk41 rfl rfl (Nat.le_of_ble_eq_true rfl) (xX0 g0 a0 r h)
theorem xFV {N : Nat} : ∀ d, G41 (xD9 N d)
 | 0 => fun _ _ h => nE h
 | d + 1 => fun _ _ h => xHp (N := N) (xFV d) h
theorem xGT {N : Nat} {a0 : Exp} {r : Int} (h : xGI N a0 = some r) : AbC 41 (xCQ a0) (xBw r) := xFV N _ r h
noncomputable def I105 : Info := { body := (Tryz.f105.body).getD .skip, nt := 15, results := [.tmp 6], keep := [0, 2, 4, 12], live := [], modes := [(1, [(3, .take, false)])] }
theorem xSC : FnOk Tryz.prog 105 Tryz.f105 I105 := ⟨Tryz.func105, by kernel_rfl, by kernel_rfl, by kernel_rfl, by kernel_rfl⟩
def xPo (a0 a1 a2 : Int) : rE I105 (xFo a0 a1 a2) [Y] [] = dn (xEq (dc (a0 ≤ a2))) [iY (dc (a0 ≥ a1))] := by kernel_rfl
def xPp (a0 a1 a2 : Int) : rE I105 (xFo a0 a1 a2) [F] [] = dn (xEq false) [iN (dc (a0 ≥ a1))] := by kernel_rfl
theorem xWK {N : Nat} : ∀ a0 a1 a2 r, xGU N a0 a1 a2 = some r → RE Tryz.f105 I105 (xFo a0 a1 a2) (xEq r) := fun a0 a1 a2 r h =>
 cE h (fun h0 h => dE h xSC (xPo a0 a1 a2) (oc h0 on)) fun h0 h =>
 dE h xSC (xPp a0 a1 a2) (oc h0 on)
theorem xJf {N : Nat} {a0 : Int} {a1 : Int} {a2 : Int} {r : Bool} (h : xGU N  a0 a1 a2 = some r) : AbC 105 (xFo a0 a1 a2) (xEq r) :=
 AbsCalls.of_reach xSC rfl rfl (Nat.le_of_ble_eq_true rfl) (xWK a0 a1 a2 r h)
noncomputable def I78 : Info := { body := (Tryz.f78.body).getD .skip, nt := 120, results := [.tmp 2], keep := [0, 2, 4, 6, 16, 18, 46, 74, 102, 130, 154, 182, 212, 3], live := [], modes := [(4, [(2, .take, false), (7, .take, false)]), (6, [(2, .take, false), (7, .take, false)]), (8, [(2, .take, false), (7, .take, false)]), (10, [(3, .take, false), (8, .take, false)]), (12, [(3, .take, false)]), (14, [(3, .take, false), (7, .take, false)]), (17, [(3, .take, false), (7, .take, false)]), (19, [(3, .take, false), (8, .take, false)])] }
theorem fk78 : FnOk Tryz.prog 78 Tryz.f78 I78 := ⟨Tryz.func78, by kernel_rfl, by kernel_rfl, by kernel_rfl, by kernel_rfl⟩
abbrev xKj (v0 : Exp) : Prop := iY ((Exp.kind v0) == 1)
abbrev xNV (v0 : Exp) := (Ln (Exp.args v0) : Int) == 0
abbrev xIF (v0 : Exp) : Prop := iY (xNV v0)
abbrev xG5 (v0 : Exp) : Prop := iY (((Exp.text v0) : Str) == [])
def xVo (a0 : Exp) (r1 : Bool) : rE I78 (xAs a0) [Y, Y, Y] [xEq r1] = dn (xAr r1) [xKj a0, xIF a0, xG5 a0, AbC 105 (xFo (Exp.n a0) 0 1000000000) (xEq r1)] := by kernel_rfl
abbrev xHu (v0 : Exp) : Prop := iN (((Exp.text v0) : Str) == [])
def xVp (a0 : Exp) : rE I78 (xAs a0) [Y, Y, F] [] = dn (xAr false) [xKj a0, xIF a0, xHu a0] := by kernel_rfl
abbrev xLI (v0 : Exp) : Prop := iN (xNV v0)
def xVq (a0 : Exp) : rE I78 (xAs a0) [Y, F, F] [] = dn (xAr false) [xKj a0, xLI a0, iN false] := by kernel_rfl
abbrev xBj (v0 : Exp) : Prop := iN ((Exp.kind v0) == 1)
abbrev xIG (v0 : Exp) : Prop := iY ((Exp.kind v0) == 2)
abbrev xDC (v0 : Exp) : Prop := iY ((Exp.n v0) == 0)
def xVr (a0 : Exp) (r1 : Bool) : rE I78 (xAs a0) [F, Y, Y, Y] [xAV r1] = dn (xAr r1) [xBj a0, xIG a0, xIF a0, xDC a0, AbC 82 (xDS (Exp.text a0)) (xAV r1)] := by kernel_rfl
abbrev xFv (v0 : Exp) : Prop := iN ((Exp.n v0) == 0)
def xVs (a0 : Exp) : rE I78 (xAs a0) [F, Y, Y, F] [] = dn (xAr false) [xBj a0, xIG a0, xIF a0, xFv a0] := by kernel_rfl
def xVt (a0 : Exp) : rE I78 (xAs a0) [F, Y, F, F] [] = dn (xAr false) [xBj a0, xIG a0, xLI a0, iN false] := by kernel_rfl
abbrev xBE (v0 : Exp) : Prop := iN ((Exp.kind v0) == 2)
abbrev xIH (v0 : Exp) : Prop := iY ((Exp.kind v0) == 3)
def xVu (a0 : Exp) (r1 : Bool) : rE I78 (xAs a0) [F, F, Y, Y, Y] [xAA r1] = dn (xAr r1) [xBj a0, xBE a0, xIH a0, xIF a0, xDC a0, AbC 87 (xBU (Exp.text a0)) (xAA r1)] := by kernel_rfl
def xVv (a0 : Exp) : rE I78 (xAs a0) [F, F, Y, Y, F] [] = dn (xAr false) [xBj a0, xBE a0, xIH a0, xIF a0, xFv a0] := by kernel_rfl
def xVw (a0 : Exp) : rE I78 (xAs a0) [F, F, Y, F, F] [] = dn (xAr false) [xBj a0, xBE a0, xIH a0, xLI a0, iN false] := by kernel_rfl
abbrev xB8 (v0 : Exp) : Prop := iN ((Exp.kind v0) == 3)
abbrev xII (v0 : Exp) : Prop := iY ((Exp.kind v0) == 4)
abbrev xHb (v0 : Exp) := (Ln (Exp.args v0) : Int)
def xVx (a0 : Exp) : rE I78 (xAs a0) [F, F, F, Y, Y, Y] [] = dn (xAr (dc ((xHb a0) ≤ 8))) [xBj a0, xBE a0, xB8 a0, xII a0, xDC a0, xG5 a0] := by kernel_rfl
def xRy (a0 : Exp) : rE I78 (xAs a0) [F, F, F, Y, Y, F] [] = dn (xAr false) [xBj a0, xBE a0, xB8 a0, xII a0, xDC a0, xHu a0] := by kernel_rfl
def xRz (a0 : Exp) : rE I78 (xAs a0) [F, F, F, Y, F, F] [] = dn (xAr false) [xBj a0, xBE a0, xB8 a0, xII a0, xFv a0, iN false] := by kernel_rfl
abbrev xCR (v0 : Exp) : Prop := iN ((Exp.kind v0) == 4)
abbrev xKw (v0 : Exp) : Prop := iY ((Exp.kind v0) == 5)
def xRA (a0 : Exp) (r1 : Int) : rE I78 (xAs a0) [F, F, F, F, Y, Y] [xAh r1] = dn (xAr ((xHb a0) == r1)) [xBj a0, xBE a0, xB8 a0, xCR a0, xKw a0, xDC a0, AbC 106 (xAn (Exp.text a0)) (xAh r1)] := by kernel_rfl
def xRB (a0 : Exp) : rE I78 (xAs a0) [F, F, F, F, Y, F] [] = dn (xAr false) [xBj a0, xBE a0, xB8 a0, xCR a0, xKw a0, xFv a0] := by kernel_rfl
abbrev xDn (v0 : Exp) : Prop := iN ((Exp.kind v0) == 5)
abbrev xIJ (v0 : Exp) : Prop := iY ((Exp.kind v0) == 6)
abbrev xNW (v0 : Exp) := (Ln (Exp.args v0) : Int) == 2
abbrev xLJ (v0 : Exp) : Prop := iY (xNW v0)
def xRC (a0 : Exp) (r1 : Bool) : rE I78 (xAs a0) [F, F, F, F, F, Y, Y, Y] [xEq r1] = dn (xAr r1) [xBj a0, xBE a0, xB8 a0, xCR a0, xDn a0, xIJ a0, xG5 a0, xLJ a0, AbC 105 (xFo (Exp.n a0) 1 5) (xEq r1)] := by kernel_rfl
abbrev xLK (v0 : Exp) : Prop := iN (xNW v0)
def xRD (a0 : Exp) : rE I78 (xAs a0) [F, F, F, F, F, Y, Y, F] [] = dn (xAr false) [xBj a0, xBE a0, xB8 a0, xCR a0, xDn a0, xIJ a0, xG5 a0, xLK a0] := by kernel_rfl
def xRE (a0 : Exp) : rE I78 (xAs a0) [F, F, F, F, F, Y, F, F] [] = dn (xAr false) [xBj a0, xBE a0, xB8 a0, xCR a0, xDn a0, xIJ a0, xHu a0, iN false] := by kernel_rfl
abbrev xEj (v0 : Exp) : Prop := iN ((Exp.kind v0) == 6)
abbrev xFX (v0 : Exp) : Prop := iY ((Exp.kind v0) == 7)
def xRF (a0 : Exp) (r1 : Bool) : rE I78 (xAs a0) [F, F, F, F, F, F, Y, Y, Y, Y] [xAA r1] = dn (xAr r1) [xBj a0, xBE a0, xB8 a0, xCR a0, xDn a0, xEj a0, xFX a0, xFX a0, xDC a0, xLJ a0, AbC 87 (xBU (Exp.text a0)) (xAA r1)] := by kernel_rfl
def xRG (a0 : Exp) : rE I78 (xAs a0) [F, F, F, F, F, F, Y, Y, Y, F] [] = dn (xAr false) [xBj a0, xBE a0, xB8 a0, xCR a0, xDn a0, xEj a0, xFX a0, xFX a0, xDC a0, xLK a0] := by kernel_rfl
def xRH (a0 : Exp) : rE I78 (xAs a0) [F, F, F, F, F, F, Y, Y, F, F] [] = dn (xAr false) [xBj a0, xBE a0, xB8 a0, xCR a0, xDn a0, xEj a0, xFX a0, xFX a0, xFv a0, iN false] := by kernel_rfl
abbrev xFw (v0 : Exp) : Prop := iN ((Exp.kind v0) == 7)
abbrev xIK (v0 : Exp) : Prop := iY ((Exp.kind v0) == 9)
def xRI (a0 : Exp) (r1 : Bool) : rE I78 (xAs a0) [F, F, F, F, F, F, F, Y, Y, Y] [xAA r1] = dn (xAr r1) [xBj a0, xBE a0, xB8 a0, xCR a0, xDn a0, xEj a0, xFw a0, xIK a0, xDC a0, xLJ a0, AbC 87 (xBU (Exp.text a0)) (xAA r1)] := by kernel_rfl
def xRJ (a0 : Exp) : rE I78 (xAs a0) [F, F, F, F, F, F, F, Y, Y, F] [] = dn (xAr false) [xBj a0, xBE a0, xB8 a0, xCR a0, xDn a0, xEj a0, xFw a0, xIK a0, xDC a0, xLK a0] := by kernel_rfl
def xRK (a0 : Exp) : rE I78 (xAs a0) [F, F, F, F, F, F, F, Y, F, F] [] = dn (xAr false) [xBj a0, xBE a0, xB8 a0, xCR a0, xDn a0, xEj a0, xFw a0, xIK a0, xFv a0, iN false] := by kernel_rfl
abbrev xHv (v0 : Exp) : Prop := iN ((Exp.kind v0) == 9)
abbrev xIL (v0 : Exp) : Prop := iY ((Exp.kind v0) == 8)
def xRL (a0 : Exp) : rE I78 (xAs a0) [F, F, F, F, F, F, F, F, Y, Y, Y] [] = dn (xAr ((xHb a0) == 3)) [xBj a0, xBE a0, xB8 a0, xCR a0, xDn a0, xEj a0, xFw a0, xHv a0, xIL a0, xDC a0, xG5 a0] := by kernel_rfl
def xRM (a0 : Exp) : rE I78 (xAs a0) [F, F, F, F, F, F, F, F, Y, Y, F] [] = dn (xAr false) [xBj a0, xBE a0, xB8 a0, xCR a0, xDn a0, xEj a0, xFw a0, xHv a0, xIL a0, xDC a0, xHu a0] := by kernel_rfl
def xRN (a0 : Exp) : rE I78 (xAs a0) [F, F, F, F, F, F, F, F, Y, F, F] [] = dn (xAr false) [xBj a0, xBE a0, xB8 a0, xCR a0, xDn a0, xEj a0, xFw a0, xHv a0, xIL a0, xFv a0, iN false] := by kernel_rfl
def xRO (a0 : Exp) : rE I78 (xAs a0) [F, F, F, F, F, F, F, F, F] [] = dn (xAr false) [xBj a0, xBE a0, xB8 a0, xCR a0, xDn a0, xEj a0, xFw a0, xHv a0, iN ((Exp.kind a0) == 8)] := by kernel_rfl
theorem xYw {N : Nat} : ∀ a0 r, xFW N a0 = some r → RE Tryz.f78 I78 (xAs a0) (xAr r) := fun a0 r h =>
 cE h (fun h0 h => cE h (fun h1 h => cE h (fun h2 h => bE h fun r1 h3 h => dE h fk78 (xVo a0 r1) (oc4 h0 h1 h2 (xJf h3) on)) fun h2 h =>
 dE h fk78 (xVp a0) (oc3 h0 h1 h2 on)) fun h1 h =>
 dE h fk78 (xVq a0) (oc3 h0 h1 rfl on)) fun h0 h =>
 cE h (fun h1 h => cE h (fun h2 h => cE h (fun h3 h => bE h fun r1 h4 h => dE h fk78 (xVr a0 r1) (oc5 h0 h1 h2 h3 (xDT h4) on)) fun h3 h =>
 dE h fk78 (xVs a0) (oc4 h0 h1 h2 h3 on)) fun h2 h =>
 dE h fk78 (xVt a0) (oc4 h0 h1 h2 rfl on)) fun h1 h =>
 cE h (fun h2 h => cE h (fun h3 h => cE h (fun h4 h => bE h fun r1 h5 h => dE h fk78 (xVu a0 r1) (oc6 h0 h1 h2 h3 h4 (xBC h5) on)) fun h4 h =>
 dE h fk78 (xVv a0) (oc5 h0 h1 h2 h3 h4 on)) fun h3 h =>
 dE h fk78 (xVw a0) (oc5 h0 h1 h2 h3 rfl on)) fun h2 h =>
 cE h (fun h3 h => cE h (fun h4 h => cE h (fun h5 h => dE h fk78 (xVx a0) (oc6 h0 h1 h2 h3 h4 h5 on)) fun h5 h =>
 dE h fk78 (xRy a0) (oc6 h0 h1 h2 h3 h4 h5 on)) fun h4 h =>
 dE h fk78 (xRz a0) (oc6 h0 h1 h2 h3 h4 rfl on)) fun h3 h =>
 cE h (fun h4 h => cE h (fun h5 h => bE h fun r1 h6 h => dE h fk78 (xRA a0 r1) (oc7 h0 h1 h2 h3 h4 h5 (xDo h6) on)) fun h5 h =>
 dE h fk78 (xRB a0) (oc6 h0 h1 h2 h3 h4 h5 on)) fun h4 h =>
 cE h (fun h5 h => cE h (fun h6 h => cE h (fun h7 h => bE h fun r1 h8 h => dE h fk78 (xRC a0 r1) (oc9 h0 h1 h2 h3 h4 h5 h6 h7 (xJf h8) on)) fun h7 h =>
 dE h fk78 (xRD a0) (oc8 h0 h1 h2 h3 h4 h5 h6 h7 on)) fun h6 h =>
 dE h fk78 (xRE a0) (oc8 h0 h1 h2 h3 h4 h5 h6 rfl on)) fun h5 h =>
 cE h (fun h6 h => cE h (fun h8 h => cE h (fun h9 h => bE h fun r1 h10 h => dE h fk78 (xRF a0 r1) (oc11 h0 h1 h2 h3 h4 h5 h6 h6 h8 h9 (xBC h10) on)) fun h9 h =>
 dE h fk78 (xRG a0) (oc10 h0 h1 h2 h3 h4 h5 h6 h6 h8 h9 on)) fun h8 h =>
 dE h fk78 (xRH a0) (oc10 h0 h1 h2 h3 h4 h5 h6 h6 h8 rfl on)) fun h6 h =>
 cE h (fun h7 h => cE h (fun h8 h => cE h (fun h9 h => bE h fun r1 h10 h => dE h fk78 (xRI a0 r1) (oc11 h0 h1 h2 h3 h4 h5 h6 h7 h8 h9 (xBC h10) on)) fun h9 h =>
 dE h fk78 (xRJ a0) (oc10 h0 h1 h2 h3 h4 h5 h6 h7 h8 h9 on)) fun h8 h =>
 dE h fk78 (xRK a0) (oc10 h0 h1 h2 h3 h4 h5 h6 h7 h8 rfl on)) fun h7 h =>
 cE h (fun h8 h => cE h (fun h9 h => cE h (fun h10 h => dE h fk78 (xRL a0) (oc11 h0 h1 h2 h3 h4 h5 h6 h7 h8 h9 h10 on)) fun h10 h =>
 dE h fk78 (xRM a0) (oc11 h0 h1 h2 h3 h4 h5 h6 h7 h8 h9 h10 on)) fun h9 h =>
 dE h fk78 (xRN a0) (oc11 h0 h1 h2 h3 h4 h5 h6 h7 h8 h9 rfl on)) fun h8 h =>
 dE h fk78 (xRO a0) (oc9 h0 h1 h2 h3 h4 h5 h6 h7 h8 on)
theorem xJQ {N : Nat} {a0 : Exp} {r : Bool} (h : xFW N  a0 = some r) : AbC 78 (xAs a0) (xAr r) :=
 AbsCalls.of_reach fk78 rfl rfl (Nat.le_of_ble_eq_true rfl) (xYw a0 r h)
def G42 (q : Exp → Option (Bool)) : Prop := ∀ a0 r, q a0 = some r → AbC 42 (xDG a0) (xB1 r)
noncomputable def I42 : Info := { body := (Tryz.f42.body).getD .skip, nt := 20, results := [.tmp 2], keep := [0, 2, 4, 6, 16, 34, 3], live := [(2, [2, 6, 3])], modes := [] }
theorem fk42 : FnOk Tryz.prog 42 Tryz.f42 I42 := ⟨Tryz.func42, by kernel_rfl, by kernel_rfl, by kernel_rfl, by kernel_rfl⟩
def xM3 (x3 : Int) (b1 : Exp) : St := [(2, .v false [.ptr 1 0]), (6, .v false [.int .i64 x3]), (3, .v true [.int .i64 (Exp.kind b1), .int .i64 (Exp.n b1), .str (Exp.text b1), .sl .ro .exp (Exp.args b1)])]
def xT8 (x3 : Int) (b1 : Exp) (r1 : Bool) : rS 2 I42 (xM3 x3 b1) [Y, Y] [xB1 r1] = dn (xB1 false) [xLh x3 b1, xMT x3 b1, AbC 42 (xDG (xKV b1 x3)) (xB1 r1), iY (!r1)] := by kernel_rfl
def xT9 (x3 : Int) (b1 : Exp) (r1 : Bool) : rS 2 I42 (xM3 x3 b1) [Y, F] [xB1 r1] = st 2 I42 (xM3 (W (x3 + 1)) b1) [xLh x3 b1, xMT x3 b1, AbC 42 (xDG (xKV b1 x3)) (xB1 r1), iN (!r1)] := by kernel_rfl
def xUa (x3 : Int) (b1 : Exp) (r1 : Bool) : rS 2 I42 (xM3 x3 b1) [F] [xAr r1] = dn (xB1 r1) [iN (xKU x3 b1), AbC 78 (xAs b1) (xAr r1)] := by kernel_rfl
def xUb (a0 : Exp) : rE I42 (xDG a0) [] [] = st 2 I42 (xM3 0 a0) [] := by kernel_rfl
theorem xX1 {N q0} (g0 : G42 q0) : ∀ n x3 b1 r, xEd N q0 n x3 b1 = some r → RS Tryz.f42 I42 2 (xM3 x3 b1) (xB1 r) := by
 intro n
 induction n with
 | zero => exact fun _ _ _ h => nE h
 | succ n ih =>
  exact fun x3 b1 r h =>
   cE h (fun h0 h => iE h fun h1 h => bE h fun r1 h2 h => cE h (fun h3 h => dS h fk42 (xT8 x3 b1 r1) (oc4 h0 h1 (g0 _ _ h2) h3 on)) fun h3 h =>
   tS fk42 (xT9 x3 b1 r1) (oc4 h0 h1 (g0 _ _ h2) h3 on) (ih _ _ _ h)) fun h0 h =>
   bE h fun r1 h1 h => dS h fk42 (xUa x3 b1 r1) (oc2 h0 (xJQ h1) on)
theorem xX2 {N q0} (g0 : G42 q0) : ∀ a0 r, xF0 N q0 a0 = some r → RE Tryz.f42 I42 (xDG a0) (xB1 r) := fun a0 r h =>
 tE fk42 (xUb a0) on (xX1 g0 _ _ _ _ h)
theorem xIj {N q0} (g0 : G42 q0) {a0} {r} (h : xF0 N q0 a0 = some r) : AbC 42 (xDG a0) (xB1 r) :=
 AbsCalls.of_reach fk42 rfl rfl (Nat.le_of_ble_eq_true rfl) (xX2 g0 a0 r h)
theorem xGx {N : Nat} : ∀ d, G42 (xEN N d)
 | 0 => fun _ _ h => nE h
 | d + 1 => fun _ _ h => xIj (N := N) (xGx d) h
theorem xJZ {N : Nat} {a0 : Exp} {r : Bool} (h : xIi N a0 = some r) : AbC 42 (xDG a0) (xB1 r) := xGx N _ r h
noncomputable def I22 : Info := { body := (Tryz.f22.body).getD .skip, nt := 15, results := [.tmp 2], keep := [0, 2, 4, 3], live := [], modes := [(1, [(3, .take, false), (8, .take, false)])] }
theorem fk22 : FnOk Tryz.prog 22 Tryz.f22 I22 := ⟨Tryz.func22, by kernel_rfl, by kernel_rfl, by kernel_rfl, by kernel_rfl⟩
def xTh (a0 : Exp) (r1 r2 : Int) (r3 : Bool) : rE I22 (xDc a0) [Y, Y] [xBo r1, xBw r2, xB1 r3] = dn (xBe r3) [AbC 40 (xCU a0 40) (xBo r1), iY (dc (r1 ≥ 0)), AbC 41 (xCQ a0) (xBw r2), iY (dc (r2 ≤ 8)), AbC 42 (xDG a0) (xB1 r3)] := by kernel_rfl
def xTi (a0 : Exp) (r1 r2 : Int) : rE I22 (xDc a0) [Y, F] [xBo r1, xBw r2] = dn (xBe false) [AbC 40 (xCU a0 40) (xBo r1), iY (dc (r1 ≥ 0)), AbC 41 (xCQ a0) (xBw r2), iN (dc (r2 ≤ 8))] := by kernel_rfl
def xTj (a0 : Exp) (r1 : Int) : rE I22 (xDc a0) [F, F] [xBo r1] = dn (xBe false) [AbC 40 (xCU a0 40) (xBo r1), xI9 r1, iN false] := by kernel_rfl
theorem xXI {N : Nat} : ∀ a0 r, xCJ N a0 = some r → RE Tryz.f22 I22 (xDc a0) (xBe r) := fun a0 r h =>
 bE h fun r1 h0 h => cE h (fun h1 h => bE h fun r2 h2 h => cE h (fun h3 h => bE h fun r3 h4 h => dE h fk22 (xTh a0 r1 r2 r3) (oc5 (xGp h0) h1 (xGT h2) h3 (xJZ h4) on)) fun h3 h =>
 dE h fk22 (xTi a0 r1 r2) (oc4 (xGp h0) h1 (xGT h2) h3 on)) fun h1 h =>
 dE h fk22 (xTj a0 r1) (oc3 (xGp h0) h1 rfl on)
theorem xDd {N : Nat} {a0 : Exp} {r : Bool} (h : xCJ N  a0 = some r) : AbC 22 (xDc a0) (xBe r) :=
 AbsCalls.of_reach fk22 rfl rfl (Nat.le_of_ble_eq_true rfl) (xXI a0 r h)
noncomputable def I11 : Info := { body := (Tryz.f11.body).getD .skip, nt := 55, results := [.cell 2 25, .tmp 3], keep := [0, 4, 6, 8, 10, 12, 14, 28, 74, 88, 104, 5, 15, 43], live := [], modes := [(1, [(1, .cp, true), (2, .take, false)]), (4, [(0, .take, false)]), (6, [(5, .take, false)])], fcast := [(5, 3, true)] }
theorem fk11 : FnOk Tryz.prog 11 Tryz.f11 I11 := ⟨Tryz.func11, by kernel_rfl, by kernel_rfl, by kernel_rfl, by kernel_rfl⟩
abbrev xGF (v0 : Str) (v1 : (List Tok) × Int) : Prop := AbC 23 (xEA v0) (xAS v1)
def xSP (a0 : Str) (r1 : (List Tok) × Int) : rE I11 (xBk a0) [Y] [xAS r1] = dn (xAF ((Exp.mk 0 0 [] []), r1.2)) [xGF a0 r1, iY (dc (r1.2 ≥ 0))] := by kernel_rfl
abbrev xEb (v0 : (List Tok) × Int) : Prop := iN (dc (v0.2 ≥ 0))
abbrev xG6 (v0 : (List Tok) × Int) (v1 : Str) (v2 : Exp × Rdr) : Prop := AbC 28 (xBX (Rdr.mk v0.1 0 (Ln v1 : Int) (-1))) (xAq v2)
abbrev xIM (v0 : Exp × Rdr) : Prop := iY (dc ((Rdr.bad v0.2) < 0))
abbrev xMa (v0 : Exp × Rdr) := xAF ((Exp.mk 0 0 [] []), (Rdr.bad v0.2))
abbrev xIX (v0 : Exp × Rdr) (v1 : (List Tok) × Int) := dc ((Rdr.i v0.2) < (Ln v1.1 : Int))
def xSQ (a0 : Str) (r1 : (List Tok) × Int) (r2 : Exp × Rdr) (r3 : Exp × Rdr) : rE I11 (xBk a0) [F, Y, Y, Y] [xAS r1, xAq r2, xAI r3] = dn (xMa r3) [xGF a0 r1, xEb r1, xG6 r1 a0 r2, xIM r2, iY (xIX r2 r1), AbC 29 (xCC r2.2) (xAI r3), iY (dc ((Rdr.bad r3.2) ≥ 0))] := by kernel_rfl
abbrev xIN (v0 : Exp × Rdr) : Prop := iN (dc ((Rdr.bad v0.2) ≥ 0))
abbrev xIO (v0 : Exp × Rdr) (v1 : Bool) : Prop := AbC 22 (xDc v0.1) (xBe v1)
def xSR (a0 : Str) (r1 : (List Tok) × Int) (r2 : Exp × Rdr) (r3 : Exp × Rdr) (r4 : Bool) : rE I11 (xBk a0) [F, Y, Y, F, Y] [xAS r1, xAq r2, xAI r3, xBe r4] = dn (xAF ((Exp.mk 0 0 [] []), 0)) [xGF a0 r1, xEb r1, xG6 r1 a0 r2, xIM r2, iY (xIX r2 r1), AbC 29 (xCC r2.2) (xAI r3), xIN r3, xIO r2 r4, iY (!r4)] := by kernel_rfl
def xSS (a0 : Str) (r1 : (List Tok) × Int) (r2 : Exp × Rdr) (r3 : Exp × Rdr) (r4 : Bool) : rE I11 (xBk a0) [F, Y, Y, F, F] [xAS r1, xAq r2, xAI r3, xBe r4] = dn (xAF (r2.1, (-1))) [xGF a0 r1, xEb r1, xG6 r1 a0 r2, xIM r2, iY (xIX r2 r1), AbC 29 (xCC r2.2) (xAI r3), xIN r3, xIO r2 r4, iN (!r4)] := by kernel_rfl
def xST (a0 : Str) (r1 : (List Tok) × Int) (r2 : Exp × Rdr) : rE I11 (xBk a0) [F, Y, F, Y] [xAS r1, xAq r2] = dn (xMa r2) [xGF a0 r1, xEb r1, xG6 r1 a0 r2, xIM r2, iN (xIX r2 r1), iY (dc ((Rdr.bad r2.2) ≥ 0))] := by kernel_rfl
def xSU (a0 : Str) (r1 : (List Tok) × Int) (r2 : Exp × Rdr) (r3 : Bool) : rE I11 (xBk a0) [F, Y, F, F, Y] [xAS r1, xAq r2, xBe r3] = dn (xAF ((Exp.mk 0 0 [] []), 0)) [xGF a0 r1, xEb r1, xG6 r1 a0 r2, xIM r2, iN (xIX r2 r1), xIN r2, xIO r2 r3, iY (!r3)] := by kernel_rfl
def xSV (a0 : Str) (r1 : (List Tok) × Int) (r2 : Exp × Rdr) (r3 : Bool) : rE I11 (xBk a0) [F, Y, F, F, F] [xAS r1, xAq r2, xBe r3] = dn (xAF (r2.1, (-1))) [xGF a0 r1, xEb r1, xG6 r1 a0 r2, xIM r2, iN (xIX r2 r1), xIN r2, xIO r2 r3, iN (!r3)] := by kernel_rfl
def xSW (a0 : Str) (r1 : (List Tok) × Int) (r2 : Exp × Rdr) : rE I11 (xBk a0) [F, F, F, Y] [xAS r1, xAq r2] = dn (xMa r2) [xGF a0 r1, xEb r1, xG6 r1 a0 r2, iN (dc ((Rdr.bad r2.2) < 0)), iN false, iY (dc ((Rdr.bad r2.2) ≥ 0))] := by kernel_rfl
def xSX (a0 : Str) (r1 : (List Tok) × Int) (r2 : Exp × Rdr) (r3 : Bool) : rE I11 (xBk a0) [F, F, F, F, Y] [xAS r1, xAq r2, xBe r3] = dn (xAF ((Exp.mk 0 0 [] []), 0)) [xGF a0 r1, xEb r1, xG6 r1 a0 r2, iN (dc ((Rdr.bad r2.2) < 0)), iN false, xIN r2, xIO r2 r3, iY (!r3)] := by kernel_rfl
def xSY (a0 : Str) (r1 : (List Tok) × Int) (r2 : Exp × Rdr) (r3 : Bool) : rE I11 (xBk a0) [F, F, F, F, F] [xAS r1, xAq r2, xBe r3] = dn (xAF (r2.1, (-1))) [xGF a0 r1, xEb r1, xG6 r1 a0 r2, iN (dc ((Rdr.bad r2.2) < 0)), iN false, xIN r2, xIO r2 r3, iN (!r3)] := by kernel_rfl
theorem xXD {N : Nat} : ∀ a0 r, xEc N a0 = some r → RE Tryz.f11 I11 (xBk a0) (xAF r) := fun a0 r h =>
 bE h fun r1 h0 h => cE h (fun h1 h => dE h fk11 (xSP a0 r1) (oc2 (xCm h0) h1 on)) fun h1 h =>
 bE h fun r2 h2 h => cE h (fun h3 h => cE h (fun h4 h => bE h fun r3 h5 h => cE h (fun h6 h => dE h fk11 (xSQ a0 r1 r2 r3) (oc7 (xCm h0) h1 (xCW h2) h3 h4 (xBY h5) h6 on)) fun h6 h =>
 bE h fun r4 h7 h => cE h (fun h8 h => dE h fk11 (xSR a0 r1 r2 r3 r4) (oc9 (xCm h0) h1 (xCW h2) h3 h4 (xBY h5) h6 (xDd h7) h8 on)) fun h8 h =>
 dE h fk11 (xSS a0 r1 r2 r3 r4) (oc9 (xCm h0) h1 (xCW h2) h3 h4 (xBY h5) h6 (xDd h7) h8 on)) fun h4 h =>
 cE h (fun h5 h => dE h fk11 (xST a0 r1 r2) (oc6 (xCm h0) h1 (xCW h2) h3 h4 h5 on)) fun h5 h =>
 bE h fun r3 h6 h => cE h (fun h7 h => dE h fk11 (xSU a0 r1 r2 r3) (oc8 (xCm h0) h1 (xCW h2) h3 h4 h5 (xDd h6) h7 on)) fun h7 h =>
 dE h fk11 (xSV a0 r1 r2 r3) (oc8 (xCm h0) h1 (xCW h2) h3 h4 h5 (xDd h6) h7 on)) fun h3 h =>
 cE h (fun h5 h => dE h fk11 (xSW a0 r1 r2) (oc6 (xCm h0) h1 (xCW h2) h3 rfl h5 on)) fun h5 h =>
 bE h fun r3 h6 h => cE h (fun h7 h => dE h fk11 (xSX a0 r1 r2 r3) (oc8 (xCm h0) h1 (xCW h2) h3 rfl h5 (xDd h6) h7 on)) fun h7 h =>
 dE h fk11 (xSY a0 r1 r2 r3) (oc8 (xCm h0) h1 (xCW h2) h3 rfl h5 (xDd h6) h7 on)
theorem xCr {N : Nat} {a0 : Str} {r : Exp × Int} (h : xEc N  a0 = some r) : AbC 11 (xBk a0) (xAF r) :=
 AbsCalls.of_reach fk11 rfl rfl (Nat.le_of_ble_eq_true rfl) (xXD a0 r h)
theorem xG1 {N : Nat} {a0 : Str} {a1 a2 : Int} {r : Int × Bool} (h : xGb N a0 a1 a2 = some r) : AbC 89 (xIr a0 a1 a2) (xFt r) :=
 zIi xLE (fun s lo hi w hs hw => xMi s lo hi hs zHR xYT xSB w hw) h
theorem xA6 {N : Nat} {a0 : Str} {a1 r : Int} (h : strings_IndexByte N a0 a1 = some r) : AbC 90 (xE2 a0 a1) (xAN r) :=
 zG7 (xJs Tryz.lays137) (Any.strings_IndexByte Tryz.lays137) h
noncomputable def I91 : Info := { body := (Tryz.f91.body).getD .skip, nt := 29, results := [.tmp 2], keep := [0, 4, 6, 14, 50], live := [(2, [0, 6])], modes := [(4, [(4, .take, false), (10, .take, false)])] }
theorem fk91 : FnOk Tryz.prog 91 Tryz.f91 I91 := ⟨Tryz.func91, by kernel_rfl, by kernel_rfl, by kernel_rfl, by kernel_rfl⟩
def xK9 (x0 : Str) (x3 : Int) : St := [(0, .v false [.str x0]), (6, .v false [.int .i64 x3])]
def xV6 (x0 : Str) (x3 : Int) : rS 2 I91 (xK9 x0 x3) [Y, Y, Y, Y] [] = dn (xAM false) [xCO x3 x0, xAu x3 x0, iY (xLR x0 x3), iY true, iY true] := by kernel_rfl
def xV7 (x0 : Str) (x3 : Int) : rS 2 I91 (xK9 x0 x3) [Y, F, Y, Y] [] = dn (xAM false) [xCO x3 x0, xAu x3 x0, xKb x0 x3, xAu x3 x0, iY (xLS x0 x3), iY true] := by kernel_rfl
def xV8 (x0 : Str) (x3 : Int) : rS 2 I91 (xK9 x0 x3) [Y, F, F, Y] [] = dn (xAM false) [xCO x3 x0, xAu x3 x0, xKb x0 x3, xAu x3 x0, xMz x0 x3, xAu x3 x0, xHG x0 x3] := by kernel_rfl
def xV9 (x0 : Str) (x3 : Int) : rS 2 I91 (xK9 x0 x3) [Y, F, F, F] [] = st 2 I91 (xK9 x0 (W (x3 + 1))) [xCO x3 x0, xAu x3 x0, xKb x0 x3, xAu x3 x0, xMz x0 x3, xAu x3 x0, xHH x0 x3] := by kernel_rfl
def xWa (x0 : Str) (x3 : Int) : rS 2 I91 (xK9 x0 x3) [F] [] = dn (xAM (dc ((Ln x0 : Int) ≤ 20))) [xGR x3 x0] := by kernel_rfl
def xWb (a0 : Str) : rE I91 (xC7 a0) [] [] = st 2 I91 (xK9 a0 0) [] := by kernel_rfl
theorem xYI {N : Nat} : ∀ n x0 x3 r, xDO N n x0 x3 = some r → RS Tryz.f91 I91 2 (xK9 x0 x3) (xAM r) := by
 intro n
 induction n with
 | zero => exact fun _ _ _ h => nE h
 | succ n ih =>
  exact fun x0 x3 r h =>
   cE h (fun h0 h => iE h fun h1 h => cE h (fun h2 h => dS h fk91 (xV6 x0 x3) (oc5 h0 h1 h2 rfl rfl on)) fun h2 h =>
   cE h (fun h4 h => dS h fk91 (xV7 x0 x3) (oc6 h0 h1 h2 h1 h4 rfl on)) fun h4 h =>
   cE h (fun h6 h => dS h fk91 (xV8 x0 x3) (oc7 h0 h1 h2 h1 h4 h1 h6 on)) fun h6 h =>
   tS fk91 (xV9 x0 x3) (oc7 h0 h1 h2 h1 h4 h1 h6 on) (ih _ _ _ h)) fun h0 h =>
   dS h fk91 (xWa x0 x3) (oc h0 on)
theorem xYJ {N : Nat} : ∀ a0 r, xCI N a0 = some r → RE Tryz.f91 I91 (xC7 a0) (xAM r) := fun a0 r h =>
 tE fk91 (xWb a0) on (xYI _ _ _ _ h)
theorem xC8 {N : Nat} {a0 : Str} {r : Bool} (h : xCI N  a0 = some r) : AbC 91 (xC7 a0) (xAM r) :=
 AbsCalls.of_reach fk91 rfl rfl (Nat.le_of_ble_eq_true rfl) (xYJ a0 r h)
theorem xB4 {N : Nat} {a0 a1 : Str} {r : Bool} (h : strings_HasPrefix N a0 a1 = some r) : AbC 92 (xF4 a0 a1) (xBr r) :=
 zG6 (xJr Tryz.lays99) (Any.strings_HasPrefix Tryz.lays99) h
noncomputable def I49 : Info := { body := (Tryz.f49.body).getD .skip, nt := 152, results := [.cell 4 50, .tmp 5, .tmp 6], keep := [0, 2, 8, 10, 12, 14, 16, 18, 20, 22, 24, 34, 102, 130, 174, 206, 224, 262, 9], live := [(4, [0, 2, 8, 14, 9]), (8, [0, 2, 8, 14, 9])], modes := [(3, [(2, .take, false)]), (4, [(4, .take, false), (9, .take, false), (15, .take, false), (20, .take, false)]), (7, [(2, .take, false)]), (8, [(4, .take, false), (10, .take, false)]), (10, [(5, .take, false)]), (11, [(0, .take, false), (4, .take, false)])] }
theorem fk49 : FnOk Tryz.prog 49 Tryz.f49 I49 := ⟨Tryz.func49, by kernel_rfl, by kernel_rfl, by kernel_rfl, by kernel_rfl⟩
def xIB (x0 : Str) (x1 x7 : Int) (b4 : Tok) : St := [(0, .v false [.str x0]), (2, .v false [.int .i64 x1]), (8, .v false [.ptr 4 0]), (14, .v false [.int .i64 x7]), (9, .v true [.int .i64 (Tok.kind b4), .int .i64 (Tok.n b4), .int .i64 (Tok.pos b4), .str (Tok.text b4)])]
def xK5 (x0 : Str) (x1 x7 : Int) (b4 : Tok) : St := [(0, .v false [.str x0]), (2, .v false [.int .i64 x1]), (8, .v false [.ptr 4 0]), (14, .v false [.int .i64 x7]), (9, .v true [.int .i64 (Tok.kind b4), .int .i64 (Tok.n b4), .int .i64 (Tok.pos b4), .str (Tok.text b4)])]
def xUw (x0 : Str) (x1 x7 : Int) (b4 : Tok) : rS 4 I49 (xIB x0 x1 x7 b4) [Y, Y, Y, Y] [] = st 4 I49 (xIB x0 x1 (W (x7 + 1)) b4) [xCO x7 x0, xAu x7 x0, xEo x0 x7, xAu x7 x0, iY (xJA x0 x7), iY true] := by kernel_rfl
abbrev xFY (v0 : Str) (v1 : Int) : Prop := iN (xJA v0 v1)
abbrev xJx (v0 : Str) (v1 : Int) : Prop := iY (xIW v0 v1)
def xUx (x0 : Str) (x1 x7 : Int) (b4 : Tok) : rS 4 I49 (xIB x0 x1 x7 b4) [Y, Y, F, Y, Y] [] = st 4 I49 (xIB x0 x1 (W (x7 + 1)) b4) [xCO x7 x0, xAu x7 x0, xEo x0 x7, xAu x7 x0, xFY x0 x7, xAu x7 x0, xEJ x0 x7, xAu x7 x0, xJx x0 x7] := by kernel_rfl
abbrev xGl (v0 : Str) (v1 : Int) : Prop := iN (xIW v0 v1)
abbrev xJE (v0 v1 : Int) (v2 : Str) := xAP ((Tok.mk 1 0 v0 (List.drop (tN v0) (List.take (tN v1) v2))), v1, (dc ((W (v1 - v0)) ≤ 8)))
def xUy (x0 : Str) (x1 x7 : Int) (b4 : Tok) : rS 4 I49 (xIB x0 x1 x7 b4) [Y, Y, F, Y, F] [] = dn (xJE x1 x7 x0) [xCO x7 x0, xAu x7 x0, xEo x0 x7, xAu x7 x0, xFY x0 x7, xAu x7 x0, xEJ x0 x7, xAu x7 x0, xGl x0 x7, xFH x1 x7 x0] := by kernel_rfl
def xUz (x0 : Str) (x1 x7 : Int) (b4 : Tok) : rS 4 I49 (xIB x0 x1 x7 b4) [Y, Y, F, F, F] [] = dn (xJE x1 x7 x0) [xCO x7 x0, xAu x7 x0, xEo x0 x7, xAu x7 x0, xFY x0 x7, xAu x7 x0, xF2 x0 x7, iN false, xFH x1 x7 x0] := by kernel_rfl
def xUA (x0 : Str) (x1 x7 : Int) (b4 : Tok) : rS 4 I49 (xIB x0 x1 x7 b4) [Y, F, F, Y, Y] [] = st 4 I49 (xIB x0 x1 (W (x7 + 1)) b4) [xCO x7 x0, xAu x7 x0, xE4 x0 x7, iN false, xAu x7 x0, xEJ x0 x7, xAu x7 x0, xJx x0 x7] := by kernel_rfl
def xUB (x0 : Str) (x1 x7 : Int) (b4 : Tok) : rS 4 I49 (xIB x0 x1 x7 b4) [Y, F, F, Y, F] [] = dn (xJE x1 x7 x0) [xCO x7 x0, xAu x7 x0, xE4 x0 x7, iN false, xAu x7 x0, xEJ x0 x7, xAu x7 x0, xGl x0 x7, xFH x1 x7 x0] := by kernel_rfl
def xUC (x0 : Str) (x1 x7 : Int) (b4 : Tok) : rS 4 I49 (xIB x0 x1 x7 b4) [Y, F, F, F, F] [] = dn (xJE x1 x7 x0) [xCO x7 x0, xAu x7 x0, xE4 x0 x7, iN false, xAu x7 x0, xF2 x0 x7, iN false, xFH x1 x7 x0] := by kernel_rfl
def xUD (x0 : Str) (x1 x7 : Int) (b4 : Tok) : rS 4 I49 (xIB x0 x1 x7 b4) [F, F] [] = dn (xJE x1 x7 x0) [xGR x7 x0, iN false, xFH x1 x7 x0] := by kernel_rfl
def xUE (x0 : Str) (x1 x7 : Int) (b4 : Tok) : rS 8 I49 (xK5 x0 x1 x7 b4) [Y, Y, Y] [] = st 8 I49 (xK5 x0 x1 (W (x7 + 1)) b4) [xCO x7 x0, xAu x7 x0, xEJ x0 x7, xAu x7 x0, xJx x0 x7] := by kernel_rfl
abbrev xLL (v0 v1 : Int) (v2 : Str) (v3 : Int × Bool) : Prop := AbC 89 (xIr (xNN v0 v1 v2) 0 1000000000) (xFt v3)
def xUF (x0 : Str) (x1 x7 : Int) (b4 : Tok) (r1 : Int × Bool) : rS 8 I49 (xK5 x0 x1 x7 b4) [Y, Y, F] [xFt r1] = dn (xAP ((Tok.mk 2 r1.1 x1 []), x7, r1.2)) [xCO x7 x0, xAu x7 x0, xEJ x0 x7, xAu x7 x0, xGl x0 x7, xFH x1 x7 x0, xLL x1 x7 x0 r1] := by kernel_rfl
def xRd (x0 : Str) (x1 x7 : Int) (b4 : Tok) (r1 : Int × Bool) : rS 8 I49 (xK5 x0 x1 x7 b4) [Y, F, F] [xFt r1] = dn (xAP ((Tok.mk 2 r1.1 x1 []), x7, r1.2)) [xCO x7 x0, xAu x7 x0, xF2 x0 x7, iN false, xFH x1 x7 x0, xLL x1 x7 x0 r1] := by kernel_rfl
def xRe (x0 : Str) (x1 x7 : Int) (b4 : Tok) (r1 : Int × Bool) : rS 8 I49 (xK5 x0 x1 x7 b4) [F, F, F] [xFt r1] = dn (xAP ((Tok.mk 2 r1.1 x1 []), x7, r1.2)) [xGR x7 x0, iN false, iN false, xFH x1 x7 x0, xLL x1 x7 x0 r1] := by kernel_rfl
def xRf (a0 : Str) (a1 : Int) : rE I49 (xAE a0 a1) [Y, Y] [] = st 4 I49 (xIB a0 a1 a1 (Tok.mk 0 0 0 [])) [xAu a1 a0, xEo a0 a1, iY (xJA a0 a1)] := by kernel_rfl
def xRg (a0 : Str) (a1 : Int) : rE I49 (xAE a0 a1) [Y, F, Y, Y] [] = st 8 I49 (xK5 a0 a1 a1 (Tok.mk 0 0 0 [])) [xAu a1 a0, xEo a0 a1, xFY a0 a1, xEJ a0 a1, xJx a0 a1] := by kernel_rfl
abbrev xHw (v0 : Int) (v1 : Str) : Prop := (0 : Int) ≤ (W (v0 + 1)) ∧ (W (v0 + 1)) ≤ (Ln v1)
abbrev xHx (v0 : Int) (v1 : Str) (v2 : Int) : Prop := AbC 90 (xE2 (List.drop (xL1 v0) v1) 34) (xAN v2)
abbrev xHy (v0 : Int) : Prop := iY (dc (v0 < 0))
def xRh (a0 : Str) (a1 r1 : Int) : rE I49 (xAE a0 a1) [Y, F, Y, F, Y, Y] [xAN r1] = dn (xAP ((Tok.mk 0 0 0 []), 0, false)) [xAu a1 a0, xEo a0 a1, xFY a0 a1, xEJ a0 a1, xGl a0 a1, xHG a0 a1, xHw a1 a0, xHx a1 a0 r1, xHy r1] := by kernel_rfl
abbrev xFx (v0 : Int) : Prop := iN (dc (v0 < 0))
abbrev xNX (v0 v1 : Int) := W ((W (v0 + 1)) + v1)
abbrev xKx (v0 v1 : Int) (v2 : Str) : Prop := (0 : Int) ≤ (W (v0 + 1)) ∧ (W (v0 + 1)) ≤ (xNX v0 v1) ∧ (xNX v0 v1) ≤ (Ln v2)
abbrev xSI (v0 v1 : Int) (v2 : Str) := List.drop (tN (W (v0 + 1))) (List.take (tN (W ((W (v0 + 1)) + v1))) v2)
abbrev xKy (v0 v1 : Int) (v2 : Str) (v3 : Bool) : Prop := AbC 91 (xC7 (xSI v0 v1 v2)) (xAM v3)
abbrev xKW (v0 v1 : Int) (v2 : Str) (v3 : Bool) := xAP ((Tok.mk 3 0 v0 (List.drop (tN (W (v0 + 1))) (List.take (tN (W ((W (v0 + 1)) + v1))) v2))), (W ((W (v0 + v1)) + 2)), v3)
def xRi (a0 : Str) (a1 r1 : Int) (r2 : Bool) : rE I49 (xAE a0 a1) [Y, F, Y, F, Y, F] [xAN r1, xAM r2] = dn (xKW a1 r1 a0 r2) [xAu a1 a0, xEo a0 a1, xFY a0 a1, xEJ a0 a1, xGl a0 a1, xHG a0 a1, xHw a1 a0, xHx a1 a0 r1, xFx r1, xKx a1 r1 a0, xKy a1 r1 a0 r2] := by kernel_rfl
abbrev xHz (v0 : Int) (v1 : Str) : Prop := (0 : Int) ≤ v0 ∧ v0 ≤ (Ln v1)
abbrev xHA (v0 : Int) (v1 : Str) (v2 : Bool) : Prop := AbC 92 (xF4 (List.drop (tN v0) v1) [61, 61]) (xBr v2)
abbrev xKX (v0 : Int) := xAP ((Tok.mk 4 0 v0 [61, 61]), (W (v0 + 2)), true)
def xRj (a0 : Str) (a1 : Int) (r1 : Bool) : rE I49 (xAE a0 a1) [Y, F, Y, F, F, Y] [xBr r1] = dn (xKX a1) [xAu a1 a0, xEo a0 a1, xFY a0 a1, xEJ a0 a1, xGl a0 a1, xHH a0 a1, xHz a1 a0, xHA a1 a0 r1, iY r1] := by kernel_rfl
abbrev xKz (v0 : Int) (v1 : Str) : Prop := (0 : Int) ≤ v0 ∧ v0 ≤ (W (v0 + 1)) ∧ (W (v0 + 1)) ≤ (Ln v1)
abbrev xKA (v0 : Str) (v1 v2 : Int) : Prop := AbC 90 (xE2 [40, 41, 91, 93, 44, 43, 45, 42, 60, 61] (xKM v0 v1)) (xAN v2)
abbrev xKY (v0 : Int) (v1 : Str) (v2 : Int) := xAP ((Tok.mk 4 0 v0 (List.drop (tN v0) (List.take (tN (W (v0 + 1))) v1))), (W (v0 + 1)), (dc (v2 ≥ 0)))
def xRk (a0 : Str) (a1 : Int) (r1 : Bool) (r2 : Int) : rE I49 (xAE a0 a1) [Y, F, Y, F, F, F] [xBr r1, xAN r2] = dn (xKY a1 a0 r2) [xAu a1 a0, xEo a0 a1, xFY a0 a1, xEJ a0 a1, xGl a0 a1, xHH a0 a1, xHz a1 a0, xHA a1 a0 r1, iN r1, xKz a1 a0, xKA a0 a1 r2] := by kernel_rfl
def xRl (a0 : Str) (a1 r1 : Int) : rE I49 (xAE a0 a1) [Y, F, F, F, Y, Y] [xAN r1] = dn (xAP ((Tok.mk 0 0 0 []), 0, false)) [xAu a1 a0, xEo a0 a1, xFY a0 a1, xF2 a0 a1, iN false, xHG a0 a1, xHw a1 a0, xHx a1 a0 r1, xHy r1] := by kernel_rfl
def xRm (a0 : Str) (a1 r1 : Int) (r2 : Bool) : rE I49 (xAE a0 a1) [Y, F, F, F, Y, F] [xAN r1, xAM r2] = dn (xKW a1 r1 a0 r2) [xAu a1 a0, xEo a0 a1, xFY a0 a1, xF2 a0 a1, iN false, xHG a0 a1, xHw a1 a0, xHx a1 a0 r1, xFx r1, xKx a1 r1 a0, xKy a1 r1 a0 r2] := by kernel_rfl
def xRn (a0 : Str) (a1 : Int) (r1 : Bool) : rE I49 (xAE a0 a1) [Y, F, F, F, F, Y] [xBr r1] = dn (xKX a1) [xAu a1 a0, xEo a0 a1, xFY a0 a1, xF2 a0 a1, iN false, xHH a0 a1, xHz a1 a0, xHA a1 a0 r1, iY r1] := by kernel_rfl
def xRo (a0 : Str) (a1 : Int) (r1 : Bool) (r2 : Int) : rE I49 (xAE a0 a1) [Y, F, F, F, F, F] [xBr r1, xAN r2] = dn (xKY a1 a0 r2) [xAu a1 a0, xEo a0 a1, xFY a0 a1, xF2 a0 a1, iN false, xHH a0 a1, xHz a1 a0, xHA a1 a0 r1, iN r1, xKz a1 a0, xKA a0 a1 r2] := by kernel_rfl
def xRp (a0 : Str) (a1 : Int) : rE I49 (xAE a0 a1) [F, F, Y, Y] [] = st 8 I49 (xK5 a0 a1 a1 (Tok.mk 0 0 0 [])) [xAu a1 a0, xE4 a0 a1, iN false, xEJ a0 a1, xJx a0 a1] := by kernel_rfl
def xRq (a0 : Str) (a1 r1 : Int) : rE I49 (xAE a0 a1) [F, F, Y, F, Y, Y] [xAN r1] = dn (xAP ((Tok.mk 0 0 0 []), 0, false)) [xAu a1 a0, xE4 a0 a1, iN false, xEJ a0 a1, xGl a0 a1, xHG a0 a1, xHw a1 a0, xHx a1 a0 r1, xHy r1] := by kernel_rfl
def xRr (a0 : Str) (a1 r1 : Int) (r2 : Bool) : rE I49 (xAE a0 a1) [F, F, Y, F, Y, F] [xAN r1, xAM r2] = dn (xKW a1 r1 a0 r2) [xAu a1 a0, xE4 a0 a1, iN false, xEJ a0 a1, xGl a0 a1, xHG a0 a1, xHw a1 a0, xHx a1 a0 r1, xFx r1, xKx a1 r1 a0, xKy a1 r1 a0 r2] := by kernel_rfl
def xRs (a0 : Str) (a1 : Int) (r1 : Bool) : rE I49 (xAE a0 a1) [F, F, Y, F, F, Y] [xBr r1] = dn (xKX a1) [xAu a1 a0, xE4 a0 a1, iN false, xEJ a0 a1, xGl a0 a1, xHH a0 a1, xHz a1 a0, xHA a1 a0 r1, iY r1] := by kernel_rfl
def xRt (a0 : Str) (a1 : Int) (r1 : Bool) (r2 : Int) : rE I49 (xAE a0 a1) [F, F, Y, F, F, F] [xBr r1, xAN r2] = dn (xKY a1 a0 r2) [xAu a1 a0, xE4 a0 a1, iN false, xEJ a0 a1, xGl a0 a1, xHH a0 a1, xHz a1 a0, xHA a1 a0 r1, iN r1, xKz a1 a0, xKA a0 a1 r2] := by kernel_rfl
def xRu (a0 : Str) (a1 r1 : Int) : rE I49 (xAE a0 a1) [F, F, F, F, Y, Y] [xAN r1] = dn (xAP ((Tok.mk 0 0 0 []), 0, false)) [xAu a1 a0, xE4 a0 a1, iN false, xF2 a0 a1, iN false, xHG a0 a1, xHw a1 a0, xHx a1 a0 r1, xHy r1] := by kernel_rfl
def xRv (a0 : Str) (a1 r1 : Int) (r2 : Bool) : rE I49 (xAE a0 a1) [F, F, F, F, Y, F] [xAN r1, xAM r2] = dn (xKW a1 r1 a0 r2) [xAu a1 a0, xE4 a0 a1, iN false, xF2 a0 a1, iN false, xHG a0 a1, xHw a1 a0, xHx a1 a0 r1, xFx r1, xKx a1 r1 a0, xKy a1 r1 a0 r2] := by kernel_rfl
def xRw (a0 : Str) (a1 : Int) (r1 : Bool) : rE I49 (xAE a0 a1) [F, F, F, F, F, Y] [xBr r1] = dn (xKX a1) [xAu a1 a0, xE4 a0 a1, iN false, xF2 a0 a1, iN false, xHH a0 a1, xHz a1 a0, xHA a1 a0 r1, iY r1] := by kernel_rfl
def xRx (a0 : Str) (a1 : Int) (r1 : Bool) (r2 : Int) : rE I49 (xAE a0 a1) [F, F, F, F, F, F] [xBr r1, xAN r2] = dn (xKY a1 a0 r2) [xAu a1 a0, xE4 a0 a1, iN false, xF2 a0 a1, iN false, xHH a0 a1, xHz a1 a0, xHA a1 a0 r1, iN r1, xKz a1 a0, xKA a0 a1 r2] := by kernel_rfl
theorem xX9 {N : Nat} : ∀ n x0 x1 x7 b4 r, xCe N n x0 x1 x7 b4 = some r → RS Tryz.f49 I49 4 (xIB x0 x1 x7 b4) (xAP r) := by
 intro n
 induction n with
 | zero => exact fun _ _ _ _ _ h => nE h
 | succ n ih =>
  exact fun x0 x1 x7 b4 r h =>
   cE h (fun h0 h => iE h fun h1 h => cE h (fun h2 h => cE h (fun h4 h => tS fk49 (xUw x0 x1 x7 b4) (oc6 h0 h1 h2 h1 h4 rfl on) (ih _ _ _ _ _ h)) fun h4 h =>
   cE h (fun h6 h => cE h (fun h8 h => tS fk49 (xUx x0 x1 x7 b4) (oc9 h0 h1 h2 h1 h4 h1 h6 h1 h8 on) (ih _ _ _ _ _ h)) fun h8 h =>
   iE h fun h9 h => dS h fk49 (xUy x0 x1 x7 b4) (oc10 h0 h1 h2 h1 h4 h1 h6 h1 h8 h9 on)) fun h6 h =>
   iE h fun h8 h => dS h fk49 (xUz x0 x1 x7 b4) (oc9 h0 h1 h2 h1 h4 h1 h6 rfl h8 on)) fun h2 h =>
   cE h (fun h5 h => cE h (fun h7 h => tS fk49 (xUA x0 x1 x7 b4) (oc8 h0 h1 h2 rfl h1 h5 h1 h7 on) (ih _ _ _ _ _ h)) fun h7 h =>
   iE h fun h8 h => dS h fk49 (xUB x0 x1 x7 b4) (oc9 h0 h1 h2 rfl h1 h5 h1 h7 h8 on)) fun h5 h =>
   iE h fun h7 h => dS h fk49 (xUC x0 x1 x7 b4) (oc8 h0 h1 h2 rfl h1 h5 rfl h7 on)) fun h0 h =>
   iE h fun h2 h => dS h fk49 (xUD x0 x1 x7 b4) (oc3 h0 rfl h2 on)
theorem xW8 {N : Nat} : ∀ n x0 x1 x7 b4 r, xCA N n x0 x1 x7 b4 = some r → RS Tryz.f49 I49 8 (xK5 x0 x1 x7 b4) (xAP r) := by
 intro n
 induction n with
 | zero => exact fun _ _ _ _ _ h => nE h
 | succ n ih =>
  exact fun x0 x1 x7 b4 r h =>
   cE h (fun h0 h => iE h fun h1 h => cE h (fun h2 h => cE h (fun h4 h => tS fk49 (xUE x0 x1 x7 b4) (oc5 h0 h1 h2 h1 h4 on) (ih _ _ _ _ _ h)) fun h4 h =>
   iE h fun h5 h => bE h fun r1 h6 h => dS h fk49 (xUF x0 x1 x7 b4 r1) (oc7 h0 h1 h2 h1 h4 h5 (xG1 h6) on)) fun h2 h =>
   iE h fun h4 h => bE h fun r1 h5 h => dS h fk49 (xRd x0 x1 x7 b4 r1) (oc6 h0 h1 h2 rfl h4 (xG1 h5) on)) fun h0 h =>
   iE h fun h3 h => bE h fun r1 h4 h => dS h fk49 (xRe x0 x1 x7 b4 r1) (oc5 h0 rfl rfl h3 (xG1 h4) on)
theorem xYa {N : Nat} : ∀ a0 a1 r, xFS N a0 a1 = some r → RE Tryz.f49 I49 (xAE a0 a1) (xAP r) := fun a0 a1 r h =>
 iE h fun h0 h => cE h (fun h1 h => cE h (fun h2 h => tE fk49 (xRf a0 a1) (oc3 h0 h1 h2 on) (xX9 _ _ _ _ _ _ h)) fun h2 h =>
 cE h (fun h3 h => cE h (fun h4 h => tE fk49 (xRg a0 a1) (oc5 h0 h1 h2 h3 h4 on) (xW8 _ _ _ _ _ _ h)) fun h4 h =>
 cE h (fun h5 h => iE h fun h6 h => bE h fun r1 h7 h => cE h (fun h8 h => dE h fk49 (xRh a0 a1 r1) (oc9 h0 h1 h2 h3 h4 h5 h6 (xA6 h7) h8 on)) fun h8 h =>
 iE h fun h9 h => bE h fun r2 h10 h => dE h fk49 (xRi a0 a1 r1 r2) (oc11 h0 h1 h2 h3 h4 h5 h6 (xA6 h7) h8 h9 (xC8 h10) on)) fun h5 h =>
 iE h fun h6 h => bE h fun r1 h7 h => cE h (fun h8 h => dE h fk49 (xRj a0 a1 r1) (oc9 h0 h1 h2 h3 h4 h5 h6 (xB4 h7) h8 on)) fun h8 h =>
 iE h fun h9 h => bE h fun r2 h10 h => dE h fk49 (xRk a0 a1 r1 r2) (oc11 h0 h1 h2 h3 h4 h5 h6 (xB4 h7) h8 h9 (xA6 h10) on)) fun h3 h =>
 cE h (fun h5 h => iE h fun h6 h => bE h fun r1 h7 h => cE h (fun h8 h => dE h fk49 (xRl a0 a1 r1) (oc9 h0 h1 h2 h3 rfl h5 h6 (xA6 h7) h8 on)) fun h8 h =>
 iE h fun h9 h => bE h fun r2 h10 h => dE h fk49 (xRm a0 a1 r1 r2) (oc11 h0 h1 h2 h3 rfl h5 h6 (xA6 h7) h8 h9 (xC8 h10) on)) fun h5 h =>
 iE h fun h6 h => bE h fun r1 h7 h => cE h (fun h8 h => dE h fk49 (xRn a0 a1 r1) (oc9 h0 h1 h2 h3 rfl h5 h6 (xB4 h7) h8 on)) fun h8 h =>
 iE h fun h9 h => bE h fun r2 h10 h => dE h fk49 (xRo a0 a1 r1 r2) (oc11 h0 h1 h2 h3 rfl h5 h6 (xB4 h7) h8 h9 (xA6 h10) on)) fun h1 h =>
 cE h (fun h3 h => cE h (fun h4 h => tE fk49 (xRp a0 a1) (oc5 h0 h1 rfl h3 h4 on) (xW8 _ _ _ _ _ _ h)) fun h4 h =>
 cE h (fun h5 h => iE h fun h6 h => bE h fun r1 h7 h => cE h (fun h8 h => dE h fk49 (xRq a0 a1 r1) (oc9 h0 h1 rfl h3 h4 h5 h6 (xA6 h7) h8 on)) fun h8 h =>
 iE h fun h9 h => bE h fun r2 h10 h => dE h fk49 (xRr a0 a1 r1 r2) (oc11 h0 h1 rfl h3 h4 h5 h6 (xA6 h7) h8 h9 (xC8 h10) on)) fun h5 h =>
 iE h fun h6 h => bE h fun r1 h7 h => cE h (fun h8 h => dE h fk49 (xRs a0 a1 r1) (oc9 h0 h1 rfl h3 h4 h5 h6 (xB4 h7) h8 on)) fun h8 h =>
 iE h fun h9 h => bE h fun r2 h10 h => dE h fk49 (xRt a0 a1 r1 r2) (oc11 h0 h1 rfl h3 h4 h5 h6 (xB4 h7) h8 h9 (xA6 h10) on)) fun h3 h =>
 cE h (fun h5 h => iE h fun h6 h => bE h fun r1 h7 h => cE h (fun h8 h => dE h fk49 (xRu a0 a1 r1) (oc9 h0 h1 rfl h3 rfl h5 h6 (xA6 h7) h8 on)) fun h8 h =>
 iE h fun h9 h => bE h fun r2 h10 h => dE h fk49 (xRv a0 a1 r1 r2) (oc11 h0 h1 rfl h3 rfl h5 h6 (xA6 h7) h8 h9 (xC8 h10) on)) fun h5 h =>
 iE h fun h6 h => bE h fun r1 h7 h => cE h (fun h8 h => dE h fk49 (xRw a0 a1 r1) (oc9 h0 h1 rfl h3 rfl h5 h6 (xB4 h7) h8 on)) fun h8 h =>
 iE h fun h9 h => bE h fun r2 h10 h => dE h fk49 (xRx a0 a1 r1 r2) (oc11 h0 h1 rfl h3 rfl h5 h6 (xB4 h7) h8 h9 (xA6 h10) on)
theorem xGi {N : Nat} {a0 : Str} {a1 : Int} {r : Tok × Int × Bool} (h : xFS N  a0 a1 = some r) : AbC 49 (xAE a0 a1) (xAP r) :=
 AbsCalls.of_reach fk49 rfl rfl (Nat.le_of_ble_eq_true rfl) (xYa a0 a1 r h)
noncomputable def I30 : Info := { body := (Tryz.f30.body).getD .skip, nt := 44, results := [.tmp 2, .tmp 3], keep := [0, 4, 6, 8, 10, 12, 14, 16, 22, 32, 40, 72, 13], live := [(5, [0, 8, 10])], modes := [(8, [(3, .take, false)]), (9, [(0, .take, false), (2, .take, false)]), (11, [(0, .take, false)]), (12, [(0, .take, false)]), (13, [(0, .take, false)])] }
theorem fk30 : FnOk Tryz.prog 30 Tryz.f30 I30 := ⟨Tryz.func30, by kernel_rfl, by kernel_rfl, by kernel_rfl, by kernel_rfl⟩
def xKo (x0 : Str) (x4 : List Tok) (x5 : Int) : St := [(0, .v false [.str x0]), (8, .v false [.sl .own .tok x4]), (10, .v false [.int .i64 x5])]
def xTy (x0 : Str) (x4 : List Tok) (x5 : Int) : rS 5 I30 (xKo x0 x4 x5) [Y, Y] [] = st 5 I30 (xKo x0 x4 (W (x5 + 1))) [xCO x5 x0, xAu x5 x0, iY (xL2 x0 x5)] := by kernel_rfl
def xTz (x0 : Str) (x4 : List Tok) (x5 : Int) (r1 : Tok × Int × Bool) : rS 5 I30 (xKo x0 x4 x5) [Y, F, Y, Y] [xAP r1] = dn (xAH ([], x5)) [xCO x5 x0, xAu x5 x0, xKf x0 x5, AbC 49 (xAE x0 x5) (xAP r1), iY (!r1.2.2), iY true] := by kernel_rfl
def xTA (x0 : Str) (x4 : List Tok) (x5 : Int) (r1 : Tok × Int × Bool) : rS 5 I30 (xKo x0 x4 x5) [Y, F, F, Y] [xAP r1] = dn (xAH ([], x5)) [xCO x5 x0, xAu x5 x0, xKf x0 x5, AbC 49 (xAE x0 x5) (xAP r1), iN (!r1.2.2), iY ((Ln x4 : Int) == 60)] := by kernel_rfl
def xTB (x0 : Str) (x4 : List Tok) (x5 : Int) (r1 : Tok × Int × Bool) : rS 5 I30 (xKo x0 x4 x5) [Y, F, F, F] [xAP r1] = st 5 I30 (xKo x0 (x4 ++ [r1.1]) r1.2.1) [xCO x5 x0, xAu x5 x0, xKf x0 x5, AbC 49 (xAE x0 x5) (xAP r1), iN (!r1.2.2), iN ((Ln x4 : Int) == 60), Ln x4 + Ln [r1.1] ≤ Lim] := by kernel_rfl
def xTC (x0 : Str) (x4 : List Tok) (x5 : Int) : rS 5 I30 (xKo x0 x4 x5) [F] [] = dn (xAH (x4, (-1))) [xGR x5 x0] := by kernel_rfl
def xTD (a0 : Str) : rE I30 (xEw a0) [Y] [] = dn (xAH ([], 120)) [iY (xKS a0)] := by kernel_rfl
def xTE (a0 : Str) : rE I30 (xEw a0) [F] [] = st 5 I30 (xKo a0 [] 0) [iN (xKS a0)] := by kernel_rfl
theorem xXN {N : Nat} : ∀ n x0 x4 x5 r, xDw N n x0 x4 x5 = some r → RS Tryz.f30 I30 5 (xKo x0 x4 x5) (xAH r) := by
 intro n
 induction n with
 | zero => exact fun _ _ _ _ h => nE h
 | succ n ih =>
  exact fun x0 x4 x5 r h =>
   cE h (fun h0 h => iE h fun h1 h => cE h (fun h2 h => tS fk30 (xTy x0 x4 x5) (oc3 h0 h1 h2 on) (ih _ _ _ _ h)) fun h2 h =>
   bE h fun r1 h3 h => cE h (fun h4 h => dS h fk30 (xTz x0 x4 x5 r1) (oc6 h0 h1 h2 (xGi h3) h4 rfl on)) fun h4 h =>
   cE h (fun h5 h => dS h fk30 (xTA x0 x4 x5 r1) (oc6 h0 h1 h2 (xGi h3) h4 h5 on)) fun h5 h =>
   iE h fun h6 h => tS fk30 (xTB x0 x4 x5 r1) (oc7 h0 h1 h2 (xGi h3) h4 h5 h6 on) (ih _ _ _ _ h)) fun h0 h =>
   dS h fk30 (xTC x0 x4 x5) (oc h0 on)
theorem xXO {N : Nat} : ∀ a0 r, xES N a0 = some r → RE Tryz.f30 I30 (xEw a0) (xAH r) := fun a0 r h =>
 cE h (fun h0 h => dE h fk30 (xTD a0) (oc h0 on)) fun h0 h =>
 tE fk30 (xTE a0) (oc h0 on) (xXN _ _ _ _ _ h)
theorem xBu {N : Nat} {a0 : Str} {r : (List Tok) × Int} (h : xES N  a0 = some r) : AbC 30 (xEw a0) (xAH r) :=
 AbsCalls.of_reach fk30 rfl rfl (Nat.le_of_ble_eq_true rfl) (xXO a0 r h)
noncomputable def I51 : Info := { body := (Tryz.f51.body).getD .skip, nt := 31, results := [.cell 2 50], keep := [0, 4, 38, 1, 5], live := [], modes := [(1, [(5, .take, false)])], ext := [0] }
theorem fk51 : FnOk Tryz.prog 51 Tryz.f51 I51 := ⟨Tryz.func51, by kernel_rfl, by kernel_rfl, by kernel_rfl, by kernel_rfl⟩
abbrev xHB (v0 : Psr) : Prop := iY (dc ((Psr.bad v0) < 0))
def xUI (a0 : Psr) : rE I51 (xCL a0) [Y, Y] [] = dn (xAf ((gD (Psr.list a0) (tN (Psr.pos a0)) Ty.tok.dflt), a0)) [xHB a0, iY (dc ((Psr.pos a0) < (Ln (Psr.list a0) : Int))), (0 : Int) ≤ (Psr.pos a0) ∧ (Psr.pos a0) < (Ln (Psr.list a0))] := by kernel_rfl
def xUJ (a0 : Psr) : rE I51 (xCL a0) [Y, F] [] = dn (xAf ((Tok.mk 0 0 0 []), a0)) [xHB a0, iN (dc ((Psr.pos a0) < (Ln (Psr.list a0) : Int)))] := by kernel_rfl
abbrev xKB (v0 : Psr) : Prop := iN (dc ((Psr.bad v0) < 0))
def xUK (a0 : Psr) : rE I51 (xCL a0) [F, F] [] = dn (xAf ((Tok.mk 0 0 0 []), a0)) [xKB a0, iN false] := by kernel_rfl
theorem xYc {N : Nat} : ∀ a0 r, xBm N a0 = some r → RE Tryz.f51 I51 (xCL a0) (xAf r) := fun a0 r h =>
 cE h (fun h0 h => cE h (fun h1 h => iE h fun h2 h => dE h fk51 (xUI a0) (oc3 h0 h1 h2 on)) fun h1 h =>
 dE h fk51 (xUJ a0) (oc2 h0 h1 on)) fun h0 h =>
 dE h fk51 (xUK a0) (oc2 h0 rfl on)
theorem xAi {N : Nat} {a0 : Psr} {r : Tok × Psr} (h : xBm N  a0 = some r) : AbC 51 (xCL a0) (xAf r) :=
 AbsCalls.of_reach fk51 rfl rfl (Nat.le_of_ble_eq_true rfl) (xYc a0 r h)
noncomputable def I50 : Info := { body := (Tryz.f50.body).getD .skip, nt := 14, results := [.tmp 4], keep := [0, 2, 4, 8, 5], live := [], modes := [(1, [(3, .take, false)])] }
theorem fk50 : FnOk Tryz.prog 50 Tryz.f50 I50 := ⟨Tryz.func50, by kernel_rfl, by kernel_rfl, by kernel_rfl, by kernel_rfl⟩
def xUG (a0 : Tok) (a1 : Str) : rE I50 (xBi a0 a1) [Y] [] = dn (xAt (((Tok.text a0) : Str) == a1)) [iY ((Tok.kind a0) == 1)] := by kernel_rfl
def xUH (a0 : Tok) (a1 : Str) : rE I50 (xBi a0 a1) [F] [] = dn (xAt false) [iN ((Tok.kind a0) == 1)] := by kernel_rfl
theorem xYb {N : Nat} : ∀ a0 a1 r, xDD N a0 a1 = some r → RE Tryz.f50 I50 (xBi a0 a1) (xAt r) := fun a0 a1 r h =>
 cE h (fun h0 h => dE h fk50 (xUG a0 a1) (oc h0 on)) fun h0 h =>
 dE h fk50 (xUH a0 a1) (oc h0 on)
theorem xBs {N : Nat} {a0 : Tok} {a1 : Str} {r : Bool} (h : xDD N  a0 a1 = some r) : AbC 50 (xBi a0 a1) (xAt r) :=
 AbsCalls.of_reach fk50 rfl rfl (Nat.le_of_ble_eq_true rfl) (xYb a0 a1 r h)
noncomputable def I97 : Info := { body := (Tryz.f97.body).getD .skip, nt := 15, results := [.tmp 6], keep := [0, 2, 4, 12], live := [], modes := [(1, [(3, .take, false)])] }
theorem fk97 : FnOk Tryz.prog 97 Tryz.f97 I97 := ⟨Tryz.func97, by kernel_rfl, by kernel_rfl, by kernel_rfl, by kernel_rfl⟩
def xWl (a0 a1 a2 : Int) : rE I97 (xCB a0 a1 a2) [Y] [] = dn (xAZ (dc (a0 ≤ a2))) [iY (dc (a1 ≤ a0))] := by kernel_rfl
def xWm (a0 a1 a2 : Int) : rE I97 (xCB a0 a1 a2) [F] [] = dn (xAZ false) [iN (dc (a1 ≤ a0))] := by kernel_rfl
theorem xYP {N : Nat} : ∀ a0 a1 a2 r, xEI N a0 a1 a2 = some r → RE Tryz.f97 I97 (xCB a0 a1 a2) (xAZ r) := fun a0 a1 a2 r h =>
 cE h (fun h0 h => dE h fk97 (xWl a0 a1 a2) (oc h0 on)) fun h0 h =>
 dE h fk97 (xWm a0 a1 a2) (oc h0 on)
theorem xDi {N : Nat} {a0 : Int} {a1 : Int} {a2 : Int} {r : Bool} (h : xEI N  a0 a1 a2 = some r) : AbC 97 (xCB a0 a1 a2) (xAZ r) :=
 AbsCalls.of_reach fk97 rfl rfl (Nat.le_of_ble_eq_true rfl) (xYP a0 a1 a2 r h)
noncomputable def I114 : Info := { body := (Tryz.f114.body).getD .skip, nt := 42, results := [.tmp 2], keep := [0, 4, 6, 8, 16, 76], live := [(2, [0, 6])], modes := [(4, [(4, .take, false)]), (5, [(0, .take, false), (2, .take, false), (5, .take, false), (11, .take, false)])] }
theorem xJg : FnOk Tryz.prog 114 Tryz.f114 I114 := ⟨Tryz.func114, by kernel_rfl, by kernel_rfl, by kernel_rfl, by kernel_rfl⟩
def xGd (x0 : Str) (x3 : Int) : St := [(0, .v false [.str x0]), (6, .v false [.int .i64 x3])]
def xPY (x0 : Str) (x3 : Int) : rS 2 I114 (xGd x0 x3) [Y, Y, Y, Y, Y, Y] [] = dn (xBN false) [xCO x3 x0, xAu x3 x0, xEo x0 x3, xAu x3 x0, xIu x0 x3, iY (x3 == 0), iY true, iY true] := by kernel_rfl
def xPZ (x0 : Str) (x3 : Int) : rS 2 I114 (xGd x0 x3) [Y, Y, Y, F, Y, Y] [] = dn (xBN false) [xCO x3 x0, xAu x3 x0, xEo x0 x3, xAu x3 x0, xIu x0 x3, xIV x3, xAu x3 x0, xSL x0 x3, iY true] := by kernel_rfl
def xP0 (x0 : Str) (x3 : Int) : rS 2 I114 (xGd x0 x3) [Y, Y, Y, F, F, Y] [] = dn (xBN false) [xCO x3 x0, xAu x3 x0, xEo x0 x3, xAu x3 x0, xIu x0 x3, xIV x3, xAu x3 x0, xNd x0 x3, xAu x3 x0, xSM x0 x3] := by kernel_rfl
def xP1 (x0 : Str) (x3 : Int) : rS 2 I114 (xGd x0 x3) [Y, Y, Y, F, F, F] [] = st 2 I114 (xGd x0 (W (x3 + 1))) [xCO x3 x0, xAu x3 x0, xEo x0 x3, xAu x3 x0, xIu x0 x3, xIV x3, xAu x3 x0, xNd x0 x3, xAu x3 x0, xSN x0 x3] := by kernel_rfl
def xP2 (x0 : Str) (x3 : Int) : rS 2 I114 (xGd x0 x3) [Y, Y, F, F] [] = st 2 I114 (xGd x0 (W (x3 + 1))) [xCO x3 x0, xAu x3 x0, xEo x0 x3, xAu x3 x0, xN6 x0 x3, iN false] := by kernel_rfl
def xP3 (x0 : Str) (x3 : Int) : rS 2 I114 (xGd x0 x3) [Y, F, Y, Y, Y, Y] [] = dn (xBN false) [xCO x3 x0, xAu x3 x0, xE4 x0 x3, iY (!false), iY (x3 == 0), iY true, iY true] := by kernel_rfl
def xP4 (x0 : Str) (x3 : Int) : rS 2 I114 (xGd x0 x3) [Y, F, Y, F, Y, Y] [] = dn (xBN false) [xCO x3 x0, xAu x3 x0, xE4 x0 x3, iY (!false), xIV x3, xAu x3 x0, xSL x0 x3, iY true] := by kernel_rfl
def xP5 (x0 : Str) (x3 : Int) : rS 2 I114 (xGd x0 x3) [Y, F, Y, F, F, Y] [] = dn (xBN false) [xCO x3 x0, xAu x3 x0, xE4 x0 x3, iY (!false), xIV x3, xAu x3 x0, xNd x0 x3, xAu x3 x0, xSM x0 x3] := by kernel_rfl
def xP6 (x0 : Str) (x3 : Int) : rS 2 I114 (xGd x0 x3) [Y, F, Y, F, F, F] [] = st 2 I114 (xGd x0 (W (x3 + 1))) [xCO x3 x0, xAu x3 x0, xE4 x0 x3, iY (!false), xIV x3, xAu x3 x0, xNd x0 x3, xAu x3 x0, xSN x0 x3] := by kernel_rfl
def xP7 (x0 : Str) (x3 : Int) (r1 : Bool) : rS 2 I114 (xGd x0 x3) [F] [xAZ r1] = dn (xBN r1) [xGR x3 x0, AbC 97 (xCB (Ln x0 : Int) 1 8) (xAZ r1)] := by kernel_rfl
def xOp (a0 : Str) : rE I114 (xE3 a0) [] [] = st 2 I114 (xGd a0 0) [] := by kernel_rfl
theorem xWS {N : Nat} : ∀ n x0 x3 r, xDh N n x0 x3 = some r → RS Tryz.f114 I114 2 (xGd x0 x3) (xBN r) := by
 intro n
 induction n with
 | zero => exact fun _ _ _ h => nE h
 | succ n ih =>
  exact fun x0 x3 r h =>
   cE h (fun h0 h => iE h fun h1 h => cE h (fun h2 h => cE h (fun h4 h => cE h (fun h5 h => dS h xJg (xPY x0 x3) (oc8 h0 h1 h2 h1 h4 h5 rfl rfl on)) fun h5 h =>
   cE h (fun h7 h => dS h xJg (xPZ x0 x3) (oc9 h0 h1 h2 h1 h4 h5 h1 h7 rfl on)) fun h7 h =>
   cE h (fun h9 h => dS h xJg (xP0 x0 x3) (oc10 h0 h1 h2 h1 h4 h5 h1 h7 h1 h9 on)) fun h9 h =>
   tS xJg (xP1 x0 x3) (oc10 h0 h1 h2 h1 h4 h5 h1 h7 h1 h9 on) (ih _ _ _ h)) fun h4 h =>
   tS xJg (xP2 x0 x3) (oc6 h0 h1 h2 h1 h4 rfl on) (ih _ _ _ h)) fun h2 h =>
   cE h (fun h4 h => dS h xJg (xP3 x0 x3) (oc7 h0 h1 h2 rfl h4 rfl rfl on)) fun h4 h =>
   cE h (fun h6 h => dS h xJg (xP4 x0 x3) (oc8 h0 h1 h2 rfl h4 h1 h6 rfl on)) fun h6 h =>
   cE h (fun h8 h => dS h xJg (xP5 x0 x3) (oc9 h0 h1 h2 rfl h4 h1 h6 h1 h8 on)) fun h8 h =>
   tS xJg (xP6 x0 x3) (oc9 h0 h1 h2 rfl h4 h1 h6 h1 h8 on) (ih _ _ _ h)) fun h0 h =>
   bE h fun r1 h1 h => dS h xJg (xP7 x0 x3 r1) (oc2 h0 (xDi h1) on)
theorem xWT {N : Nat} : ∀ a0 r, xG0 N a0 = some r → RE Tryz.f114 I114 (xE3 a0) (xBN r) := fun a0 r h =>
 tE xJg (xOp a0) on (xWS _ _ _ _ h)
theorem xHZ {N : Nat} {a0 : Str} {r : Bool} (h : xG0 N  a0 = some r) : AbC 114 (xE3 a0) (xBN r) :=
 AbsCalls.of_reach xJg rfl rfl (Nat.le_of_ble_eq_true rfl) (xWT a0 r h)
end Go.Ab.T
end
