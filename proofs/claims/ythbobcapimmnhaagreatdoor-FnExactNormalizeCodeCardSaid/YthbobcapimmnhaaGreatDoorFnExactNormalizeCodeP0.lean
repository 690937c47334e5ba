/- The statement FnExactNormalizeCode holds: plain functions, certificates, laws. Conditions: none. -/
import Derived.LaidMore
import Derived.Lay
import Derived.Lib.AtoiErrMem
import Derived.Lib.LaidTab
import Derived.OpenVars
import Derived.SevenTiedAt
import Derived.Shelf.Abstract
import Derived.Shelf.Small.Strs
import Derived.Shelf.Strconv.ErrVarAll
import Derived.Shelf.Strconv.Itoa3
import Derived.Shelf.Strings.OnBuilder
import Derived.Shelf.Strings.Prefix
import Derived.Shelf.Strings.Search1
import Derived.Shelf.Strings.Split
import Derived.Stop.Joined
import Derived.Stop.LaidErr
import Derived.Test.YthbobcapimmnhaaGreatDoorCards
import Derived.Test.YthbobcapimmnhaaGreatDoorChecked
import Derived.Test.YthbobcapimmnhaaGreatDoorProg
import Derived.Test.YthbobcapimmnhaaGreatDoorRows
import Derived.Test.YthbobcapimmnhaaGreatDoorTie
import Derived.WalkKit
import Derived.Test.YthbobcapimmnhaaGreatDoorL2
set_option linter.all false
section
namespace Go.Ab
abbrev Ex (f : Fl) (e : Exp) : List CV := [.int .i64 (Exp.kind e), .int .i64 (Exp.n e), .str (Exp.text e), .sl f .exp (Exp.args e)]
abbrev Rr (f : Fl) (e : Rdr) : List CV := [.sl f .tok (Rdr.toks e), .int .i64 (Rdr.i e), .int .i64 (Rdr.fin e), .int .i64 (Rdr.bad e)]
abbrev Ps (f : Fl) (e : Psr) : List CV := [.sl f .tok (Psr.list e), .int .i64 (Psr.pos e), .int .i64 (Psr.bad e)]
end Go.Ab
end
section
namespace Go.Ab
def xET (a0 : Int) : List Arg := [.val (.v false [.int .u8 a0])]
def xBH (r : Bool) : CallO := ⟨.v false [.bool r], [], []⟩
def xFj (N : Nat) (a0 : Int) : Option (Bool) := bif (decide (a0 ≥ 97)) then (some (decide (a0 ≤ 122))) else (some false)
def xFd (a0 : Int) : List Arg := [.val (.v false [.int .u8 a0])]
def xBy (r : Bool) : CallO := ⟨.v false [.bool r], [], []⟩
def xFc (N : Nat) (a0 : Int) : Option (Bool) := bif (decide (a0 ≥ 48)) then (some (decide (a0 ≤ 57))) else (some false)
def xCF (a0 : Int) : List Arg := [.val (.v false [.int .i64 a0])]
def xA4 (r : Str) : CallO := ⟨.v false [.str r], [], []⟩
def xCb (N : Nat) : Nat → Int → Bool → Str → Option (Str)
 | 0, _, _, _ => none
 | n + 1, x0, x3, x4 => bif (x0 != 0) then (bif (decide ((Int.tmod x0 10) < 0)) then (if List.length (List.map (fun n => UInt8.ofNat (Int.toNat n)) [(IntKind.u8.wrap ((IntKind.i64.wrap (48 + (IntKind.i64.wrap (0 - (Int.tmod x0 10)))))))]) + List.length x4 ≤ Lim then (xCb N n (IntKind.i64.wrap (Int.tdiv x0 10)) x3 ((List.map (fun n => UInt8.ofNat (Int.toNat n)) [(IntKind.u8.wrap ((IntKind.i64.wrap (48 + (IntKind.i64.wrap (0 - (Int.tmod x0 10)))))))]) ++ x4)) else none) else (if List.length (List.map (fun n => UInt8.ofNat (Int.toNat n)) [(IntKind.u8.wrap ((IntKind.i64.wrap (48 + (Int.tmod x0 10)))))]) + List.length x4 ≤ Lim then (xCb N n (IntKind.i64.wrap (Int.tdiv x0 10)) x3 ((List.map (fun n => UInt8.ofNat (Int.toNat n)) [(IntKind.u8.wrap ((IntKind.i64.wrap (48 + (Int.tmod x0 10)))))]) ++ x4)) else none)) else (bif x3 then (if List.length [45] + List.length x4 ≤ Lim then some ([45] ++ x4) else none) else (some x4))
def xEt (N : Nat) (a0 : Int) : Option (Str) := bif (a0 == 0) then (some [48]) else ((xCb N N a0 (decide (a0 < 0)) []))
def xCD (a0 : Str) (a1 : Int) : List Arg := [.val (.v false [.str a0]), .val (.v false [.int .i64 a1])]
def xBr (r : Int × Bool) : CallO := ⟨.tup [(false, [.int .i64 r.1]), (false, [.bool r.2])], [], []⟩
def xC4 (N : Nat) : Nat → Str → Bool → Str → Int → Int → Option (Int × Bool)
 | 0, _, _, _, _, _ => none
 | n + 1, x0, x6, x7, x8, x9 => bif (decide (x9 < (List.length x7 : Int))) then (if (0 : Int) ≤ x9 ∧ x9 < (List.length x7) then bif (decide ((((List.getD x7 (Int.toNat x9) 0).toNat : Int) : Int) < 48)) then (some (0, false)) else (bif (decide ((((List.getD x7 (Int.toNat x9) 0).toNat : Int) : Int) > 57)) then (some (0, false)) else ((xC4 N n x0 x6 x7 (IntKind.i64.wrap ((IntKind.i64.wrap (10 * x8)) + (IntKind.i64.wrap ((IntKind.u8.wrap (((List.getD x7 (Int.toNat x9) 0).toNat : Int) - 48)))))) (IntKind.i64.wrap (x9 + 1))))) else none) else (bif x6 then ((xEt N (IntKind.i64.wrap (0 - x8))).bind fun r1 => bif (!((r1 : Str) == x0)) then (some (0, false)) else (some ((IntKind.i64.wrap (0 - x8)), true))) else ((xEt N x8).bind fun r1 => bif (!((r1 : Str) == x0)) then (some (0, false)) else (some (x8, true))))
def xGL (N : Nat) (a0 : Str) (a1 : Int) : Option (Int × Bool) := bif (decide ((List.length a0 : Int) > 0)) then (if (0 : Int) ≤ 0 ∧ (0 : Int) < (List.length a0) then bif ((((List.getD a0 (Int.toNat 0) 0).toNat : Int) : Int) == 45) then (if (0 : Int) ≤ (1 : Int) ∧ (1 : Int) ≤ (List.length a0) then bif (decide (((List.length (List.drop (Int.toNat (1 : Int)) a0) : Int) : Int) < 1)) then (some (0, false)) else (bif (decide (((List.length (List.drop (Int.toNat (1 : Int)) a0) : Int) : Int) > a1)) then (some (0, false)) else ((xC4 N N a0 ((((List.getD a0 (Int.toNat 0) 0).toNat : Int) : Int) == 45) (List.drop (Int.toNat (1 : Int)) a0) 0 0))) else none) else (bif (decide ((List.length a0 : Int) < 1)) then (some (0, false)) else (bif (decide ((List.length a0 : Int) > a1)) then (some (0, false)) else ((xC4 N N a0 ((((List.getD a0 (Int.toNat 0) 0).toNat : Int) : Int) == 45) a0 0 0)))) else none) else (bif (decide ((List.length a0 : Int) < 1)) then (some (0, false)) else (bif (decide ((List.length a0 : Int) > a1)) then (some (0, false)) else ((xC4 N N a0 false a0 0 0))))
def xFz (a0 : Str) : List Arg := [.val (.v false [.str a0])]
def xCA (r : Int × Bool) : CallO := ⟨.tup [(false, [.int .i64 r.1]), (false, [.bool r.2])], [], []⟩
def xEN (N : Nat) (a0 : Str) : Option (Int × Bool) := (xGL N a0 12).bind fun r1 => some (r1.1, r1.2)
def xD5 (a0 : Str) : List Arg := [.val (.v false [.str a0])]
def xA2 (r : Bool) : CallO := ⟨.v false [.bool r], [], []⟩
def xCv (N : Nat) : Nat → Str → Int → Option (Bool)
 | 0, _, _ => none
 | n + 1, x0, x3 => bif (decide (x3 < (List.length x0 : Int))) then (if (0 : Int) ≤ x3 ∧ x3 < (List.length x0) then bif (decide ((((List.getD x0 (Int.toNat x3) 0).toNat : Int) : Int) < 32)) then (some false) else (bif (decide ((((List.getD x0 (Int.toNat x3) 0).toNat : Int) : Int) > 126)) then (some false) else (bif ((((List.getD x0 (Int.toNat x3) 0).toNat : Int) : Int) == 34) then (some false) else ((xCv N n x0 (IntKind.i64.wrap (x3 + 1)))))) else none) else (some (decide ((List.length x0 : Int) ≤ 20)))
def xEd (N : Nat) (a0 : Str) : Option (Bool) := (xCv N N a0 0)
def xBd (a0 : Str) (a1 : Int) : List Arg := [.val (.v false [.str a0]), .val (.v false [.int .i64 a1])]
def xA6 (r : Int) : CallO := ⟨.v false [.int .i64 r], [], []⟩
def xFX (N : Nat) (a0 : Str) (a1 : Int) : Option (Int) := if (0 : Int) ≤ a1 ∧ a1 < (List.length a0) then bif ((((List.getD a0 (Int.toNat a1) 0).toNat : Int) : Int) == 40) then (some 1) else (bif ((((List.getD a0 (Int.toNat a1) 0).toNat : Int) : Int) == 41) then (some 1) else (bif ((((List.getD a0 (Int.toNat a1) 0).toNat : Int) : Int) == 91) then (some 1) else (bif ((((List.getD a0 (Int.toNat a1) 0).toNat : Int) : Int) == 93) then (some 1) else (bif ((((List.getD a0 (Int.toNat a1) 0).toNat : Int) : Int) == 44) then (some 1) else (bif ((((List.getD a0 (Int.toNat a1) 0).toNat : Int) : Int) == 43) then (some 1) else (bif ((((List.getD a0 (Int.toNat a1) 0).toNat : Int) : Int) == 45) then (some 1) else (bif ((((List.getD a0 (Int.toNat a1) 0).toNat : Int) : Int) == 42) then (some 1) else (bif ((((List.getD a0 (Int.toNat a1) 0).toNat : Int) : Int) == 60) then (some 1) else (bif ((((List.getD a0 (Int.toNat a1) 0).toNat : Int) : Int) == 61) then (bif (decide ((IntKind.i64.wrap (a1 + 1)) < (List.length a0 : Int))) then (if (0 : Int) ≤ (IntKind.i64.wrap (a1 + 1)) ∧ (IntKind.i64.wrap (a1 + 1)) < (List.length a0) then bif ((((List.getD a0 (Int.toNat (IntKind.i64.wrap (a1 + 1))) 0).toNat : Int) : Int) == 61) then (some 2) else (some 1) else none) else (some 1)) else (some 0)))))))))) else none
def xDz (a0 : Str) (a1 : Int) : List Arg := [.val (.v false [.str a0]), .val (.v false [.int .i64 a1])]
def xA0 (r : Tok × Int) : CallO := ⟨.tup [(true, [.int .i64 (Tok.kind r.1), .int .i64 (Tok.n r.1), .int .i64 (Tok.pos r.1), .str (Tok.text r.1)]), (false, [.int .i64 r.2])], [], []⟩
def xDA (N : Nat) : Nat → Str → Int → Int → Tok → Tok → Option (Tok × Int)
 | 0, _, _, _, _, _ => none
 | n + 1, x0, x1, x7, b4, b6 => bif (decide (x7 < (List.length x0 : Int))) then (if (0 : Int) ≤ x7 ∧ x7 < (List.length x0) then (xFj N ((List.getD x0 (Int.toNat x7) 0).toNat : Int)).bind fun r1 => bif r1 then ((xDA N n x0 x1 (IntKind.i64.wrap (x7 + 1)) b4 b6)) else ((xFc N ((List.getD x0 (Int.toNat x7) 0).toNat : Int)).bind fun r2 => bif r2 then ((xDA N n x0 x1 (IntKind.i64.wrap (x7 + 1)) b4 b6)) else (if (0 : Int) ≤ x1 ∧ x1 ≤ x7 ∧ x7 ≤ (List.length x0) then bif (decide ((IntKind.i64.wrap (x7 - x1)) > 8)) then (some ((Tok.mk 1 (Tok.n b6) (Tok.pos b6) (List.drop (Int.toNat x1) (List.take (Int.toNat x7) x0))), 0)) else (some ((Tok.mk 1 (Tok.n b6) (Tok.pos b6) (List.drop (Int.toNat x1) (List.take (Int.toNat x7) x0))), (IntKind.i64.wrap (x7 - x1)))) else none)) else none) else (if (0 : Int) ≤ x1 ∧ x1 ≤ x7 ∧ x7 ≤ (List.length x0) then bif (decide ((IntKind.i64.wrap (x7 - x1)) > 8)) then (some ((Tok.mk 1 (Tok.n b6) (Tok.pos b6) (List.drop (Int.toNat x1) (List.take (Int.toNat x7) x0))), 0)) else (some ((Tok.mk 1 (Tok.n b6) (Tok.pos b6) (List.drop (Int.toNat x1) (List.take (Int.toNat x7) x0))), (IntKind.i64.wrap (x7 - x1)))) else none)
def xDb (N : Nat) : Nat → Str → Int → Int → Tok → Tok → Option (Tok × Int)
 | 0, _, _, _, _, _ => none
 | n + 1, x0, x1, x7, b4, b6 => bif (decide (x7 < (List.length x0 : Int))) then (if (0 : Int) ≤ x7 ∧ x7 < (List.length x0) then (xFc N ((List.getD x0 (Int.toNat x7) 0).toNat : Int)).bind fun r1 => bif r1 then ((xDb N n x0 x1 (IntKind.i64.wrap (x7 + 1)) b4 b6)) else (if (0 : Int) ≤ x1 ∧ x1 ≤ x7 ∧ x7 ≤ (List.length x0) then (xEN N (List.drop (Int.toNat x1) (List.take (Int.toNat x7) x0))).bind fun r2 => bif (!r2.2) then (some ((Tok.mk 2 r2.1 (Tok.pos b6) (Tok.text b6)), 0)) else (bif (decide (r2.1 > 1000000000)) then (some ((Tok.mk 2 r2.1 (Tok.pos b6) (Tok.text b6)), 0)) else (some ((Tok.mk 2 r2.1 (Tok.pos b6) (Tok.text b6)), (IntKind.i64.wrap (x7 - x1))))) else none) else none) else (if (0 : Int) ≤ x1 ∧ x1 ≤ x7 ∧ x7 ≤ (List.length x0) then (xEN N (List.drop (Int.toNat x1) (List.take (Int.toNat x7) x0))).bind fun r1 => bif (!r1.2) then (some ((Tok.mk 2 r1.1 (Tok.pos b6) (Tok.text b6)), 0)) else (bif (decide (r1.1 > 1000000000)) then (some ((Tok.mk 2 r1.1 (Tok.pos b6) (Tok.text b6)), 0)) else (some ((Tok.mk 2 r1.1 (Tok.pos b6) (Tok.text b6)), (IntKind.i64.wrap (x7 - x1))))) else none)
def xEI (N : Nat) : Nat → Str → Int → Int → Tok → Tok → Option (Tok × Int)
 | 0, _, _, _, _, _ => none
 | n + 1, x0, x1, x7, b4, b6 => bif (decide (x7 < (List.length x0 : Int))) then (if (0 : Int) ≤ x7 ∧ x7 < (List.length x0) then bif ((((List.getD x0 (Int.toNat x7) 0).toNat : Int) : Int) != 34) then ((xEI N n x0 x1 (IntKind.i64.wrap (x7 + 1)) b4 b6)) else (if (0 : Int) ≤ (IntKind.i64.wrap (x1 + 1)) ∧ (IntKind.i64.wrap (x1 + 1)) ≤ x7 ∧ x7 ≤ (List.length x0) then bif (x7 == (List.length x0 : Int)) then (some ((Tok.mk 3 (Tok.n b6) (Tok.pos b6) (List.drop (Int.toNat (IntKind.i64.wrap (x1 + 1))) (List.take (Int.toNat x7) x0))), 0)) else ((xEd N (List.drop (Int.toNat (IntKind.i64.wrap (x1 + 1))) (List.take (Int.toNat x7) x0))).bind fun r1 => bif (!r1) then (some ((Tok.mk 3 (Tok.n b6) (Tok.pos b6) (List.drop (Int.toNat (IntKind.i64.wrap (x1 + 1))) (List.take (Int.toNat x7) x0))), 0)) else (some ((Tok.mk 3 (Tok.n b6) (Tok.pos b6) (List.drop (Int.toNat (IntKind.i64.wrap (x1 + 1))) (List.take (Int.toNat x7) x0))), (IntKind.i64.wrap ((IntKind.i64.wrap (x7 + 1)) - x1))))) else none) else none) else (if (0 : Int) ≤ (IntKind.i64.wrap (x1 + 1)) ∧ (IntKind.i64.wrap (x1 + 1)) ≤ x7 ∧ x7 ≤ (List.length x0) then bif (x7 == (List.length x0 : Int)) then (some ((Tok.mk 3 (Tok.n b6) (Tok.pos b6) (List.drop (Int.toNat (IntKind.i64.wrap (x1 + 1))) (List.take (Int.toNat x7) x0))), 0)) else ((xEd N (List.drop (Int.toNat (IntKind.i64.wrap (x1 + 1))) (List.take (Int.toNat x7) x0))).bind fun r1 => bif (!r1) then (some ((Tok.mk 3 (Tok.n b6) (Tok.pos b6) (List.drop (Int.toNat (IntKind.i64.wrap (x1 + 1))) (List.take (Int.toNat x7) x0))), 0)) else (some ((Tok.mk 3 (Tok.n b6) (Tok.pos b6) (List.drop (Int.toNat (IntKind.i64.wrap (x1 + 1))) (List.take (Int.toNat x7) x0))), (IntKind.i64.wrap ((IntKind.i64.wrap (x7 + 1)) - x1))))) else none)
def xGN (N : Nat) (a0 : Str) (a1 : Int) : Option (Tok × Int) := if (0 : Int) ≤ a1 ∧ a1 < (List.length a0) then (xFj N ((List.getD a0 (Int.toNat a1) 0).toNat : Int)).bind fun r1 => bif r1 then ((xDA N N a0 a1 a1 (Tok.mk 0 0 0 []) (Tok.mk 0 0 a1 []))) else ((xFc N ((List.getD a0 (Int.toNat a1) 0).toNat : Int)).bind fun r2 => bif r2 then ((xDb N N a0 a1 a1 (Tok.mk 0 0 0 []) (Tok.mk 0 0 a1 []))) else (bif ((((List.getD a0 (Int.toNat a1) 0).toNat : Int) : Int) == 34) then ((xEI N N a0 a1 (IntKind.i64.wrap (a1 + 1)) (Tok.mk 0 0 0 []) (Tok.mk 0 0 a1 []))) else ((xFX N a0 a1).bind fun r3 => if (0 : Int) ≤ a1 ∧ a1 ≤ (IntKind.i64.wrap (a1 + r3)) ∧ (IntKind.i64.wrap (a1 + r3)) ≤ (List.length a0) then some ((Tok.mk 4 0 a1 (List.drop (Int.toNat a1) (List.take (Int.toNat (IntKind.i64.wrap (a1 + r3))) a0))), (IntKind.i64.wrap ((IntKind.i64.wrap (a1 + r3)) - a1))) else none))) else none
def xES (a0 : Str) : List Arg := [.val (.v false [.str a0])]
def xAY (r : (List Tok) × Int) : CallO := ⟨.tup [(false, [.sl .own .tok r.1]), (false, [.int .i64 r.2])], [], []⟩
def xDM (N : Nat) : Nat → Str → (List Tok) → Int → Option ((List Tok) × Int)
 | 0, _, _, _ => none
 | n + 1, x0, x4, x5 => bif (decide (x5 < (List.length x0 : Int))) then (if (0 : Int) ≤ x5 ∧ x5 < (List.length x0) then bif ((((List.getD x0 (Int.toNat x5) 0).toNat : Int) : Int) == 32) then ((xDM N n x0 x4 (IntKind.i64.wrap (x5 + 1)))) else ((xGN N x0 x5).bind fun r1 => bif (r1.2 == 0) then (some ([], x5)) else (bif ((List.length x4 : Int) == 60) then (some ([], x5)) else (if List.length x4 + List.length [r1.1] ≤ Lim then (xDM N n x0 (x4 ++ [r1.1]) (IntKind.i64.wrap (x5 + r1.2))) else none))) else none) else (some (x4, (-1)))
def xFh (N : Nat) (a0 : Str) : Option ((List Tok) × Int) := bif (decide ((List.length a0 : Int) > 120)) then (some ([], 120)) else ((xDM N N a0 [] 0))
def xDf (a0 : Tok) (a1 : Str) : List Arg := [.val (.v true [.int .i64 (Tok.kind a0), .int .i64 (Tok.n a0), .int .i64 (Tok.pos a0), .str (Tok.text a0)]), .val (.v false [.str a1])]
def xAK (r : Bool) : CallO := ⟨.v false [.bool r], [], []⟩
def xC6 (N : Nat) (a0 : Tok) (a1 : Str) : Option (Bool) := bif ((Tok.kind a0) == 4) then (some (((Tok.text a0) : Str) == a1)) else (some false)
def xEE (a0 : Tok) (a1 : Str) : List Arg := [.val (.v true [.int .i64 (Tok.kind a0), .int .i64 (Tok.n a0), .int .i64 (Tok.pos a0), .str (Tok.text a0)]), .val (.v false [.str a1])]
def xDY (r : Bool) : CallO := ⟨.v false [.bool r], [], []⟩
def xFr (N : Nat) (a0 : Tok) (a1 : Str) : Option (Bool) := bif ((Tok.kind a0) == 1) then (some (((Tok.text a0) : Str) == a1)) else (some false)
def xAz (a0 : Rdr) (a1 : Str) : List Arg := [.box (Rr .ro a0), .val (.v false [.str a1])]
def xAd (r : Bool × Rdr) : CallO := ⟨.v false [.bool r.1], [(Rr .ro r.2)], []⟩
def xBq (N : Nat) (a0 : Rdr) (a1 : Str) : Option (Bool × Rdr) := bif (decide ((Rdr.bad a0) < 0)) then (bif (decide ((Rdr.i a0) < (List.length (Rdr.toks a0) : Int))) then (if (0 : Int) ≤ (Rdr.i a0) ∧ (Rdr.i a0) < (List.length (Rdr.toks a0)) then (xC6 N (List.getD (Rdr.toks a0) (Int.toNat (Rdr.i a0)) Ty.tok.dflt) a1).bind fun r1 => bif r1 then (some (true, a0)) else ((xFr N (List.getD (Rdr.toks a0) (Int.toNat (Rdr.i a0)) Ty.tok.dflt) a1).bind fun r2 => some (r2, a0)) else none) else (some (false, a0))) else (some (false, a0))
def xEH (a0 : Str) : List Arg := [.val (.v false [.str a0])]
def xBa (r : Bool) : CallO := ⟨.v false [.bool r], [], []⟩
def xCT (N : Nat) : Nat → Str → Int → Option (Bool)
 | 0, _, _ => none
 | n + 1, x0, x3 => bif (decide (x3 < (List.length x0 : Int))) then (if (0 : Int) ≤ x3 ∧ x3 < (List.length x0) then bif (decide ((((List.getD x0 (Int.toNat x3) 0).toNat : Int) : Int) ≥ 97)) then (bif (decide ((((List.getD x0 (Int.toNat x3) 0).toNat : Int) : Int) ≥ 48)) then (bif (!(decide ((((List.getD x0 (Int.toNat x3) 0).toNat : Int) : Int) ≤ 122))) then (bif (x3 == 0) then (some false) else (bif (!(decide ((((List.getD x0 (Int.toNat x3) 0).toNat : Int) : Int) ≤ 57))) then (some false) else ((xCT N n x0 (IntKind.i64.wrap (x3 + 1)))))) else ((xCT N n x0 (IntKind.i64.wrap (x3 + 1))))) else (bif (!(decide ((((List.getD x0 (Int.toNat x3) 0).toNat : Int) : Int) ≤ 122))) then (bif (x3 == 0) then (some false) else (some false)) else ((xCT N n x0 (IntKind.i64.wrap (x3 + 1)))))) else (bif (decide ((((List.getD x0 (Int.toNat x3) 0).toNat : Int) : Int) ≥ 48)) then (bif (x3 == 0) then (some false) else (bif (!(decide ((((List.getD x0 (Int.toNat x3) 0).toNat : Int) : Int) ≤ 57))) then (some false) else ((xCT N n x0 (IntKind.i64.wrap (x3 + 1)))))) else (bif (x3 == 0) then (some false) else (some false))) else none) else (some (decide ((List.length x0 : Int) > 0)))
def xGZ (N : Nat) (a0 : Str) : Option (Bool) := (xCT N N a0 0)
def xEZ : List Arg := []
def xEq (r : (List Str)) : CallO := ⟨.v false [.sl .own .str r], [], []⟩
def xFW (N : Nat) : Option ((List Str)) := some [[108, 101, 116], [105, 110], [105, 102], [116, 104, 101, 110], [101, 108, 115, 101], [102, 111, 114], [100, 111], [108, 101, 110], [115, 117, 109], [116, 97, 107, 101], [115, 107, 105, 112], [114, 97, 110, 103, 101], [110, 116, 104], [119, 104, 101, 114, 101], [107, 101, 101, 112], [97, 100, 100], [103, 114, 111, 117, 112], [106, 111, 105, 110], [99, 111, 108, 117, 109, 110], [114, 111, 119, 115], [99, 108, 111, 99, 107], [99, 104, 97, 110, 99, 101], [102, 105, 108, 101], [116, 97, 98, 108, 101]]
def xGq (a0 : List Str) (a1 : Str) : List Arg := [.val (.v false [.sl .ro .str a0]), .val (.v false [.str a1])]
def xEQ (r : Bool) : CallO := ⟨.v false [.bool r], [], []⟩
def xEP (N : Nat) : Nat → (List Str) → Str → Int → Option (Bool)
 | 0, _, _, _ => none
 | n + 1, x0, x1, x5 => bif (decide (x5 < (List.length x0 : Int))) then (if (0 : Int) ≤ x5 ∧ x5 < (List.length x0) then bif (((List.getD x0 (Int.toNat x5) Ty.str.dflt) : Str) == x1) then (some true) else ((xEP N n x0 x1 (IntKind.i64.wrap (x5 + 1)))) else none) else (some false)
def xIl (N : Nat) (a0 : List Str) (a1 : Str) : Option (Bool) := (xEP N N a0 a1 0)
def xEY (a0 : Str) : List Arg := [.val (.v false [.str a0])]
def xEn (r : Bool) : CallO := ⟨.v false [.bool r], [], []⟩
def xE6 (N : Nat) (a0 : Str) : Option (Bool) := (xFW N).bind fun r1 => (xIl N r1 a0).bind fun r2 => some r2
def xB6 (a0 : Str) : List Arg := [.val (.v false [.str a0])]
def xAD (r : Bool) : CallO := ⟨.v false [.bool r], [], []⟩
def xCY (N : Nat) (a0 : Str) : Option (Bool) := (xGZ N a0).bind fun r1 => bif r1 then (bif (decide ((List.length a0 : Int) ≤ 8)) then ((xE6 N a0).bind fun r2 => some (!r2)) else (some false)) else (some false)
def xCR (a0 : Rdr) : List Arg := [.box (Rr .ro a0)]
def xAJ (r : Exp × Rdr) : CallO := ⟨.v true (Ex .own r.1), [(Rr .ro r.2)], []⟩
def xBK (N : Nat) (a0 : Rdr) : Option (Exp × Rdr) := bif (decide ((Rdr.bad a0) < 0)) then (bif (decide ((Rdr.i a0) < (List.length (Rdr.toks a0) : Int))) then (if (0 : Int) ≤ (Rdr.i a0) ∧ (Rdr.i a0) < (List.length (Rdr.toks a0)) then some ((Exp.mk 0 0 [] []), (Rdr.mk (Rdr.toks a0) (Rdr.i a0) (Rdr.fin a0) (Tok.pos (List.getD (Rdr.toks a0) (Int.toNat (Rdr.i a0)) Ty.tok.dflt)))) else none) else (some ((Exp.mk 0 0 [] []), (Rdr.mk (Rdr.toks a0) (Rdr.i a0) (Rdr.fin a0) (Rdr.fin a0))))) else (some ((Exp.mk 0 0 [] []), a0))
def xDD (a0 : Rdr) : List Arg := [.box (Rr .ro a0)]
def xCS (r : Str × Rdr) : CallO := ⟨.v false [.str r.1], [(Rr .ro r.2)], []⟩
def xDh (N : Nat) (a0 : Rdr) : Option (Str × Rdr) := bif (decide ((Rdr.bad a0) ≥ 0)) then ((xBK N a0).bind fun r1 => some ([], r1.2)) else (bif (decide ((Rdr.i a0) ≥ (List.length (Rdr.toks a0) : Int))) then ((xBK N a0).bind fun r1 => some ([], r1.2)) else (if (0 : Int) ≤ (Rdr.i a0) ∧ (Rdr.i a0) < (List.length (Rdr.toks a0)) then bif (((Tok.kind (List.getD (Rdr.toks a0) (Int.toNat (Rdr.i a0)) Ty.tok.dflt)) : Int) != 1) then ((xBK N a0).bind fun r1 => some ([], r1.2)) else ((xCY N (Tok.text (List.getD (Rdr.toks a0) (Int.toNat (Rdr.i a0)) Ty.tok.dflt))).bind fun r1 => bif (!r1) then ((xBK N a0).bind fun r2 => some ([], r2.2)) else (if (0 : Int) ≤ (IntKind.i64.wrap ((IntKind.i64.wrap ((Rdr.i a0) + 1)) - 1)) ∧ (IntKind.i64.wrap ((IntKind.i64.wrap ((Rdr.i a0) + 1)) - 1)) < (List.length (Rdr.toks a0)) then some ((Tok.text (List.getD (Rdr.toks a0) (Int.toNat (IntKind.i64.wrap ((IntKind.i64.wrap ((Rdr.i a0) + 1)) - 1))) Ty.tok.dflt)), (Rdr.mk (Rdr.toks a0) (IntKind.i64.wrap ((Rdr.i a0) + 1)) (Rdr.fin a0) (Rdr.bad a0))) else none)) else none))
def xBx (a0 : Rdr) (a1 : Str) : List Arg := [.box (Rr .ro a0), .val (.v false [.str a1])]
def xAB (r : Rdr) : CallO := ⟨.tup [], [(Rr .ro r)], []⟩
def xBk (N : Nat) (a0 : Rdr) (a1 : Str) : Option (Rdr) := (xBq N a0 a1).bind fun r1 => bif (!r1.1) then ((xBK N r1.2).bind fun r2 => some r2.2) else (some (Rdr.mk (Rdr.toks r1.2) (IntKind.i64.wrap ((Rdr.i r1.2) + 1)) (Rdr.fin r1.2) (Rdr.bad r1.2)))
def xF8 (a0 : Int) : List Arg := [.val (.v false [.int .i64 a0])]
def xFs (r : Exp) : CallO := ⟨.v true (Ex .own r), [], []⟩
def xIQ (N : Nat) (a0 : Int) : Option (Exp) := some (Exp.mk 1 a0 [] [])
def xFU (a0 : Str) : List Arg := [.val (.v false [.str a0])]
def xFa (r : Exp) : CallO := ⟨.v true (Ex .own r), [], []⟩
def xId (N : Nat) (a0 : Str) : Option (Exp) := some (Exp.mk 3 0 a0 [])
def xAo (a0 : Str) : List Arg := [.val (.v false [.str a0])]
def xAi (r : Int) : CallO := ⟨.v false [.int .i64 r], [], []⟩
def xB2 (N : Nat) (a0 : Str) : Option (Int) := bif ((a0 : Str) == [99, 108, 111, 99, 107]) then (some 0) else (bif ((a0 : Str) == [108, 101, 110]) then (some 1) else (bif ((a0 : Str) == [115, 117, 109]) then (some 1) else (bif ((a0 : Str) == [114, 111, 119, 115]) then (some 1) else (bif ((a0 : Str) == [99, 104, 97, 110, 99, 101]) then (some 1) else (bif ((a0 : Str) == [102, 105, 108, 101]) then (some 1) else (bif ((a0 : Str) == [116, 97, 107, 101]) then (some 2) else (bif ((a0 : Str) == [115, 107, 105, 112]) then (some 2) else (bif ((a0 : Str) == [114, 97, 110, 103, 101]) then (some 2) else (bif ((a0 : Str) == [110, 116, 104]) then (some 2) else (bif ((a0 : Str) == [107, 101, 101, 112]) then (some 2) else (bif ((a0 : Str) == [99, 111, 108, 117, 109, 110]) then (some 2) else (bif ((a0 : Str) == [116, 97, 98, 108, 101]) then (some 2) else (bif ((a0 : Str) == [119, 104, 101, 114, 101]) then (some 3) else (bif ((a0 : Str) == [103, 114, 111, 117, 112]) then (some 3) else (bif ((a0 : Str) == [106, 111, 105, 110]) then (some 3) else (bif ((a0 : Str) == [97, 100, 100]) then (some 4) else (some (-1))))))))))))))))))
def xDy (a0 : Int) (a1 : Exp) (a2 : Exp) : List Arg := [.val (.v false [.int .i64 a0]), .val (.v true (Ex .ro a1)), .val (.v true (Ex .ro a2))]
def xBJ (r : Exp) : CallO := ⟨.v true (Ex .tip r), [], []⟩
def xD0 (N : Nat) (a0 : Int) (a1 : Exp) (a2 : Exp) : Option (Exp) := some (Exp.mk 6 a0 [] [(Exp.re a1), (Exp.re a2)])
def xD7 (a0 : Rdr) (a1 : Str) : List Arg := [.box (Rr .ro a0), .val (.v false [.str a1])]
def xB7 (r : (List Exp) × Rdr) : CallO := ⟨.v false [.sl .tip .exp r.1], [(Rr .ro r.2)], []⟩
def xEF (N : Nat) (q0 : Rdr → Str → Option ((List Exp) × Rdr)) (q1 : Rdr → Option (Exp × Rdr)) (q2 : Rdr → Option (Exp × Rdr)) (q3 : Rdr → Option (Exp × Rdr)) (q4 : Rdr → Option (Exp × Rdr)) (q5 : Rdr → Option (Exp × Rdr)) : Nat → Str → (List Exp) → Rdr → Option ((List Exp) × Rdr)
 | 0, _, _, _ => none
 | n + 1, x1, x5, b0 => bif (decide ((Rdr.bad b0) < 0)) then ((q3 b0).bind fun r1 => if List.length x5 + List.length [(Exp.re r1.1)] ≤ Lim then (xBq N r1.2 [44]).bind fun r2 => bif (!r2.1) then ((xBk N r2.2 x1).bind fun r3 => some ((x5 ++ [(Exp.re r1.1)]), r3)) else ((xEF N q0 q1 q2 q3 q4 q5 n x1 (x5 ++ [(Exp.re r1.1)]) (Rdr.mk (Rdr.toks r2.2) (IntKind.i64.wrap ((Rdr.i r2.2) + 1)) (Rdr.fin r2.2) (Rdr.bad r2.2)))) else none) else ((xBk N b0 x1).bind fun r1 => some (x5, r1))
def xDs (N : Nat) (q0 : Rdr → Str → Option ((List Exp) × Rdr)) (q1 : Rdr → Option (Exp × Rdr)) (q2 : Rdr → Option (Exp × Rdr)) (q3 : Rdr → Option (Exp × Rdr)) (q4 : Rdr → Option (Exp × Rdr)) (q5 : Rdr → Option (Exp × Rdr)) (a0 : Rdr) (a1 : Str) : Option ((List Exp) × Rdr) := (xBq N a0 a1).bind fun r1 => bif r1.1 then (some ([], (Rdr.mk (Rdr.toks r1.2) (IntKind.i64.wrap ((Rdr.i r1.2) + 1)) (Rdr.fin r1.2) (Rdr.bad r1.2)))) else ((xEF N q0 q1 q2 q3 q4 q5 N a1 [] r1.2))
def xBf (a0 : Rdr) : List Arg := [.box (Rr .ro a0)]
def xA9 (r : Exp × Rdr) : CallO := ⟨.v true (Ex .ro r.1), [(Rr .ro r.2)], []⟩
def xDt (N : Nat) (q0 : Rdr → Str → Option ((List Exp) × Rdr)) (q1 : Rdr → Option (Exp × Rdr)) (q2 : Rdr → Option (Exp × Rdr)) (q3 : Rdr → Option (Exp × Rdr)) (q4 : Rdr → Option (Exp × Rdr)) (q5 : Rdr → Option (Exp × Rdr)) (a0 : Rdr) : Option (Exp × Rdr) := bif (decide ((Rdr.bad a0) ≥ 0)) then ((xBK N a0).bind fun r1 => some (r1.1, r1.2)) else (bif (decide ((Rdr.i a0) ≥ (List.length (Rdr.toks a0) : Int))) then ((xBK N a0).bind fun r1 => some (r1.1, r1.2)) else (if (0 : Int) ≤ (Rdr.i a0) ∧ (Rdr.i a0) < (List.length (Rdr.toks a0)) then bif (((Tok.kind (List.getD (Rdr.toks a0) (Int.toNat (Rdr.i a0)) Ty.tok.dflt)) : Int) == 2) then ((xIQ N (Tok.n (List.getD (Rdr.toks a0) (Int.toNat (Rdr.i a0)) Ty.tok.dflt))).bind fun r1 => some (r1, (Rdr.mk (Rdr.toks a0) (IntKind.i64.wrap ((Rdr.i a0) + 1)) (Rdr.fin a0) (Rdr.bad a0)))) else (bif (((Tok.kind (List.getD (Rdr.toks a0) (Int.toNat (Rdr.i a0)) Ty.tok.dflt)) : Int) == 3) then (some ((Exp.mk 2 0 (Tok.text (List.getD (Rdr.toks a0) (Int.toNat (Rdr.i a0)) Ty.tok.dflt)) []), (Rdr.mk (Rdr.toks a0) (IntKind.i64.wrap ((Rdr.i a0) + 1)) (Rdr.fin a0) (Rdr.bad a0)))) else (bif (((Tok.kind (List.getD (Rdr.toks a0) (Int.toNat (Rdr.i a0)) Ty.tok.dflt)) : Int) == 1) then ((xCY N (Tok.text (List.getD (Rdr.toks a0) (Int.toNat (Rdr.i a0)) Ty.tok.dflt))).bind fun r1 => bif r1 then ((xId N (Tok.text (List.getD (Rdr.toks a0) (Int.toNat (Rdr.i a0)) Ty.tok.dflt))).bind fun r2 => some (r2, (Rdr.mk (Rdr.toks a0) (IntKind.i64.wrap ((Rdr.i a0) + 1)) (Rdr.fin a0) (Rdr.bad a0)))) else ((xB2 N (Tok.text (List.getD (Rdr.toks a0) (Int.toNat (Rdr.i a0)) Ty.tok.dflt))).bind fun r2 => bif (decide (r2 ≥ 0)) then ((xBk N (Rdr.mk (Rdr.toks a0) (IntKind.i64.wrap ((Rdr.i a0) + 1)) (Rdr.fin a0) (Rdr.bad a0)) [40]).bind fun r3 => (q0 r3 [41]).bind fun r4 => some ((Exp.mk 5 0 (Tok.text (List.getD (Rdr.toks a0) (Int.toNat (Rdr.i a0)) Ty.tok.dflt)) r4.1), r4.2)
     ) else ((xC6 N (List.getD (Rdr.toks a0) (Int.toNat (Rdr.i a0)) Ty.tok.dflt) [91]).bind fun r3 => bif r3 then ((q0 (Rdr.mk (Rdr.toks a0) (IntKind.i64.wrap ((Rdr.i a0) + 1)) (Rdr.fin a0) (Rdr.bad a0)) [93]).bind fun r4 => some ((Exp.mk 4 0 [] r4.1), r4.2)) else ((xC6 N (List.getD (Rdr.toks a0) (Int.toNat (Rdr.i a0)) Ty.tok.dflt) [40]).bind fun r4 => bif r4 then ((q3 (Rdr.mk (Rdr.toks a0) (IntKind.i64.wrap ((Rdr.i a0) + 1)) (Rdr.fin a0) (Rdr.bad a0))).bind fun r5 => (xBk N r5.2 [41]).bind fun r6 => some (r5.1, r6)) else ((xBK N a0).bind fun r5 => some (r5.1, r5.2)))))) else ((xC6 N (List.getD (Rdr.toks a0) (Int.toNat (Rdr.i a0)) Ty.tok.dflt) [91]).bind fun r1 => bif r1 then ((q0 (Rdr.mk (Rdr.toks a0) (IntKind.i64.wrap ((Rdr.i a0) + 1)) (Rdr.fin a0) (Rdr.bad a0)) [93]).bind fun r2 => some ((Exp.mk 4 0 [] r2.1), r2.2)) else ((xC6 N (List.getD (Rdr.toks a0) (Int.toNat (Rdr.i a0)) Ty.tok.dflt) [40]).bind fun r2 => bif r2 then ((q3 (Rdr.mk (Rdr.toks a0) (IntKind.i64.wrap ((Rdr.i a0) + 1)) (Rdr.fin a0) (Rdr.bad a0))).bind fun r3 => (xBk N r3.2 [41]).bind fun r4 => some (r3.1, r4)) else ((xBK N a0).bind fun r3 => some (r3.1, r3.2)))))) else none))
def xC8 (a0 : Rdr) : List Arg := [.box (Rr .ro a0)]
def xCN (r : Exp × Rdr) : CallO := ⟨.v true (Ex .ro r.1), [(Rr .ro r.2)], []⟩
def xCK (N : Nat) (q0 : Rdr → Str → Option ((List Exp) × Rdr)) (q1 : Rdr → Option (Exp × Rdr)) (q2 : Rdr → Option (Exp × Rdr)) (q3 : Rdr → Option (Exp × Rdr)) (q4 : Rdr → Option (Exp × Rdr)) (q5 : Rdr → Option (Exp × Rdr)) (a0 : Rdr) : Option (Exp × Rdr) := (q5 a0).bind fun r1 => (xBq N r1.2 [60]).bind fun r2 => bif r2.1 then ((q5 (Rdr.mk (Rdr.toks r2.2) (IntKind.i64.wrap ((Rdr.i r2.2) + 1)) (Rdr.fin r2.2) (Rdr.bad r2.2))).bind fun r3 => (xD0 N 4 r1.1 r3.1).bind fun r4 => some (r4, r3.2)) else ((xBq N r2.2 [61, 61]).bind fun r3 => bif r3.1 then ((q5 (Rdr.mk (Rdr.toks r3.2) (IntKind.i64.wrap ((Rdr.i r3.2) + 1)) (Rdr.fin r3.2) (Rdr.bad r3.2))).bind fun r4 => (xD0 N 5 r1.1 r4.1).bind fun r5 => some (r5, r4.2)) else (some (r1.1, r3.2)))
def xB8 (a0 : Rdr) : List Arg := [.box (Rr .ro a0)]
def xAq (r : Exp × Rdr) : CallO := ⟨.v true (Ex .ro r.1), [(Rr .ro r.2)], []⟩
def xDu (N : Nat) (q0 : Rdr → Str → Option ((List Exp) × Rdr)) (q1 : Rdr → Option (Exp × Rdr)) (q2 : Rdr → Option (Exp × Rdr)) (q3 : Rdr → Option (Exp × Rdr)) (q4 : Rdr → Option (Exp × Rdr)) (q5 : Rdr → Option (Exp × Rdr)) (a0 : Rdr) : Option (Exp × Rdr) := (xBq N a0 [108, 101, 116]).bind fun r1 => bif r1.1 then ((xDh N (Rdr.mk (Rdr.toks r1.2) (IntKind.i64.wrap ((Rdr.i r1.2) + 1)) (Rdr.fin r1.2) (Rdr.bad r1.2))).bind fun r2 => (xBk N r2.2 [61]).bind fun r3 => (q3 r3).bind fun r4 => (xBk N r4.2 [105, 110]).bind fun r5 => (q3 r5).bind fun r6 => some ((Exp.mk 7 0 r2.1 [(Exp.re r4.1), (Exp.re r6.1)]), r6.2)) else ((xBq N r1.2 [105, 102]).bind fun r2 => bif r2.1 then ((q3 (Rdr.mk (Rdr.toks r2.2) (IntKind.i64.wrap ((Rdr.i r2.2) + 1)) (Rdr.fin r2.2) (Rdr.bad r2.2))).bind fun r3 => (xBk N r3.2 [116, 104, 101, 110]).bind fun r4 => (q3 r4).bind fun r5 => (xBk N r5.2 [101, 108, 115, 101]).bind fun r6 => (q3 r6).bind fun r7 => some ((Exp.mk 8 0 [] [(Exp.re r3.1), (Exp.re r5.1), (Exp.re r7.1)]), r7.2)) else ((xBq N r2.2 [102, 111, 114]).bind fun r3 => bif r3.1 then ((xDh N (Rdr.mk (Rdr.toks r3.2) (IntKind.i64.wrap ((Rdr.i r3.2) + 1)) (Rdr.fin r3.2) (Rdr.bad r3.2))).bind fun r4 => (xBk N r4.2 [105, 110]).bind fun r5 => (q3 r5).bind fun r6 => (xBk N r6.2 [100, 111]).bind fun r7 => (q3 r7).bind fun r8 => some ((Exp.mk 9 0 r4.1 [(Exp.re r6.1), (Exp.re r8.1)]), r8.2)) else ((q2 r3.2).bind fun r4 => some (r4.1, r4.2))))
def xDJ (a0 : Rdr) : List Arg := [.box (Rr .ro a0)]
def xBv (r : Exp × Rdr) : CallO := ⟨.v true (Ex .ro r.1), [(Rr .ro r.2)], []⟩
def xCO (N : Nat) (q0 : Rdr → Str → Option ((List Exp) × Rdr)) (q1 : Rdr → Option (Exp × Rdr)) (q2 : Rdr → Option (Exp × Rdr)) (q3 : Rdr → Option (Exp × Rdr)) (q4 : Rdr → Option (Exp × Rdr)) (q5 : Rdr → Option (Exp × Rdr)) : Nat → Rdr → Exp → Exp → Option (Exp × Rdr)
 | 0, _, _, _ => none
 | n + 1, b0, b2, b3 => (xBq N b0 [42]).bind fun r1 => bif r1.1 then ((q1 (Rdr.mk (Rdr.toks r1.2) (IntKind.i64.wrap ((Rdr.i r1.2) + 1)) (Rdr.fin r1.2) (Rdr.bad r1.2))).bind fun r2 => (xD0 N 3 b3 r2.1).bind fun r3 => (xCO N q0 q1 q2 q3 q4 q5 n r2.2 b2 r3)) else (some (b3, r1.2))
def xCL (N : Nat) (q0 : Rdr → Str → Option ((List Exp) × Rdr)) (q1 : Rdr → Option (Exp × Rdr)) (q2 : Rdr → Option (Exp × Rdr)) (q3 : Rdr → Option (Exp × Rdr)) (q4 : Rdr → Option (Exp × Rdr)) (q5 : Rdr → Option (Exp × Rdr)) (a0 : Rdr) : Option (Exp × Rdr) := (q1 a0).bind fun r1 => (xCO N q0 q1 q2 q3 q4 q5 N r1.2 (Exp.mk 0 0 [] []) r1.1)
def xDW (a0 : Rdr) : List Arg := [.box (Rr .ro a0)]
def xB3 (r : Exp × Rdr) : CallO := ⟨.v true (Ex .ro r.1), [(Rr .ro r.2)], []⟩
def xCC (N : Nat) (q0 : Rdr → Str → Option ((List Exp) × Rdr)) (q1 : Rdr → Option (Exp × Rdr)) (q2 : Rdr → Option (Exp × Rdr)) (q3 : Rdr → Option (Exp × Rdr)) (q4 : Rdr → Option (Exp × Rdr)) (q5 : Rdr → Option (Exp × Rdr)) : Nat → Rdr → Exp → Exp → Option (Exp × Rdr)
 | 0, _, _, _ => none
 | n + 1, b0, b2, b3 => (xBq N b0 [43]).bind fun r1 => bif r1.1 then ((xBq N r1.2 [45]).bind fun r2 => bif r2.1 then ((q4 (Rdr.mk (Rdr.toks r2.2) (IntKind.i64.wrap ((Rdr.i r2.2) + 1)) (Rdr.fin r2.2) (Rdr.bad r2.2))).bind fun r3 => (xD0 N 2 b3 r3.1).bind fun r4 => (xCC N q0 q1 q2 q3 q4 q5 n r3.2 b2 r4)) else ((q4 (Rdr.mk (Rdr.toks r2.2) (IntKind.i64.wrap ((Rdr.i r2.2) + 1)) (Rdr.fin r2.2) (Rdr.bad r2.2))).bind fun r3 => (xD0 N 1 b3 r3.1).bind fun r4 => (xCC N q0 q1 q2 q3 q4 q5 n r3.2 b2 r4))) else ((xBq N r1.2 [45]).bind fun r2 => bif r2.1 then ((xBq N r2.2 [45]).bind fun r3 => bif r3.1 then ((q4 (Rdr.mk (Rdr.toks r3.2) (IntKind.i64.wrap ((Rdr.i r3.2) + 1)) (Rdr.fin r3.2) (Rdr.bad r3.2))).bind fun r4 => (xD0 N 2 b3 r4.1).bind fun r5 => (xCC N q0 q1 q2 q3 q4 q5 n r4.2 b2 r5)) else ((q4 (Rdr.mk (Rdr.toks r3.2) (IntKind.i64.wrap ((Rdr.i r3.2) + 1)) (Rdr.fin r3.2) (Rdr.bad r3.2))).bind fun r4 => (xD0 N 1 b3 r4.1).bind fun r5 => (xCC N q0 q1 q2 q3 q4 q5 n r4.2 b2 r5))) else (some (b3, r2.2)))
def xDN (N : Nat) (q0 : Rdr → Str → Option ((List Exp) × Rdr)) (q1 : Rdr → Option (Exp × Rdr)) (q2 : Rdr → Option (Exp × Rdr)) (q3 : Rdr → Option (Exp × Rdr)) (q4 : Rdr → Option (Exp × Rdr)) (q5 : Rdr → Option (Exp × Rdr)) (a0 : Rdr) : Option (Exp × Rdr) := (q4 a0).bind fun r1 => (xCC N q0 q1 q2 q3 q4 q5 N r1.2 (Exp.mk 0 0 [] []) r1.1)
structure spec_l11Args_rec where
 c_spec_l11Args : Rdr → Str → Option ((List Exp) × Rdr)
 c_spec_l11Atom : Rdr → Option (Exp × Rdr)
 c_spec_l11Compare : Rdr → Option (Exp × Rdr)
 c_spec_l11Expr : Rdr → Option (Exp × Rdr)
 c_spec_l11Product : Rdr → Option (Exp × Rdr)
 c_spec_l11Sum : Rdr → Option (Exp × Rdr)
def xAa (N : Nat) : Nat → spec_l11Args_rec
 | 0 => ⟨fun _ _ => none, fun _ => none, fun _ => none, fun _ => none, fun _ => none, fun _ => none⟩
 | d + 1 => ⟨xDs N (xAa N d).c_spec_l11Args (xAa N d).c_spec_l11Atom (xAa N d).c_spec_l11Compare (xAa N d).c_spec_l11Expr (xAa N d).c_spec_l11Product (xAa N d).c_spec_l11Sum, xDt N (xAa N d).c_spec_l11Args (xAa N d).c_spec_l11Atom (xAa N d).c_spec_l11Compare (xAa N d).c_spec_l11Expr (xAa N d).c_spec_l11Product (xAa N d).c_spec_l11Sum, xCK N (xAa N d).c_spec_l11Args (xAa N d).c_spec_l11Atom (xAa N d).c_spec_l11Compare (xAa N d).c_spec_l11Expr (xAa N d).c_spec_l11Product (xAa N d).c_spec_l11Sum, xDu N (xAa N d).c_spec_l11Args (xAa N d).c_spec_l11Atom (xAa N d).c_spec_l11Compare (xAa N d).c_spec_l11Expr (xAa N d).c_spec_l11Product (xAa N d).c_spec_l11Sum, xCL N (xAa N d).c_spec_l11Args (xAa N d).c_spec_l11Atom (xAa N d).c_spec_l11Compare (xAa N d).c_spec_l11Expr (xAa N d).c_spec_l11Product (xAa N d).c_spec_l11Sum, xDN N (xAa N d).c_spec_l11Args (xAa N d).c_spec_l11Atom (xAa N d).c_spec_l11Compare (xAa N d).c_spec_l11Expr (xAa N d).c_spec_l11Product (xAa N d).c_spec_l11Sum⟩
def xGX (N : Nat) (a0 : Rdr) : Option (Exp × Rdr) := (xAa N N).c_spec_l11Expr a0
def xC7 (a0 : Exp) (a1 : Int) : List Arg := [.val (.v true (Ex .ro a0)), .val (.v false [.int .i64 a1])]
def xBw (r : Int) : CallO := ⟨.v false [.int .i64 r], [], []⟩
def xDC (N : Nat) (q0 : Exp → Int → Option (Int)) : Nat → Int → Int → Exp → Option (Int)
 | 0, _, _, _ => none
 | n + 1, x1, x5, b2 => bif (decide (x5 < (List.length (Exp.args b2) : Int))) then (bif (decide (x1 ≥ 0)) then (if (0 : Int) ≤ x5 ∧ x5 < (List.length (Exp.args b2)) then (q0 (List.getD (Exp.args b2) (Int.toNat x5) Ty.exp.dflt) x1).bind fun r1 => (xDC N q0 n r1 (IntKind.i64.wrap (x5 + 1)) b2) else none) else (some x1)) else (some x1)
def xF5 (N : Nat) (q0 : Exp → Int → Option (Int)) (a0 : Exp) (a1 : Int) : Option (Int) := (xDC N q0 N (IntKind.i64.wrap (a1 - 1)) 0 a0)
def xEg (N : Nat) : Nat → Exp → Int → Option (Int)
 | 0, _, _ => none
 | d + 1, a0, a1 => xF5 N (xEg N d) a0 a1
def xIc (N : Nat) (a0 : Exp) (a1 : Int) : Option (Int) := xEg N N a0 a1
def xFV (a0 : Int) (a1 : Int) : List Arg := [.val (.v false [.int .i64 a0]), .val (.v false [.int .i64 a1])]
def xFi (r : Int) : CallO := ⟨.v false [.int .i64 r], [], []⟩
def xHn (N : Nat) (a0 : Int) (a1 : Int) : Option (Int) := bif (decide (a0 > a1)) then (some a0) else (some a1)
def xC3 (a0 : Exp) : List Arg := [.val (.v true (Ex .ro a0))]
def xBF (r : Int) : CallO := ⟨.v false [.int .i64 r], [], []⟩
def xDZ (N : Nat) (q0 : Exp → Option (Int)) : Nat → Int → Int → Exp → Option (Int)
 | 0, _, _, _ => none
 | n + 1, x3, x4, b1 => bif (decide (x4 < (List.length (Exp.args b1) : Int))) then (if (0 : Int) ≤ x4 ∧ x4 < (List.length (Exp.args b1)) then (q0 (List.getD (Exp.args b1) (Int.toNat x4) Ty.exp.dflt)).bind fun r1 => (xHn N x3 r1).bind fun r2 => (xDZ N q0 n r2 (IntKind.i64.wrap (x4 + 1)) b1) else none) else (some (IntKind.i64.wrap (x3 + 1)))
def xFF (N : Nat) (q0 : Exp → Option (Int)) (a0 : Exp) : Option (Int) := (xDZ N q0 N 0 0 a0)
def xEo (N : Nat) : Nat → Exp → Option (Int)
 | 0, _ => none
 | d + 1, a0 => xFF N (xEo N d) a0
def xG9 (N : Nat) (a0 : Exp) : Option (Int) := xEo N N a0
def xEL (a0 : Int) (a1 : Int) (a2 : Int) : List Arg := [.val (.v false [.int .i64 a0]), .val (.v false [.int .i64 a1]), .val (.v false [.int .i64 a2])]
def xDi (r : Bool) : CallO := ⟨.v false [.bool r], [], []⟩
def xGK (N : Nat) (a0 : Int) (a1 : Int) (a2 : Int) : Option (Bool) := bif (decide (a0 ≥ a1)) then (some (decide (a0 ≤ a2))) else (some false)
def xAu (a0 : Exp) : List Arg := [.val (.v true (Ex .ro a0))]
def xAt (r : Bool) : CallO := ⟨.v false [.bool r], [], []⟩
def xGg (N : Nat) (a0 : Exp) : Option (Bool) := bif ((Exp.kind a0) == 1) then (bif ((List.length (Exp.args a0) : Int) == 0) then (bif (((Exp.text a0) : Str) == []) then ((xGK N (Exp.n a0) 0 1000000000).bind fun r1 => some r1) else (some false)) else (some false)) else (bif ((Exp.kind a0) == 2) then (bif ((List.length (Exp.args a0) : Int) == 0) then (bif ((Exp.n a0) == 0) then ((xEd N (Exp.text a0)).bind fun r1 => some r1) else (some false)) else (some false)) else (bif ((Exp.kind a0) == 3) then (bif ((List.length (Exp.args a0) : Int) == 0) then (bif ((Exp.n a0) == 0) then ((xCY N (Exp.text a0)).bind fun r1 => some r1) else (some false)) else (some false)) else (bif ((Exp.kind a0) == 4) then (bif ((Exp.n a0) == 0) then (bif (((Exp.text a0) : Str) == []) then (some (decide ((List.length (Exp.args a0) : Int) ≤ 8))) else (some false)) else (some false)) else (bif ((Exp.kind a0) == 5) then (bif ((Exp.n a0) == 0) then ((xB2 N (Exp.text a0)).bind fun r1 => some ((List.length (Exp.args a0) : Int) == r1)) else (some false)) else (bif ((Exp.kind a0) == 6) then (bif (((Exp.text a0) : Str) == []) then (bif ((List.length (Exp.args a0) : Int) == 2) then ((xGK N (Exp.n a0) 1 5).bind fun r1 => some r1) else (some false)) else (some false)) else (bif ((Exp.kind a0) == 7) then (bif ((Exp.n a0) == 0) then (bif ((List.length (Exp.args a0) : Int) == 2) then ((xCY N (Exp.text a0)).bind fun r1 => some r1) else (some false)) else (some false)) else (bif ((Exp.kind a0) == 9) then (bif ((Exp.n a0) == 0) then (bif ((List.length (Exp.args a0) : Int) == 2) then ((xCY N (Exp.text a0)).bind fun r1 => some r1) else (some false)) else (some false)) else (bif ((Exp.kind a0) == 8) then (bif ((Exp.n a0) == 0) then (bif (((Exp.text a0) : Str) == []) then (some ((List.length (Exp.args a0) : Int) == 3)
            ) else (some false)) else (some false)) else (some false)))))))))
def xDV (a0 : Exp) : List Arg := [.val (.v true (Ex .ro a0))]
def xCc (r : Bool) : CallO := ⟨.v false [.bool r], [], []⟩
def xEv (N : Nat) (q0 : Exp → Option (Bool)) : Nat → Int → Exp → Option (Bool)
 | 0, _, _ => none
 | n + 1, x3, b1 => bif (decide (x3 < (List.length (Exp.args b1) : Int))) then (if (0 : Int) ≤ x3 ∧ x3 < (List.length (Exp.args b1)) then (q0 (List.getD (Exp.args b1) (Int.toNat x3) Ty.exp.dflt)).bind fun r1 => bif (!r1) then (some false) else ((xEv N q0 n (IntKind.i64.wrap (x3 + 1)) b1)) else none) else ((xGg N b1).bind fun r1 => some r1)
def xGk (N : Nat) (q0 : Exp → Option (Bool)) (a0 : Exp) : Option (Bool) := (xEv N q0 N 0 a0)
def xE9 (N : Nat) : Nat → Exp → Option (Bool)
 | 0, _ => none
 | d + 1, a0 => xGk N (xE9 N d) a0
def xIO (N : Nat) (a0 : Exp) : Option (Bool) := xE9 N N a0
def xCt (a0 : Exp) : List Arg := [.val (.v true (Ex .ro a0))]
def xAN (r : Bool) : CallO := ⟨.v false [.bool r], [], []⟩
def xCz (N : Nat) (a0 : Exp) : Option (Bool) := (xIc N a0 40).bind fun r1 => bif (decide (r1 ≥ 0)) then ((xG9 N a0).bind fun r2 => bif (decide (r2 ≤ 8)) then ((xIO N a0).bind fun r3 => some r3) else (some false)) else (some false)
def xBh (a0 : Str) : List Arg := [.val (.v false [.str a0])]
def xBi (r : Exp × Int) : CallO := ⟨.tup [(true, (Ex .ro r.1)), (false, [.int .i64 r.2])], [], []⟩
def xEu (N : Nat) (a0 : Str) : Option (Exp × Int) := (xFh N a0).bind fun r1 => bif (decide (r1.2 ≥ 0)) then (some ((Exp.mk 0 0 [] []), r1.2)) else ((xGX N (Rdr.mk r1.1 0 (List.length a0 : Int) (-1))).bind fun r2 => bif (decide ((Rdr.bad r2.2) < 0)) then (bif (decide ((Rdr.i r2.2) < (List.length r1.1 : Int))) then ((xBK N r2.2).bind fun r3 => bif (decide ((Rdr.bad r3.2) ≥ 0)) then (some ((Exp.mk 0 0 [] []), (Rdr.bad r3.2))) else ((xCz N r2.1).bind fun r4 => bif (!r4) then (some ((Exp.mk 0 0 [] []), 0)) else (some (r2.1, (-1))))) else (bif (decide ((Rdr.bad r2.2) ≥ 0)) then (some ((Exp.mk 0 0 [] []), (Rdr.bad r2.2))) else ((xCz N r2.1).bind fun r3 => bif (!r3) then (some ((Exp.mk 0 0 [] []), 0)) else (some (r2.1, (-1)))))) else (bif (decide ((Rdr.bad r2.2) ≥ 0)) then (some ((Exp.mk 0 0 [] []), (Rdr.bad r2.2))) else ((xCz N r2.1).bind fun r3 => bif (!r3) then (some ((Exp.mk 0 0 [] []), 0)) else (some (r2.1, (-1))))))
def xIY (a0 : Str) (a1 : Int) (a2 : Int) : List Arg := [.val (.v false [.str a0]), .val (.v false [.int .i64 a1]), .val (.v false [.int .i64 a2])]
def xFO (r : Int × Bool) : CallO := ⟨.tup [(false, [.int .i64 r.1]), (false, [.bool r.2])], [], []⟩
def xGu (N : Nat) (a0 : Str) (a1 a2 : Int) : Option (Int × Bool) := zEp a0 a1 a2
def xFn (a0 : Str) (a1 : Int) : List Arg := [.val (.v false [.str a0]), .val (.v false [.int .u8 a1])]
def xAO (r : Int) : CallO := ⟨.v false [.int .i64 r], [], []⟩
def strings_IndexByte (N : Nat) (a0 : Str) (a1 : Int) : Option Int := zFI a0 a1
def xDn (a0 : Str) : List Arg := [.val (.v false [.str a0])]
def xAM (r : Bool) : CallO := ⟨.v false [.bool r], [], []⟩
def xD1 (N : Nat) : Nat → Str → Int → Option (Bool)
 | 0, _, _ => none
 | n + 1, x0, x3 => bif (decide (x3 < (List.length x0 : Int))) then (if (0 : Int) ≤ x3 ∧ x3 < (List.length x0) then bif (decide ((((List.getD x0 (Int.toNat x3) 0).toNat : Int) : Int) < 32)) then (some false) else (bif (decide ((((List.getD x0 (Int.toNat x3) 0).toNat : Int) : Int) > 126)) then (some false) else (bif ((((List.getD x0 (Int.toNat x3) 0).toNat : Int) : Int) == 34) then (some false) else ((xD1 N n x0 (IntKind.i64.wrap (x3 + 1)))))) else none) else (some (decide ((List.length x0 : Int) ≤ 20)))
def xCW (N : Nat) (a0 : Str) : Option (Bool) := (xD1 N N a0 0)
def xGo (a0 : Str) (a1 : Str) : List Arg := [.val (.v false [.str a0]), .val (.v false [.str a1])]
def xBz (r : Bool) : CallO := ⟨.v false [.bool r], [], []⟩
def strings_HasPrefix (N : Nat) (a0 a1 : Str) : Option Bool := zFH a0 a1
def xAG (a0 : Str) (a1 : Int) : List Arg := [.val (.v false [.str a0]), .val (.v false [.int .i64 a1])]
def xAQ (r : Tok × Int × Bool) : CallO := ⟨.tup [(true, [.int .i64 (Tok.kind r.1), .int .i64 (Tok.n r.1), .int .i64 (Tok.pos r.1), .str (Tok.text r.1)]), (false, [.int .i64 r.2.1]), (false, [.bool r.2.2])], [], []⟩
def xCs (N : Nat) : Nat → Str → Int → Int → Tok → Option (Tok × Int × Bool)
 | 0, _, _, _, _ => none
 | n + 1, x0, x1, x7, b4 => bif (decide (x7 < (List.length x0 : Int))) then (if (0 : Int) ≤ x7 ∧ x7 < (List.length x0) then bif (decide ((((List.getD x0 (Int.toNat x7) 0).toNat : Int) : Int) ≥ 97)) then (bif (decide ((((List.getD x0 (Int.toNat x7) 0).toNat : Int) : Int) ≤ 122)) then ((xCs N n x0 x1 (IntKind.i64.wrap (x7 + 1)) b4)) else (bif (decide ((((List.getD x0 (Int.toNat x7) 0).toNat : Int) : Int) ≥ 48)) then (bif (decide ((((List.getD x0 (Int.toNat x7) 0).toNat : Int) : Int) ≤ 57)) then ((xCs N n x0 x1 (IntKind.i64.wrap (x7 + 1)) b4)) else (if (0 : Int) ≤ x1 ∧ x1 ≤ x7 ∧ x7 ≤ (List.length x0) then some ((Tok.mk 1 0 x1 (List.drop (Int.toNat x1) (List.take (Int.toNat x7) x0))), x7, (decide ((IntKind.i64.wrap (x7 - x1)) ≤ 8))) else none)) else (if (0 : Int) ≤ x1 ∧ x1 ≤ x7 ∧ x7 ≤ (List.length x0) then some ((Tok.mk 1 0 x1 (List.drop (Int.toNat x1) (List.take (Int.toNat x7) x0))), x7, (decide ((IntKind.i64.wrap (x7 - x1)) ≤ 8))) else none))) else (bif (decide ((((List.getD x0 (Int.toNat x7) 0).toNat : Int) : Int) ≥ 48)) then (bif (decide ((((List.getD x0 (Int.toNat x7) 0).toNat : Int) : Int) ≤ 57)) then ((xCs N n x0 x1 (IntKind.i64.wrap (x7 + 1)) b4)) else (if (0 : Int) ≤ x1 ∧ x1 ≤ x7 ∧ x7 ≤ (List.length x0) then some ((Tok.mk 1 0 x1 (List.drop (Int.toNat x1) (List.take (Int.toNat x7) x0))), x7, (decide ((IntKind.i64.wrap (x7 - x1)) ≤ 8))) else none)) else (if (0 : Int) ≤ x1 ∧ x1 ≤ x7 ∧ x7 ≤ (List.length x0) then some ((Tok.mk 1 0 x1 (List.drop (Int.toNat x1) (List.take (Int.toNat x7) x0))), x7, (decide ((IntKind.i64.wrap (x7 - x1)) ≤ 8))) else none)) else none) else (if (0 : Int) ≤ x1 ∧ x1 ≤ x7 ∧ x7 ≤ (List.length x0) then some ((Tok.mk 1 0 x1 (List.drop (Int.toNat x1) (List.take (Int.toNat x7) x0))), x7, (decide ((IntKind.i64.wrap (x7 - x1)) ≤ 8))) else none)
def xCP (N : Nat) : Nat → Str → Int → Int → Tok → Option (Tok × Int × Bool)
 | 0, _, _, _, _ => none
 | n + 1, x0, x1, x7, b4 => bif (decide (x7 < (List.length x0 : Int))) then (if (0 : Int) ≤ x7 ∧ x7 < (List.length x0) then bif (decide ((((List.getD x0 (Int.toNat x7) 0).toNat : Int) : Int) ≥ 48)) then (bif (decide ((((List.getD x0 (Int.toNat x7) 0).toNat : Int) : Int) ≤ 57)) then ((xCP N n x0 x1 (IntKind.i64.wrap (x7 + 1)) b4)) else (if (0 : Int) ≤ x1 ∧ x1 ≤ x7 ∧ x7 ≤ (List.length x0) then (xGu N (List.drop (Int.toNat x1) (List.take (Int.toNat x7) x0)) 0 1000000000).bind fun r1 => some ((Tok.mk 2 r1.1 x1 []), x7, r1.2) else none)) else (if (0 : Int) ≤ x1 ∧ x1 ≤ x7 ∧ x7 ≤ (List.length x0) then (xGu N (List.drop (Int.toNat x1) (List.take (Int.toNat x7) x0)) 0 1000000000).bind fun r1 => some ((Tok.mk 2 r1.1 x1 []), x7, r1.2) else none) else none) else (if (0 : Int) ≤ x1 ∧ x1 ≤ x7 ∧ x7 ≤ (List.length x0) then (xGu N (List.drop (Int.toNat x1) (List.take (Int.toNat x7) x0)) 0 1000000000).bind fun r1 => some ((Tok.mk 2 r1.1 x1 []), x7, r1.2) else none)
def xGd (N : Nat) (a0 : Str) (a1 : Int) : Option (Tok × Int × Bool) := if (0 : Int) ≤ a1 ∧ a1 < (List.length a0) then bif (decide ((((List.getD a0 (Int.toNat a1) 0).toNat : Int) : Int) ≥ 97)) then (bif (decide ((((List.getD a0 (Int.toNat a1) 0).toNat : Int) : Int) ≤ 122)) then ((xCs N N a0 a1 a1 (Tok.mk 0 0 0 []))) else (bif (decide ((((List.getD a0 (Int.toNat a1) 0).toNat : Int) : Int) ≥ 48)) then (bif (decide ((((List.getD a0 (Int.toNat a1) 0).toNat : Int) : Int) ≤ 57)) then ((xCP N N a0 a1 a1 (Tok.mk 0 0 0 []))) else (bif ((((List.getD a0 (Int.toNat a1) 0).toNat : Int) : Int) == 34) then (if (0 : Int) ≤ (IntKind.i64.wrap (a1 + 1)) ∧ (IntKind.i64.wrap (a1 + 1)) ≤ (List.length a0) then (strings_IndexByte N (List.drop (Int.toNat (IntKind.i64.wrap (a1 + 1))) a0) 34).bind fun r1 => bif (decide (r1 < 0)) then (some ((Tok.mk 0 0 0 []), 0, false)) else (if (0 : Int) ≤ (IntKind.i64.wrap (a1 + 1)) ∧ (IntKind.i64.wrap (a1 + 1)) ≤ (IntKind.i64.wrap ((IntKind.i64.wrap (a1 + 1)) + r1)) ∧ (IntKind.i64.wrap ((IntKind.i64.wrap (a1 + 1)) + r1)) ≤ (List.length a0) then (xCW N (List.drop (Int.toNat (IntKind.i64.wrap (a1 + 1))) (List.take (Int.toNat (IntKind.i64.wrap ((IntKind.i64.wrap (a1 + 1)) + r1))) a0))).bind fun r2 => some ((Tok.mk 3 0 a1 (List.drop (Int.toNat (IntKind.i64.wrap (a1 + 1))) (List.take (Int.toNat (IntKind.i64.wrap ((IntKind.i64.wrap (a1 + 1)) + r1))) a0))), (IntKind.i64.wrap ((IntKind.i64.wrap (a1 + r1)) + 2)), r2) else none) else none) else (if (0 : Int) ≤ a1 ∧ a1 ≤ (List.length a0) then (strings_HasPrefix N (List.drop (Int.toNat a1) a0) [61, 61]).bind fun r1 => bif r1 then (some ((Tok.mk 4 0 a1 [61, 61]), (IntKind.i64.wrap (a1 + 2)), true)) else (if (0 : Int) ≤ a1 ∧ a1 ≤ (IntKind.i64.wrap (a1 + 1)) ∧ (IntKind.i64.wrap (a1 + 1)) ≤ (List.length a0) then (strings_IndexByte N [40, 41, 91, 93, 44, 43, 45, 42, 60, 61] ((List.getD a0 (Int.toNat a1) 0).toNat : Int)).bind fun r2 =>
     some ((Tok.mk 4 0 a1 (List.drop (Int.toNat a1) (List.take (Int.toNat (IntKind.i64.wrap (a1 + 1))) a0))), (IntKind.i64.wrap (a1 + 1)), (decide (r2 ≥ 0))) else none) else none))) else (bif ((((List.getD a0 (Int.toNat a1) 0).toNat : Int) : Int) == 34) then (if (0 : Int) ≤ (IntKind.i64.wrap (a1 + 1)) ∧ (IntKind.i64.wrap (a1 + 1)) ≤ (List.length a0) then (strings_IndexByte N (List.drop (Int.toNat (IntKind.i64.wrap (a1 + 1))) a0) 34).bind fun r1 => bif (decide (r1 < 0)) then (some ((Tok.mk 0 0 0 []), 0, false)) else (if (0 : Int) ≤ (IntKind.i64.wrap (a1 + 1)) ∧ (IntKind.i64.wrap (a1 + 1)) ≤ (IntKind.i64.wrap ((IntKind.i64.wrap (a1 + 1)) + r1)) ∧ (IntKind.i64.wrap ((IntKind.i64.wrap (a1 + 1)) + r1)) ≤ (List.length a0) then (xCW N (List.drop (Int.toNat (IntKind.i64.wrap (a1 + 1))) (List.take (Int.toNat (IntKind.i64.wrap ((IntKind.i64.wrap (a1 + 1)) + r1))) a0))).bind fun r2 => some ((Tok.mk 3 0 a1 (List.drop (Int.toNat (IntKind.i64.wrap (a1 + 1))) (List.take (Int.toNat (IntKind.i64.wrap ((IntKind.i64.wrap (a1 + 1)) + r1))) a0))), (IntKind.i64.wrap ((IntKind.i64.wrap (a1 + r1)) + 2)), r2) else none) else none) else (if (0 : Int) ≤ a1 ∧ a1 ≤ (List.length a0) then (strings_HasPrefix N (List.drop (Int.toNat a1) a0) [61, 61]).bind fun r1 => bif r1 then (some ((Tok.mk 4 0 a1 [61, 61]), (IntKind.i64.wrap (a1 + 2)), true)) else (if (0 : Int) ≤ a1 ∧ a1 ≤ (IntKind.i64.wrap (a1 + 1)) ∧ (IntKind.i64.wrap (a1 + 1)) ≤ (List.length a0) then (strings_IndexByte N [40, 41, 91, 93, 44, 43, 45, 42, 60, 61] ((List.getD a0 (Int.toNat a1) 0).toNat : Int)).bind fun r2 => some ((Tok.mk 4 0 a1 (List.drop (Int.toNat a1) (List.take (Int.toNat (IntKind.i64.wrap (a1 + 1))) a0))), (IntKind.i64.wrap (a1 + 1)), (decide (r2 ≥ 0))) else none) else none)))) else (bif (decide ((((List.getD a0 (Int.toNat a1) 0).toNat : Int) : Int) ≥ 48)) then (bif (decide ((((List.getD a0 (Int.toNat a1) 0).toNat : Int) : Int) ≤ 57)) then ((xCP N N a0 a1 a1 (Tok.mk 0 0 0 []))
     ) else (bif ((((List.getD a0 (Int.toNat a1) 0).toNat : Int) : Int) == 34) then (if (0 : Int) ≤ (IntKind.i64.wrap (a1 + 1)) ∧ (IntKind.i64.wrap (a1 + 1)) ≤ (List.length a0) then (strings_IndexByte N (List.drop (Int.toNat (IntKind.i64.wrap (a1 + 1))) a0) 34).bind fun r1 => bif (decide (r1 < 0)) then (some ((Tok.mk 0 0 0 []), 0, false)) else (if (0 : Int) ≤ (IntKind.i64.wrap (a1 + 1)) ∧ (IntKind.i64.wrap (a1 + 1)) ≤ (IntKind.i64.wrap ((IntKind.i64.wrap (a1 + 1)) + r1)) ∧ (IntKind.i64.wrap ((IntKind.i64.wrap (a1 + 1)) + r1)) ≤ (List.length a0) then (xCW N (List.drop (Int.toNat (IntKind.i64.wrap (a1 + 1))) (List.take (Int.toNat (IntKind.i64.wrap ((IntKind.i64.wrap (a1 + 1)) + r1))) a0))).bind fun r2 => some ((Tok.mk 3 0 a1 (List.drop (Int.toNat (IntKind.i64.wrap (a1 + 1))) (List.take (Int.toNat (IntKind.i64.wrap ((IntKind.i64.wrap (a1 + 1)) + r1))) a0))), (IntKind.i64.wrap ((IntKind.i64.wrap (a1 + r1)) + 2)), r2) else none) else none) else (if (0 : Int) ≤ a1 ∧ a1 ≤ (List.length a0) then (strings_HasPrefix N (List.drop (Int.toNat a1) a0) [61, 61]).bind fun r1 => bif r1 then (some ((Tok.mk 4 0 a1 [61, 61]), (IntKind.i64.wrap (a1 + 2)), true)) else (if (0 : Int) ≤ a1 ∧ a1 ≤ (IntKind.i64.wrap (a1 + 1)) ∧ (IntKind.i64.wrap (a1 + 1)) ≤ (List.length a0) then (strings_IndexByte N [40, 41, 91, 93, 44, 43, 45, 42, 60, 61] ((List.getD a0 (Int.toNat a1) 0).toNat : Int)).bind fun r2 => some ((Tok.mk 4 0 a1 (List.drop (Int.toNat a1) (List.take (Int.toNat (IntKind.i64.wrap (a1 + 1))) a0))), (IntKind.i64.wrap (a1 + 1)), (decide (r2 ≥ 0))) else none) else none))) else (bif ((((List.getD a0 (Int.toNat a1) 0).toNat : Int) : Int) == 34) then (if (0 : Int) ≤ (IntKind.i64.wrap (a1 + 1)) ∧ (IntKind.i64.wrap (a1 + 1)) ≤ (List.length a0) then (strings_IndexByte N (List.drop (Int.toNat (IntKind.i64.wrap (a1 + 1))) a0) 34).bind fun r1 => bif (decide (r1 < 0)) then (some ((Tok.mk 0 0 0 []), 0, false)) else (if (0 : Int) ≤ (IntKind.i64.wrap (a1 + 1)) ∧ (IntKind.i64.wrap (a1 + 1)) ≤ (IntKind.i64.wrap ((IntKind.i64.wrap (a1 + 1)) + r1)) ∧ (IntKind.i64.wrap ((IntKind.i64.wrap (a1 + 1)) + r1)) ≤ (List.length a0) then
        (xCW N (List.drop (Int.toNat (IntKind.i64.wrap (a1 + 1))) (List.take (Int.toNat (IntKind.i64.wrap ((IntKind.i64.wrap (a1 + 1)) + r1))) a0))).bind fun r2 => some ((Tok.mk 3 0 a1 (List.drop (Int.toNat (IntKind.i64.wrap (a1 + 1))) (List.take (Int.toNat (IntKind.i64.wrap ((IntKind.i64.wrap (a1 + 1)) + r1))) a0))), (IntKind.i64.wrap ((IntKind.i64.wrap (a1 + r1)) + 2)), r2) else none) else none) else (if (0 : Int) ≤ a1 ∧ a1 ≤ (List.length a0) then (strings_HasPrefix N (List.drop (Int.toNat a1) a0) [61, 61]).bind fun r1 => bif r1 then (some ((Tok.mk 4 0 a1 [61, 61]), (IntKind.i64.wrap (a1 + 2)), true)) else (if (0 : Int) ≤ a1 ∧ a1 ≤ (IntKind.i64.wrap (a1 + 1)) ∧ (IntKind.i64.wrap (a1 + 1)) ≤ (List.length a0) then (strings_IndexByte N [40, 41, 91, 93, 44, 43, 45, 42, 60, 61] ((List.getD a0 (Int.toNat a1) 0).toNat : Int)).bind fun r2 => some ((Tok.mk 4 0 a1 (List.drop (Int.toNat a1) (List.take (Int.toNat (IntKind.i64.wrap (a1 + 1))) a0))), (IntKind.i64.wrap (a1 + 1)), (decide (r2 ≥ 0))) else none) else none))) else none
def xER (a0 : Str) : List Arg := [.val (.v false [.str a0])]
def xAI (r : (List Tok) × Int) : CallO := ⟨.tup [(false, [.sl .own .tok r.1]), (false, [.int .i64 r.2])], [], []⟩
def xDK (N : Nat) : Nat → Str → (List Tok) → Int → Option ((List Tok) × Int)
 | 0, _, _, _ => none
 | n + 1, x0, x4, x5 => bif (decide (x5 < (List.length x0 : Int))) then (if (0 : Int) ≤ x5 ∧ x5 < (List.length x0) then bif ((((List.getD x0 (Int.toNat x5) 0).toNat : Int) : Int) == 32) then ((xDK N n x0 x4 (IntKind.i64.wrap (x5 + 1)))) else ((xGd N x0 x5).bind fun r1 => bif (!r1.2.2) then (some ([], x5)) else (bif ((List.length x4 : Int) == 60) then (some ([], x5)) else (if List.length x4 + List.length [r1.1] ≤ Lim then (xDK N n x0 (x4 ++ [r1.1]) r1.2.1) else none))) else none) else (some (x4, (-1)))
def xFg (N : Nat) (a0 : Str) : Option ((List Tok) × Int) := bif (decide ((List.length a0 : Int) > 120)) then (some ([], 120)) else ((xDK N N a0 [] 0))
def xCZ (a0 : Psr) : List Arg := [.box (Ps .ro a0)]
def xAf (r : Tok × Psr) : CallO := ⟨.v true [.int .i64 (Tok.kind r.1), .int .i64 (Tok.n r.1), .int .i64 (Tok.pos r.1), .str (Tok.text r.1)], [(Ps .ro r.2)], []⟩
def xBu (N : Nat) (a0 : Psr) : Option (Tok × Psr) := bif (decide ((Psr.bad a0) < 0)) then (bif (decide ((Psr.pos a0) < (List.length (Psr.list a0) : Int))) then (if (0 : Int) ≤ (Psr.pos a0) ∧ (Psr.pos a0) < (List.length (Psr.list a0)) then some ((List.getD (Psr.list a0) (Int.toNat (Psr.pos a0)) Ty.tok.dflt), a0) else none) else (some ((Tok.mk 0 0 0 []), a0))) else (some ((Tok.mk 0 0 0 []), a0))
def xBs (a0 : Tok) (a1 : Str) : List Arg := [.val (.v true [.int .i64 (Tok.kind a0), .int .i64 (Tok.n a0), .int .i64 (Tok.pos a0), .str (Tok.text a0)]), .val (.v false [.str a1])]
def xAv (r : Bool) : CallO := ⟨.v false [.bool r], [], []⟩
def xDS (N : Nat) (a0 : Tok) (a1 : Str) : Option (Bool) := bif ((Tok.kind a0) == 1) then (some (((Tok.text a0) : Str) == a1)) else (some false)
def xCQ (a0 : Int) (a1 : Int) (a2 : Int) : List Arg := [.val (.v false [.int .i64 a0]), .val (.v false [.int .i64 a1]), .val (.v false [.int .i64 a2])]
def xA7 (r : Bool) : CallO := ⟨.v false [.bool r], [], []⟩
def xE2 (N : Nat) (a0 : Int) (a1 : Int) (a2 : Int) : Option (Bool) := bif (decide (a1 ≤ a0)) then (some (decide (a0 ≤ a2))) else (some false)
def xFp (a0 : Str) : List Arg := [.val (.v false [.str a0])]
def xBZ (r : Bool) : CallO := ⟨.v false [.bool r], [], []⟩
def xDv (N : Nat) : Nat → Str → Int → Option (Bool)
 | 0, _, _ => none
 | n + 1, x0, x3 => bif (decide (x3 < (List.length x0 : Int))) then (if (0 : Int) ≤ x3 ∧ x3 < (List.length x0) then bif (decide ((((List.getD x0 (Int.toNat x3) 0).toNat : Int) : Int) ≥ 97)) then (bif (!(decide ((((List.getD x0 (Int.toNat x3) 0).toNat : Int) : Int) ≤ 122))) then (bif (x3 == 0) then (some false) else (bif (decide ((((List.getD x0 (Int.toNat x3) 0).toNat : Int) : Int) < 48)) then (some false) else (bif (decide ((((List.getD x0 (Int.toNat x3) 0).toNat : Int) : Int) > 57)) then (some false) else ((xDv N n x0 (IntKind.i64.wrap (x3 + 1))))))) else ((xDv N n x0 (IntKind.i64.wrap (x3 + 1))))) else (bif (x3 == 0) then (some false) else (bif (decide ((((List.getD x0 (Int.toNat x3) 0).toNat : Int) : Int) < 48)) then (some false) else (bif (decide ((((List.getD x0 (Int.toNat x3) 0).toNat : Int) : Int) > 57)) then (some false) else ((xDv N n x0 (IntKind.i64.wrap (x3 + 1))))))) else none) else ((xE2 N (List.length x0 : Int) 1 8).bind fun r1 => some r1)
def xHr (N : Nat) (a0 : Str) : Option (Bool) := (xDv N N a0 0)
def xAk (a0 : Str) : List Arg := [.val (.v false [.str a0])]
def xAg (r : Int) : CallO := ⟨.v false [.int .i64 r], [], []⟩
def xCM (N : Nat) (a0 : Str) : Option (Int) := bif ((a0 : Str) == [99, 108, 111, 99, 107]) then (some 0) else (bif ((a0 : Str) == [108, 101, 110]) then (some 1) else (bif ((a0 : Str) == [115, 117, 109]) then (some 1) else (bif ((a0 : Str) == [114, 111, 119, 115]) then (some 1) else (bif ((a0 : Str) == [99, 104, 97, 110, 99, 101]) then (some 1) else (bif ((a0 : Str) == [102, 105, 108, 101]) then (some 1) else (bif ((a0 : Str) == [116, 97, 107, 101]) then (some 2) else (bif ((a0 : Str) == [115, 107, 105, 112]) then (some 2) else (bif ((a0 : Str) == [114, 97, 110, 103, 101]) then (some 2) else (bif ((a0 : Str) == [110, 116, 104]) then (some 2) else (bif ((a0 : Str) == [107, 101, 101, 112]) then (some 2) else (bif ((a0 : Str) == [99, 111, 108, 117, 109, 110]) then (some 2) else (bif ((a0 : Str) == [116, 97, 98, 108, 101]) then (some 2) else (bif ((a0 : Str) == [119, 104, 101, 114, 101]) then (some 3) else (bif ((a0 : Str) == [103, 114, 111, 117, 112]) then (some 3) else (bif ((a0 : Str) == [106, 111, 105, 110]) then (some 3) else (bif ((a0 : Str) == [97, 100, 100]) then (some 4) else (some (-1))))))))))))))))))
def xBI (a0 : Str) : List Arg := [.val (.v false [.str a0])]
def xBt (r : Bool) : CallO := ⟨.v false [.bool r], [], []⟩
def xE0 (N : Nat) (a0 : Str) : Option (Bool) := bif ((a0 : Str) == [108, 101, 116]) then (some true) else (bif ((a0 : Str) == [105, 110]) then (some true) else (bif ((a0 : Str) == [105, 102]) then (some true) else (bif ((a0 : Str) == [116, 104, 101, 110]) then (some true) else (bif ((a0 : Str) == [101, 108, 115, 101]) then (some true) else (bif ((a0 : Str) == [102, 111, 114]) then (some true) else (bif ((a0 : Str) == [100, 111]) then (some true) else ((xCM N a0).bind fun r1 => some (decide (r1 ≥ 0)))))))))
def xDm (a0 : Str) : List Arg := [.val (.v false [.str a0])]
def xAC (r : Bool) : CallO := ⟨.v false [.bool r], [], []⟩
def xCV (N : Nat) (a0 : Str) : Option (Bool) := (xHr N a0).bind fun r1 => bif r1 then ((xE0 N a0).bind fun r2 => some (!r2)) else (some false)
def xB5 (a0 : Psr) : List Arg := [.box (Ps .ro a0)]
def xA1 (r : Exp × Psr) : CallO := ⟨.v true (Ex .own r.1), [(Ps .ro r.2)], []⟩
def xBU (N : Nat) (a0 : Psr) : Option (Exp × Psr) := bif (decide ((Psr.bad a0) < 0)) then (some ((Exp.mk 0 0 [] []), (Psr.mk (Psr.list a0) (Psr.pos a0) (Psr.pos a0)))) else (some ((Exp.mk 0 0 [] []), a0))
def xDq (a0 : Psr) : List Arg := [.box (Ps .ro a0)]
def xCr (r : Str × Psr) : CallO := ⟨.v false [.str r.1], [(Ps .ro r.2)], []⟩
def xBV (N : Nat) (a0 : Psr) : Option (Str × Psr) := (xBu N a0).bind fun r1 => bif ((Tok.kind r1.1) != 1) then ((xBU N r1.2).bind fun r2 => some ([], r2.2)) else ((xCV N (Tok.text r1.1)).bind fun r2 => bif (!r2) then ((xBU N r1.2).bind fun r3 => some ([], r3.2)) else (some ((Tok.text r1.1), (Psr.mk (Psr.list r1.2) (IntKind.i64.wrap ((Psr.pos r1.2) + 1)) (Psr.bad r1.2)))))
def xDc (a0 : Tok) (a1 : Str) : List Arg := [.val (.v true [.int .i64 (Tok.kind a0), .int .i64 (Tok.n a0), .int .i64 (Tok.pos a0), .str (Tok.text a0)]), .val (.v false [.str a1])]
def xBS (r : Bool) : CallO := ⟨.v false [.bool r], [], []⟩
def xFf (N : Nat) (a0 : Tok) (a1 : Str) : Option (Bool) := bif ((Tok.kind a0) == 4) then (some (((Tok.text a0) : Str) == a1)) else (some false)
def xAT (a0 : Psr) (a1 : Str) : List Arg := [.box (Ps .ro a0), .val (.v false [.str a1])]
def xAp (r : Psr) : CallO := ⟨.tup [], [(Ps .ro r)], []⟩
def xAA (N : Nat) (a0 : Psr) (a1 : Str) : Option (Psr) := (xBu N a0).bind fun r1 => (xDS N r1.1 a1).bind fun r2 => bif r2 then (some (Psr.mk (Psr.list r1.2) (IntKind.i64.wrap ((Psr.pos r1.2) + 1)) (Psr.bad r1.2))) else ((xBu N r1.2).bind fun r3 => (xFf N r3.1 a1).bind fun r4 => bif r4 then (some (Psr.mk (Psr.list r3.2) (IntKind.i64.wrap ((Psr.pos r3.2) + 1)) (Psr.bad r3.2))) else ((xBU N r3.2).bind fun r5 => some r5.2))
def xAn (a0 : Psr) (a1 : Str) : List Arg := [.box (Ps .ro a0), .val (.v false [.str a1])]
def xAc (r : Bool × Psr) : CallO := ⟨.v false [.bool r.1], [(Ps .ro r.2)], []⟩
def xAE (N : Nat) (a0 : Psr) (a1 : Str) : Option (Bool × Psr) := (xBu N a0).bind fun r1 => (xFf N r1.1 a1).bind fun r2 => bif r2 then (some (true, (Psr.mk (Psr.list r1.2) (IntKind.i64.wrap ((Psr.pos r1.2) + 1)) (Psr.bad r1.2)))) else (some (false, r1.2))
def xDd (a0 : Int) : List Arg := [.val (.v false [.int .i64 a0])]
def xBT (r : Str) : CallO := ⟨.v false [.str r], [], []⟩
def xEk (N : Nat) (a0 : Int) : Option (Str) := (xE2 N a0 1 5).bind fun r1 => bif (!r1) then (some [63]) else (if (0 : Int) ≤ (IntKind.i64.wrap (a0 - 1)) ∧ (IntKind.i64.wrap (a0 - 1)) < (List.length [[43], [45], [42], [60], [61, 61]]) then some (List.getD [[43], [45], [42], [60], [61, 61]] (Int.toNat (IntKind.i64.wrap (a0 - 1))) Ty.str.dflt) else none)
def xAS (a0 : Psr) : List Arg := [.box (Ps .ro a0)]
def xAH (r : Exp × Psr) : CallO := ⟨.v true (Ex .own r.1), [(Ps .ro r.2)], []⟩
def xCp (N : Nat) (q0 : Psr → Option (Exp × Psr)) (q1 : Psr → Option (Exp × Psr)) (q2 : Psr → Str → Option ((List Exp) × Psr)) (q3 : Psr → Option (Exp × Psr)) (q4 : Psr → Option (Exp × Psr)) (a0 : Psr) : Option (Exp × Psr) := (xBu N a0).bind fun r1 => bif ((Tok.kind r1.1) == 2) then (some ((Exp.mk 1 (Tok.n r1.1) [] []), (Psr.mk (Psr.list r1.2) (IntKind.i64.wrap ((Psr.pos r1.2) + 1)) (Psr.bad r1.2)))) else (bif ((Tok.kind r1.1) == 3) then (some ((Exp.mk 2 0 (Tok.text r1.1) []), (Psr.mk (Psr.list r1.2) (IntKind.i64.wrap ((Psr.pos r1.2) + 1)) (Psr.bad r1.2)))) else (bif ((Tok.kind r1.1) == 1) then ((xCV N (Tok.text r1.1)).bind fun r2 => bif r2 then (some ((Exp.mk 3 0 (Tok.text r1.1) []), (Psr.mk (Psr.list r1.2) (IntKind.i64.wrap ((Psr.pos r1.2) + 1)) (Psr.bad r1.2)))) else ((xCM N (Tok.text r1.1)).bind fun r3 => bif (decide (r3 ≥ 0)) then ((xAA N (Psr.mk (Psr.list r1.2) (IntKind.i64.wrap ((Psr.pos r1.2) + 1)) (Psr.bad r1.2)) [40]).bind fun r4 => (q2 r4 [41]).bind fun r5 => some ((Exp.mk 5 0 (Tok.text r1.1) r5.1), r5.2)) else ((xAE N r1.2 [91]).bind fun r4 => bif r4.1 then ((q2 r4.2 [93]).bind fun r5 => some ((Exp.mk 4 0 [] r5.1), r5.2)) else ((xAE N r4.2 [40]).bind fun r5 => bif r5.1 then ((q1 r5.2).bind fun r6 => (xAA N r6.2 [41]).bind fun r7 => some (r6.1, r7)) else ((xBU N r5.2).bind fun r6 => some (r6.1, r6.2)))))) else ((xAE N r1.2 [91]).bind fun r2 => bif r2.1 then ((q2 r2.2 [93]).bind fun r3 => some ((Exp.mk 4 0 [] r3.1), r3.2)) else ((xAE N r2.2 [40]).bind fun r3 => bif r3.1 then ((q1 r3.2).bind fun r4 => (xAA N r4.2 [41]).bind fun r5 => some (r4.1, r5)) else ((xBU N r3.2).bind fun r4 => some (r4.1, r4.2))))))
def xBc (a0 : Psr) : List Arg := [.box (Ps .ro a0)]
def xAe (r : Exp × Psr) : CallO := ⟨.v true (Ex .own r.1), [(Ps .ro r.2)], []⟩
def xCH (N : Nat) (q0 : Psr → Option (Exp × Psr)) (q1 : Psr → Option (Exp × Psr)) (q2 : Psr → Str → Option ((List Exp) × Psr)) (q3 : Psr → Option (Exp × Psr)) (q4 : Psr → Option (Exp × Psr)) : Nat → (List Int) → Int → Int → Psr → Exp → Exp → Option (Exp × Psr)
 | 0, _, _, _, _, _, _ => none
 | n + 1, x115, x116, x117, b0, b2, b6 => bif (decide (x117 < x116)) then (if (0 : Int) ≤ x117 ∧ x117 < (List.length x115) then (xEk N (List.getD x115 (Int.toNat x117) Ty.int.dflt)).bind fun r1 => (xAE N b0 r1).bind fun r2 => bif r2.1 then ((q4 r2.2).bind fun r3 => some ((Exp.mk 6 (List.getD x115 (Int.toNat x117) Ty.int.dflt) [] [(Exp.re b6), (Exp.re r3.1)]), r3.2)) else ((xCH N q0 q1 q2 q3 q4 n x115 x116 (IntKind.i64.wrap (x117 + 1)) r2.2 b2 b6)) else none) else (some (b6, b0))
def xCq (N : Nat) (q0 : Psr → Option (Exp × Psr)) (q1 : Psr → Option (Exp × Psr)) (q2 : Psr → Str → Option ((List Exp) × Psr)) (q3 : Psr → Option (Exp × Psr)) (q4 : Psr → Option (Exp × Psr)) (a0 : Psr) : Option (Exp × Psr) := (xBu N a0).bind fun r1 => (xDS N r1.1 [108, 101, 116]).bind fun r2 => bif r2 then ((xBV N (Psr.mk (Psr.list r1.2) (IntKind.i64.wrap ((Psr.pos r1.2) + 1)) (Psr.bad r1.2))).bind fun r3 => (xAA N r3.2 [61]).bind fun r4 => (q1 r4).bind fun r5 => if 0 + List.length [(Exp.re r5.1)] ≤ Lim then (xAA N r5.2 [105, 110]).bind fun r6 => (q1 r6).bind fun r7 => if List.length ([] ++ [(Exp.re r5.1)]) + List.length [(Exp.re r7.1)] ≤ Lim then some ((Exp.mk 7 0 r3.1 (([] ++ [(Exp.re r5.1)]) ++ [(Exp.re r7.1)])), r7.2) else none else none) else ((xBu N r1.2).bind fun r3 => (xDS N r3.1 [105, 102]).bind fun r4 => bif r4 then ((q1 (Psr.mk (Psr.list r3.2) (IntKind.i64.wrap ((Psr.pos r3.2) + 1)) (Psr.bad r3.2))).bind fun r5 => if 0 + List.length [(Exp.re r5.1)] ≤ Lim then (xAA N r5.2 [116, 104, 101, 110]).bind fun r6 => (q1 r6).bind fun r7 => if List.length ([] ++ [(Exp.re r5.1)]) + List.length [(Exp.re r7.1)] ≤ Lim then (xAA N r7.2 [101, 108, 115, 101]).bind fun r8 => (q1 r8).bind fun r9 => if List.length (([] ++ [(Exp.re r5.1)]) ++ [(Exp.re r7.1)]) + List.length [(Exp.re r9.1)] ≤ Lim then some ((Exp.mk 8 0 [] ((([] ++ [(Exp.re r5.1)]) ++ [(Exp.re r7.1)]) ++ [(Exp.re r9.1)])), r9.2) else none else none else none) else ((xBu N r3.2).bind fun r5 => (xDS N r5.1 [102, 111, 114]).bind fun r6 => bif r6 then ((xBV N (Psr.mk (Psr.list r5.2) (IntKind.i64.wrap ((Psr.pos r5.2) + 1)) (Psr.bad r5.2))).bind fun r7 => (xAA N r7.2 [105, 110]).bind fun r8 => (q1 r8).bind fun r9 =>
     if 0 + List.length [(Exp.re r9.1)] ≤ Lim then (xAA N r9.2 [100, 111]).bind fun r10 => (q1 r10).bind fun r11 => if List.length ([] ++ [(Exp.re r9.1)]) + List.length [(Exp.re r11.1)] ≤ Lim then some ((Exp.mk 9 0 r7.1 (([] ++ [(Exp.re r9.1)]) ++ [(Exp.re r11.1)])), r11.2) else none else none) else ((q4 r5.2).bind fun r7 => (xCH N q0 q1 q2 q3 q4 N [4, 5] (List.length [4, 5] : Int) 0 r7.2 (Exp.mk 0 0 [] []) r7.1))))
def xCd (a0 : Psr) (a1 : Str) : List Arg := [.box (Ps .ro a0), .val (.v false [.str a1])]
def xA3 (r : (List Exp) × Psr) : CallO := ⟨.v false [.sl .own .exp r.1], [(Ps .ro r.2)], []⟩
def xCe (N : Nat) (q0 : Psr → Option (Exp × Psr)) (q1 : Psr → Option (Exp × Psr)) (q2 : Psr → Str → Option ((List Exp) × Psr)) (q3 : Psr → Option (Exp × Psr)) (q4 : Psr → Option (Exp × Psr)) : Nat → Str → (List Exp) → Psr → Option ((List Exp) × Psr)
 | 0, _, _, _ => none
 | n + 1, x1, x5, b0 => bif (decide ((Psr.bad b0) < 0)) then ((q1 b0).bind fun r1 => if List.length x5 + List.length [(Exp.re r1.1)] ≤ Lim then (xAE N r1.2 x1).bind fun r2 => bif r2.1 then (some ((x5 ++ [(Exp.re r1.1)]), r2.2)) else ((xAA N r2.2 [44]).bind fun r3 => (xCe N q0 q1 q2 q3 q4 n x1 (x5 ++ [(Exp.re r1.1)]) r3)) else none) else (some (x5, b0))
def xCg (N : Nat) (q0 : Psr → Option (Exp × Psr)) (q1 : Psr → Option (Exp × Psr)) (q2 : Psr → Str → Option ((List Exp) × Psr)) (q3 : Psr → Option (Exp × Psr)) (q4 : Psr → Option (Exp × Psr)) (a0 : Psr) (a1 : Str) : Option ((List Exp) × Psr) := (xAE N a0 a1).bind fun r1 => bif r1.1 then (some ([], r1.2)) else ((xCe N q0 q1 q2 q3 q4 N a1 [] r1.2))
def xCh (a0 : Psr) : List Arg := [.box (Ps .ro a0)]
def xA8 (r : Exp × Psr) : CallO := ⟨.v true (Ex .own r.1), [(Ps .ro r.2)], []⟩
def xBR (N : Nat) (q0 : Psr → Option (Exp × Psr)) (q1 : Psr → Option (Exp × Psr)) (q2 : Psr → Str → Option ((List Exp) × Psr)) (q3 : Psr → Option (Exp × Psr)) (q4 : Psr → Option (Exp × Psr)) : Nat → Psr → Exp → Exp → Option (Exp × Psr)
 | 0, _, _, _ => none
 | n + 1, b0, b2, b3 => (xAE N b0 [42]).bind fun r1 => bif r1.1 then ((q0 r1.2).bind fun r2 => (xBR N q0 q1 q2 q3 q4 n r2.2 b2 (Exp.mk 6 3 [] [(Exp.re b3), (Exp.re r2.1)]))) else (some (b3, r1.2))
def xBY (N : Nat) (q0 : Psr → Option (Exp × Psr)) (q1 : Psr → Option (Exp × Psr)) (q2 : Psr → Str → Option ((List Exp) × Psr)) (q3 : Psr → Option (Exp × Psr)) (q4 : Psr → Option (Exp × Psr)) (a0 : Psr) : Option (Exp × Psr) := (q0 a0).bind fun r1 => (xBR N q0 q1 q2 q3 q4 N r1.2 (Exp.mk 0 0 [] []) r1.1)
def xDG (a0 : Psr) : List Arg := [.box (Ps .ro a0)]
def xB1 (r : Exp × Psr) : CallO := ⟨.v true (Ex .own r.1), [(Ps .ro r.2)], []⟩
def xB0 (N : Nat) (q0 : Psr → Option (Exp × Psr)) (q1 : Psr → Option (Exp × Psr)) (q2 : Psr → Str → Option ((List Exp) × Psr)) (q3 : Psr → Option (Exp × Psr)) (q4 : Psr → Option (Exp × Psr)) : Nat → Psr → Exp → Exp → Option (Exp × Psr)
 | 0, _, _, _ => none
 | n + 1, b0, b2, b3 => bif (decide ((Psr.bad b0) < 0)) then ((xAE N b0 [43]).bind fun r1 => bif (!r1.1) then ((xAE N r1.2 [45]).bind fun r2 => bif (!r2.1) then (some (b3, r2.2)) else ((q3 r2.2).bind fun r3 => (xB0 N q0 q1 q2 q3 q4 n r3.2 b2 (Exp.mk 6 2 [] [(Exp.re b3), (Exp.re r3.1)])))) else ((q3 r1.2).bind fun r2 => (xB0 N q0 q1 q2 q3 q4 n r2.2 b2 (Exp.mk 6 1 [] [(Exp.re b3), (Exp.re r2.1)])))) else (some (b3, b0))
def xCI (N : Nat) (q0 : Psr → Option (Exp × Psr)) (q1 : Psr → Option (Exp × Psr)) (q2 : Psr → Str → Option ((List Exp) × Psr)) (q3 : Psr → Option (Exp × Psr)) (q4 : Psr → Option (Exp × Psr)) (a0 : Psr) : Option (Exp × Psr) := (q3 a0).bind fun r1 => (xB0 N q0 q1 q2 q3 q4 N r1.2 (Exp.mk 0 0 [] []) r1.1)
structure impl_parser_atom_rec where
 c_impl_parser_atom : Psr → Option (Exp × Psr)
 c_impl_parser_expr : Psr → Option (Exp × Psr)
 c_impl_parser_list2 : Psr → Str → Option ((List Exp) × Psr)
 c_impl_parser_product : Psr → Option (Exp × Psr)
 c_impl_parser_sum : Psr → Option (Exp × Psr)
def xAb (N : Nat) : Nat → impl_parser_atom_rec
 | 0 => ⟨fun _ => none, fun _ => none, fun _ _ => none, fun _ => none, fun _ => none⟩
 | d + 1 => ⟨xCp N (xAb N d).c_impl_parser_atom (xAb N d).c_impl_parser_expr (xAb N d).c_impl_parser_list2 (xAb N d).c_impl_parser_product (xAb N d).c_impl_parser_sum, xCq N (xAb N d).c_impl_parser_atom (xAb N d).c_impl_parser_expr (xAb N d).c_impl_parser_list2 (xAb N d).c_impl_parser_product (xAb N d).c_impl_parser_sum, xCg N (xAb N d).c_impl_parser_atom (xAb N d).c_impl_parser_expr (xAb N d).c_impl_parser_list2 (xAb N d).c_impl_parser_product (xAb N d).c_impl_parser_sum, xBY N (xAb N d).c_impl_parser_atom (xAb N d).c_impl_parser_expr (xAb N d).c_impl_parser_list2 (xAb N d).c_impl_parser_product (xAb N d).c_impl_parser_sum, xCI N (xAb N d).c_impl_parser_atom (xAb N d).c_impl_parser_expr (xAb N d).c_impl_parser_list2 (xAb N d).c_impl_parser_product (xAb N d).c_impl_parser_sum⟩
def xFv (N : Nat) (a0 : Psr) : Option (Exp × Psr) := (xAb N N).c_impl_parser_expr a0
def xCE (a0 : Exp) : List Arg := [.val (.v true (Ex .ro a0))]
def xBg (r : Int) : CallO := ⟨.v false [.int .i64 r], [], []⟩
def xDp (N : Nat) (q0 : Exp → Option (Int)) : Nat → Int → (List Exp) → Int → Int → Option (Int)
 | 0, _, _, _, _ => none
 | n + 1, x3, x7, x8, x9 => bif (decide (x9 < x8)) then (if (0 : Int) ≤ x9 ∧ x9 < (List.length x7) then (q0 (List.getD x7 (Int.toNat x9) Ty.exp.dflt)).bind fun r1 => (xDp N q0 n (IntKind.i64.wrap (x3 + r1)) x7 x8 (IntKind.i64.wrap (x9 + 1))) else none) else (some x3)
def xFC (N : Nat) (q0 : Exp → Option (Int)) (a0 : Exp) : Option (Int) := (xDp N q0 N 1 (Exp.args a0) (List.length (Exp.args a0) : Int) 0)
def xDF (N : Nat) : Nat → Exp → Option (Int)
 | 0, _ => none
 | d + 1, a0 => xFC N (xDF N d) a0
def xG1 (N : Nat) (a0 : Exp) : Option (Int) := xDF N N a0
def xC1 (a0 : Exp) : List Arg := [.val (.v true (Ex .ro a0))]
def xBB (r : Int) : CallO := ⟨.v false [.int .i64 r], [], []⟩
def xDX (N : Nat) (q0 : Exp → Option (Int)) : Nat → Int → (List Exp) → Int → Int → Option (Int)
 | 0, _, _, _, _ => none
 | n + 1, x3, x7, x8, x9 => bif (decide (x9 < x8)) then (if (0 : Int) ≤ x9 ∧ x9 < (List.length x7) then (q0 (List.getD x7 (Int.toNat x9) Ty.exp.dflt)).bind fun r1 => (xDX N q0 n (if r1 > x3 then r1 else x3) x7 x8 (IntKind.i64.wrap (x9 + 1))) else none) else (some (IntKind.i64.wrap (x3 + 1)))
def xFB (N : Nat) (q0 : Exp → Option (Int)) (a0 : Exp) : Option (Int) := (xDX N q0 N 0 (Exp.args a0) (List.length (Exp.args a0) : Int) 0)
def xEi (N : Nat) : Nat → Exp → Option (Int)
 | 0, _ => none
 | d + 1, a0 => xFB N (xEi N d) a0
def xG0 (N : Nat) (a0 : Exp) : Option (Int) := xEi N N a0
def xAy (a0 : Exp) : List Arg := [.val (.v true (Ex .ro a0))]
def xAF (r : Bool) : CallO := ⟨.v false [.bool r], [], []⟩
def xGy (N : Nat) (a0 : Exp) : Option (Bool) := bif ((Exp.kind a0) == 1) then ((xE2 N (Exp.n a0) 0 1000000000).bind fun r1 => bif r1 then (bif (((Exp.text a0) : Str) == []) then (some ((List.length (Exp.args a0) : Int) == 0)) else (some false)) else (some false)) else (bif ((Exp.kind a0) == 2) then (bif ((Exp.n a0) == 0) then ((xCW N (Exp.text a0)).bind fun r1 => bif r1 then (some ((List.length (Exp.args a0) : Int) == 0)) else (some false)) else (some false)) else (bif ((Exp.kind a0) == 3) then (bif ((Exp.n a0) == 0) then ((xCV N (Exp.text a0)).bind fun r1 => bif r1 then (some ((List.length (Exp.args a0) : Int) == 0)) else (some false)) else (some false)) else (bif ((Exp.kind a0) == 4) then (bif ((Exp.n a0) == 0) then (bif (((Exp.text a0) : Str) == []) then (some (decide ((List.length (Exp.args a0) : Int) ≤ 8))) else (some false)) else (some false)) else (bif ((Exp.kind a0) == 5) then (bif ((Exp.n a0) == 0) then ((xCM N (Exp.text a0)).bind fun r1 => some ((List.length (Exp.args a0) : Int) == r1)) else (some false)) else (bif ((Exp.kind a0) == 6) then ((xE2 N (Exp.n a0) 1 5).bind fun r1 => bif r1 then (bif (((Exp.text a0) : Str) == []) then (some ((List.length (Exp.args a0) : Int) == 2)) else (some false)) else (some false)) else (bif ((Exp.kind a0) == 7) then (bif ((Exp.n a0) == 0) then ((xCV N (Exp.text a0)).bind fun r1 => bif r1 then (some ((List.length (Exp.args a0) : Int) == 2)) else (some false)) else (some false)) else (bif ((Exp.kind a0) == 9) then (bif ((Exp.n a0) == 0) then ((xCV N (Exp.text a0)).bind fun r1 => bif r1 then (some ((List.length (Exp.args a0) : Int) == 2)) else (some false)) else (some false)) else (bif ((Exp.kind a0) == 8) then (bif ((Exp.n a0) == 0) then (bif (((Exp.text a0) : Str) == []) then (some ((List.length (Exp.args a0) : Int) == 3)
             ) else (some false)) else (some false)) else (some false)))))))))
def xDe (a0 : Exp) : List Arg := [.val (.v true (Ex .ro a0))]
def xBD (r : Bool) : CallO := ⟨.v false [.bool r], [], []⟩
def xDL (N : Nat) (q0 : Exp → Option (Bool)) : Nat → (List Exp) → Int → Int → Exp → Option (Bool)
 | 0, _, _, _, _ => none
 | n + 1, x6, x7, x8, b1 => bif (decide (x8 < x7)) then (if (0 : Int) ≤ x8 ∧ x8 < (List.length x6) then (q0 (List.getD x6 (Int.toNat x8) Ty.exp.dflt)).bind fun r1 => bif (!r1) then (some false) else ((xDL N q0 n x6 x7 (IntKind.i64.wrap (x8 + 1)) b1)) else none) else ((xGy N b1).bind fun r1 => some r1)
def xFN (N : Nat) (q0 : Exp → Option (Bool)) (a0 : Exp) : Option (Bool) := (xDL N q0 N (Exp.args a0) (List.length (Exp.args a0) : Int) 0 a0)
def xEA (N : Nat) : Nat → Exp → Option (Bool)
 | 0, _ => none
 | d + 1, a0 => xFN N (xEA N d) a0
def xHq (N : Nat) (a0 : Exp) : Option (Bool) := xEA N N a0
def xCm (a0 : Exp) : List Arg := [.val (.v true (Ex .ro a0))]
def xAL (r : Bool) : CallO := ⟨.v false [.bool r], [], []⟩
def xCy (N : Nat) (a0 : Exp) : Option (Bool) := (xG1 N a0).bind fun r1 => bif (decide (r1 ≤ 40)) then ((xG0 N a0).bind fun r2 => bif (decide (r2 ≤ 8)) then ((xHq N a0).bind fun r3 => some r3) else (some false)) else (some false)
def xAV (a0 : Str) : List Arg := [.val (.v false [.str a0])]
def xAW (r : Exp × Int) : CallO := ⟨.tup [(true, (Ex .own r.1)), (false, [.int .i64 r.2])], [], []⟩
def xEr (N : Nat) (a0 : Str) : Option (Exp × Int) := (xFg N a0).bind fun r1 => bif (decide (r1.2 ≥ 0)) then (some ((Exp.mk 0 0 [] []), r1.2)) else ((xFv N (Psr.mk r1.1 0 (-1))).bind fun r2 => bif (decide ((Psr.bad r2.2) < 0)) then (bif (decide ((Psr.pos r2.2) < (List.length r1.1 : Int))) then (bif (decide ((Psr.pos r2.2) ≥ (List.length r1.1 : Int))) then (some ((Exp.mk 0 0 [] []), (List.length a0 : Int))) else (bif (decide ((Psr.pos r2.2) ≥ 0)) then (if (0 : Int) ≤ (Psr.pos r2.2) ∧ (Psr.pos r2.2) < (List.length r1.1) then some ((Exp.mk 0 0 [] []), (Tok.pos (List.getD r1.1 (Int.toNat (Psr.pos r2.2)) Ty.tok.dflt))) else none) else ((xCy N r2.1).bind fun r3 => bif (!r3) then (some ((Exp.mk 0 0 [] []), 0)) else (some (r2.1, (-1)))))) else (bif (decide ((Psr.bad r2.2) ≥ (List.length r1.1 : Int))) then (some ((Exp.mk 0 0 [] []), (List.length a0 : Int))) else (bif (decide ((Psr.bad r2.2) ≥ 0)) then (if (0 : Int) ≤ (Psr.bad r2.2) ∧ (Psr.bad r2.2) < (List.length r1.1) then some ((Exp.mk 0 0 [] []), (Tok.pos (List.getD r1.1 (Int.toNat (Psr.bad r2.2)) Ty.tok.dflt))) else none) else ((xCy N r2.1).bind fun r3 => bif (!r3) then (some ((Exp.mk 0 0 [] []), 0)) else (some (r2.1, (-1))))))) else (bif (decide ((Psr.bad r2.2) ≥ (List.length r1.1 : Int))) then (some ((Exp.mk 0 0 [] []), (List.length a0 : Int))) else (bif (decide ((Psr.bad r2.2) ≥ 0)) then (if (0 : Int) ≤ (Psr.bad r2.2) ∧ (Psr.bad r2.2) < (List.length r1.1) then some ((Exp.mk 0 0 [] []), (Tok.pos (List.getD r1.1 (Int.toNat (Psr.bad r2.2)) Ty.tok.dflt))) else none) else ((xCy N r2.1).bind fun r3 => bif (!r3) then (some ((Exp.mk 0 0 [] []), 0)) else (some (r2.1, (-1)))))))
def xGV (a0 : List Str) (a1 : Str) : List Arg := [.val (.v false [.sl .ro .str a0]), .val (.v false [.str a1])]
def xFI (r : Str) : CallO := ⟨.v false [.str r], [], []⟩
def xDU (N : Nat) : Nat → (List Str) → Str → (List Int) → Int → Option (Str)
 | 0, _, _, _, _ => none
 | n + 1, x0, x1, x5, x6 => bif (decide (x6 < (List.length x0 : Int))) then (bif (decide (x6 > 0)) then (if List.length x5 + List.length x1 ≤ Lim then if (0 : Int) ≤ x6 ∧ x6 < (List.length x0) then if List.length (x5 ++ List.map (fun c => (c.toNat : Int)) x1) + List.length (List.getD x0 (Int.toNat x6) Ty.str.dflt) ≤ Lim then (xDU N n x0 x1 ((x5 ++ List.map (fun c => (c.toNat : Int)) x1) ++ List.map (fun c => (c.toNat : Int)) (List.getD x0 (Int.toNat x6) Ty.str.dflt)) (IntKind.i64.wrap (x6 + 1))) else none else none else none) else (if (0 : Int) ≤ x6 ∧ x6 < (List.length x0) then if List.length x5 + List.length (List.getD x0 (Int.toNat x6) Ty.str.dflt) ≤ Lim then (xDU N n x0 x1 (x5 ++ List.map (fun c => (c.toNat : Int)) (List.getD x0 (Int.toNat x6) Ty.str.dflt)) (IntKind.i64.wrap (x6 + 1))) else none else none)) else (some (List.map (fun n => UInt8.ofNat (Int.toNat n)) x5))
def xIb (N : Nat) (a0 : List Str) (a1 : Str) : Option (Str) := (xDU N N a0 a1 [] 0)
def xBn (a0 : Exp) : List Arg := [.val (.v true (Ex .ro a0))]
def xAX (r : Int) : CallO := ⟨.v false [.int .i64 r], [], []⟩
def xE7 (N : Nat) (a0 : Exp) : Option (Int) := bif ((Exp.kind a0) == 7) then (some 0) else (bif ((Exp.kind a0) == 8) then (some 0) else (bif ((Exp.kind a0) == 9) then (some 0) else (bif ((Exp.kind a0) == 6) then (bif ((Exp.n a0) == 4) then (some 1) else (bif ((Exp.n a0) == 5) then (some 1) else (bif ((Exp.n a0) == 1) then (some 2) else (bif ((Exp.n a0) == 2) then (some 2) else (bif ((Exp.n a0) == 3) then (some 3) else (some 4)))))) else (some 4))))
def xEe (a0 : Int) : List Arg := [.val (.v false [.int .i64 a0])]
def xDg (r : Str) : CallO := ⟨.v false [.str r], [], []⟩
def xFT (N : Nat) (a0 : Int) : Option (Str) := (xGK N a0 1 5).bind fun r1 => bif (!r1) then (some [63]) else (if (0 : Int) ≤ a0 ∧ a0 < (List.length [[], [43], [45], [42], [60], [61, 61]]) then some (List.getD [[], [43], [45], [42], [60], [61, 61]] (Int.toNat a0) Ty.str.dflt) else none)
def xDR (a0 : Exp) (a1 : Int) : List Arg := [.val (.v true (Ex .ro a0)), .val (.v false [.int .i64 a1])]
def xCG (r : Str) : CallO := ⟨.v false [.str r], [], []⟩
def xFb (N : Nat) (q0 : Exp → Int → Option (Str)) (q1 : (List Exp) → Option (Str)) (q2 : Exp → Option (Str)) (a0 : Exp) (a1 : Int) : Option (Str) := (q2 a0).bind fun r1 => (xE7 N a0).bind fun r2 => bif (decide (r2 < a1)) then (if List.length [40] + List.length r1 ≤ Lim then if List.length ([40] ++ r1) + List.length [41] ≤ Lim then some (([40] ++ r1) ++ [41]) else none else none) else (some r1)
def xEG (a0 : List Exp) : List Arg := [.val (.v false [.sl .ro .exp a0])]
def xDa (r : Str) : CallO := ⟨.v false [.str r], [], []⟩
def xD8 (N : Nat) (q0 : Exp → Int → Option (Str)) (q1 : (List Exp) → Option (Str)) (q2 : Exp → Option (Str)) : Nat → (List Exp) → (List Str) → Int → Option (Str)
 | 0, _, _, _ => none
 | n + 1, x0, x3, x4 => bif (decide (x4 < (List.length x0 : Int))) then (if (0 : Int) ≤ x4 ∧ x4 < (List.length x0) then (q2 (List.getD x0 (Int.toNat x4) Ty.exp.dflt)).bind fun r1 => if List.length x3 + List.length [r1] ≤ Lim then (xD8 N q0 q1 q2 n x0 (x3 ++ [r1]) (IntKind.i64.wrap (x4 + 1))) else none else none) else ((xIb N x3 [44, 32]).bind fun r1 => some r1)
def xF6 (N : Nat) (q0 : Exp → Int → Option (Str)) (q1 : (List Exp) → Option (Str)) (q2 : Exp → Option (Str)) (a0 : List Exp) : Option (Str) := (xD8 N q0 q1 q2 N a0 [] 0)
def xAR (a0 : Exp) : List Arg := [.val (.v true (Ex .ro a0))]
def xAs (r : Str) : CallO := ⟨.v false [.str r], [], []⟩
def xBG (N : Nat) (q0 : Exp → Int → Option (Str)) (q1 : (List Exp) → Option (Str)) (q2 : Exp → Option (Str)) (a0 : Exp) : Option (Str) := bif ((Exp.kind a0) == 1) then ((xEt N (Exp.n a0)).bind fun r1 => some r1) else (bif ((Exp.kind a0) == 2) then (if List.length [34] + List.length (Exp.text a0) ≤ Lim then if List.length ([34] ++ (Exp.text a0)) + List.length [34] ≤ Lim then some (([34] ++ (Exp.text a0)) ++ [34]) else none else none) else (bif ((Exp.kind a0) == 3) then (some (Exp.text a0)) else (bif ((Exp.kind a0) == 4) then ((q1 (Exp.args a0)).bind fun r1 => if List.length [91] + List.length r1 ≤ Lim then if List.length ([91] ++ r1) + List.length [93] ≤ Lim then some (([91] ++ r1) ++ [93]) else none else none) else (bif ((Exp.kind a0) == 5) then (if List.length (Exp.text a0) + List.length [40] ≤ Lim then (q1 (Exp.args a0)).bind fun r1 => if List.length ((Exp.text a0) ++ [40]) + List.length r1 ≤ Lim then if List.length (((Exp.text a0) ++ [40]) ++ r1) + List.length [41] ≤ Lim then some ((((Exp.text a0) ++ [40]) ++ r1) ++ [41]) else none else none else none) else (bif ((Exp.kind a0) == 7) then (if List.length [108, 101, 116, 32] + List.length (Exp.text a0) ≤ Lim then if List.length ([108, 101, 116, 32] ++ (Exp.text a0)) + List.length [32, 61, 32] ≤ Lim then if (0 : Int) ≤ 0 ∧ (0 : Int) < (List.length (Exp.args a0)) then (q2 (List.getD (Exp.args a0) (Int.toNat 0) Ty.exp.dflt)).bind fun r1 => if List.length (([108, 101, 116, 32] ++ (Exp.text a0)) ++ [32, 61, 32]) + List.length r1 ≤ Lim then if List.length ((([108, 101, 116, 32] ++ (Exp.text a0)) ++ [32, 61, 32]) ++ r1) + List.length [32, 105, 110, 32] ≤ Lim then if (0 : Int) ≤ 1 ∧ (1 : Int) < (List.length (Exp.args a0)) then (q2 (List.getD (Exp.args a0) (Int.toNat 1) Ty.exp.dflt)).bind fun r2 => if List.length (((([108, 101, 116, 32] ++ (Exp.text a0)) ++ [32, 61, 32]) ++ r1) ++ [32, 105, 110, 32]) + List.length r2 ≤ Lim then some ((((([108, 101, 116, 32] ++ (Exp.text a0)) ++ [32, 61, 32]) ++ r1) ++ [32, 105, 110, 32]) ++ r2)
     else none else none else none else none else none else none else none) else (bif ((Exp.kind a0) == 9) then (if List.length [102, 111, 114, 32] + List.length (Exp.text a0) ≤ Lim then if List.length ([102, 111, 114, 32] ++ (Exp.text a0)) + List.length [32, 105, 110, 32] ≤ Lim then if (0 : Int) ≤ 0 ∧ (0 : Int) < (List.length (Exp.args a0)) then (q2 (List.getD (Exp.args a0) (Int.toNat 0) Ty.exp.dflt)).bind fun r1 => if List.length (([102, 111, 114, 32] ++ (Exp.text a0)) ++ [32, 105, 110, 32]) + List.length r1 ≤ Lim then if List.length ((([102, 111, 114, 32] ++ (Exp.text a0)) ++ [32, 105, 110, 32]) ++ r1) + List.length [32, 100, 111, 32] ≤ Lim then if (0 : Int) ≤ 1 ∧ (1 : Int) < (List.length (Exp.args a0)) then (q2 (List.getD (Exp.args a0) (Int.toNat 1) Ty.exp.dflt)).bind fun r2 => if List.length (((([102, 111, 114, 32] ++ (Exp.text a0)) ++ [32, 105, 110, 32]) ++ r1) ++ [32, 100, 111, 32]) + List.length r2 ≤ Lim then some ((((([102, 111, 114, 32] ++ (Exp.text a0)) ++ [32, 105, 110, 32]) ++ r1) ++ [32, 100, 111, 32]) ++ r2) else none else none else none else none else none else none else none) else (bif ((Exp.kind a0) == 8) then (if (0 : Int) ≤ 0 ∧ (0 : Int) < (List.length (Exp.args a0)) then (q2 (List.getD (Exp.args a0) (Int.toNat 0) Ty.exp.dflt)).bind fun r1 => if List.length [105, 102, 32] + List.length r1 ≤ Lim then if List.length ([105, 102, 32] ++ r1) + List.length [32, 116, 104, 101, 110, 32] ≤ Lim then if (0 : Int) ≤ 1 ∧ (1 : Int) < (List.length (Exp.args a0)) then (q2 (List.getD (Exp.args a0) (Int.toNat 1) Ty.exp.dflt)).bind fun r2 => if List.length (([105, 102, 32] ++ r1) ++ [32, 116, 104, 101, 110, 32]) + List.length r2 ≤ Lim then if List.length ((([105, 102, 32] ++ r1) ++ [32, 116, 104, 101, 110, 32]) ++ r2) + List.length [32, 101, 108, 115, 101, 32] ≤ Lim then if (0 : Int) ≤ 2 ∧ (2 : Int) < (List.length (Exp.args a0)) then (q2 (List.getD (Exp.args a0) (Int.toNat 2) Ty.exp.dflt)).bind fun r3 => if List.length (((([105, 102, 32] ++ r1) ++ [32, 116, 104, 101, 110, 32]) ++ r2) ++ [32, 101, 108, 115, 101, 32]) + List.length r3 ≤ Lim then
      some ((((([105, 102, 32] ++ r1) ++ [32, 116, 104, 101, 110, 32]) ++ r2) ++ [32, 101, 108, 115, 101, 32]) ++ r3) else none else none else none else none else none else none else none else none) else ((xE7 N a0).bind fun r1 => bif (r1 == 1) then (if (0 : Int) ≤ 0 ∧ (0 : Int) < (List.length (Exp.args a0)) then (q0 (List.getD (Exp.args a0) (Int.toNat 0) Ty.exp.dflt) 2).bind fun r2 => if List.length r2 + List.length [32] ≤ Lim then (xFT N (Exp.n a0)).bind fun r3 => if List.length (r2 ++ [32]) + List.length r3 ≤ Lim then if List.length ((r2 ++ [32]) ++ r3) + List.length [32] ≤ Lim then if (0 : Int) ≤ 1 ∧ (1 : Int) < (List.length (Exp.args a0)) then (q0 (List.getD (Exp.args a0) (Int.toNat 1) Ty.exp.dflt) (IntKind.i64.wrap (r1 + 1))).bind fun r4 => if List.length (((r2 ++ [32]) ++ r3) ++ [32]) + List.length r4 ≤ Lim then some ((((r2 ++ [32]) ++ r3) ++ [32]) ++ r4) else none else none else none else none else none else none) else (if (0 : Int) ≤ 0 ∧ (0 : Int) < (List.length (Exp.args a0)) then (q0 (List.getD (Exp.args a0) (Int.toNat 0) Ty.exp.dflt) r1).bind fun r2 => if List.length r2 + List.length [32] ≤ Lim then (xFT N (Exp.n a0)).bind fun r3 => if List.length (r2 ++ [32]) + List.length r3 ≤ Lim then if List.length ((r2 ++ [32]) ++ r3) + List.length [32] ≤ Lim then if (0 : Int) ≤ 1 ∧ (1 : Int) < (List.length (Exp.args a0)) then (q0 (List.getD (Exp.args a0) (Int.toNat 1) Ty.exp.dflt) (IntKind.i64.wrap (r1 + 1))).bind fun r4 => if List.length (((r2 ++ [32]) ++ r3) ++ [32]) + List.length r4 ≤ Lim then some ((((r2 ++ [32]) ++ r3) ++ [32]) ++ r4) else none else none else none else none else none else none)))))))))
structure spec_l12At_rec where
 c_spec_l12At : Exp → Int → Option (Str)
 c_spec_l12List : (List Exp) → Option (Str)
 c_spec_l12Text : Exp → Option (Str)
def xAr (N : Nat) : Nat → spec_l12At_rec
 | 0 => ⟨fun _ _ => none, fun _ => none, fun _ => none⟩
 | d + 1 => ⟨xFb N (xAr N d).c_spec_l12At (xAr N d).c_spec_l12List (xAr N d).c_spec_l12Text, xF6 N (xAr N d).c_spec_l12At (xAr N d).c_spec_l12List (xAr N d).c_spec_l12Text, xBG N (xAr N d).c_spec_l12At (xAr N d).c_spec_l12List (xAr N d).c_spec_l12Text⟩
def xIf (N : Nat) (a0 : Exp) : Option (Str) := (xAr N N).c_spec_l12Text a0
def xEm (a0 : Exp) : List Arg := [.val (.v true (Ex .ro a0))]
def xDI (r : Str) : CallO := ⟨.v false [.str r], [], []⟩
def xEC (N : Nat) (a0 : Exp) : Option (Str) := (xCz N a0).bind fun r1 => bif (!r1) then (some []) else ((xIf N a0).bind fun r2 => some r2)
def xCw (a0 : Str) : List Arg := [.val (.v false [.str a0])]
def xBp (r : Str × Bool) : CallO := ⟨.tup [(false, [.str r.1]), (false, [.bool r.2])], [], []⟩
def xEp (N : Nat) (a0 : Str) : Option (Str × Bool) := (xEu N a0).bind fun r1 => bif (decide (r1.2 ≥ 0)) then (some ([], false)) else ((xEC N r1.1).bind fun r2 => some (r2, true))
def xIg (a0 : Int) : List Arg := [.val (.v false [.int .i64 a0])]
def xGO (r : Str) : CallO := ⟨.v false [.str r], [], []⟩
def strconv_Itoa (N : Nat) (a0 : Int) : Option Str := zH1 a0
def xFe (a0 : Int) : List Arg := [.val (.v false [.int .i64 a0])]
def xEz (r : Str) : CallO := ⟨.v false [.str r], [], []⟩
def xFo (N : Nat) (a0 : Int) : Option (Str) := (strconv_Itoa N a0).bind fun r1 => some r1
def xIh (a0 : List Str) (a1 : Str) : List Arg := [.val (.v false [.sl .ro .str a0]), .val (.v false [.str a1])]
def xGP (r : Str) : CallO := ⟨.v false [.str r], [], []⟩
def strings_Join (N : Nat) (a0 : List Str) (a1 : Str) : Option Str := zH2 a0 a1
def xGR (a0 : List Str) (a1 : Str) : List Arg := [.val (.v false [.sl .ro .str a0]), .val (.v false [.str a1])]
def xGa (r : Str) : CallO := ⟨.v false [.str r], [], []⟩
def xHN (N : Nat) (a0 : List Str) (a1 : Str) : Option (Str) := (strings_Join N a0 a1).bind fun r1 => some r1
def xBl (a0 : Exp) : List Arg := [.val (.v true (Ex .ro a0))]
def xAU (r : Int) : CallO := ⟨.v false [.int .i64 r], [], []⟩
def xFG (N : Nat) (a0 : Exp) : Option (Int) := bif ((Exp.kind a0) == 7) then (some 0) else (bif ((Exp.kind a0) == 8) then (some 0) else (bif ((Exp.kind a0) == 9) then (some 0) else (bif ((Exp.kind a0) == 6) then (bif ((Exp.n a0) == 4) then (some 1) else (bif ((Exp.n a0) == 5) then (some 1) else (bif ((Exp.n a0) == 1) then (some 2) else (bif ((Exp.n a0) == 2) then (some 2) else (bif ((Exp.n a0) == 3) then (some 3) else (some 4)))))) else (some 4))))
def xCX (a0 : Exp) (a1 : Int) : List Arg := [.val (.v true (Ex .ro a0)), .val (.v false [.int .i64 a1])]
def xBE (r : Str) : CallO := ⟨.v false [.str r], [], []⟩
def xEl (N : Nat) (q0 : Exp → Int → Option (Str)) (q1 : Exp → Option (Str)) (q2 : (List Exp) → Option (Str)) (a0 : Exp) (a1 : Int) : Option (Str) := (q1 a0).bind fun r1 => (xFG N a0).bind fun r2 => bif (decide (r2 < a1)) then (if List.length [40] + List.length r1 ≤ Lim then if List.length ([40] ++ r1) + List.length [41] ≤ Lim then some (([40] ++ r1) ++ [41]) else none else none) else (some r1)
def xAZ (a0 : Exp) : List Arg := [.val (.v true (Ex .ro a0))]
def xAw (r : Str) : CallO := ⟨.v false [.str r], [], []⟩
def xBW (N : Nat) (q0 : Exp → Int → Option (Str)) (q1 : Exp → Option (Str)) (q2 : (List Exp) → Option (Str)) (a0 : Exp) : Option (Str) := bif ((Exp.kind a0) == 1) then ((xFo N (Exp.n a0)).bind fun r1 => some r1) else (bif ((Exp.kind a0) == 2) then (if List.length [34] + List.length (Exp.text a0) ≤ Lim then if List.length ([34] ++ (Exp.text a0)) + List.length [34] ≤ Lim then some (([34] ++ (Exp.text a0)) ++ [34]) else none else none) else (bif ((Exp.kind a0) == 3) then (some (Exp.text a0)) else (bif ((Exp.kind a0) == 4) then ((q2 (Exp.args a0)).bind fun r1 => if List.length [91] + List.length r1 ≤ Lim then if List.length ([91] ++ r1) + List.length [93] ≤ Lim then some (([91] ++ r1) ++ [93]) else none else none) else (bif ((Exp.kind a0) == 5) then (if List.length (Exp.text a0) + List.length [40] ≤ Lim then (q2 (Exp.args a0)).bind fun r1 => if List.length ((Exp.text a0) ++ [40]) + List.length r1 ≤ Lim then if List.length (((Exp.text a0) ++ [40]) ++ r1) + List.length [41] ≤ Lim then some ((((Exp.text a0) ++ [40]) ++ r1) ++ [41]) else none else none else none) else (bif ((Exp.kind a0) == 7) then (if List.length [108, 101, 116, 32] + List.length (Exp.text a0) ≤ Lim then if List.length ([108, 101, 116, 32] ++ (Exp.text a0)) + List.length [32, 61, 32] ≤ Lim then if (0 : Int) ≤ 0 ∧ (0 : Int) < (List.length (Exp.args a0)) then (q1 (List.getD (Exp.args a0) (Int.toNat 0) Ty.exp.dflt)).bind fun r1 => if List.length (([108, 101, 116, 32] ++ (Exp.text a0)) ++ [32, 61, 32]) + List.length r1 ≤ Lim then if List.length ((([108, 101, 116, 32] ++ (Exp.text a0)) ++ [32, 61, 32]) ++ r1) + List.length [32, 105, 110, 32] ≤ Lim then if (0 : Int) ≤ 1 ∧ (1 : Int) < (List.length (Exp.args a0)) then (q1 (List.getD (Exp.args a0) (Int.toNat 1) Ty.exp.dflt)).bind fun r2 => if List.length (((([108, 101, 116, 32] ++ (Exp.text a0)) ++ [32, 61, 32]) ++ r1) ++ [32, 105, 110, 32]) + List.length r2 ≤ Lim then some ((((([108, 101, 116, 32] ++ (Exp.text a0)) ++ [32, 61, 32]) ++ r1) ++ [32, 105, 110, 32]) ++ r2)
     else none else none else none else none else none else none else none) else (bif ((Exp.kind a0) == 8) then (if (0 : Int) ≤ 0 ∧ (0 : Int) < (List.length (Exp.args a0)) then (q1 (List.getD (Exp.args a0) (Int.toNat 0) Ty.exp.dflt)).bind fun r1 => if List.length [105, 102, 32] + List.length r1 ≤ Lim then if List.length ([105, 102, 32] ++ r1) + List.length [32, 116, 104, 101, 110, 32] ≤ Lim then if (0 : Int) ≤ 1 ∧ (1 : Int) < (List.length (Exp.args a0)) then (q1 (List.getD (Exp.args a0) (Int.toNat 1) Ty.exp.dflt)).bind fun r2 => if List.length (([105, 102, 32] ++ r1) ++ [32, 116, 104, 101, 110, 32]) + List.length r2 ≤ Lim then if List.length ((([105, 102, 32] ++ r1) ++ [32, 116, 104, 101, 110, 32]) ++ r2) + List.length [32, 101, 108, 115, 101, 32] ≤ Lim then if (0 : Int) ≤ 2 ∧ (2 : Int) < (List.length (Exp.args a0)) then (q1 (List.getD (Exp.args a0) (Int.toNat 2) Ty.exp.dflt)).bind fun r3 => if List.length (((([105, 102, 32] ++ r1) ++ [32, 116, 104, 101, 110, 32]) ++ r2) ++ [32, 101, 108, 115, 101, 32]) + List.length r3 ≤ Lim then some ((((([105, 102, 32] ++ r1) ++ [32, 116, 104, 101, 110, 32]) ++ r2) ++ [32, 101, 108, 115, 101, 32]) ++ r3) else none else none else none else none else none else none else none else none) else (bif ((Exp.kind a0) == 9) then (if List.length [102, 111, 114, 32] + List.length (Exp.text a0) ≤ Lim then if List.length ([102, 111, 114, 32] ++ (Exp.text a0)) + List.length [32, 105, 110, 32] ≤ Lim then if (0 : Int) ≤ 0 ∧ (0 : Int) < (List.length (Exp.args a0)) then (q1 (List.getD (Exp.args a0) (Int.toNat 0) Ty.exp.dflt)).bind fun r1 => if List.length (([102, 111, 114, 32] ++ (Exp.text a0)) ++ [32, 105, 110, 32]) + List.length r1 ≤ Lim then if List.length ((([102, 111, 114, 32] ++ (Exp.text a0)) ++ [32, 105, 110, 32]) ++ r1) + List.length [32, 100, 111, 32] ≤ Lim then if (0 : Int) ≤ 1 ∧ (1 : Int) < (List.length (Exp.args a0)) then (q1 (List.getD (Exp.args a0) (Int.toNat 1) Ty.exp.dflt)).bind fun r2 =>
      if List.length (((([102, 111, 114, 32] ++ (Exp.text a0)) ++ [32, 105, 110, 32]) ++ r1) ++ [32, 100, 111, 32]) + List.length r2 ≤ Lim then some ((((([102, 111, 114, 32] ++ (Exp.text a0)) ++ [32, 105, 110, 32]) ++ r1) ++ [32, 100, 111, 32]) ++ r2) else none else none else none else none else none else none else none) else ((xFG N a0).bind fun r1 => bif (r1 == 1) then (if (0 : Int) ≤ 0 ∧ (0 : Int) < (List.length (Exp.args a0)) then (q0 (List.getD (Exp.args a0) (Int.toNat 0) Ty.exp.dflt) 2).bind fun r2 => if List.length r2 + List.length [32] ≤ Lim then (xEk N (Exp.n a0)).bind fun r3 => if List.length (r2 ++ [32]) + List.length r3 ≤ Lim then if List.length ((r2 ++ [32]) ++ r3) + List.length [32] ≤ Lim then if (0 : Int) ≤ 1 ∧ (1 : Int) < (List.length (Exp.args a0)) then (q0 (List.getD (Exp.args a0) (Int.toNat 1) Ty.exp.dflt) (IntKind.i64.wrap (r1 + 1))).bind fun r4 => if List.length (((r2 ++ [32]) ++ r3) ++ [32]) + List.length r4 ≤ Lim then some ((((r2 ++ [32]) ++ r3) ++ [32]) ++ r4) else none else none else none else none else none else none) else (if (0 : Int) ≤ 0 ∧ (0 : Int) < (List.length (Exp.args a0)) then (q0 (List.getD (Exp.args a0) (Int.toNat 0) Ty.exp.dflt) r1).bind fun r2 => if List.length r2 + List.length [32] ≤ Lim then (xEk N (Exp.n a0)).bind fun r3 => if List.length (r2 ++ [32]) + List.length r3 ≤ Lim then if List.length ((r2 ++ [32]) ++ r3) + List.length [32] ≤ Lim then if (0 : Int) ≤ 1 ∧ (1 : Int) < (List.length (Exp.args a0)) then (q0 (List.getD (Exp.args a0) (Int.toNat 1) Ty.exp.dflt) (IntKind.i64.wrap (r1 + 1))).bind fun r4 => if List.length (((r2 ++ [32]) ++ r3) ++ [32]) + List.length r4 ≤ Lim then some ((((r2 ++ [32]) ++ r3) ++ [32]) ++ r4) else none else none else none else none else none else none)))))))))
def xEB (a0 : List Exp) : List Arg := [.val (.v false [.sl .ro .exp a0])]
def xC5 (r : Str) : CallO := ⟨.v false [.str r], [], []⟩
def xD3 (N : Nat) (q0 : Exp → Int → Option (Str)) (q1 : Exp → Option (Str)) (q2 : (List Exp) → Option (Str)) : Nat → (List Str) → (List Exp) → Int → Int → Option (Str)
 | 0, _, _, _, _ => none
 | n + 1, x3, x7, x8, x9 => bif (decide (x9 < x8)) then (if (0 : Int) ≤ x9 ∧ x9 < (List.length x7) then (q1 (List.getD x7 (Int.toNat x9) Ty.exp.dflt)).bind fun r1 => if List.length x3 + List.length [r1] ≤ Lim then (xD3 N q0 q1 q2 n (x3 ++ [r1]) x7 x8 (IntKind.i64.wrap (x9 + 1))) else none else none) else ((xHN N x3 [44, 32]).bind fun r1 => some r1)
def xF3 (N : Nat) (q0 : Exp → Int → Option (Str)) (q1 : Exp → Option (Str)) (q2 : (List Exp) → Option (Str)) (a0 : List Exp) : Option (Str) := (xD3 N q0 q1 q2 N [] a0 (List.length a0 : Int) 0)
structure impl_enclosed_rec where
 c_impl_enclosed : Exp → Int → Option (Str)
 c_impl_source : Exp → Option (Str)
 c_impl_sources : (List Exp) → Option (Str)
def xAh (N : Nat) : Nat → impl_enclosed_rec
 | 0 => ⟨fun _ _ => none, fun _ => none, fun _ => none⟩
 | d + 1 => ⟨xEl N (xAh N d).c_impl_enclosed (xAh N d).c_impl_source (xAh N d).c_impl_sources, xBW N (xAh N d).c_impl_enclosed (xAh N d).c_impl_source (xAh N d).c_impl_sources, xF3 N (xAh N d).c_impl_enclosed (xAh N d).c_impl_source (xAh N d).c_impl_sources⟩
def xID (N : Nat) (a0 : Exp) : Option (Str) := (xAh N N).c_impl_source a0
def xEh (a0 : Exp) : List Arg := [.val (.v true (Ex .ro a0))]
def xDE (r : Str) : CallO := ⟨.v false [.str r], [], []⟩
def xEy (N : Nat) (a0 : Exp) : Option (Str) := (xCy N a0).bind fun r1 => bif (!r1) then (some []) else ((xID N a0).bind fun r2 => some r2)
def xCo (a0 : Str) : List Arg := [.val (.v false [.str a0])]
def xBo (r : Str × Bool) : CallO := ⟨.tup [(false, [.str r.1]), (false, [.bool r.2])], [], []⟩
def xEj (N : Nat) (a0 : Str) : Option (Str × Bool) := (xEr N a0).bind fun r1 => bif (decide (r1.2 ≥ 0)) then (some ([], false)) else ((xEy N r1.1).bind fun r2 => some (r2, true))
def xBO (a0 : Str) : List Arg := [.val (.v false [.str a0])]
def xBP (r : Bool) : CallO := ⟨.v false [.bool r], [], []⟩
def xDx (N : Nat) (a0 : Str) : Option (Bool) := bif (decide ((List.length a0 : Int) > 1048576)) then (some true) else ((xEp N a0).bind fun r1 => (xEj N a0).bind fun r2 => bif (!((r2.1 : Str) == r1.1)) then (some false) else (bif (!((r2.2 : Bool) == r1.2)) then (some false) else (some true)))
end Go.Ab
end
section
namespace Go.Ab
theorem xYm {P : Program} {w : World} {nm : String} {k : IntKind} {zs : List Int} (h : Lib.TabIs P w nm k zs) : ∃ (g : Nat) (o : Obj), w.heap[g]? = some o ∧ ∀ w' : World, w'.heap[g]? = some o → Lib.TabIs P w' nm k zs := by
 unfold Lib.TabIs World.var? at h
 obtain ⟨g, hg, h⟩ := Option.bind_eq_some_iff.1 h
 split at h
 · rename_i cs ty fr hh
   refine ⟨g, _, hh, fun w' hw => ?_⟩
   unfold Lib.TabIs World.var?
   rw [hg, jS, hw]
   exact h
 · cases h
end Go.Ab
namespace Go.Ab
variable [Inhabited Lb]
open Go.Proofs Go.Shelf Go.RowKit Go.Lib
variable {P : Program} {ρ : Ren}
theorem xNU (L : Lays.n156 P ρ) : ∀ args w, (callFunc (ρ.f 156) args).run P w = .ok (.enter (ρ.f 156) args) w := enters_of L.f156 (by kernel_rfl) rfl
theorem xJ4 (L : Lays.n137 P ρ) : ∀ args w, (callFunc (ρ.f 137) args).run P w = .ok (.enter (ρ.f 137) args) w := enters_of L.f137 (by kernel_rfl) rfl
theorem xJ3 (L : Lays.n99 P ρ) : ∀ args w, (callFunc (ρ.f 99) args).run P w = .ok (.enter (ρ.f 99) args) w := enters_of L.f99 (by kernel_rfl) rfl
theorem xNT (L : LaysM.n171 P ρ) : ∀ args w, (callFunc (ρ.f 171) args).run P w = .ok (.enter (ρ.f 171) args) w := enters_of L.f171 (by kernel_rfl) rfl
theorem xTO {A : World → Prop} {f : FuncId} (hc : ∀ n : Int, -9223372036854775808 ≤ n → n ≤ 9223372036854775807 → ∀ w : World, A w → Calls P f #[.int .i64 n] w fun e w' => e = .returned (.string ⟨(Lib.itoa n).toArray⟩) ∧ ∃ k os, w' = Go.Sort.grow (w.drewN k) os)
 (ht : ∀ w : World, (∀ x ∈ zDP, w.heap[x.1]? = some x.2) → A w) (n : Int) (w : World) (h0 : -9223372036854775808 ≤ n) (h1 : n ≤ 9223372036854775807) (hw : ∀ x ∈ zDP, w.heap[x.1]? = some x.2) :
 Calls P f #[.int .i64 n] w fun e w' => e = .returned (.string ⟨(Lib.itoa n).toArray⟩) ∧ Go.RowKit.Below w.heap.size w w' := by
 refine (hc n h0 h1 w (ht w hw)).mono ?_
 rintro e w' ⟨he, k, os, rfl⟩
 refine ⟨he, rfl, rfl, rfl, ?_, fun j hj => ?_⟩
 · show w.heap.size ≤ (w.heap ++ os).size
   rw [Array.size_append]; omega
 · show (w.heap ++ os)[j]? = _
   rw [Array.getElem?_append_left hj]
end Go.Ab
end
section
namespace Go.Ab
open Go.Proofs Go.Shelf Go.RowKit Go.Lib
variable {P : Program} {ρ : Ren}
def xTE (s : Str) (e : Ending) : Prop :=
 (∃ v, Lib.atoiAll s = .ok v ∧ e = .returned (.tuple #[.int .i64 v, .nilIface])) ∨ ((∀ v, Lib.atoiAll s ≠ .ok v) ∧ ∃ n t b, e = .returned (.tuple #[.int .i64 n, .iface t (.pointer (some ⟨b, 0, none⟩))]))
theorem xP7 (L : LaysC.n172 P ρ) (s : ByteArray) (hl : s.size ≤ 1000000) (w : World) (he : (∃ t1 p1, w.var? P "strconv.ErrSyntax" = some #[.iface t1 p1]) ∧ ∃ t2 p2, w.var? P "strconv.ErrRange" = some #[.iface t2 p2]) :
 Calls P (ρ.f 172) #[.string s] w fun e w' => xTE s.data.toList e ∧ Below w.heap.size w w' := by
 obtain ⟨⟨t1, p1, h1⟩, t2, p2, h2⟩ := he
 cases hc : Lib.atoiAll s.data.toList with
 | ok v =>
   refine (Any.strconv_Atoi_ok L s (by omega) v hc w).mono ?_
   rintro e w' ⟨rfl, hw⟩
   refine ⟨.inl ⟨v, hc, rfl⟩, ?_⟩
   rcases hw with rfl | ⟨t, rfl⟩
   · exact Below.refl _ _
   · exact Lib.bytesWorld_below w _ t
 | range =>
   refine (Any.strconv_Atoi_range_var L s (by omega) hc t2 p2 w h2).mono ?_
   rintro e w' ⟨N, rfl, _, _, hb⟩
   exact ⟨.inr ⟨fun v h => (by rw [hc] at h; cases h), _, _, _, rfl⟩, hb⟩
 | _ =>
   refine (Any.strconv_Atoi_syntax_var L s (by omega) hc t1 p1 w h1).mono ?_
   rintro e w' ⟨N, rfl, _, _, hb⟩
   exact ⟨.inr ⟨fun v h => (by rw [hc] at h; cases h), _, _, _, rfl⟩, hb⟩
theorem xQh (L : LaysM.n171 P ρ) (n : Int) (h0 : -9223372036854775808 ≤ n) (h1 : n ≤ 9223372036854775807) (w : World) (ht : Lib.TabIs P w "internal/strconv.uint64pow10" .u64 Lib.pow10Tab) :
 Calls P (ρ.f 171) #[.int .i64 n] w fun e w' => e = .returned (.string ⟨(Lib.itoa n).toArray⟩) ∧ Below w.heap.size w w' := by
 refine (Any.strconv_Itoa L n h0 h1 w ht).mono ?_
 rintro e w' ⟨he, k, os, rfl⟩
 refine ⟨he, rfl, rfl, rfl, ?_, fun j hj => ?_⟩
 · show w.heap.size ≤ (w.heap ++ os).size
   rw [Array.size_append]; omega
 · show (w.heap ++ os)[j]? = _
   rw [Array.getElem?_append_left hj]
theorem xP3 {w : World} {nm : String} {cs : Array Value} (h : w.var? P nm = some cs) : ∃ (g : Nat) (o : Obj), w.heap[g]? = some o ∧ ∀ w' : World, w'.heap[g]? = some o → w'.var? P nm = some cs := by
 unfold World.var? at h
 obtain ⟨g, hg, h⟩ := Option.bind_eq_some_iff.1 h
 split at h
 · rename_i cs ty fr hh
   refine ⟨g, _, hh, fun w' hw => ?_⟩
   unfold World.var?
   rw [hg, jS, hw]
   exact h
 · cases h
end Go.Ab
end
section
namespace Go.Proofs
open Go.Shelf
def Tryz.lays156_ren : Go.Shelf.Ren := ⟨fun | 156 => 124 | 165 => 134 | 166 => 135 | 169 => 136 | 240 => 147 | 241 => 148 | 276 => 157 | 277 => 158 | n => n, fun | 31 => 73 | 9 => 9 | 3 => 3 | 4 => 4 | 0 => 0 | 20 => 20 | 72 => 113 | 76 => 100 | 70 => 111 | 37 => 32 | 75 => 99 | 127 => 128 | 164 => 142 | 5 => 5 | 80 => 67 | n => n, fun | n => n⟩
theorem Tryz.lays156 : Go.Proofs.Lays.n156 Tryz.prog Tryz.lays156_ren := {
 mixed := by kernel_rfl
 f156 := Tryz.func124.trans (congrArg some (by kernel_rfl))
 f165 := Tryz.func134.trans (congrArg some (by kernel_rfl))
 f166 := Tryz.func135.trans (congrArg some (by kernel_rfl))
 f169 := Tryz.func136.trans (congrArg some (by kernel_rfl))
 f240 := Tryz.func147.trans (congrArg some (by kernel_rfl))
 f241 := Tryz.func148.trans (congrArg some (by kernel_rfl))
 f276 := Tryz.func157.trans (congrArg some (by kernel_rfl))
 f277 := Tryz.func158.trans (congrArg some (by kernel_rfl))
 t0 := Tryz.underlying0
 a0 := Tryz.isAgg0
 z0 := Tryz.sizeOf0
 v0 := Tryz.zeroValue0
 t3 := Tryz.underlying3
 a3 := Tryz.isAgg3
 z3 := Tryz.sizeOf3
 v3 := Tryz.zeroValue3
 t4 := Tryz.underlying4
 a4 := Tryz.isAgg4
 z4 := Tryz.sizeOf4
 v4 := Tryz.zeroValue4
 t9 := Tryz.underlying9
 a9 := Tryz.isAgg9
 z9 := Tryz.sizeOf9
 v9 := Tryz.zeroValue9
 t20 := Tryz.underlying20
 a20 := Tryz.isAgg20
 z20 := Tryz.sizeOf20
 v20 := Tryz.zeroValue20
 t31 := Tryz.underlying73
 a31 := Tryz.isAgg73
 z31 := Tryz.sizeOf73
 v31 := Tryz.zeroValue73
 t37 := Tryz.underlying32
 a37 := Tryz.isAgg32
 z37 := Tryz.sizeOf32
 v37 := Tryz.zeroValue32
 t70 := Tryz.underlying111
 a70 := Tryz.isAgg111
 z70 := Tryz.sizeOf111
 v70 := Tryz.zeroValue111
 t72 := Tryz.underlying113
 a72 := Tryz.isAgg113
 z72 := Tryz.sizeOf113
 v72 := Tryz.zeroValue113
 t75 := Tryz.underlying99
 a75 := Tryz.isAgg99
 z75 := Tryz.sizeOf99
 v75 := Tryz.zeroValue99
 t76 := Tryz.underlying100
 a76 := Tryz.isAgg100
 z76 := Tryz.sizeOf100
 v76 := Tryz.zeroValue100
 t127 := Tryz.underlying128
 a127 := Tryz.isAgg128
 z127 := Tryz.sizeOf128
 v127 := Tryz.zeroValue128
 t164 := Tryz.underlying142
 a164 := Tryz.isAgg142
 z164 := Tryz.sizeOf142
 v164 := Tryz.zeroValue142 }
theorem Tryz.Builder_Extra_156 : Builder.Extra Tryz.prog Tryz.lays156_ren := {
 sizeBuilder := by kernel_rfl
 liesBuilder := by kernel_rfl
 t5 := Tryz.underlying5
 a5 := Tryz.isAgg5
 z5 := Tryz.sizeOf5
 v5 := Tryz.zeroValue5
 infoByte := by kernel_rfl
 cellsByte := by kernel_rfl
 sizeByte := by kernel_rfl
 neB5 := by decide }
def Tryz.lays137_ren : Go.Shelf.Ren := ⟨fun | 137 => 90 | 217 => 112 | 266 => 130 | n => n, fun | 9 => 9 | 5 => 5 | 3 => 3 | n => n, fun | n => n⟩
theorem Tryz.lays137 : Go.Proofs.Lays.n137 Tryz.prog Tryz.lays137_ren := {
 mixed := by kernel_rfl
 f137 := Tryz.func90.trans (congrArg some (by kernel_rfl))
 f217 := Tryz.func112.trans (congrArg some (by kernel_rfl))
 f266 := Tryz.func130.trans (congrArg some (by kernel_rfl))
 t3 := Tryz.underlying3
 a3 := Tryz.isAgg3
 z3 := Tryz.sizeOf3
 v3 := Tryz.zeroValue3
 t5 := Tryz.underlying5
 a5 := Tryz.isAgg5
 z5 := Tryz.sizeOf5
 v5 := Tryz.zeroValue5
 t9 := Tryz.underlying9
 a9 := Tryz.isAgg9
 z9 := Tryz.sizeOf9
 v9 := Tryz.zeroValue9 }
def Tryz.laysM171_ren : Go.Shelf.Ren := ⟨fun | 171 => 102 | 243 => 123 | 246 => 133 | 283 => 143 | 284 => 144 | 285 => 145 | 286 => 146 | 129 => 153 | 317 => 152 | 318 => 154 | 319 => 155 | 320 => 156 | 337 => 161 | 338 => 162 | n => n, fun | 3 => 3 | 9 => 9 | 2 => 2 | 4 => 4 | 171 => 122 | 0 => 0 | 53 => 123 | 37 => 32 | 5 => 5 | 173 => 126 | 212 => 137 | 51 => 138 | 20 => 20 | 213 => 139 | 46 => 104 | 232 => 150 | 233 => 151 | n => n, fun | 17 => 3 | 18 => 4 | 19 => 5 | n => n⟩
theorem Tryz.laysM171 : Go.Proofs.LaysM.n171 Tryz.prog Tryz.laysM171_ren := {
 mixed := by kernel_rfl
 f129 := Tryz.func153.trans (congrArg some (by kernel_rfl))
 f171 := Tryz.func102.trans (congrArg some (by kernel_rfl))
 f243 := Tryz.func123.trans (congrArg some (by kernel_rfl))
 f246 := Tryz.func133.trans (congrArg some (by kernel_rfl))
 f283 := Tryz.func143.trans (congrArg some (by kernel_rfl))
 f284 := Tryz.func144.trans (congrArg some (by kernel_rfl))
 f285 := Tryz.func145.trans (congrArg some (by kernel_rfl))
 f286 := Tryz.func146.trans (congrArg some (by kernel_rfl))
 f317 := Tryz.func152.trans (congrArg some (by kernel_rfl))
 f318 := Tryz.func154.trans (congrArg some (by kernel_rfl))
 f319 := Tryz.func155.trans (congrArg some (by kernel_rfl))
 f320 := Tryz.func156.trans (congrArg some (by kernel_rfl))
 f337 := Tryz.func161.trans (congrArg some (by kernel_rfl))
 f338 := Tryz.func162.trans (congrArg some (by kernel_rfl))
 t0 := Tryz.underlying0
 a0 := Tryz.isAgg0
 z0 := Tryz.sizeOf0
 v0 := Tryz.zeroValue0
 t2 := Tryz.underlying2
 a2 := Tryz.isAgg2
 z2 := Tryz.sizeOf2
 v2 := Tryz.zeroValue2
 t3 := Tryz.underlying3
 a3 := Tryz.isAgg3
 z3 := Tryz.sizeOf3
 v3 := Tryz.zeroValue3
 t4 := Tryz.underlying4
 a4 := Tryz.isAgg4
 z4 := Tryz.sizeOf4
 v4 := Tryz.zeroValue4
 t5 := Tryz.underlying5
 a5 := Tryz.isAgg5
 z5 := Tryz.sizeOf5
 v5 := Tryz.zeroValue5
 t9 := Tryz.underlying9
 a9 := Tryz.isAgg9
 z9 := Tryz.sizeOf9
 v9 := Tryz.zeroValue9
 t20 := Tryz.underlying20
 a20 := Tryz.isAgg20
 z20 := Tryz.sizeOf20
 v20 := Tryz.zeroValue20
 t37 := Tryz.underlying32
 a37 := Tryz.isAgg32
 z37 := Tryz.sizeOf32
 v37 := Tryz.zeroValue32
 t46 := Tryz.underlying104
 a46 := Tryz.isAgg104
 z46 := Tryz.sizeOf104
 v46 := Tryz.zeroValue104
 t51 := Tryz.underlying138
 a51 := Tryz.isAgg138
 z51 := Tryz.sizeOf138
 v51 := Tryz.zeroValue138
 t53 := Tryz.underlying123
 a53 := Tryz.isAgg123
 z53 := Tryz.sizeOf123
 v53 := Tryz.zeroValue123
 t171 := Tryz.underlying122
 a171 := Tryz.isAgg122
 z171 := Tryz.sizeOf122
 v171 := Tryz.zeroValue122
 t173 := Tryz.underlying126
 a173 := Tryz.isAgg126
 z173 := Tryz.sizeOf126
 v173 := Tryz.zeroValue126
 t212 := Tryz.underlying137
 a212 := Tryz.isAgg137
 z212 := Tryz.sizeOf137
 v212 := Tryz.zeroValue137
 t213 := Tryz.underlying139
 a213 := Tryz.isAgg139
 z213 := Tryz.sizeOf139
 t232 := Tryz.underlying150
 a232 := Tryz.isAgg150
 z232 := Tryz.sizeOf150
 v232 := Tryz.zeroValue150
 t233 := Tryz.underlying151
 a233 := Tryz.isAgg151
 z233 := Tryz.sizeOf151
 v233 := Tryz.zeroValue151
 g17 := by kernel_rfl
 g18 := by kernel_rfl
 g19 := by kernel_rfl
 i0 := by kernel_rfl
 i2 := by kernel_rfl
 i3 := by kernel_rfl
 i4 := by kernel_rfl
 i5 := by kernel_rfl
 i9 := by kernel_rfl
 i20 := by kernel_rfl
 i37 := by kernel_rfl
 i46 := by kernel_rfl
 i51 := by kernel_rfl
 i53 := by kernel_rfl
 i171 := by kernel_rfl
 i173 := by kernel_rfl
 i212 := by kernel_rfl
 i232 := by kernel_rfl
 i233 := by kernel_rfl
 m17 := by kernel_rfl
 m18 := by kernel_rfl
 m19 := by kernel_rfl }
def Tryz.laysC172_ren : Go.Shelf.Ren := ⟨fun | 172 => 111 | 244 => 128 | 245 => 129 | 247 => 138 | 279 => 139 | 280 => 140 | 281 => 141 | 282 => 142 | 287 => 149 | 316 => 150 | 171 => 102 | 205 => 151 | 321 => 159 | 322 => 160 | 243 => 123 | 246 => 133 | 283 => 143 | 284 => 144 | 285 => 145 | 286 => 146 | 129 => 153 | 317 => 152 | 318 => 154 | 319 => 155 | 320 => 156 | 337 => 161 | 338 => 162 | n => n, fun | 9 => 9 | 3 => 3 | 75 => 99 | 76 => 100 | 4 => 4 | 5 => 5 | 167 => 116 | 37 => 32 | 0 => 0 | 85 => 117 | 2 => 2 | 168 => 119 | 53 => 123 | 175 => 129 | 46 => 104 | 210 => 133 | 127 => 128 | 145 => 148 | 143 => 146 | 21 => 21 | 171 => 122 | 173 => 126 | 212 => 137 | 51 => 138 | 20 => 20 | 213 => 139 | 232 => 150 | 233 => 151 | 80 => 67 | n => n, fun | 15 => 1 | 16 => 2 | 17 => 3 | 18 => 4 | 19 => 5 | n => n⟩
theorem Tryz.laysC172 : Go.Proofs.LaysC.n172 Tryz.prog Tryz.laysC172_ren := {
 mixed := by kernel_rfl
 f129 := Tryz.func153.trans (congrArg some (by kernel_rfl))
 f171 := Tryz.func102.trans (congrArg some (by kernel_rfl))
 f172 := Tryz.func111.trans (congrArg some (by kernel_rfl))
 f205 := Tryz.func151.trans (congrArg some (by kernel_rfl))
 f243 := Tryz.func123.trans (congrArg some (by kernel_rfl))
 f244 := Tryz.func128.trans (congrArg some (by kernel_rfl))
 f245 := Tryz.func129.trans (congrArg some (by kernel_rfl))
 f246 := Tryz.func133.trans (congrArg some (by kernel_rfl))
 f247 := Tryz.func138.trans (congrArg some (by kernel_rfl))
 f279 := Tryz.func139.trans (congrArg some (by kernel_rfl))
 f280 := Tryz.func140.trans (congrArg some (by kernel_rfl))
 f281 := Tryz.func141.trans (congrArg some (by kernel_rfl))
 f282 := Tryz.func142.trans (congrArg some (by kernel_rfl))
 f283 := Tryz.func143.trans (congrArg some (by kernel_rfl))
 f284 := Tryz.func144.trans (congrArg some (by kernel_rfl))
 f285 := Tryz.func145.trans (congrArg some (by kernel_rfl))
 f286 := Tryz.func146.trans (congrArg some (by kernel_rfl))
 f287 := Tryz.func149.trans (congrArg some (by kernel_rfl))
 f316 := Tryz.func150.trans (congrArg some (by kernel_rfl))
 f317 := Tryz.func152.trans (congrArg some (by kernel_rfl))
 f318 := Tryz.func154.trans (congrArg some (by kernel_rfl))
 f319 := Tryz.func155.trans (congrArg some (by kernel_rfl))
 f320 := Tryz.func156.trans (congrArg some (by kernel_rfl))
 f321 := Tryz.func159.trans (congrArg some (by kernel_rfl))
 f322 := Tryz.func160.trans (congrArg some (by kernel_rfl))
 f337 := Tryz.func161.trans (congrArg some (by kernel_rfl))
 f338 := Tryz.func162.trans (congrArg some (by kernel_rfl))
 t0 := Tryz.underlying0
 a0 := Tryz.isAgg0
 z0 := Tryz.sizeOf0
 v0 := Tryz.zeroValue0
 t2 := Tryz.underlying2
 a2 := Tryz.isAgg2
 z2 := Tryz.sizeOf2
 v2 := Tryz.zeroValue2
 t3 := Tryz.underlying3
 a3 := Tryz.isAgg3
 z3 := Tryz.sizeOf3
 v3 := Tryz.zeroValue3
 t4 := Tryz.underlying4
 a4 := Tryz.isAgg4
 z4 := Tryz.sizeOf4
 v4 := Tryz.zeroValue4
 t5 := Tryz.underlying5
 a5 := Tryz.isAgg5
 z5 := Tryz.sizeOf5
 v5 := Tryz.zeroValue5
 t9 := Tryz.underlying9
 a9 := Tryz.isAgg9
 z9 := Tryz.sizeOf9
 v9 := Tryz.zeroValue9
 t20 := Tryz.underlying20
 a20 := Tryz.isAgg20
 z20 := Tryz.sizeOf20
 v20 := Tryz.zeroValue20
 t21 := Tryz.underlying21
 a21 := Tryz.isAgg21
 z21 := Tryz.sizeOf21
 v21 := Tryz.zeroValue21
 t37 := Tryz.underlying32
 a37 := Tryz.isAgg32
 z37 := Tryz.sizeOf32
 v37 := Tryz.zeroValue32
 t46 := Tryz.underlying104
 a46 := Tryz.isAgg104
 z46 := Tryz.sizeOf104
 v46 := Tryz.zeroValue104
 t51 := Tryz.underlying138
 a51 := Tryz.isAgg138
 z51 := Tryz.sizeOf138
 v51 := Tryz.zeroValue138
 t53 := Tryz.underlying123
 a53 := Tryz.isAgg123
 z53 := Tryz.sizeOf123
 v53 := Tryz.zeroValue123
 t75 := Tryz.underlying99
 a75 := Tryz.isAgg99
 z75 := Tryz.sizeOf99
 v75 := Tryz.zeroValue99
 t76 := Tryz.underlying100
 a76 := Tryz.isAgg100
 z76 := Tryz.sizeOf100
 v76 := Tryz.zeroValue100
 t85 := Tryz.underlying117
 a85 := Tryz.isAgg117
 z85 := Tryz.sizeOf117
 v85 := Tryz.zeroValue117
 t127 := Tryz.underlying128
 a127 := Tryz.isAgg128
 z127 := Tryz.sizeOf128
 v127 := Tryz.zeroValue128
 t143 := Tryz.underlying146
 a143 := Tryz.isAgg146
 z143 := Tryz.sizeOf146
 v143 := Tryz.zeroValue146
 t145 := Tryz.underlying148
 a145 := Tryz.isAgg148
 z145 := Tryz.sizeOf148
 v145 := Tryz.zeroValue148
 t167 := Tryz.underlying116
 a167 := Tryz.isAgg116
 z167 := Tryz.sizeOf116
 v167 := Tryz.zeroValue116
 t168 := Tryz.underlying119
 a168 := Tryz.isAgg119
 z168 := Tryz.sizeOf119
 v168 := Tryz.zeroValue119
 t171 := Tryz.underlying122
 a171 := Tryz.isAgg122
 z171 := Tryz.sizeOf122
 v171 := Tryz.zeroValue122
 t173 := Tryz.underlying126
 a173 := Tryz.isAgg126
 z173 := Tryz.sizeOf126
 v173 := Tryz.zeroValue126
 t175 := Tryz.underlying129
 a175 := Tryz.isAgg129
 z175 := Tryz.sizeOf129
 v175 := Tryz.zeroValue129
 t210 := Tryz.underlying133
 a210 := Tryz.isAgg133
 z210 := Tryz.sizeOf133
 v210 := Tryz.zeroValue133
 t212 := Tryz.underlying137
 a212 := Tryz.isAgg137
 z212 := Tryz.sizeOf137
 v212 := Tryz.zeroValue137
 t213 := Tryz.underlying139
 a213 := Tryz.isAgg139
 z213 := Tryz.sizeOf139
 t232 := Tryz.underlying150
 a232 := Tryz.isAgg150
 z232 := Tryz.sizeOf150
 v232 := Tryz.zeroValue150
 t233 := Tryz.underlying151
 a233 := Tryz.isAgg151
 z233 := Tryz.sizeOf151
 v233 := Tryz.zeroValue151
 g15 := by kernel_rfl
 g16 := by kernel_rfl
 g17 := by kernel_rfl
 g18 := by kernel_rfl
 g19 := by kernel_rfl
 t80 := Tryz.underlying67
 a80 := Tryz.isAgg67
 z80 := Tryz.sizeOf67
 v80 := Tryz.zeroValue67
 i0 := by kernel_rfl
 i2 := by kernel_rfl
 i3 := by kernel_rfl
 i4 := by kernel_rfl
 i5 := by kernel_rfl
 i9 := by kernel_rfl
 i20 := by kernel_rfl
 i21 := by kernel_rfl
 i37 := by kernel_rfl
 i46 := by kernel_rfl
 i51 := by kernel_rfl
 i53 := by kernel_rfl
 i75 := by kernel_rfl
 i76 := by kernel_rfl
 i80 := by kernel_rfl
 i85 := by kernel_rfl
 i127 := by kernel_rfl
 i143 := by kernel_rfl
 i145 := by kernel_rfl
 i167 := by kernel_rfl
 i168 := by kernel_rfl
 i171 := by kernel_rfl
 i173 := by kernel_rfl
 i175 := by kernel_rfl
 i210 := by kernel_rfl
 i212 := by kernel_rfl
 i232 := by kernel_rfl
 i233 := by kernel_rfl
 m15 := by kernel_rfl
 m16 := by kernel_rfl
 m17 := by kernel_rfl
 m18 := by kernel_rfl
 m19 := by kernel_rfl
 c0 := by kernel_rfl
 c2 := by kernel_rfl
 c3 := by kernel_rfl
 c4 := by kernel_rfl
 c5 := by kernel_rfl
 c9 := by kernel_rfl
 c20 := by kernel_rfl
 c21 := by kernel_rfl
 c37 := by kernel_rfl
 c46 := by kernel_rfl
 c51 := by kernel_rfl
 c53 := by kernel_rfl
 c75 := by kernel_rfl
 c76 := by kernel_rfl
 c80 := by kernel_rfl
 c85 := by kernel_rfl
 c127 := by kernel_rfl
 c143 := by kernel_rfl
 c145 := by kernel_rfl
 c167 := by kernel_rfl
 c168 := by kernel_rfl
 c171 := by kernel_rfl
 c173 := by kernel_rfl
 c175 := by kernel_rfl
 c210 := by kernel_rfl
 c212 := by kernel_rfl
 c213 := by kernel_rfl
 c232 := by kernel_rfl
 c233 := by kernel_rfl }
def Tryz.lays99_ren : Go.Shelf.Ren := ⟨fun | 99 => 92 | 206 => 113 | n => n, fun | 9 => 9 | 4 => 4 | 3 => 3 | n => n, fun | n => n⟩
theorem Tryz.lays99 : Go.Proofs.Lays.n99 Tryz.prog Tryz.lays99_ren := {
 mixed := by kernel_rfl
 f99 := Tryz.func92.trans (congrArg some (by kernel_rfl))
 f206 := Tryz.func113.trans (congrArg some (by kernel_rfl))
 t3 := Tryz.underlying3
 a3 := Tryz.isAgg3
 z3 := Tryz.sizeOf3
 v3 := Tryz.zeroValue3
 t4 := Tryz.underlying4
 a4 := Tryz.isAgg4
 z4 := Tryz.sizeOf4
 v4 := Tryz.zeroValue4
 t9 := Tryz.underlying9
 a9 := Tryz.isAgg9
 z9 := Tryz.sizeOf9
 v9 := Tryz.zeroValue9 }
end Go.Proofs
end
section
namespace Go.Ab
open Go.Proofs Go.RowKit Go.Shelf
theorem xMl : ∀ args w, (callFunc 89 args).run Tryz.prog w = .ok (.enter 89 args) w := enters_of Tryz.func89 (by kernel_rfl) rfl
theorem xNS : Enters Tryz.prog 111 := enters_of Tryz.func111 (by kernel_rfl) rfl
theorem xMk : Enters Tryz.prog 102 := enters_of Tryz.func102 (by kernel_rfl) rfl
set_option maxRecDepth 100000 in
set_option maxHeartbeats 4000000 in
theorem xM1 (s : ByteArray) (lo hi : Int) (hl : s.size ≤ 1000000) {Q : World → Prop} (hQ : ∀ w w', Q w → Below w.heap.size w w' → Q w') (ht : ∀ w, Q w → Lib.TabIs Tryz.prog w "internal/strconv.uint64pow10" .u64 Lib.pow10Tab)
 (he : ∀ w, Q w → (∃ t1 p1, w.var? Tryz.prog "strconv.ErrSyntax" = some #[.iface t1 p1]) ∧ ∃ t2 p2, w.var? Tryz.prog "strconv.ErrRange" = some #[.iface t2 p2]) (w : World) (hw : Q w) :
 Calls Tryz.prog 89 #[.string s, .int .i64 lo, .int .i64 hi] w fun e w' => e = .returned (.tuple #[.int .i64 (zHG s.data.toList lo hi).1, .bool (zHG s.data.toList lo hi).2]) ∧ Below w.heap.size w w' := by
 have hA := xP7 Tryz.laysC172 s hl w (he w hw)
 change Calls Tryz.prog 111 _ _ _ at hA
 have e1 := xNS
 have e2 := xMk
 by_cases hok : ∃ v, Lib.atoiAll s.data.toList = .ok v
 · obtain ⟨v, hv⟩ := hok
   obtain ⟨vb0, vb1⟩ := Lib.atoiAll_bounds hv
   have hA : Calls Tryz.prog 111 #[.string s] w fun e w' => e = .returned (.tuple #[.int .i64 v, .nilIface]) ∧ Below w.heap.size w w' := hA.mono fun e w' ⟨h, hb⟩ => ⟨by
    rcases h with ⟨v', h1, h2⟩ | ⟨h1, _⟩
    · rw [hv] at h1; cases h1; exact h2
    · exact absurd hv (h1 v), hb⟩
   have hI : ∀ W, Below w.heap.size w W → ∀ (f : Ending → World → Prop), (∀ W', Below w.heap.size w W' → f (.returned (.string ⟨(Lib.itoa v).toArray⟩)) W') → Calls Tryz.prog 102 #[.int .i64 v] W f := fun W hb f hf =>
    (xQh Tryz.laysM171 v vb0 vb1 W (ht W (hQ w W hw hb))).mono fun e W' ⟨h1, h2⟩ => by rw [h1]; exact hf W' (hb.trans (h2.mono hb.size))
   have hN : zHG s.data.toList lo hi = if v < lo then (0, false) else if v > hi then (0, false) else if Lib.itoa v = s.data.toList then (v, true) else (0, false) := by unfold zHG; rw [hv]
   rw [hN]
   clear hN hv
   by_cases h1 : v < lo
   · rw [if_pos h1]
     go_enter Tryz.func89, Tryz.ntmps89
     go_wp2_with (go_at_call 111; refine hA.mono ?_; rintro e W1 ⟨rfl, hb⟩)
     go_wp2
     go_ret2
     exact ⟨rfl, hb⟩
   · rw [if_neg h1]
     by_cases h2 : v > hi
     · rw [if_pos h2]
       go_enter Tryz.func89, Tryz.ntmps89
       go_wp2_with (go_at_call 111; refine hA.mono ?_; rintro e W1 ⟨rfl, hb⟩)
       go_wp2
       go_ret2
       exact ⟨rfl, hb⟩
     · rw [if_neg h2]
       go_enter Tryz.func89, Tryz.ntmps89
       go_wp2_with (go_at_call 111; refine hA.mono ?_; rintro e W1 ⟨rfl, hb⟩)
       go_wp2_with (go_at_call 102; refine hI _ (by assumption) _ ?_; intro W2 hb2)
       all_goals first
        | (go_ret2; exact ⟨rfl, hb2⟩)
        | (exfalso; simp_all [ByteArray.toList_eq]; done)
        | (exfalso; rename_i hx; rw [ByteArray.toList_eq, h] at hx; rcases hx with (hx | hx) | hx <;> first | omega | (simp at hx; done))
 · have hN : zHG s.data.toList lo hi = (0, false) := by
    unfold zHG
    cases hc : Lib.atoiAll s.data.toList with
    | ok v => exact absurd ⟨v, hc⟩ hok
    | _ => rfl
   have hA : Calls Tryz.prog 111 #[.string s] w fun e w' => (∃ n t b, e = .returned (.tuple #[.int .i64 n, .iface t (.pointer (some ⟨b, 0, none⟩))])) ∧ Below w.heap.size w w' := hA.mono fun e w' ⟨h, hb⟩ => ⟨by
    rcases h with ⟨v', h1, h2⟩ | ⟨_, h1⟩
    · exact absurd ⟨v', h1⟩ hok
    · exact h1, hb⟩
   rw [hN]
   clear hN hok
   go_enter Tryz.func89, Tryz.ntmps89
   go_wp2_with (go_at_call 111; refine hA.mono ?_; rintro e W1 ⟨⟨n, t, b, rfl⟩, hb⟩)
   go_wp2
   go_ret2
   exact ⟨rfl, hb⟩
end Go.Ab
end
section
open Go.Proofs
namespace Go.Ab.T
variable [Inhabited Lb]
abbrev AbC (f : FuncId) (a : List Arg) (r : CallO) : Prop := AbsCalls Tryz.prog f a r
abbrev W (x : Int) : Int := IntKind.i64.wrap x
abbrev Ln {α : Type} (l : List α) : Nat := List.length l
abbrev tN (x : Int) : Nat := Int.toNat x
abbrev gD {α : Type} (l : List α) (i : Nat) (d : α) : α := List.getD l i d
abbrev iY (b : Bool) : Prop := b = true
abbrev iN (b : Bool) : Prop := b = false
abbrev dc (p : Prop) [Decidable p] : Bool := decide p
abbrev vd : Val := Ty.val.dflt
abbrev rd : Rowd := Ty.row.dflt
end Go.Ab.T
end
section
open Go.Proofs
namespace Go.Ab.T
set_option maxRecDepth 100000
variable [Inhabited Lb]
def p10 : String := ((Go.Proofs.YthbobcapimmnhaaGreatDoor.Rows.fnExactParseErrorRow.laid[2]?).map fun x => x.1).getD ""
def Tab10 : Prop := ∀ w : World, (∀ x ∈ zDP, w.heap[x.1]? = some x.2) → Lib.TabIs Tryz.prog w p10 .u64 Lib.pow10Tab
variable [Nonempty Tab10]
theorem xZa : Tab10 := (inferInstance : Nonempty Tab10).elim fun h => h
def ErrVars : Prop := ∀ w : World, (∀ x ∈ zDP, w.heap[x.1]? = some x.2) → (∃ t1 p1, w.var? Tryz.prog "strconv.ErrSyntax" = some #[.iface t1 p1]) ∧ ∃ t2 p2, w.var? Tryz.prog "strconv.ErrRange" = some #[.iface t2 p2]
variable [Nonempty ErrVars]
theorem xTK : ErrVars := (inferInstance : Nonempty ErrVars).elim fun h => h
def tt : TT := [(3, { zero := some [.int .i64 0], ik := some .i64 }),
 (4, { zero := some [.bool false], isBool := true }),
 (5, { zero := some [.int .u8 0], ik := some .u8 }),
 (9, { zero := some [.str []], isStr := true }),
 (23, { zero := some [.sl .own .exp []], elem := some (25, .exp) }),
 (25, { sz := 4, agg := true, zero := some [.int .i64 0, .int .i64 0, .str [], .sl .own .exp []], offs := [0, 1, 2, 3], fsz := [1, 1, 1, 1] }),
 (32, { zero := some [.sl .own .byte []], elem := some (5, .byte) }),
 (37, { zero := some [.sl .own .tok []], elem := some (50, .tok) }),
 (43, { sz := 4, agg := true, zero := some [.sl .own .tok [], .int .i64 0, .int .i64 0, .int .i64 0], offs := [0, 1, 2, 3], fsz := [1, 1, 1, 1] }),
 (47, { sz := 3, agg := true, zero := some [.sl .own .tok [], .int .i64 0, .int .i64 0], offs := [0, 1, 2], fsz := [1, 1, 1] }),
 (50, { sz := 4, agg := true, zero := some [.int .i64 0, .int .i64 0, .int .i64 0, .str []], offs := [0, 1, 2, 3], fsz := [1, 1, 1, 1] }),
 (69, { zero := some [.sl .own .int []], elem := some (3, .int) }),
 (73, { zero := some [.sl .own .str []], elem := some (9, .str) }),
 (79, { sz := 3, agg := true, zero := some [.sl .own .byte [], .int .i64 0, .int .i64 0], offs := [0, 1, 2], fsz := [1, 1, 1] })]
theorem ttok : TTok Tryz.prog tt := zIg (by kernel_rfl)
theorem mix : Tryz.prog.follows .mixedOrders = true := by kernel_rfl
def F : Bool := false
def Y : Bool := true
noncomputable def rE (I : Info) (ag : List Arg) (bs : List Bool) (cs : List CallO) : Option Res := run tt (AbsCalls Tryz.prog) I 3000 false [.code I.body] ⟨zBp 0 ag, bs, cs, []⟩
noncomputable def rS (k : Nat) (I : Info) (σ : St) (bs : List Bool) (cs : List CallO) : Option Res := run tt (AbsCalls Tryz.prog) I 3000 true (stkAt k I.body) ⟨σ, bs, cs, []⟩
noncomputable def dn (r : CallO) (ob : List Prop) : Option Res := some (.done r ob)
noncomputable def st (k : Nat) (I : Info) (σ : St) (ob : List Prop) : Option Res := some (.stop (stkAt k I.body) σ ob)
def RE (fn : Func) (I : Info) (ag : List Arg) (r : CallO) : Prop := Reach Tryz.prog fn I [.code I.body] (zBp 0 ag) r
def RS (fn : Func) (I : Info) (k : Nat) (σ : St) (r : CallO) : Prop := Reach Tryz.prog fn I (stkAt k I.body) σ r
section
variable {ρ : Type} {f : FuncId} {fn : Func} {I : Info} {ag : List Arg} {bs : List Bool} {cs : List CallO} {k j : Nat} {σ σ' : St} {ob : List Prop} {ro : ρ → CallO} {x r : ρ} {q : CallO}
theorem dE (e : some x = some r) (hf : FnOk Tryz.prog f fn I) (h : rE I ag bs cs = dn (ro x) ob) (o : ∀ p ∈ ob, p) : RE fn I ag (ro r) := by
 cases e; exact Reach.done ttok mix hf h o
theorem dS (e : some x = some r) (hf : FnOk Tryz.prog f fn I) (h : rS k I σ bs cs = dn (ro x) ob) (o : ∀ p ∈ ob, p) : RS fn I k σ (ro r) := by
 cases e; exact Reach.done ttok mix hf h o
theorem tE (hf : FnOk Tryz.prog f fn I) (h : rE I ag bs cs = st k I σ ob) (o : ∀ p ∈ ob, p) (t : RS fn I k σ q) : RE fn I ag q := Reach.stop ttok mix hf h o t
theorem tS (hf : FnOk Tryz.prog f fn I) (h : rS j I σ' bs cs = st k I σ ob) (o : ∀ p ∈ ob, p) (t : RS fn I k σ q) : RS fn I j σ' q := Reach.stop ttok mix hf h o t
end
theorem oc {p : Prop} {l : List Prop} (h : p) (t : ∀ q ∈ l, q) : ∀ q ∈ p :: l, q := zIf h t
theorem on : ∀ q ∈ ([] : List Prop), q := zIj
theorem oc2 {p0 p1 : Prop} {l : List Prop} (h0 : p0) (h1 : p1) (t : ∀ q ∈ l, q) : ∀ q ∈ p0 :: p1 :: l, q := oc h0 (oc h1 t)
theorem oc3 {p0 p1 p2 : Prop} {l : List Prop} (h0 : p0) (h1 : p1) (h2 : p2) (t : ∀ q ∈ l, q) : ∀ q ∈ p0 :: p1 :: p2 :: l, q := oc h0 (oc2 h1 h2 t)
theorem oc4 {p0 p1 p2 p3 : Prop} {l : List Prop} (h0 : p0) (h1 : p1) (h2 : p2) (h3 : p3) (t : ∀ q ∈ l, q) : ∀ q ∈ p0 :: p1 :: p2 :: p3 :: l, q := oc h0 (oc3 h1 h2 h3 t)
theorem oc5 {p0 p1 p2 p3 p4 : Prop} {l : List Prop} (h0 : p0) (h1 : p1) (h2 : p2) (h3 : p3) (h4 : p4) (t : ∀ q ∈ l, q) : ∀ q ∈ p0 :: p1 :: p2 :: p3 :: p4 :: l, q := oc h0 (oc4 h1 h2 h3 h4 t)
theorem oc6 {p0 p1 p2 p3 p4 p5 : Prop} {l : List Prop} (h0 : p0) (h1 : p1) (h2 : p2) (h3 : p3) (h4 : p4) (h5 : p5) (t : ∀ q ∈ l, q) : ∀ q ∈ p0 :: p1 :: p2 :: p3 :: p4 :: p5 :: l, q := oc h0 (oc5 h1 h2 h3 h4 h5 t)
theorem oc7 {p0 p1 p2 p3 p4 p5 p6 : Prop} {l : List Prop} (h0 : p0) (h1 : p1) (h2 : p2) (h3 : p3) (h4 : p4) (h5 : p5) (h6 : p6) (t : ∀ q ∈ l, q) : ∀ q ∈ p0 :: p1 :: p2 :: p3 :: p4 :: p5 :: p6 :: l, q := oc h0 (oc6 h1 h2 h3 h4 h5 h6 t)
theorem oc8 {p0 p1 p2 p3 p4 p5 p6 p7 : Prop} {l : List Prop} (h0 : p0) (h1 : p1) (h2 : p2) (h3 : p3) (h4 : p4) (h5 : p5) (h6 : p6) (h7 : p7) (t : ∀ q ∈ l, q) : ∀ q ∈ p0 :: p1 :: p2 :: p3 :: p4 :: p5 :: p6 :: p7 :: l, q := oc h0 (oc7 h1 h2 h3 h4 h5 h6 h7 t)
theorem oc9 {p0 p1 p2 p3 p4 p5 p6 p7 p8 : Prop} {l : List Prop} (h0 : p0) (h1 : p1) (h2 : p2) (h3 : p3) (h4 : p4) (h5 : p5) (h6 : p6) (h7 : p7) (h8 : p8) (t : ∀ q ∈ l, q) : ∀ q ∈ p0 :: p1 :: p2 :: p3 :: p4 :: p5 :: p6 :: p7 :: p8 :: l, q := oc h0 (oc8 h1 h2 h3 h4 h5 h6 h7 h8 t)
theorem oc10 {p0 p1 p2 p3 p4 p5 p6 p7 p8 p9 : Prop} {l : List Prop} (h0 : p0) (h1 : p1) (h2 : p2) (h3 : p3) (h4 : p4) (h5 : p5) (h6 : p6) (h7 : p7) (h8 : p8) (h9 : p9) (t : ∀ q ∈ l, q) : ∀ q ∈ p0 :: p1 :: p2 :: p3 :: p4 :: p5 :: p6 :: p7 :: p8 :: p9 :: l, q := oc h0 (oc9 h1 h2 h3 h4 h5 h6 h7 h8 h9 t)
theorem oc11 {p0 p1 p2 p3 p4 p5 p6 p7 p8 p9 p10 : Prop} {l : List Prop} (h0 : p0) (h1 : p1) (h2 : p2) (h3 : p3) (h4 : p4) (h5 : p5) (h6 : p6) (h7 : p7) (h8 : p8) (h9 : p9) (h10 : p10) (t : ∀ q ∈ l, q) : ∀ q ∈ p0 :: p1 :: p2 :: p3 :: p4 :: p5 :: p6 :: p7 :: p8 :: p9 :: p10 :: l, q := oc h0 (oc10 h1 h2 h3 h4 h5 h6 h7 h8 h9 h10 t)
theorem oc12 {p0 p1 p2 p3 p4 p5 p6 p7 p8 p9 p10 p11 : Prop} {l : List Prop} (h0 : p0) (h1 : p1) (h2 : p2) (h3 : p3) (h4 : p4) (h5 : p5) (h6 : p6) (h7 : p7) (h8 : p8) (h9 : p9) (h10 : p10) (h11 : p11) (t : ∀ q ∈ l, q) : ∀ q ∈ p0 :: p1 :: p2 :: p3 :: p4 :: p5 :: p6 :: p7 :: p8 :: p9 :: p10 :: p11 :: l, q := oc h0 (oc11 h1 h2 h3 h4 h5 h6 h7 h8 h9 h10 h11 t)
theorem cE {α : Type} {C : Prop} {b : Bool} {x y : Option α} {r : α} (h : cond b x y = some r) (f : b = true → x = some r → C) (g : b = false → y = some r → C) : C := (zIc h).elim (fun h => f h.1 h.2) fun h => g h.1 h.2
theorem bE {α β : Type} {C : Prop} {o : Option α} {f : α → Option β} {r : β} (h : Option.bind o f = some r) (g : ∀ a, o = some a → f a = some r → C) : C := (zIa h).elim fun a h => g a h.1 h.2
theorem iE {α : Type} {C p : Prop} [Decidable p] {x : Option α} {r : α} (h : (if p then x else none) = some r) (g : p → x = some r → C) : C := (zIh h).elim g
theorem nE {α : Type} {C : Prop} {r : α} (h : none = some r) : C := nomatch h
noncomputable def I79 : Info := { body := (Tryz.f79.body).getD .skip, nt := 9, results := [.tmp 2], keep := [0, 4], live := [], modes := [(1, [(2, .take, false)])] }
theorem fk79 : FnOk Tryz.prog 79 Tryz.f79 I79 := ⟨Tryz.func79, by kernel_rfl, by kernel_rfl, by kernel_rfl, by kernel_rfl⟩
def xXf (a0 : Int) : rE I79 (xET a0) [Y] [] = dn (xBH (dc (a0 ≤ 122))) [iY (dc (a0 ≥ 97))] := by kernel_rfl
def xXg (a0 : Int) : rE I79 (xET a0) [F] [] = dn (xBH false) [iN (dc (a0 ≥ 97))] := by kernel_rfl
theorem vAf {N : Nat} : ∀ a0 r, xFj N a0 = some r → RE Tryz.f79 I79 (xET a0) (xBH r) := fun a0 r h =>
 cE h (fun h0 h => dE h fk79 (xXf a0) (oc h0 on)) fun h0 h =>
 dE h fk79 (xXg a0) (oc h0 on)
theorem xDj {N : Nat} {a0 : Int} {r : Bool} (h : xFj N  a0 = some r) : AbC 79 (xET a0) (xBH r) :=
 AbsCalls.of_reach fk79 rfl rfl (Nat.le_of_ble_eq_true rfl) (vAf a0 r h)
noncomputable def I80 : Info := { body := (Tryz.f80.body).getD .skip, nt := 9, results := [.tmp 2], keep := [0, 4], live := [], modes := [(1, [(2, .take, false)])] }
theorem fk80 : FnOk Tryz.prog 80 Tryz.f80 I80 := ⟨Tryz.func80, by kernel_rfl, by kernel_rfl, by kernel_rfl, by kernel_rfl⟩
def xXh (a0 : Int) : rE I80 (xFd a0) [Y] [] = dn (xBy (dc (a0 ≤ 57))) [iY (dc (a0 ≥ 48))] := by kernel_rfl
def xXi (a0 : Int) : rE I80 (xFd a0) [F] [] = dn (xBy false) [iN (dc (a0 ≥ 48))] := by kernel_rfl
theorem vAg {N : Nat} : ∀ a0 r, xFc N a0 = some r → RE Tryz.f80 I80 (xFd a0) (xBy r) := fun a0 r h =>
 cE h (fun h0 h => dE h fk80 (xXh a0) (oc h0 on)) fun h0 h =>
 dE h fk80 (xXi a0) (oc h0 on)
theorem xCU {N : Nat} {a0 : Int} {r : Bool} (h : xFc N  a0 = some r) : AbC 80 (xFd a0) (xBy r) :=
 AbsCalls.of_reach fk80 rfl rfl (Nat.le_of_ble_eq_true rfl) (vAg a0 r h)
noncomputable def I72 : Info := { body := (Tryz.f72.body).getD .skip, nt := 31, results := [.tmp 2], keep := [0, 4, 6, 8, 10, 14, 22, 30, 54], live := [(5, [0, 6, 8])], modes := [(11, [(0, .take, false)])] }
theorem fk72 : FnOk Tryz.prog 72 Tryz.f72 I72 := ⟨Tryz.func72, by kernel_rfl, by kernel_rfl, by kernel_rfl, by kernel_rfl⟩
def xLH (x0 : Int) (x3 : Bool) (x4 : Str) : St := [(0, .v false [.int .i64 x0]), (6, .v false [.bool x3]), (8, .v false [.str x4])]
abbrev xON (v0 : Int) := List.map (fun n => UInt8.ofNat (tN n)) [(IntKind.u8.wrap ((W (48 + (W (0 - (Int.tmod v0 10)))))))]
def xWG (x0 : Int) (x3 : Bool) (x4 : Str) : rS 5 I72 (xLH x0 x3 x4) [Y, Y] [] = st 5 I72 (xLH (W (Int.tdiv x0 10)) x3 ((xON x0) ++ x4)) [iY (x0 != 0), 10 ≠ (0 : Int), iY (dc ((Int.tmod x0 10) < 0)), Ln (xON x0) + Ln x4 ≤ Lim, 10 ≠ (0 : Int)] := by kernel_rfl
abbrev xOO (v0 : Int) := List.map (fun n => UInt8.ofNat (tN n)) [(IntKind.u8.wrap ((W (48 + (Int.tmod v0 10)))))]
def xWH (x0 : Int) (x3 : Bool) (x4 : Str) : rS 5 I72 (xLH x0 x3 x4) [Y, F] [] = st 5 I72 (xLH (W (Int.tdiv x0 10)) x3 ((xOO x0) ++ x4)) [iY (x0 != 0), 10 ≠ (0 : Int), iN (dc ((Int.tmod x0 10) < 0)), Ln (xOO x0) + Ln x4 ≤ Lim, 10 ≠ (0 : Int)] := by kernel_rfl
def xWI (x0 : Int) (x3 : Bool) (x4 : Str) : rS 5 I72 (xLH x0 x3 x4) [F, Y] [] = dn (xA4 ([45] ++ x4)) [iN (x0 != 0), iY x3, Ln [45] + Ln x4 ≤ Lim] := by kernel_rfl
def xWJ (x0 : Int) (x3 : Bool) (x4 : Str) : rS 5 I72 (xLH x0 x3 x4) [F, F] [] = dn (xA4 x4) [iN (x0 != 0), iN x3] := by kernel_rfl
def xWK (a0 : Int) : rE I72 (xCF a0) [Y] [] = dn (xA4 [48]) [iY (a0 == 0)] := by kernel_rfl
abbrev xJg (v0 : Int) : Prop := iN (v0 == 0)
def xWL (a0 : Int) : rE I72 (xCF a0) [F] [] = st 5 I72 (xLH a0 (dc (a0 < 0)) []) [xJg a0] := by kernel_rfl
theorem xZ6 {N : Nat} : ∀ n x0 x3 x4 r, xCb N n x0 x3 x4 = some r → RS Tryz.f72 I72 5 (xLH x0 x3 x4) (xA4 r) := by
 intro n
 induction n with
 | zero => exact fun _ _ _ _ h => nE h
 | succ n ih =>
  exact fun x0 x3 x4 r h =>
   cE h (fun h0 h => cE h (fun h2 h => iE h fun h3 h => tS fk72 (xWG x0 x3 x4) (oc5 h0 (by decide) h2 h3 (by decide) on) (ih _ _ _ _ h)) fun h2 h =>
   iE h fun h3 h => tS fk72 (xWH x0 x3 x4) (oc5 h0 (by decide) h2 h3 (by decide) on) (ih _ _ _ _ h)) fun h0 h =>
   cE h (fun h1 h => iE h fun h2 h => dS h fk72 (xWI x0 x3 x4) (oc3 h0 h1 h2 on)) fun h1 h =>
   dS h fk72 (xWJ x0 x3 x4) (oc2 h0 h1 on)
theorem xZ7 {N : Nat} : ∀ a0 r, xEt N a0 = some r → RE Tryz.f72 I72 (xCF a0) (xA4 r) := fun a0 r h =>
 cE h (fun h0 h => dE h fk72 (xWK a0) (oc h0 on)) fun h0 h =>
 tE fk72 (xWL a0) (oc h0 on) (xZ6 _ _ _ _ _ h)
theorem xED {N : Nat} {a0 : Int} {r : Str} (h : xEt N  a0 = some r) : AbC 72 (xCF a0) (xA4 r) :=
 AbsCalls.of_reach fk72 rfl rfl (Nat.le_of_ble_eq_true rfl) (xZ7 a0 r h)
noncomputable def I107 : Info := { body := (Tryz.f107.body).getD .skip, nt := 63, results := [.tmp 4, .tmp 5], keep := [0, 2, 8, 10, 12, 14, 16, 18, 38, 60, 68, 92, 110, 122], live := [(9, [0, 12, 14, 16, 18])], modes := [(1, [(3, .take, false)]), (5, [(3, .take, false)]), (11, [(4, .take, false)])] }
theorem xHM : FnOk Tryz.prog 107 Tryz.f107 I107 := ⟨Tryz.func107, by kernel_rfl, by kernel_rfl, by kernel_rfl, by kernel_rfl⟩
def xHE (x0 : Str) (x6 : Bool) (x7 : Str) (x8 x9 : Int) : St := [(0, .v false [.str x0]), (12, .v false [.bool x6]), (14, .v false [.str x7]), (16, .v false [.int .i64 x8]), (18, .v false [.int .i64 x9])]
abbrev xC2 (v0 : Int) (v1 : Str) : Prop := iY (dc (v0 < (Ln v1 : Int)))
abbrev xAx (v0 : Int) (v1 : Str) : Prop := (0 : Int) ≤ v0 ∧ v0 < (Ln v1)
abbrev xFm (v0 : Str) (v1 : Int) := (((gD v0 (tN v1) 0).toNat : Int) : Int)
abbrev xTU (v0 : Str) (v1 : Int) : Prop := iY (dc ((xFm v0 v1) < 48))
def xQG (x0 : Str) (x6 : Bool) (x7 : Str) (x8 x9 : Int) : rS 9 I107 (xHE x0 x6 x7 x8 x9) [Y, Y, Y] [] = dn (xBr (0, false)) [xC2 x9 x7, xAx x9 x7, xTU x7 x9, iY true] := by kernel_rfl
abbrev xNZ (v0 : Str) (v1 : Int) : Prop := iN (dc ((xFm v0 v1) < 48))
abbrev xTV (v0 : Str) (v1 : Int) : Prop := iY (dc ((xFm v0 v1) > 57))
def xQH (x0 : Str) (x6 : Bool) (x7 : Str) (x8 x9 : Int) : rS 9 I107 (xHE x0 x6 x7 x8 x9) [Y, F, Y] [] = dn (xBr (0, false)) [xC2 x9 x7, xAx x9 x7, xNZ x7 x9, xAx x9 x7, xTV x7 x9] := by kernel_rfl
abbrev xTW (v0 : Str) (v1 : Int) : Prop := iN (dc ((xFm v0 v1) > 57))
abbrev xLm (v0 : Str) (v1 : Int) := ((gD v0 (tN v1) 0).toNat : Int)
def xQI (x0 : Str) (x6 : Bool) (x7 : Str) (x8 x9 : Int) : rS 9 I107 (xHE x0 x6 x7 x8 x9) [Y, F, F] [] = st 9 I107 (xHE x0 x6 x7 (W ((W (10 * x8)) + (W ((IntKind.u8.wrap ((xLm x7 x9) - 48)))))) (W (x9 + 1))) [xC2 x9 x7, xAx x9 x7, xNZ x7 x9, xAx x9 x7, xTW x7 x9, xAx x9 x7] := by kernel_rfl
abbrev xHi (v0 : Int) (v1 : Str) : Prop := iN (dc (v0 < (Ln v1 : Int)))
def xQJ (x0 : Str) (x6 : Bool) (x7 : Str) (x8 x9 : Int) (r1 : Str) : rS 9 I107 (xHE x0 x6 x7 x8 x9) [F, Y, Y] [xA4 r1] = dn (xBr (0, false)) [xHi x9 x7, iY x6, AbC 72 (xCF (W (0 - x8))) (xA4 r1), iY (!((r1 : Str) == x0))] := by kernel_rfl
def xQK (x0 : Str) (x6 : Bool) (x7 : Str) (x8 x9 : Int) (r1 : Str) : rS 9 I107 (xHE x0 x6 x7 x8 x9) [F, Y, F] [xA4 r1] = dn (xBr ((W (0 - x8)), true)) [xHi x9 x7, iY x6, AbC 72 (xCF (W (0 - x8))) (xA4 r1), iN (!((r1 : Str) == x0))] := by kernel_rfl
def xQL (x0 : Str) (x6 : Bool) (x7 : Str) (x8 x9 : Int) (r1 : Str) : rS 9 I107 (xHE x0 x6 x7 x8 x9) [F, F, Y] [xA4 r1] = dn (xBr (0, false)) [xHi x9 x7, iN x6, AbC 72 (xCF x8) (xA4 r1), iY (!((r1 : Str) == x0))] := by kernel_rfl
def xQM (x0 : Str) (x6 : Bool) (x7 : Str) (x8 x9 : Int) (r1 : Str) : rS 9 I107 (xHE x0 x6 x7 x8 x9) [F, F, F] [xA4 r1] = dn (xBr (x8, true)) [xHi x9 x7, iN x6, AbC 72 (xCF x8) (xA4 r1), iN (!((r1 : Str) == x0))] := by kernel_rfl
abbrev xKb (v0 : Str) := dc ((Ln v0 : Int) > 0)
abbrev xN0 (v0 : Str) : Prop := iY (xKb v0)
abbrev xN1 (v0 : Str) : Prop := (0 : Int) ≤ 0 ∧ (0 : Int) < (Ln v0)
abbrev xLn (v0 : Str) := (((gD v0 (tN 0) 0).toNat : Int) : Int) == 45
abbrev xOx (v0 : Str) : Prop := iY (xLn v0)
abbrev xOy (v0 : Str) : Prop := (0 : Int) ≤ (1 : Int) ∧ (1 : Int) ≤ (Ln v0)
abbrev xLo (v0 : Str) := ((Ln (List.drop (tN (1 : Int)) v0) : Int) : Int)
def xQN (a0 : Str) (a1 : Int) : rE I107 (xCD a0 a1) [Y, Y, Y, Y] [] = dn (xBr (0, false)) [xN0 a0, xN1 a0, xOx a0, xOy a0, iY (dc ((xLo a0) < 1)), iY true] := by kernel_rfl
abbrev xTt (v0 : Str) : Prop := iN (dc ((xLo v0) < 1))
def xQO (a0 : Str) (a1 : Int) : rE I107 (xCD a0 a1) [Y, Y, F, Y] [] = dn (xBr (0, false)) [xN0 a0, xN1 a0, xOx a0, xOy a0, xTt a0, iY (dc ((xLo a0) > a1))] := by kernel_rfl
abbrev xTR (v0 : Str) := List.drop (tN (1 : Int)) v0
def xQP (a0 : Str) (a1 : Int) : rE I107 (xCD a0 a1) [Y, Y, F, F] [] = st 9 I107 (xHE a0 (xLn a0) (xTR a0) 0 0) [xN0 a0, xN1 a0, xOx a0, xOy a0, xTt a0, iN (dc ((xLo a0) > a1))] := by kernel_rfl
abbrev xOz (v0 : Str) : Prop := iN (xLn v0)
def xPe (a0 : Str) (a1 : Int) : rE I107 (xCD a0 a1) [Y, F, Y, Y] [] = dn (xBr (0, false)) [xN0 a0, xN1 a0, xOz a0, iY (dc ((Ln a0 : Int) < 1)), iY true] := by kernel_rfl
abbrev xNi (v0 : Str) : Prop := iN (dc ((Ln v0 : Int) < 1))
def xPf (a0 : Str) (a1 : Int) : rE I107 (xCD a0 a1) [Y, F, F, Y] [] = dn (xBr (0, false)) [xN0 a0, xN1 a0, xOz a0, xNi a0, iY (dc ((Ln a0 : Int) > a1))] := by kernel_rfl
def xPg (a0 : Str) (a1 : Int) : rE I107 (xCD a0 a1) [Y, F, F, F] [] = st 9 I107 (xHE a0 (xLn a0) a0 0 0) [xN0 a0, xN1 a0, xOz a0, xNi a0, iN (dc ((Ln a0 : Int) > a1))] := by kernel_rfl
def xPh (a0 : Str) (a1 : Int) : rE I107 (xCD a0 a1) [F, F, Y, Y] [] = dn (xBr (0, false)) [iN (xKb a0), iN false, iY (dc ((Ln a0 : Int) < 1)), iY true] := by kernel_rfl
def xPi (a0 : Str) (a1 : Int) : rE I107 (xCD a0 a1) [F, F, F, Y] [] = dn (xBr (0, false)) [iN (xKb a0), iN false, xNi a0, iY (dc ((Ln a0 : Int) > a1))] := by kernel_rfl
def xPj (a0 : Str) (a1 : Int) : rE I107 (xCD a0 a1) [F, F, F, F] [] = st 9 I107 (xHE a0 false a0 0 0) [iN (xKb a0), iN false, xNi a0, iN (dc ((Ln a0 : Int) > a1))] := by kernel_rfl
theorem xOi {N : Nat} : ∀ n x0 x6 x7 x8 x9 r, xC4 N n x0 x6 x7 x8 x9 = some r → RS Tryz.f107 I107 9 (xHE x0 x6 x7 x8 x9) (xBr r) := by
 intro n
 induction n with
 | zero => exact fun _ _ _ _ _ _ h => nE h
 | succ n ih =>
  exact fun x0 x6 x7 x8 x9 r h =>
   cE h (fun h0 h => iE h fun h1 h => cE h (fun h2 h => dS h xHM (xQG x0 x6 x7 x8 x9) (oc4 h0 h1 h2 rfl on)) fun h2 h =>
   cE h (fun h4 h => dS h xHM (xQH x0 x6 x7 x8 x9) (oc5 h0 h1 h2 h1 h4 on)) fun h4 h =>
   tS xHM (xQI x0 x6 x7 x8 x9) (oc6 h0 h1 h2 h1 h4 h1 on) (ih _ _ _ _ _ _ h)) fun h0 h =>
   cE h (fun h1 h => bE h fun r1 h2 h => cE h (fun h3 h => dS h xHM (xQJ x0 x6 x7 x8 x9 r1) (oc4 h0 h1 (xED h2) h3 on)) fun h3 h =>
   dS h xHM (xQK x0 x6 x7 x8 x9 r1) (oc4 h0 h1 (xED h2) h3 on)) fun h1 h =>
   bE h fun r1 h2 h => cE h (fun h3 h => dS h xHM (xQL x0 x6 x7 x8 x9 r1) (oc4 h0 h1 (xED h2) h3 on)) fun h3 h =>
   dS h xHM (xQM x0 x6 x7 x8 x9 r1) (oc4 h0 h1 (xED h2) h3 on)
theorem xYx {N : Nat} : ∀ a0 a1 r, xGL N a0 a1 = some r → RE Tryz.f107 I107 (xCD a0 a1) (xBr r) := fun a0 a1 r h =>
 cE h (fun h0 h => iE h fun h1 h => cE h (fun h2 h => iE h fun h3 h => cE h (fun h4 h => dE h xHM (xQN a0 a1) (oc6 h0 h1 h2 h3 h4 rfl on)) fun h4 h =>
 cE h (fun h5 h => dE h xHM (xQO a0 a1) (oc6 h0 h1 h2 h3 h4 h5 on)) fun h5 h =>
 tE xHM (xQP a0 a1) (oc6 h0 h1 h2 h3 h4 h5 on) (xOi _ _ _ _ _ _ _ h)) fun h2 h =>
 cE h (fun h3 h => dE h xHM (xPe a0 a1) (oc5 h0 h1 h2 h3 rfl on)) fun h3 h =>
 cE h (fun h4 h => dE h xHM (xPf a0 a1) (oc5 h0 h1 h2 h3 h4 on)) fun h4 h =>
 tE xHM (xPg a0 a1) (oc5 h0 h1 h2 h3 h4 on) (xOi _ _ _ _ _ _ _ h)) fun h0 h =>
 cE h (fun h2 h => dE h xHM (xPh a0 a1) (oc4 h0 rfl h2 rfl on)) fun h2 h =>
 cE h (fun h3 h => dE h xHM (xPi a0 a1) (oc4 h0 rfl h2 h3 on)) fun h3 h =>
 tE xHM (xPj a0 a1) (oc4 h0 rfl h2 h3 on) (xOi _ _ _ _ _ _ _ h)
theorem xKH {N : Nat} {a0 : Str} {a1 : Int} {r : Int × Bool} (h : xGL N  a0 a1 = some r) : AbC 107 (xCD a0 a1) (xBr r) :=
 AbsCalls.of_reach xHM rfl rfl (Nat.le_of_ble_eq_true rfl) (xYx a0 a1 r h)
noncomputable def I81 : Info := { body := (Tryz.f81.body).getD .skip, nt := 8, results := [.tmp 2, .tmp 3], keep := [0, 4, 6], live := [], modes := [] }
theorem fk81 : FnOk Tryz.prog 81 Tryz.f81 I81 := ⟨Tryz.func81, by kernel_rfl, by kernel_rfl, by kernel_rfl, by kernel_rfl⟩
def xXj (a0 : Str) (r1 : Int × Bool) : rE I81 (xFz a0) [] [xBr r1] = dn (xCA (r1.1, r1.2)) [AbC 107 (xCD a0 12) (xBr r1)] := by kernel_rfl
theorem vAh {N : Nat} : ∀ a0 r, xEN N a0 = some r → RE Tryz.f81 I81 (xFz a0) (xCA r) := fun a0 r h =>
 bE h fun r1 h0 h => dE h fk81 (xXj a0 r1) (oc (xKH h0) on)
theorem xEf {N : Nat} {a0 : Str} {r : Int × Bool} (h : xEN N  a0 = some r) : AbC 81 (xFz a0) (xCA r) :=
 AbsCalls.of_reach fk81 rfl rfl (Nat.le_of_ble_eq_true rfl) (vAh a0 r h)
noncomputable def I82 : Info := { body := (Tryz.f82.body).getD .skip, nt := 29, results := [.tmp 2], keep := [0, 4, 6, 14, 50], live := [(2, [0, 6])], modes := [(4, [(4, .take, false), (10, .take, false)])] }
theorem fk82 : FnOk Tryz.prog 82 Tryz.f82 I82 := ⟨Tryz.func82, by kernel_rfl, by kernel_rfl, by kernel_rfl, by kernel_rfl⟩
def xLI (x0 : Str) (x3 : Int) : St := [(0, .v false [.str x0]), (6, .v false [.int .i64 x3])]
abbrev xMB (v0 : Str) (v1 : Int) := dc ((((gD v0 (tN v1) 0).toNat : Int) : Int) < 32)
def xXk (x0 : Str) (x3 : Int) : rS 2 I82 (xLI x0 x3) [Y, Y, Y, Y] [] = dn (xA2 false) [xC2 x3 x0, xAx x3 x0, iY (xMB x0 x3), iY true, iY true] := by kernel_rfl
abbrev xKQ (v0 : Str) (v1 : Int) : Prop := iN (xMB v0 v1)
abbrev xMC (v0 : Str) (v1 : Int) := dc ((((gD v0 (tN v1) 0).toNat : Int) : Int) > 126)
def xXl (x0 : Str) (x3 : Int) : rS 2 I82 (xLI x0 x3) [Y, F, Y, Y] [] = dn (xA2 false) [xC2 x3 x0, xAx x3 x0, xKQ x0 x3, xAx x3 x0, iY (xMC x0 x3), iY true] := by kernel_rfl
abbrev xNj (v0 : Str) (v1 : Int) : Prop := iN (xMC v0 v1)
abbrev xH5 (v0 : Str) (v1 : Int) : Prop := iY ((xFm v0 v1) == 34)
def xXm (x0 : Str) (x3 : Int) : rS 2 I82 (xLI x0 x3) [Y, F, F, Y] [] = dn (xA2 false) [xC2 x3 x0, xAx x3 x0, xKQ x0 x3, xAx x3 x0, xNj x0 x3, xAx x3 x0, xH5 x0 x3] := by kernel_rfl
abbrev xH6 (v0 : Str) (v1 : Int) : Prop := iN ((xFm v0 v1) == 34)
def xXn (x0 : Str) (x3 : Int) : rS 2 I82 (xLI x0 x3) [Y, F, F, F] [] = st 2 I82 (xLI x0 (W (x3 + 1))) [xC2 x3 x0, xAx x3 x0, xKQ x0 x3, xAx x3 x0, xNj x0 x3, xAx x3 x0, xH6 x0 x3] := by kernel_rfl
def xXo (x0 : Str) (x3 : Int) : rS 2 I82 (xLI x0 x3) [F] [] = dn (xA2 (dc ((Ln x0 : Int) ≤ 20))) [xHi x3 x0] := by kernel_rfl
def xXp (a0 : Str) : rE I82 (xD5 a0) [] [] = st 2 I82 (xLI a0 0) [] := by kernel_rfl
theorem vAi {N : Nat} : ∀ n x0 x3 r, xCv N n x0 x3 = some r → RS Tryz.f82 I82 2 (xLI x0 x3) (xA2 r) := by
 intro n
 induction n with
 | zero => exact fun _ _ _ h => nE h
 | succ n ih =>
  exact fun x0 x3 r h =>
   cE h (fun h0 h => iE h fun h1 h => cE h (fun h2 h => dS h fk82 (xXk x0 x3) (oc5 h0 h1 h2 rfl rfl on)) fun h2 h =>
   cE h (fun h4 h => dS h fk82 (xXl x0 x3) (oc6 h0 h1 h2 h1 h4 rfl on)) fun h4 h =>
   cE h (fun h6 h => dS h fk82 (xXm x0 x3) (oc7 h0 h1 h2 h1 h4 h1 h6 on)) fun h6 h =>
   tS fk82 (xXn x0 x3) (oc7 h0 h1 h2 h1 h4 h1 h6 on) (ih _ _ _ h)) fun h0 h =>
   dS h fk82 (xXo x0 x3) (oc h0 on)
theorem vAj {N : Nat} : ∀ a0 r, xEd N a0 = some r → RE Tryz.f82 I82 (xD5 a0) (xA2 r) := fun a0 r h =>
 tE fk82 (xXp a0) on (vAi _ _ _ _ h)
theorem xD6 {N : Nat} {a0 : Str} {r : Bool} (h : xEd N  a0 = some r) : AbC 82 (xD5 a0) (xA2 r) :=
 AbsCalls.of_reach fk82 rfl rfl (Nat.le_of_ble_eq_true rfl) (vAj a0 r h)
noncomputable def I83 : Info := { body := (Tryz.f83.body).getD .skip, nt := 32, results := [.tmp 4], keep := [0, 2, 8, 14, 16, 36, 62], live := [], modes := [(13, [(5, .take, false)])] }
theorem fk83 : FnOk Tryz.prog 83 Tryz.f83 I83 := ⟨Tryz.func83, by kernel_rfl, by kernel_rfl, by kernel_rfl, by kernel_rfl⟩
abbrev xMD (v0 : Str) (v1 : Int) := (((gD v0 (tN v1) 0).toNat : Int) : Int) == 40
def xXq (a0 : Str) (a1 : Int) : rE I83 (xBd a0 a1) [Y, Y] [] = dn (xA6 1) [xAx a1 a0, iY (xMD a0 a1), iY (xMD a0 a1)] := by kernel_rfl
abbrev xHF (v0 : Str) (v1 : Int) : Prop := iN (xMD v0 v1)
abbrev xME (v0 : Str) (v1 : Int) := (((gD v0 (tN v1) 0).toNat : Int) : Int) == 41
def xXr (a0 : Str) (a1 : Int) : rE I83 (xBd a0 a1) [F, Y, Y] [] = dn (xA6 1) [xAx a1 a0, xHF a0 a1, iY (xME a0 a1), iY (xME a0 a1)] := by kernel_rfl
abbrev xH7 (v0 : Str) (v1 : Int) : Prop := iN (xME v0 v1)
abbrev xMF (v0 : Str) (v1 : Int) := (((gD v0 (tN v1) 0).toNat : Int) : Int) == 91
def xXs (a0 : Str) (a1 : Int) : rE I83 (xBd a0 a1) [F, F, Y, Y] [] = dn (xA6 1) [xAx a1 a0, xHF a0 a1, xH7 a0 a1, iY (xMF a0 a1), iY (xMF a0 a1)] := by kernel_rfl
abbrev xIz (v0 : Str) (v1 : Int) : Prop := iN (xMF v0 v1)
abbrev xMG (v0 : Str) (v1 : Int) := (((gD v0 (tN v1) 0).toNat : Int) : Int) == 93
def xXt (a0 : Str) (a1 : Int) : rE I83 (xBd a0 a1) [F, F, F, Y, Y] [] = dn (xA6 1) [xAx a1 a0, xHF a0 a1, xH7 a0 a1, xIz a0 a1, iY (xMG a0 a1), iY (xMG a0 a1)] := by kernel_rfl
abbrev xI0 (v0 : Str) (v1 : Int) : Prop := iN (xMG v0 v1)
abbrev xMH (v0 : Str) (v1 : Int) := (((gD v0 (tN v1) 0).toNat : Int) : Int) == 44
def xXu (a0 : Str) (a1 : Int) : rE I83 (xBd a0 a1) [F, F, F, F, Y, Y] [] = dn (xA6 1) [xAx a1 a0, xHF a0 a1, xH7 a0 a1, xIz a0 a1, xI0 a0 a1, iY (xMH a0 a1), iY (xMH a0 a1)] := by kernel_rfl
abbrev xJE (v0 : Str) (v1 : Int) : Prop := iN (xMH v0 v1)
abbrev xMI (v0 : Str) (v1 : Int) := (((gD v0 (tN v1) 0).toNat : Int) : Int) == 43
def xXv (a0 : Str) (a1 : Int) : rE I83 (xBd a0 a1) [F, F, F, F, F, Y, Y] [] = dn (xA6 1) [xAx a1 a0, xHF a0 a1, xH7 a0 a1, xIz a0 a1, xI0 a0 a1, xJE a0 a1, iY (xMI a0 a1), iY (xMI a0 a1)] := by kernel_rfl
abbrev xKe (v0 : Str) (v1 : Int) : Prop := iN (xMI v0 v1)
abbrev xMJ (v0 : Str) (v1 : Int) := (((gD v0 (tN v1) 0).toNat : Int) : Int) == 45
def xXw (a0 : Str) (a1 : Int) : rE I83 (xBd a0 a1) [F, F, F, F, F, F, Y, Y] [] = dn (xA6 1) [xAx a1 a0, xHF a0 a1, xH7 a0 a1, xIz a0 a1, xI0 a0 a1, xJE a0 a1, xKe a0 a1, iY (xMJ a0 a1), iY (xMJ a0 a1)] := by kernel_rfl
abbrev xKR (v0 : Str) (v1 : Int) : Prop := iN (xMJ v0 v1)
abbrev xMK (v0 : Str) (v1 : Int) := (((gD v0 (tN v1) 0).toNat : Int) : Int) == 42
def xXx (a0 : Str) (a1 : Int) : rE I83 (xBd a0 a1) [F, F, F, F, F, F, F, Y, Y] [] = dn (xA6 1) [xAx a1 a0, xHF a0 a1, xH7 a0 a1, xIz a0 a1, xI0 a0 a1, xJE a0 a1, xKe a0 a1, xKR a0 a1, iY (xMK a0 a1), iY (xMK a0 a1)] := by kernel_rfl
abbrev xLT (v0 : Str) (v1 : Int) : Prop := iN (xMK v0 v1)
def xXy (a0 : Str) (a1 : Int) : rE I83 (xBd a0 a1) [F, F, F, F, F, F, F, F, Y] [] = dn (xA6 1) [xAx a1 a0, xHF a0 a1, xH7 a0 a1, xIz a0 a1, xI0 a0 a1, xJE a0 a1, xKe a0 a1, xKR a0 a1, xLT a0 a1, iY ((xFm a0 a1) == 60)] := by kernel_rfl
abbrev xNk (v0 : Str) (v1 : Int) : Prop := iN ((xFm v0 v1) == 60)
abbrev xO0 (v0 : Str) (v1 : Int) : Prop := iY ((xFm v0 v1) == 61)
abbrev xML (v0 : Int) := tN (W (v0 + 1))
def xXz (a0 : Str) (a1 : Int) : rE I83 (xBd a0 a1) [F, F, F, F, F, F, F, F, F, Y, Y, Y] [] = dn (xA6 2) [xAx a1 a0, xHF a0 a1, xH7 a0 a1, xIz a0 a1, xI0 a0 a1, xJE a0 a1, xKe a0 a1, xKR a0 a1, xLT a0 a1, xNk a0 a1, xO0 a0 a1, iY (dc ((W (a1 + 1)) < (Ln a0 : Int))), (0 : Int) ≤ (W (a1 + 1)) ∧ (W (a1 + 1)) < (Ln a0), iY ((((gD a0 (xML a1) 0).toNat : Int) : Int) == 61)] := by kernel_rfl
def xSV (a0 : Str) (a1 : Int) : rE I83 (xBd a0 a1) [F, F, F, F, F, F, F, F, F, Y, Y, F] [] = dn (xA6 1) [xAx a1 a0, xHF a0 a1, xH7 a0 a1, xIz a0 a1, xI0 a0 a1, xJE a0 a1, xKe a0 a1, xKR a0 a1, xLT a0 a1, xNk a0 a1, xO0 a0 a1, iY (dc ((W (a1 + 1)) < (Ln a0 : Int))), (0 : Int) ≤ (W (a1 + 1)) ∧ (W (a1 + 1)) < (Ln a0), iN ((((gD a0 (xML a1) 0).toNat : Int) : Int) == 61)] := by kernel_rfl
def xSW (a0 : Str) (a1 : Int) : rE I83 (xBd a0 a1) [F, F, F, F, F, F, F, F, F, Y, F, F] [] = dn (xA6 1) [xAx a1 a0, xHF a0 a1, xH7 a0 a1, xIz a0 a1, xI0 a0 a1, xJE a0 a1, xKe a0 a1, xKR a0 a1, xLT a0 a1, xNk a0 a1, xO0 a0 a1, iN (dc ((W (a1 + 1)) < (Ln a0 : Int))), iN false] := by kernel_rfl
def xSX (a0 : Str) (a1 : Int) : rE I83 (xBd a0 a1) [F, F, F, F, F, F, F, F, F, F] [] = dn (xA6 0) [xAx a1 a0, xHF a0 a1, xH7 a0 a1, xIz a0 a1, xI0 a0 a1, xJE a0 a1, xKe a0 a1, xKR a0 a1, xLT a0 a1, xNk a0 a1, iN ((xFm a0 a1) == 61)] := by kernel_rfl
theorem vAk {N : Nat} : ∀ a0 a1 r, xFX N a0 a1 = some r → RE Tryz.f83 I83 (xBd a0 a1) (xA6 r) := fun a0 a1 r h =>
 iE h fun h0 h => cE h (fun h1 h => dE h fk83 (xXq a0 a1) (oc3 h0 h1 h1 on)) fun h1 h =>
 cE h (fun h2 h => dE h fk83 (xXr a0 a1) (oc4 h0 h1 h2 h2 on)) fun h2 h =>
 cE h (fun h3 h => dE h fk83 (xXs a0 a1) (oc5 h0 h1 h2 h3 h3 on)) fun h3 h =>
 cE h (fun h4 h => dE h fk83 (xXt a0 a1) (oc6 h0 h1 h2 h3 h4 h4 on)) fun h4 h =>
 cE h (fun h5 h => dE h fk83 (xXu a0 a1) (oc7 h0 h1 h2 h3 h4 h5 h5 on)) fun h5 h =>
 cE h (fun h6 h => dE h fk83 (xXv a0 a1) (oc8 h0 h1 h2 h3 h4 h5 h6 h6 on)) fun h6 h =>
 cE h (fun h7 h => dE h fk83 (xXw a0 a1) (oc9 h0 h1 h2 h3 h4 h5 h6 h7 h7 on)) fun h7 h =>
 cE h (fun h8 h => dE h fk83 (xXx a0 a1) (oc10 h0 h1 h2 h3 h4 h5 h6 h7 h8 h8 on)) fun h8 h =>
 cE h (fun h9 h => dE h fk83 (xXy a0 a1) (oc10 h0 h1 h2 h3 h4 h5 h6 h7 h8 h9 on)) fun h9 h =>
 cE h (fun h10 h => cE h (fun h11 h => iE h fun h12 h => cE h (fun h13 h => dE h fk83 (xXz a0 a1) (oc12 h0 h1 h2 h3 h4 h5 h6 h7 h8 h9 h10 h11 (oc2 h12 h13 on))) fun h13 h =>
 dE h fk83 (xSV a0 a1) (oc12 h0 h1 h2 h3 h4 h5 h6 h7 h8 h9 h10 h11 (oc2 h12 h13 on))) fun h11 h =>
 dE h fk83 (xSW a0 a1) (oc12 h0 h1 h2 h3 h4 h5 h6 h7 h8 h9 h10 h11 (oc rfl on))) fun h10 h =>
 dE h fk83 (xSX a0 a1) (oc11 h0 h1 h2 h3 h4 h5 h6 h7 h8 h9 h10 on)
theorem xJW {N : Nat} {a0 : Str} {a1 : Int} {r : Int} (h : xFX N  a0 a1 = some r) : AbC 83 (xBd a0 a1) (xA6 r) :=
 AbsCalls.of_reach fk83 rfl rfl (Nat.le_of_ble_eq_true rfl) (vAk a0 a1 r h)
noncomputable def I43 : Info := { body := (Tryz.f43.body).getD .skip, nt := 136, results := [.cell 4 50, .tmp 5], keep := [0, 2, 8, 10, 12, 14, 16, 18, 48, 88, 112, 116, 144, 182, 186, 218, 256, 9, 13], live := [(7, [0, 2, 8, 12, 14, 9, 13]), (14, [0, 2, 8, 12, 14, 9, 13]), (23, [0, 2, 8, 12, 14, 9, 13])], modes := [(7, [(4, .take, false), (9, .take, false)]), (14, [(4, .take, false)]), (16, [(5, .take, false)]), (19, [(0, .take, false), (2, .take, false)]), (23, [(4, .take, false)]), (27, [(4, .take, false)])] }
theorem fk43 : FnOk Tryz.prog 43 Tryz.f43 I43 := ⟨Tryz.func43, by kernel_rfl, by kernel_rfl, by kernel_rfl, by kernel_rfl⟩
def xKz (x0 : Str) (x1 x7 : Int) (b4 b6 : Tok) : St := [(0, .v false [.str x0]), (2, .v false [.int .i64 x1]), (8, .v false [.ptr 4 0]), (12, .v false [.ptr 6 0]), (14, .v false [.int .i64 x7]), (9, .v true [.int .i64 (Tok.kind b4), .int .i64 (Tok.n b4), .int .i64 (Tok.pos b4), .str (Tok.text b4)]), (13, .v true [.int .i64 (Tok.kind b6), .int .i64 (Tok.n b6), .int .i64 (Tok.pos b6), .str (Tok.text b6)])]
def xIu (x0 : Str) (x1 x7 : Int) (b4 b6 : Tok) : St := [(0, .v false [.str x0]), (2, .v false [.int .i64 x1]), (8, .v false [.ptr 4 0]), (12, .v false [.ptr 6 0]), (14, .v false [.int .i64 x7]), (9, .v true [.int .i64 (Tok.kind b4), .int .i64 (Tok.n b4), .int .i64 (Tok.pos b4), .str (Tok.text b4)]), (13, .v true [.int .i64 (Tok.kind b6), .int .i64 (Tok.n b6), .int .i64 (Tok.pos b6), .str (Tok.text b6)])]
def xIv (x0 : Str) (x1 x7 : Int) (b4 b6 : Tok) : St := [(0, .v false [.str x0]), (2, .v false [.int .i64 x1]), (8, .v false [.ptr 4 0]), (12, .v false [.ptr 6 0]), (14, .v false [.int .i64 x7]), (9, .v true [.int .i64 (Tok.kind b4), .int .i64 (Tok.n b4), .int .i64 (Tok.pos b4), .str (Tok.text b4)]), (13, .v true [.int .i64 (Tok.kind b6), .int .i64 (Tok.n b6), .int .i64 (Tok.pos b6), .str (Tok.text b6)])]
abbrev xJF (v0 : Str) (v1 : Int) (v2 : Bool) : Prop := AbC 79 (xET (xLm v0 v1)) (xBH v2)
def xVq (x0 : Str) (x1 x7 : Int) (b4 b6 : Tok) (r1 : Bool) : rS 7 I43 (xKz x0 x1 x7 b4 b6) [Y, Y, Y] [xBH r1] = st 7 I43 (xKz x0 x1 (W (x7 + 1)) b4 b6) [xC2 x7 x0, xAx x7 x0, xJF x0 x7 r1, iY r1, iY true] := by kernel_rfl
abbrev xIA (v0 : Str) (v1 : Int) (v2 : Bool) : Prop := AbC 80 (xFd (xLm v0 v1)) (xBy v2)
def xVr (x0 : Str) (x1 x7 : Int) (b4 b6 : Tok) (r1 r2 : Bool) : rS 7 I43 (xKz x0 x1 x7 b4 b6) [Y, F, Y] [xBH r1, xBy r2] = st 7 I43 (xKz x0 x1 (W (x7 + 1)) b4 b6) [xC2 x7 x0, xAx x7 x0, xJF x0 x7 r1, iN r1, xAx x7 x0, xIA x0 x7 r2, iY r2] := by kernel_rfl
abbrev xF0 (v0 v1 : Int) (v2 : Str) : Prop := (0 : Int) ≤ v0 ∧ v0 ≤ v1 ∧ v1 ≤ (Ln v2)
abbrev xLp (v0 : Tok) (v1 v2 : Int) (v3 : Str) := Tok.mk 1 (Tok.n v0) (Tok.pos v0) (List.drop (tN v1) (List.take (tN v2) v3))
def xVs (x0 : Str) (x1 x7 : Int) (b4 b6 : Tok) (r1 r2 : Bool) : rS 7 I43 (xKz x0 x1 x7 b4 b6) [Y, F, F, Y] [xBH r1, xBy r2] = dn (xA0 ((xLp b6 x1 x7 x0), 0)) [xC2 x7 x0, xAx x7 x0, xJF x0 x7 r1, iN r1, xAx x7 x0, xIA x0 x7 r2, iN r2, xF0 x1 x7 x0, iY (dc ((W (x7 - x1)) > 8))] := by kernel_rfl
def xVt (x0 : Str) (x1 x7 : Int) (b4 b6 : Tok) (r1 r2 : Bool) : rS 7 I43 (xKz x0 x1 x7 b4 b6) [Y, F, F, F] [xBH r1, xBy r2] = dn (xA0 ((xLp b6 x1 x7 x0), (W (x7 - x1)))) [xC2 x7 x0, xAx x7 x0, xJF x0 x7 r1, iN r1, xAx x7 x0, xIA x0 x7 r2, iN r2, xF0 x1 x7 x0, iN (dc ((W (x7 - x1)) > 8))] := by kernel_rfl
def xVu (x0 : Str) (x1 x7 : Int) (b4 b6 : Tok) : rS 7 I43 (xKz x0 x1 x7 b4 b6) [F, F, Y] [] = dn (xA0 ((xLp b6 x1 x7 x0), 0)) [xHi x7 x0, iN false, xF0 x1 x7 x0, iY (dc ((W (x7 - x1)) > 8))] := by kernel_rfl
def xVv (x0 : Str) (x1 x7 : Int) (b4 b6 : Tok) : rS 7 I43 (xKz x0 x1 x7 b4 b6) [F, F, F] [] = dn (xA0 ((xLp b6 x1 x7 x0), (W (x7 - x1)))) [xHi x7 x0, iN false, xF0 x1 x7 x0, iN (dc ((W (x7 - x1)) > 8))] := by kernel_rfl
def xSb (x0 : Str) (x1 x7 : Int) (b4 b6 : Tok) (r1 : Bool) : rS 14 I43 (xIu x0 x1 x7 b4 b6) [Y, Y] [xBy r1] = st 14 I43 (xIu x0 x1 (W (x7 + 1)) b4 b6) [xC2 x7 x0, xAx x7 x0, xIA x0 x7 r1, iY r1] := by kernel_rfl
abbrev xOP (v0 v1 : Int) (v2 : Str) := List.drop (tN v0) (List.take (tN v1) v2)
abbrev xKS (v0 v1 : Int) (v2 : Str) (v3 : Int × Bool) : Prop := AbC 81 (xFz (xOP v0 v1 v2)) (xCA v3)
abbrev xLq (v0 : Int × Bool) (v1 : Tok) := xA0 ((Tok.mk 2 v0.1 (Tok.pos v1) (Tok.text v1)), 0)
def xSc (x0 : Str) (x1 x7 : Int) (b4 b6 : Tok) (r1 : Bool) (r2 : Int × Bool) : rS 14 I43 (xIu x0 x1 x7 b4 b6) [Y, F, Y, Y] [xBy r1, xCA r2] = dn (xLq r2 b6) [xC2 x7 x0, xAx x7 x0, xIA x0 x7 r1, iN r1, xF0 x1 x7 x0, xKS x1 x7 x0 r2, iY (!r2.2), iY true] := by kernel_rfl
def xSd (x0 : Str) (x1 x7 : Int) (b4 b6 : Tok) (r1 : Bool) (r2 : Int × Bool) : rS 14 I43 (xIu x0 x1 x7 b4 b6) [Y, F, F, Y] [xBy r1, xCA r2] = dn (xLq r2 b6) [xC2 x7 x0, xAx x7 x0, xIA x0 x7 r1, iN r1, xF0 x1 x7 x0, xKS x1 x7 x0 r2, iN (!r2.2), iY (dc (r2.1 > 1000000000))] := by kernel_rfl
abbrev xOQ (v0 : Int × Bool) (v1 : Tok) := Tok.mk 2 v0.1 (Tok.pos v1) (Tok.text v1)
def xSe (x0 : Str) (x1 x7 : Int) (b4 b6 : Tok) (r1 : Bool) (r2 : Int × Bool) : rS 14 I43 (xIu x0 x1 x7 b4 b6) [Y, F, F, F] [xBy r1, xCA r2] = dn (xA0 ((xOQ r2 b6), (W (x7 - x1)))) [xC2 x7 x0, xAx x7 x0, xIA x0 x7 r1, iN r1, xF0 x1 x7 x0, xKS x1 x7 x0 r2, iN (!r2.2), iN (dc (r2.1 > 1000000000))] := by kernel_rfl
def xPz (x0 : Str) (x1 x7 : Int) (b4 b6 : Tok) (r1 : Int × Bool) : rS 14 I43 (xIu x0 x1 x7 b4 b6) [F, F, Y, Y] [xCA r1] = dn (xLq r1 b6) [xHi x7 x0, iN false, xF0 x1 x7 x0, xKS x1 x7 x0 r1, iY (!r1.2), iY true] := by kernel_rfl
def xPA (x0 : Str) (x1 x7 : Int) (b4 b6 : Tok) (r1 : Int × Bool) : rS 14 I43 (xIu x0 x1 x7 b4 b6) [F, F, F, Y] [xCA r1] = dn (xLq r1 b6) [xHi x7 x0, iN false, xF0 x1 x7 x0, xKS x1 x7 x0 r1, iN (!r1.2), iY (dc (r1.1 > 1000000000))] := by kernel_rfl
def xPB (x0 : Str) (x1 x7 : Int) (b4 b6 : Tok) (r1 : Int × Bool) : rS 14 I43 (xIu x0 x1 x7 b4 b6) [F, F, F, F] [xCA r1] = dn (xA0 ((xOQ r1 b6), (W (x7 - x1)))) [xHi x7 x0, iN false, xF0 x1 x7 x0, xKS x1 x7 x0 r1, iN (!r1.2), iN (dc (r1.1 > 1000000000))] := by kernel_rfl
def xPC (x0 : Str) (x1 x7 : Int) (b4 b6 : Tok) : rS 23 I43 (xIv x0 x1 x7 b4 b6) [Y, Y] [] = st 23 I43 (xIv x0 x1 (W (x7 + 1)) b4 b6) [xC2 x7 x0, xAx x7 x0, iY ((xFm x0 x7) != 34)] := by kernel_rfl
abbrev xO2 (v0 : Str) (v1 : Int) : Prop := iN ((xFm v0 v1) != 34)
abbrev xKT (v0 v1 : Int) (v2 : Str) : Prop := (0 : Int) ≤ (W (v0 + 1)) ∧ (W (v0 + 1)) ≤ v1 ∧ v1 ≤ (Ln v2)
abbrev xLr (v0 : Tok) (v1 v2 : Int) (v3 : Str) := xA0 ((Tok.mk 3 (Tok.n v0) (Tok.pos v0) (List.drop (tN (W (v1 + 1))) (List.take (tN v2) v3))), 0)
def xPD (x0 : Str) (x1 x7 : Int) (b4 b6 : Tok) : rS 23 I43 (xIv x0 x1 x7 b4 b6) [Y, F, Y, Y] [] = dn (xLr b6 x1 x7 x0) [xC2 x7 x0, xAx x7 x0, xO2 x0 x7, xKT x1 x7 x0, iY (x7 == (Ln x0 : Int)), iY true] := by kernel_rfl
abbrev xTS (v0 v1 : Int) (v2 : Str) := List.drop (tN (W (v0 + 1))) (List.take (tN v1) v2)
abbrev xNl (v0 v1 : Int) (v2 : Str) (v3 : Bool) : Prop := AbC 82 (xD5 (xTS v0 v1 v2)) (xA2 v3)
def xPE (x0 : Str) (x1 x7 : Int) (b4 b6 : Tok) (r1 : Bool) : rS 23 I43 (xIv x0 x1 x7 b4 b6) [Y, F, F, Y] [xA2 r1] = dn (xLr b6 x1 x7 x0) [xC2 x7 x0, xAx x7 x0, xO2 x0 x7, xKT x1 x7 x0, iN (x7 == (Ln x0 : Int)), xNl x1 x7 x0 r1, iY (!r1)] := by kernel_rfl
abbrev xOR (v0 : Tok) (v1 v2 : Int) (v3 : Str) := xA0 ((Tok.mk 3 (Tok.n v0) (Tok.pos v0) (List.drop (tN (W (v1 + 1))) (List.take (tN v2) v3))), (W ((W (v2 + 1)) - v1)))
def xPF (x0 : Str) (x1 x7 : Int) (b4 b6 : Tok) (r1 : Bool) : rS 23 I43 (xIv x0 x1 x7 b4 b6) [Y, F, F, F] [xA2 r1] = dn (xOR b6 x1 x7 x0) [xC2 x7 x0, xAx x7 x0, xO2 x0 x7, xKT x1 x7 x0, iN (x7 == (Ln x0 : Int)), xNl x1 x7 x0 r1, iN (!r1)] := by kernel_rfl
def xPG (x0 : Str) (x1 x7 : Int) (b4 b6 : Tok) : rS 23 I43 (xIv x0 x1 x7 b4 b6) [F, F, Y, Y] [] = dn (xLr b6 x1 x7 x0) [xHi x7 x0, iN false, xKT x1 x7 x0, iY (x7 == (Ln x0 : Int)), iY true] := by kernel_rfl
def xPH (x0 : Str) (x1 x7 : Int) (b4 b6 : Tok) (r1 : Bool) : rS 23 I43 (xIv x0 x1 x7 b4 b6) [F, F, F, Y] [xA2 r1] = dn (xLr b6 x1 x7 x0) [xHi x7 x0, iN false, xKT x1 x7 x0, iN (x7 == (Ln x0 : Int)), xNl x1 x7 x0 r1, iY (!r1)] := by kernel_rfl
def xPI (x0 : Str) (x1 x7 : Int) (b4 b6 : Tok) (r1 : Bool) : rS 23 I43 (xIv x0 x1 x7 b4 b6) [F, F, F, F] [xA2 r1] = dn (xOR b6 x1 x7 x0) [xHi x7 x0, iN false, xKT x1 x7 x0, iN (x7 == (Ln x0 : Int)), xNl x1 x7 x0 r1, iN (!r1)] := by kernel_rfl
def xSf (a0 : Str) (a1 : Int) (r1 : Bool) : rE I43 (xDz a0 a1) [Y] [xBH r1] = st 7 I43 (xKz a0 a1 a1 (Tok.mk 0 0 0 []) (Tok.mk 0 0 a1 [])) [xAx a1 a0, xJF a0 a1 r1, iY r1] := by kernel_rfl
def xSg (a0 : Str) (a1 : Int) (r1 r2 : Bool) : rE I43 (xDz a0 a1) [F, Y] [xBH r1, xBy r2] = st 14 I43 (xIu a0 a1 a1 (Tok.mk 0 0 0 []) (Tok.mk 0 0 a1 [])) [xAx a1 a0, xJF a0 a1 r1, iN r1, xAx a1 a0, xIA a0 a1 r2, iY r2] := by kernel_rfl
def xSh (a0 : Str) (a1 : Int) (r1 r2 : Bool) : rE I43 (xDz a0 a1) [F, F, Y] [xBH r1, xBy r2] = st 23 I43 (xIv a0 a1 (W (a1 + 1)) (Tok.mk 0 0 0 []) (Tok.mk 0 0 a1 [])) [xAx a1 a0, xJF a0 a1 r1, iN r1, xAx a1 a0, xIA a0 a1 r2, iN r2, xAx a1 a0, xH5 a0 a1] := by kernel_rfl
def xSi (a0 : Str) (a1 : Int) (r1 r2 : Bool) (r3 : Int) : rE I43 (xDz a0 a1) [F, F, F] [xBH r1, xBy r2, xA6 r3] = dn (xA0 ((Tok.mk 4 0 a1 (List.drop (tN a1) (List.take (tN (W (a1 + r3))) a0))), (W ((W (a1 + r3)) - a1)))) [xAx a1 a0, xJF a0 a1 r1, iN r1, xAx a1 a0, xIA a0 a1 r2, iN r2, xAx a1 a0, xH6 a0 a1, AbC 83 (xBd a0 a1) (xA6 r3), (0 : Int) ≤ a1 ∧ a1 ≤ (W (a1 + r3)) ∧ (W (a1 + r3)) ≤ (Ln a0)] := by kernel_rfl
theorem xZD {N : Nat} : ∀ n x0 x1 x7 b4 b6 r, xDA N n x0 x1 x7 b4 b6 = some r → RS Tryz.f43 I43 7 (xKz x0 x1 x7 b4 b6) (xA0 r) := by
 intro n
 induction n with
 | zero => exact fun _ _ _ _ _ _ h => nE h
 | succ n ih =>
  exact fun x0 x1 x7 b4 b6 r h =>
   cE h (fun h0 h => iE h fun h1 h => bE h fun r1 h2 h => cE h (fun h3 h => tS fk43 (xVq x0 x1 x7 b4 b6 r1) (oc5 h0 h1 (xDj h2) h3 rfl on) (ih _ _ _ _ _ _ h)) fun h3 h =>
   bE h fun r2 h5 h => cE h (fun h6 h => tS fk43 (xVr x0 x1 x7 b4 b6 r1 r2) (oc7 h0 h1 (xDj h2) h3 h1 (xCU h5) h6 on) (ih _ _ _ _ _ _ h)) fun h6 h =>
   iE h fun h7 h => cE h (fun h8 h => dS h fk43 (xVs x0 x1 x7 b4 b6 r1 r2) (oc9 h0 h1 (xDj h2) h3 h1 (xCU h5) h6 h7 h8 on)) fun h8 h =>
   dS h fk43 (xVt x0 x1 x7 b4 b6 r1 r2) (oc9 h0 h1 (xDj h2) h3 h1 (xCU h5) h6 h7 h8 on)) fun h0 h =>
   iE h fun h2 h => cE h (fun h3 h => dS h fk43 (xVu x0 x1 x7 b4 b6) (oc4 h0 rfl h2 h3 on)) fun h3 h =>
   dS h fk43 (xVv x0 x1 x7 b4 b6) (oc4 h0 rfl h2 h3 on)
theorem xYR {N : Nat} : ∀ n x0 x1 x7 b4 b6 r, xDb N n x0 x1 x7 b4 b6 = some r → RS Tryz.f43 I43 14 (xIu x0 x1 x7 b4 b6) (xA0 r) := by
 intro n
 induction n with
 | zero => exact fun _ _ _ _ _ _ h => nE h
 | succ n ih =>
  exact fun x0 x1 x7 b4 b6 r h =>
   cE h (fun h0 h => iE h fun h1 h => bE h fun r1 h2 h => cE h (fun h3 h => tS fk43 (xSb x0 x1 x7 b4 b6 r1) (oc4 h0 h1 (xCU h2) h3 on) (ih _ _ _ _ _ _ h)) fun h3 h =>
   iE h fun h4 h => bE h fun r2 h5 h => cE h (fun h6 h => dS h fk43 (xSc x0 x1 x7 b4 b6 r1 r2) (oc8 h0 h1 (xCU h2) h3 h4 (xEf h5) h6 rfl on)) fun h6 h =>
   cE h (fun h7 h => dS h fk43 (xSd x0 x1 x7 b4 b6 r1 r2) (oc8 h0 h1 (xCU h2) h3 h4 (xEf h5) h6 h7 on)) fun h7 h =>
   dS h fk43 (xSe x0 x1 x7 b4 b6 r1 r2) (oc8 h0 h1 (xCU h2) h3 h4 (xEf h5) h6 h7 on)) fun h0 h =>
   iE h fun h2 h => bE h fun r1 h3 h => cE h (fun h4 h => dS h fk43 (xPz x0 x1 x7 b4 b6 r1) (oc6 h0 rfl h2 (xEf h3) h4 rfl on)) fun h4 h =>
   cE h (fun h5 h => dS h fk43 (xPA x0 x1 x7 b4 b6 r1) (oc6 h0 rfl h2 (xEf h3) h4 h5 on)) fun h5 h =>
   dS h fk43 (xPB x0 x1 x7 b4 b6 r1) (oc6 h0 rfl h2 (xEf h3) h4 h5 on)
theorem xYS {N : Nat} : ∀ n x0 x1 x7 b4 b6 r, xEI N n x0 x1 x7 b4 b6 = some r → RS Tryz.f43 I43 23 (xIv x0 x1 x7 b4 b6) (xA0 r) := by
 intro n
 induction n with
 | zero => exact fun _ _ _ _ _ _ h => nE h
 | succ n ih =>
  exact fun x0 x1 x7 b4 b6 r h =>
   cE h (fun h0 h => iE h fun h1 h => cE h (fun h2 h => tS fk43 (xPC x0 x1 x7 b4 b6) (oc3 h0 h1 h2 on) (ih _ _ _ _ _ _ h)) fun h2 h =>
   iE h fun h3 h => cE h (fun h4 h => dS h fk43 (xPD x0 x1 x7 b4 b6) (oc6 h0 h1 h2 h3 h4 rfl on)) fun h4 h =>
   bE h fun r1 h5 h => cE h (fun h6 h => dS h fk43 (xPE x0 x1 x7 b4 b6 r1) (oc7 h0 h1 h2 h3 h4 (xD6 h5) h6 on)) fun h6 h =>
   dS h fk43 (xPF x0 x1 x7 b4 b6 r1) (oc7 h0 h1 h2 h3 h4 (xD6 h5) h6 on)) fun h0 h =>
   iE h fun h2 h => cE h (fun h3 h => dS h fk43 (xPG x0 x1 x7 b4 b6) (oc5 h0 rfl h2 h3 rfl on)) fun h3 h =>
   bE h fun r1 h4 h => cE h (fun h5 h => dS h fk43 (xPH x0 x1 x7 b4 b6 r1) (oc6 h0 rfl h2 h3 (xD6 h4) h5 on)) fun h5 h =>
   dS h fk43 (xPI x0 x1 x7 b4 b6 r1) (oc6 h0 rfl h2 h3 (xD6 h4) h5 on)
theorem xZE {N : Nat} : ∀ a0 a1 r, xGN N a0 a1 = some r → RE Tryz.f43 I43 (xDz a0 a1) (xA0 r) := fun a0 a1 r h =>
 iE h fun h0 h => bE h fun r1 h1 h => cE h (fun h2 h => tE fk43 (xSf a0 a1 r1) (oc3 h0 (xDj h1) h2 on) (xZD _ _ _ _ _ _ _ h)) fun h2 h =>
 bE h fun r2 h4 h => cE h (fun h5 h => tE fk43 (xSg a0 a1 r1 r2) (oc6 h0 (xDj h1) h2 h0 (xCU h4) h5 on) (xYR _ _ _ _ _ _ _ h)) fun h5 h =>
 cE h (fun h7 h => tE fk43 (xSh a0 a1 r1 r2) (oc8 h0 (xDj h1) h2 h0 (xCU h4) h5 h0 h7 on) (xYS _ _ _ _ _ _ _ h)) fun h7 h =>
 bE h fun r3 h8 h => iE h fun h9 h => dE h fk43 (xSi a0 a1 r1 r2 r3) (oc10 h0 (xDj h1) h2 h0 (xCU h4) h5 h0 h7 (xJW h8) h9 on)
theorem xHa {N : Nat} {a0 : Str} {a1 : Int} {r : Tok × Int} (h : xGN N  a0 a1 = some r) : AbC 43 (xDz a0 a1) (xA0 r) :=
 AbsCalls.of_reach fk43 rfl rfl (Nat.le_of_ble_eq_true rfl) (xZE a0 a1 r h)
noncomputable def I23 : Info := { body := (Tryz.f23.body).getD .skip, nt := 46, results := [.tmp 2, .tmp 3], keep := [0, 4, 6, 8, 10, 12, 14, 20, 32, 40, 70, 13], live := [(5, [0, 8, 10])], modes := [(8, [(3, .take, false)]), (9, [(2, .take, false)]), (11, [(0, .take, false)]), (13, [(0, .take, false)])] }
theorem fk23 : FnOk Tryz.prog 23 Tryz.f23 I23 := ⟨Tryz.func23, by kernel_rfl, by kernel_rfl, by kernel_rfl, by kernel_rfl⟩
def xK2 (x0 : Str) (x4 : List Tok) (x5 : Int) : St := [(0, .v false [.str x0]), (8, .v false [.sl .own .tok x4]), (10, .v false [.int .i64 x5])]
abbrev xMM (v0 : Str) (v1 : Int) := (((gD v0 (tN v1) 0).toNat : Int) : Int) == 32
def xUt (x0 : Str) (x4 : List Tok) (x5 : Int) : rS 5 I23 (xK2 x0 x4 x5) [Y, Y] [] = st 5 I23 (xK2 x0 x4 (W (x5 + 1))) [xC2 x5 x0, xAx x5 x0, iY (xMM x0 x5)] := by kernel_rfl
abbrev xKU (v0 : Str) (v1 : Int) : Prop := iN (xMM v0 v1)
def xUu (x0 : Str) (x4 : List Tok) (x5 : Int) (r1 : Tok × Int) : rS 5 I23 (xK2 x0 x4 x5) [Y, F, Y, Y] [xA0 r1] = dn (xAY ([], x5)) [xC2 x5 x0, xAx x5 x0, xKU x0 x5, AbC 43 (xDz x0 x5) (xA0 r1), iY (r1.2 == 0), iY true] := by kernel_rfl
def xUv (x0 : Str) (x4 : List Tok) (x5 : Int) (r1 : Tok × Int) : rS 5 I23 (xK2 x0 x4 x5) [Y, F, F, Y] [xA0 r1] = dn (xAY ([], x5)) [xC2 x5 x0, xAx x5 x0, xKU x0 x5, AbC 43 (xDz x0 x5) (xA0 r1), iN (r1.2 == 0), iY ((Ln x4 : Int) == 60)] := by kernel_rfl
def xUw (x0 : Str) (x4 : List Tok) (x5 : Int) (r1 : Tok × Int) : rS 5 I23 (xK2 x0 x4 x5) [Y, F, F, F] [xA0 r1] = st 5 I23 (xK2 x0 (x4 ++ [r1.1]) (W (x5 + r1.2))) [xC2 x5 x0, xAx x5 x0, xKU x0 x5, AbC 43 (xDz x0 x5) (xA0 r1), iN (r1.2 == 0), iN ((Ln x4 : Int) == 60), Ln x4 + Ln [r1.1] ≤ Lim] := by kernel_rfl
def xUx (x0 : Str) (x4 : List Tok) (x5 : Int) : rS 5 I23 (xK2 x0 x4 x5) [F] [] = dn (xAY (x4, (-1))) [xHi x5 x0] := by kernel_rfl
abbrev xLs (v0 : Str) := dc ((Ln v0 : Int) > 120)
def xUy (a0 : Str) : rE I23 (xES a0) [Y] [] = dn (xAY ([], 120)) [iY (xLs a0)] := by kernel_rfl
def xUz (a0 : Str) : rE I23 (xES a0) [F] [] = st 5 I23 (xK2 a0 [] 0) [iN (xLs a0)] := by kernel_rfl
theorem xZn {N : Nat} : ∀ n x0 x4 x5 r, xDM N n x0 x4 x5 = some r → RS Tryz.f23 I23 5 (xK2 x0 x4 x5) (xAY r) := by
 intro n
 induction n with
 | zero => exact fun _ _ _ _ h => nE h
 | succ n ih =>
  exact fun x0 x4 x5 r h =>
   cE h (fun h0 h => iE h fun h1 h => cE h (fun h2 h => tS fk23 (xUt x0 x4 x5) (oc3 h0 h1 h2 on) (ih _ _ _ _ h)) fun h2 h =>
   bE h fun r1 h3 h => cE h (fun h4 h => dS h fk23 (xUu x0 x4 x5 r1) (oc6 h0 h1 h2 (xHa h3) h4 rfl on)) fun h4 h =>
   cE h (fun h5 h => dS h fk23 (xUv x0 x4 x5 r1) (oc6 h0 h1 h2 (xHa h3) h4 h5 on)) fun h5 h =>
   iE h fun h6 h => tS fk23 (xUw x0 x4 x5 r1) (oc7 h0 h1 h2 (xHa h3) h4 h5 h6 on) (ih _ _ _ _ h)) fun h0 h =>
   dS h fk23 (xUx x0 x4 x5) (oc h0 on)
theorem xZo {N : Nat} : ∀ a0 r, xFh N a0 = some r → RE Tryz.f23 I23 (xES a0) (xAY r) := fun a0 r h =>
 cE h (fun h0 h => dE h fk23 (xUy a0) (oc h0 on)) fun h0 h =>
 tE fk23 (xUz a0) (oc h0 on) (xZn _ _ _ _ _ h)
theorem xCB {N : Nat} {a0 : Str} {r : (List Tok) × Int} (h : xFh N  a0 = some r) : AbC 23 (xES a0) (xAY r) :=
 AbsCalls.of_reach fk23 rfl rfl (Nat.le_of_ble_eq_true rfl) (xZo a0 r h)
noncomputable def I85 : Info := { body := (Tryz.f85.body).getD .skip, nt := 14, results := [.tmp 4], keep := [0, 2, 4, 8, 5], live := [], modes := [(1, [(3, .take, false)])] }
theorem fk85 : FnOk Tryz.prog 85 Tryz.f85 I85 := ⟨Tryz.func85, by kernel_rfl, by kernel_rfl, by kernel_rfl, by kernel_rfl⟩
def xXA (a0 : Tok) (a1 : Str) : rE I85 (xDf a0 a1) [Y] [] = dn (xAK (((Tok.text a0) : Str) == a1)) [iY ((Tok.kind a0) == 4)] := by kernel_rfl
def xXB (a0 : Tok) (a1 : Str) : rE I85 (xDf a0 a1) [F] [] = dn (xAK false) [iN ((Tok.kind a0) == 4)] := by kernel_rfl
theorem vAl {N : Nat} : ∀ a0 a1 r, xC6 N a0 a1 = some r → RE Tryz.f85 I85 (xDf a0 a1) (xAK r) := fun a0 a1 r h =>
 cE h (fun h0 h => dE h fk85 (xXA a0 a1) (oc h0 on)) fun h0 h =>
 dE h fk85 (xXB a0 a1) (oc h0 on)
theorem xBX {N : Nat} {a0 : Tok} {a1 : Str} {r : Bool} (h : xC6 N  a0 a1 = some r) : AbC 85 (xDf a0 a1) (xAK r) :=
 AbsCalls.of_reach fk85 rfl rfl (Nat.le_of_ble_eq_true rfl) (vAl a0 a1 r h)
noncomputable def I86 : Info := { body := (Tryz.f86.body).getD .skip, nt := 14, results := [.tmp 4], keep := [0, 2, 4, 8, 5], live := [], modes := [(1, [(3, .take, false)])] }
theorem fk86 : FnOk Tryz.prog 86 Tryz.f86 I86 := ⟨Tryz.func86, by kernel_rfl, by kernel_rfl, by kernel_rfl, by kernel_rfl⟩
def xXC (a0 : Tok) (a1 : Str) : rE I86 (xEE a0 a1) [Y] [] = dn (xDY (((Tok.text a0) : Str) == a1)) [iY ((Tok.kind a0) == 1)] := by kernel_rfl
def xXD (a0 : Tok) (a1 : Str) : rE I86 (xEE a0 a1) [F] [] = dn (xDY false) [iN ((Tok.kind a0) == 1)] := by kernel_rfl
theorem vAm {N : Nat} : ∀ a0 a1 r, xFr N a0 a1 = some r → RE Tryz.f86 I86 (xEE a0 a1) (xDY r) := fun a0 a1 r h =>
 cE h (fun h0 h => dE h fk86 (xXC a0 a1) (oc h0 on)) fun h0 h =>
 dE h fk86 (xXD a0 a1) (oc h0 on)
theorem xJz {N : Nat} {a0 : Tok} {a1 : Str} {r : Bool} (h : xFr N  a0 a1 = some r) : AbC 86 (xEE a0 a1) (xDY r) :=
 AbsCalls.of_reach fk86 rfl rfl (Nat.le_of_ble_eq_true rfl) (vAm a0 a1 r h)
noncomputable def I45 : Info := { body := (Tryz.f45.body).getD .skip, nt := 50, results := [.tmp 4], keep := [0, 2, 8, 1], live := [], modes := [(1, [(5, .take, false), (17, .take, false), (30, .take, false)])], ext := [0] }
theorem fk45 : FnOk Tryz.prog 45 Tryz.f45 I45 := ⟨Tryz.func45, by kernel_rfl, by kernel_rfl, by kernel_rfl, by kernel_rfl⟩
abbrev xKh (v0 : Rdr) : Prop := iY (dc ((Rdr.bad v0) < 0))
abbrev xMN (v0 : Rdr) := dc ((Rdr.i v0) < (Ln (Rdr.toks v0) : Int))
abbrev xO3 (v0 : Rdr) : Prop := iY (xMN v0)
abbrev xFQ (v0 : Rdr) : Prop := (0 : Int) ≤ (Rdr.i v0) ∧ (Rdr.i v0) < (Ln (Rdr.toks v0))
abbrev xIJ (v0 : Rdr) := gD (Rdr.toks v0) (tN (Rdr.i v0)) Ty.tok.dflt
def xVw (a0 : Rdr) (a1 : Str) (r1 : Bool) : rE I45 (xAz a0 a1) [Y, Y, Y] [xAK r1] = dn (xAd (true, a0)) [xKh a0, xO3 a0, xFQ a0, AbC 85 (xDf (xIJ a0) a1) (xAK r1), iY r1] := by kernel_rfl
def xVx (a0 : Rdr) (a1 : Str) (r1 r2 : Bool) : rE I45 (xAz a0 a1) [Y, Y, F] [xAK r1, xDY r2] = dn (xAd (r2, a0)) [xKh a0, xO3 a0, xFQ a0, AbC 85 (xDf (xIJ a0) a1) (xAK r1), iN r1, xFQ a0, AbC 86 (xEE (xIJ a0) a1) (xDY r2)] := by kernel_rfl
def xVy (a0 : Rdr) (a1 : Str) : rE I45 (xAz a0 a1) [Y, F] [] = dn (xAd (false, a0)) [xKh a0, iN (xMN a0)] := by kernel_rfl
def xVz (a0 : Rdr) (a1 : Str) : rE I45 (xAz a0 a1) [F, F] [] = dn (xAd (false, a0)) [iN (dc ((Rdr.bad a0) < 0)), iN false] := by kernel_rfl
theorem xZF {N : Nat} : ∀ a0 a1 r, xBq N a0 a1 = some r → RE Tryz.f45 I45 (xAz a0 a1) (xAd r) := fun a0 a1 r h =>
 cE h (fun h0 h => cE h (fun h1 h => iE h fun h2 h => bE h fun r1 h3 h => cE h (fun h4 h => dE h fk45 (xVw a0 a1 r1) (oc5 h0 h1 h2 (xBX h3) h4 on)) fun h4 h =>
 bE h fun r2 h6 h => dE h fk45 (xVx a0 a1 r1 r2) (oc7 h0 h1 h2 (xBX h3) h4 h2 (xJz h6) on)) fun h1 h =>
 dE h fk45 (xVy a0 a1) (oc2 h0 h1 on)) fun h0 h =>
 dE h fk45 (xVz a0 a1) (oc2 h0 rfl on)
theorem xAm {N : Nat} {a0 : Rdr} {a1 : Str} {r : Bool × Rdr} (h : xBq N  a0 a1 = some r) : AbC 45 (xAz a0 a1) (xAd r) :=
 AbsCalls.of_reach fk45 rfl rfl (Nat.le_of_ble_eq_true rfl) (xZF a0 a1 r h)
noncomputable def I108 : Info := { body := (Tryz.f108.body).getD .skip, nt := 45, results := [.tmp 2], keep := [0, 4, 6, 8, 10, 18, 82], live := [(2, [0, 6])], modes := [(4, [(4, .take, false)]), (5, [(4, .take, false)]), (6, [(0, .take, false), (2, .take, false), (5, .take, false), (6, .take, false)])] }
theorem xIC : FnOk Tryz.prog 108 Tryz.f108 I108 := ⟨Tryz.func108, by kernel_rfl, by kernel_rfl, by kernel_rfl, by kernel_rfl⟩
def xFK (x0 : Str) (x3 : Int) : St := [(0, .v false [.str x0]), (6, .v false [.int .i64 x3])]
abbrev xEJ (v0 : Str) (v1 : Int) : Prop := iY (dc ((xFm v0 v1) ≥ 97))
abbrev xE3 (v0 : Str) (v1 : Int) : Prop := iY (dc ((xFm v0 v1) ≥ 48))
abbrev xKc (v0 : Str) (v1 : Int) := dc ((((gD v0 (tN v1) 0).toNat : Int) : Int) ≤ 122)
abbrev xI1 (v0 : Str) (v1 : Int) : Prop := iY (!(xKc v0 v1))
def xQQ (x0 : Str) (x3 : Int) : rS 2 I108 (xFK x0 x3) [Y, Y, Y, Y, Y, Y] [] = dn (xBa false) [xC2 x3 x0, xAx x3 x0, xEJ x0 x3, xAx x3 x0, xAx x3 x0, xE3 x0 x3, xAx x3 x0, xI1 x0 x3, iY (x3 == 0), iY true] := by kernel_rfl
abbrev xJt (v0 : Str) (v1 : Int) := dc ((((gD v0 (tN v1) 0).toNat : Int) : Int) ≤ 57)
def xQR (x0 : Str) (x3 : Int) : rS 2 I108 (xFK x0 x3) [Y, Y, Y, Y, F, Y] [] = dn (xBa false) [xC2 x3 x0, xAx x3 x0, xEJ x0 x3, xAx x3 x0, xAx x3 x0, xE3 x0 x3, xAx x3 x0, xI1 x0 x3, xJg x3, iY (!(xJt x0 x3))] := by kernel_rfl
def xQS (x0 : Str) (x3 : Int) : rS 2 I108 (xFK x0 x3) [Y, Y, Y, Y, F, F] [] = st 2 I108 (xFK x0 (W (x3 + 1))) [xC2 x3 x0, xAx x3 x0, xEJ x0 x3, xAx x3 x0, xAx x3 x0, xE3 x0 x3, xAx x3 x0, xI1 x0 x3, xJg x3, iN (!(xJt x0 x3))] := by kernel_rfl
abbrev xO4 (v0 : Str) (v1 : Int) : Prop := iN (!(xKc v0 v1))
def xQT (x0 : Str) (x3 : Int) : rS 2 I108 (xFK x0 x3) [Y, Y, Y, F, F] [] = st 2 I108 (xFK x0 (W (x3 + 1))) [xC2 x3 x0, xAx x3 x0, xEJ x0 x3, xAx x3 x0, xAx x3 x0, xE3 x0 x3, xAx x3 x0, xO4 x0 x3, iN false] := by kernel_rfl
abbrev xGm (v0 : Str) (v1 : Int) : Prop := iN (dc ((xFm v0 v1) ≥ 48))
def xQU (x0 : Str) (x3 : Int) : rS 2 I108 (xFK x0 x3) [Y, Y, F, Y, Y, Y] [] = dn (xBa false) [xC2 x3 x0, xAx x3 x0, xEJ x0 x3, xAx x3 x0, xAx x3 x0, xGm x0 x3, xI1 x0 x3, iY (x3 == 0), iY true] := by kernel_rfl
def xQV (x0 : Str) (x3 : Int) : rS 2 I108 (xFK x0 x3) [Y, Y, F, Y, F, Y] [] = dn (xBa false) [xC2 x3 x0, xAx x3 x0, xEJ x0 x3, xAx x3 x0, xAx x3 x0, xGm x0 x3, xI1 x0 x3, xJg x3, iY (!false)] := by kernel_rfl
def xQW (x0 : Str) (x3 : Int) : rS 2 I108 (xFK x0 x3) [Y, Y, F, F, F] [] = st 2 I108 (xFK x0 (W (x3 + 1))) [xC2 x3 x0, xAx x3 x0, xEJ x0 x3, xAx x3 x0, xAx x3 x0, xGm x0 x3, xO4 x0 x3, iN false] := by kernel_rfl
abbrev xFq (v0 : Str) (v1 : Int) : Prop := iN (dc ((xFm v0 v1) ≥ 97))
def xQX (x0 : Str) (x3 : Int) : rS 2 I108 (xFK x0 x3) [Y, F, Y, Y, Y, Y] [] = dn (xBa false) [xC2 x3 x0, xAx x3 x0, xFq x0 x3, xAx x3 x0, xE3 x0 x3, xAx x3 x0, iY (!false), iY (x3 == 0), iY true] := by kernel_rfl
def xQY (x0 : Str) (x3 : Int) : rS 2 I108 (xFK x0 x3) [Y, F, Y, Y, F, Y] [] = dn (xBa false) [xC2 x3 x0, xAx x3 x0, xFq x0 x3, xAx x3 x0, xE3 x0 x3, xAx x3 x0, iY (!false), xJg x3, iY (!(xJt x0 x3))] := by kernel_rfl
def xQZ (x0 : Str) (x3 : Int) : rS 2 I108 (xFK x0 x3) [Y, F, Y, Y, F, F] [] = st 2 I108 (xFK x0 (W (x3 + 1))) [xC2 x3 x0, xAx x3 x0, xFq x0 x3, xAx x3 x0, xE3 x0 x3, xAx x3 x0, iY (!false), xJg x3, iN (!(xJt x0 x3))] := by kernel_rfl
def xPk (x0 : Str) (x3 : Int) : rS 2 I108 (xFK x0 x3) [Y, F, F, Y, Y, Y] [] = dn (xBa false) [xC2 x3 x0, xAx x3 x0, xFq x0 x3, xAx x3 x0, xGm x0 x3, iY (!false), iY (x3 == 0), iY true] := by kernel_rfl
def xPl (x0 : Str) (x3 : Int) : rS 2 I108 (xFK x0 x3) [Y, F, F, Y, F, Y] [] = dn (xBa false) [xC2 x3 x0, xAx x3 x0, xFq x0 x3, xAx x3 x0, xGm x0 x3, iY (!false), xJg x3, iY (!false)] := by kernel_rfl
def xPm (x0 : Str) (x3 : Int) : rS 2 I108 (xFK x0 x3) [F] [] = dn (xBa (xKb x0)) [xHi x3 x0] := by kernel_rfl
def xPn (a0 : Str) : rE I108 (xEH a0) [] [] = st 2 I108 (xFK a0 0) [] := by kernel_rfl
theorem xYy {N : Nat} : ∀ n x0 x3 r, xCT N n x0 x3 = some r → RS Tryz.f108 I108 2 (xFK x0 x3) (xBa r) := by
 intro n
 induction n with
 | zero => exact fun _ _ _ h => nE h
 | succ n ih =>
  exact fun x0 x3 r h =>
   cE h (fun h0 h => iE h fun h1 h => cE h (fun h2 h => cE h (fun h5 h => cE h (fun h7 h => cE h (fun h8 h => dS h xIC (xQQ x0 x3) (oc10 h0 h1 h2 h1 h1 h5 h1 h7 h8 rfl on)) fun h8 h =>
   cE h (fun h9 h => dS h xIC (xQR x0 x3) (oc10 h0 h1 h2 h1 h1 h5 h1 h7 h8 h9 on)) fun h9 h =>
   tS xIC (xQS x0 x3) (oc10 h0 h1 h2 h1 h1 h5 h1 h7 h8 h9 on) (ih _ _ _ h)) fun h7 h =>
   tS xIC (xQT x0 x3) (oc9 h0 h1 h2 h1 h1 h5 h1 h7 rfl on) (ih _ _ _ h)) fun h5 h =>
   cE h (fun h6 h => cE h (fun h7 h => dS h xIC (xQU x0 x3) (oc9 h0 h1 h2 h1 h1 h5 h6 h7 rfl on)) fun h7 h =>
   dS h xIC (xQV x0 x3) (oc9 h0 h1 h2 h1 h1 h5 h6 h7 rfl on)) fun h6 h =>
   tS xIC (xQW x0 x3) (oc8 h0 h1 h2 h1 h1 h5 h6 rfl on) (ih _ _ _ h)) fun h2 h =>
   cE h (fun h4 h => cE h (fun h7 h => dS h xIC (xQX x0 x3) (oc9 h0 h1 h2 h1 h4 h1 rfl h7 rfl on)) fun h7 h =>
   cE h (fun h8 h => dS h xIC (xQY x0 x3) (oc9 h0 h1 h2 h1 h4 h1 rfl h7 h8 on)) fun h8 h =>
   tS xIC (xQZ x0 x3) (oc9 h0 h1 h2 h1 h4 h1 rfl h7 h8 on) (ih _ _ _ h)) fun h4 h =>
   cE h (fun h6 h => dS h xIC (xPk x0 x3) (oc8 h0 h1 h2 h1 h4 rfl h6 rfl on)) fun h6 h =>
   dS h xIC (xPl x0 x3) (oc8 h0 h1 h2 h1 h4 rfl h6 rfl on)) fun h0 h =>
   dS h xIC (xPm x0 x3) (oc h0 on)
theorem xYz {N : Nat} : ∀ a0 r, xGZ N a0 = some r → RE Tryz.f108 I108 (xEH a0) (xBa r) := fun a0 r h =>
 tE xIC (xPn a0) on (xYy _ _ _ _ h)
theorem xGM {N : Nat} {a0 : Str} {r : Bool} (h : xGZ N  a0 = some r) : AbC 108 (xEH a0) (xBa r) :=
 AbsCalls.of_reach xIC rfl rfl (Nat.le_of_ble_eq_true rfl) (xYz a0 r h)
noncomputable def I126 : Info := { body := (Tryz.f126.body).getD .skip, nt := 2, results := [.tmp 0], keep := [0], live := [], modes := [] }
theorem xYX : FnOk Tryz.prog 126 Tryz.f126 I126 := ⟨Tryz.func126, by kernel_rfl, by kernel_rfl, by kernel_rfl, by kernel_rfl⟩
def xRK : rE I126 (xEZ ) [] [] = dn (xEq [[108, 101, 116], [105, 110], [105, 102], [116, 104, 101, 110], [101, 108, 115, 101], [102, 111, 114], [100, 111], [108, 101, 110], [115, 117, 109], [116, 97, 107, 101], [115, 107, 105, 112], [114, 97, 110, 103, 101], [110, 116, 104], [119, 104, 101, 114, 101], [107, 101, 101, 112], [97, 100, 100], [103, 114, 111, 117, 112], [106, 111, 105, 110], [99, 111, 108, 117, 109, 110], [114, 111, 119, 115], [99, 108, 111, 99, 107], [99, 104, 97, 110, 99, 101], [102, 105, 108, 101], [116, 97, 98, 108, 101]]) [] := by kernel_rfl
theorem xYK {N : Nat} : ∀ r, xFW N = some r → RE Tryz.f126 I126 (xEZ ) (xEq r) := fun r h =>
 dE h xYX (xRK) on
theorem xI9 {N : Nat} {r : (List Str)} (h : xFW N   = some r) : AbC 126 (xEZ ) (xEq r) :=
 AbsCalls.of_reach xYX rfl rfl (Nat.le_of_ble_eq_true rfl) (xYK  r h)
noncomputable def I125 : Info := { body := (Tryz.f125.body).getD .skip, nt := 18, results := [.tmp 4], keep := [0, 2, 8, 10, 18, 34], live := [(2, [0, 2, 10])], modes := [] }
theorem xOm : FnOk Tryz.prog 125 Tryz.f125 I125 := ⟨Tryz.func125, by kernel_rfl, by kernel_rfl, by kernel_rfl, by kernel_rfl⟩
def xKI (x0 : List Str) (x1 : Str) (x5 : Int) : St := [(0, .v false [.sl .ro .str x0]), (2, .v false [.str x1]), (10, .v false [.int .i64 x5])]
abbrev xJu (v0 : List Str) (v1 : Int) := gD v0 (tN v1) Ty.str.dflt
def xRG (x0 : List Str) (x1 : Str) (x5 : Int) : rS 2 I125 (xKI x0 x1 x5) [Y, Y] [] = dn (xEQ true) [iY (dc (x5 < (Ln x0 : Int))), (0 : Int) ≤ x5 ∧ x5 < (Ln x0), iY (((xJu x0 x5) : Str) == x1)] := by kernel_rfl
def xRH (x0 : List Str) (x1 : Str) (x5 : Int) : rS 2 I125 (xKI x0 x1 x5) [Y, F] [] = st 2 I125 (xKI x0 x1 (W (x5 + 1))) [iY (dc (x5 < (Ln x0 : Int))), (0 : Int) ≤ x5 ∧ x5 < (Ln x0), iN (((xJu x0 x5) : Str) == x1)] := by kernel_rfl
def xRI (x0 : List Str) (x1 : Str) (x5 : Int) : rS 2 I125 (xKI x0 x1 x5) [F] [] = dn (xEQ false) [iN (dc (x5 < (Ln x0 : Int)))] := by kernel_rfl
def xRJ (a0 : List Str) (a1 : Str) : rE I125 (xGq a0 a1) [] [] = st 2 I125 (xKI a0 a1 0) [] := by kernel_rfl
theorem xYI {N : Nat} : ∀ n x0 x1 x5 r, xEP N n x0 x1 x5 = some r → RS Tryz.f125 I125 2 (xKI x0 x1 x5) (xEQ r) := by
 intro n
 induction n with
 | zero => exact fun _ _ _ _ h => nE h
 | succ n ih =>
  exact fun x0 x1 x5 r h =>
   cE h (fun h0 h => iE h fun h1 h => cE h (fun h2 h => dS h xOm (xRG x0 x1 x5) (oc3 h0 h1 h2 on)) fun h2 h =>
   tS xOm (xRH x0 x1 x5) (oc3 h0 h1 h2 on) (ih _ _ _ _ h)) fun h0 h =>
   dS h xOm (xRI x0 x1 x5) (oc h0 on)
theorem xYJ {N : Nat} : ∀ a0 a1 r, xIl N a0 a1 = some r → RE Tryz.f125 I125 (xGq a0 a1) (xEQ r) := fun a0 a1 r h =>
 tE xOm (xRJ a0 a1) on (xYI _ _ _ _ _ h)
theorem xLB {N : Nat} {a0 : List Str} {a1 : Str} {r : Bool} (h : xIl N  a0 a1 = some r) : AbC 125 (xGq a0 a1) (xEQ r) :=
 AbsCalls.of_reach xOm rfl rfl (Nat.le_of_ble_eq_true rfl) (xYJ a0 a1 r h)
noncomputable def I109 : Info := { body := (Tryz.f109.body).getD .skip, nt := 6, results := [.tmp 2], keep := [0, 4], live := [], modes := [] }
theorem xYW : FnOk Tryz.prog 109 Tryz.f109 I109 := ⟨Tryz.func109, by kernel_rfl, by kernel_rfl, by kernel_rfl, by kernel_rfl⟩
def xQ0 (a0 : Str) (r1 : (List Str)) (r2 : Bool) : rE I109 (xEY a0) [] [xEq r1, xEQ r2] = dn (xEn r2) [AbC 126 xEZ (xEq r1), AbC 125 (xGq r1 a0) (xEQ r2)] := by kernel_rfl
theorem xYA {N : Nat} : ∀ a0 r, xE6 N a0 = some r → RE Tryz.f109 I109 (xEY a0) (xEn r) := fun a0 r h =>
 bE h fun r1 h0 h => bE h fun r2 h1 h => dE h xYW (xQ0 a0 r1 r2) (oc2 (xI9 h0) (xLB h1) on)
theorem xI7 {N : Nat} {a0 : Str} {r : Bool} (h : xE6 N  a0 = some r) : AbC 109 (xEY a0) (xEn r) :=
 AbsCalls.of_reach xYW rfl rfl (Nat.le_of_ble_eq_true rfl) (xYA a0 r h)
noncomputable def I87 : Info := { body := (Tryz.f87.body).getD .skip, nt := 15, results := [.tmp 2], keep := [0, 4], live := [], modes := [(1, [(2, .take, false), (7, .take, false)])] }
theorem fk87 : FnOk Tryz.prog 87 Tryz.f87 I87 := ⟨Tryz.func87, by kernel_rfl, by kernel_rfl, by kernel_rfl, by kernel_rfl⟩
def xXE (a0 : Str) (r1 r2 : Bool) : rE I87 (xB6 a0) [Y, Y] [xBa r1, xEn r2] = dn (xAD (!r2)) [AbC 108 (xEH a0) (xBa r1), iY r1, iY (dc ((Ln a0 : Int) ≤ 8)), AbC 109 (xEY a0) (xEn r2)] := by kernel_rfl
def xXF (a0 : Str) (r1 : Bool) : rE I87 (xB6 a0) [Y, F] [xBa r1] = dn (xAD false) [AbC 108 (xEH a0) (xBa r1), iY r1, iN (dc ((Ln a0 : Int) ≤ 8))] := by kernel_rfl
def xXG (a0 : Str) (r1 : Bool) : rE I87 (xB6 a0) [F, F] [xBa r1] = dn (xAD false) [AbC 108 (xEH a0) (xBa r1), iN r1, iN false] := by kernel_rfl
theorem vAn {N : Nat} : ∀ a0 r, xCY N a0 = some r → RE Tryz.f87 I87 (xB6 a0) (xAD r) := fun a0 r h =>
 bE h fun r1 h0 h => cE h (fun h1 h => cE h (fun h2 h => bE h fun r2 h3 h => dE h fk87 (xXE a0 r1 r2) (oc4 (xGM h0) h1 h2 (xI7 h3) on)) fun h2 h =>
 dE h fk87 (xXF a0 r1) (oc3 (xGM h0) h1 h2 on)) fun h1 h =>
 dE h fk87 (xXG a0 r1) (oc3 (xGM h0) h1 rfl on)
theorem xBN {N : Nat} {a0 : Str} {r : Bool} (h : xCY N  a0 = some r) : AbC 87 (xB6 a0) (xAD r) :=
 AbsCalls.of_reach fk87 rfl rfl (Nat.le_of_ble_eq_true rfl) (vAn a0 r h)
noncomputable def I29 : Info := { body := (Tryz.f29.body).getD .skip, nt := 40, results := [.cell 2 25], keep := [0, 4, 14, 48, 1, 5], live := [], modes := [], ext := [0] }
theorem fk29 : FnOk Tryz.prog 29 Tryz.f29 I29 := ⟨Tryz.func29, by kernel_rfl, by kernel_rfl, by kernel_rfl, by kernel_rfl⟩
def xUE (a0 : Rdr) : rE I29 (xCR a0) [Y, Y] [] = dn (xAJ ((Exp.mk 0 0 [] []), (Rdr.mk (Rdr.toks a0) (Rdr.i a0) (Rdr.fin a0) (Tok.pos (xIJ a0))))) [xKh a0, xO3 a0, xFQ a0] := by kernel_rfl
def xUF (a0 : Rdr) : rE I29 (xCR a0) [Y, F] [] = dn (xAJ ((Exp.mk 0 0 [] []), (Rdr.mk (Rdr.toks a0) (Rdr.i a0) (Rdr.fin a0) (Rdr.fin a0)))) [xKh a0, iN (xMN a0)] := by kernel_rfl
def xUG (a0 : Rdr) : rE I29 (xCR a0) [F] [] = dn (xAJ ((Exp.mk 0 0 [] []), a0)) [iN (dc ((Rdr.bad a0) < 0))] := by kernel_rfl
theorem xZq {N : Nat} : ∀ a0 r, xBK N a0 = some r → RE Tryz.f29 I29 (xCR a0) (xAJ r) := fun a0 r h =>
 cE h (fun h0 h => cE h (fun h1 h => iE h fun h2 h => dE h fk29 (xUE a0) (oc3 h0 h1 h2 on)) fun h1 h =>
 dE h fk29 (xUF a0) (oc2 h0 h1 on)) fun h0 h =>
 dE h fk29 (xUG a0) (oc h0 on)
theorem xB9 {N : Nat} {a0 : Rdr} {r : Exp × Rdr} (h : xBK N  a0 = some r) : AbC 29 (xCR a0) (xAJ r) :=
 AbsCalls.of_reach fk29 rfl rfl (Nat.le_of_ble_eq_true rfl) (xZq a0 r h)
noncomputable def I46 : Info := { body := (Tryz.f46.body).getD .skip, nt := 71, results := [.tmp 2], keep := [0, 4, 96, 1], live := [], modes := [(1, [(5, .take, false), (17, .take, false), (31, .take, false)])], ext := [0] }
theorem fk46 : FnOk Tryz.prog 46 Tryz.f46 I46 := ⟨Tryz.func46, by kernel_rfl, by kernel_rfl, by kernel_rfl, by kernel_rfl⟩
abbrev xJG (v0 : Rdr) (v1 : Exp × Rdr) : Prop := AbC 29 (xCR v0) (xAJ v1)
def xVA (a0 : Rdr) (r1 : Exp × Rdr) : rE I46 (xDD a0) [Y, Y, Y, Y] [xAJ r1] = dn (xCS ([], r1.2)) [iY (dc ((Rdr.bad a0) ≥ 0)), iY true, iY true, iY true, xJG a0 r1] := by kernel_rfl
abbrev xGF (v0 : Rdr) : Prop := iN (dc ((Rdr.bad v0) ≥ 0))
abbrev xMO (v0 : Rdr) := dc ((Rdr.i v0) ≥ (Ln (Rdr.toks v0) : Int))
def xVB (a0 : Rdr) (r1 : Exp × Rdr) : rE I46 (xDD a0) [F, Y, Y, Y] [xAJ r1] = dn (xCS ([], r1.2)) [xGF a0, iY (xMO a0), iY true, iY true, xJG a0 r1] := by kernel_rfl
abbrev xHh (v0 : Rdr) : Prop := iN (xMO v0)
abbrev xOS (v0 : Rdr) := ((Tok.kind (gD (Rdr.toks v0) (tN (Rdr.i v0)) Ty.tok.dflt)) : Int) != 1
def xVC (a0 : Rdr) (r1 : Exp × Rdr) : rE I46 (xDD a0) [F, F, Y, Y] [xAJ r1] = dn (xCS ([], r1.2)) [xGF a0, xHh a0, xFQ a0, iY (xOS a0), iY true, xJG a0 r1] := by kernel_rfl
abbrev xTu (v0 : Rdr) : Prop := iN (xOS v0)
abbrev xKd (v0 : Rdr) := Tok.text (gD (Rdr.toks v0) (tN (Rdr.i v0)) Ty.tok.dflt)
abbrev xKi (v0 : Rdr) (v1 : Bool) : Prop := AbC 87 (xB6 (xKd v0)) (xAD v1)
def xVD (a0 : Rdr) (r1 : Bool) (r2 : Exp × Rdr) : rE I46 (xDD a0) [F, F, F, Y] [xAD r1, xAJ r2] = dn (xCS ([], r2.2)) [xGF a0, xHh a0, xFQ a0, xTu a0, xFQ a0, xKi a0 r1, iY (!r1), xJG a0 r2] := by kernel_rfl
abbrev xKf (v0 : Rdr) := Rdr.mk (Rdr.toks v0) (W ((Rdr.i v0) + 1)) (Rdr.fin v0) (Rdr.bad v0)
abbrev xMP (v0 : Rdr) := W ((Rdr.i v0) + 1)
def xVE (a0 : Rdr) (r1 : Bool) : rE I46 (xDD a0) [F, F, F, F] [xAD r1] = dn (xCS ((Tok.text (gD (Rdr.toks a0) (tN (W ((xMP a0) - 1))) Ty.tok.dflt)), (xKf a0))) [xGF a0, xHh a0, xFQ a0, xTu a0, xFQ a0, xKi a0 r1, iN (!r1), (0 : Int) ≤ (W ((xMP a0) - 1)) ∧ (W ((xMP a0) - 1)) < (Ln (Rdr.toks a0))] := by kernel_rfl
theorem xZG {N : Nat} : ∀ a0 r, xDh N a0 = some r → RE Tryz.f46 I46 (xDD a0) (xCS r) := fun a0 r h =>
 cE h (fun h0 h => bE h fun r1 h4 h => dE h fk46 (xVA a0 r1) (oc5 h0 rfl rfl rfl (xB9 h4) on)) fun h0 h =>
 cE h (fun h1 h => bE h fun r1 h4 h => dE h fk46 (xVB a0 r1) (oc5 h0 h1 rfl rfl (xB9 h4) on)) fun h1 h =>
 iE h fun h2 h => cE h (fun h3 h => bE h fun r1 h5 h => dE h fk46 (xVC a0 r1) (oc6 h0 h1 h2 h3 rfl (xB9 h5) on)) fun h3 h =>
 bE h fun r1 h5 h => cE h (fun h6 h => bE h fun r2 h7 h => dE h fk46 (xVD a0 r1 r2) (oc8 h0 h1 h2 h3 h2 (xBN h5) h6 (xB9 h7) on)) fun h6 h =>
 iE h fun h7 h => dE h fk46 (xVE a0 r1) (oc8 h0 h1 h2 h3 h2 (xBN h5) h6 h7 on)
theorem xIe {N : Nat} {a0 : Rdr} {r : Str × Rdr} (h : xDh N  a0 = some r) : AbC 46 (xDD a0) (xCS r) :=
 AbsCalls.of_reach fk46 rfl rfl (Nat.le_of_ble_eq_true rfl) (xZG a0 r h)
noncomputable def I47 : Info := { body := (Tryz.f47.body).getD .skip, nt := 18, results := [], keep := [0, 2, 14, 1], live := [], modes := [], ext := [0] }
theorem fk47 : FnOk Tryz.prog 47 Tryz.f47 I47 := ⟨Tryz.func47, by kernel_rfl, by kernel_rfl, by kernel_rfl, by kernel_rfl⟩
def xVF (a0 : Rdr) (a1 : Str) (r1 : Bool × Rdr) (r2 : Exp × Rdr) : rE I47 (xBx a0 a1) [Y] [xAd r1, xAJ r2] = dn (xAB r2.2) [AbC 45 (xAz a0 a1) (xAd r1), iY (!r1.1), AbC 29 (xCR r1.2) (xAJ r2)] := by kernel_rfl
abbrev xH8 (v0 : Bool × Rdr) := Rdr.mk (Rdr.toks v0.2) (W ((Rdr.i v0.2) + 1)) (Rdr.fin v0.2) (Rdr.bad v0.2)
def xVG (a0 : Rdr) (a1 : Str) (r1 : Bool × Rdr) : rE I47 (xBx a0 a1) [F] [xAd r1] = dn (xAB (xH8 r1)) [AbC 45 (xAz a0 a1) (xAd r1), iN (!r1.1)] := by kernel_rfl
theorem xZH {N : Nat} : ∀ a0 a1 r, xBk N a0 a1 = some r → RE Tryz.f47 I47 (xBx a0 a1) (xAB r) := fun a0 a1 r h =>
 bE h fun r1 h0 h => cE h (fun h1 h => bE h fun r2 h2 h => dE h fk47 (xVF a0 a1 r1 r2) (oc3 (xAm h0) h1 (xB9 h2) on)) fun h1 h =>
 dE h fk47 (xVG a0 a1 r1) (oc2 (xAm h0) h1 on)
theorem xCx {N : Nat} {a0 : Rdr} {a1 : Str} {r : Rdr} (h : xBk N  a0 a1 = some r) : AbC 47 (xBx a0 a1) (xAB r) :=
 AbsCalls.of_reach fk47 rfl rfl (Nat.le_of_ble_eq_true rfl) (xZH a0 a1 r h)
noncomputable def I67 : Info := { body := (Tryz.f67.body).getD .skip, nt := 5, results := [.cell 2 25], keep := [0, 4, 5], live := [], modes := [] }
theorem fk67 : FnOk Tryz.prog 67 Tryz.f67 I67 := ⟨Tryz.func67, by kernel_rfl, by kernel_rfl, by kernel_rfl, by kernel_rfl⟩
def xWp (a0 : Int) : rE I67 (xF8 a0) [] [] = dn (xFs (Exp.mk 1 a0 [] [])) [] := by kernel_rfl
theorem xZ0 {N : Nat} : ∀ a0 r, xIQ N a0 = some r → RE Tryz.f67 I67 (xF8 a0) (xFs r) := fun a0 r h =>
 dE h fk67 (xWp a0) on
theorem xKG {N : Nat} {a0 : Int} {r : Exp} (h : xIQ N  a0 = some r) : AbC 67 (xF8 a0) (xFs r) :=
 AbsCalls.of_reach fk67 rfl rfl (Nat.le_of_ble_eq_true rfl) (xZ0 a0 r h)
noncomputable def I101 : Info := { body := (Tryz.f101.body).getD .skip, nt := 5, results := [.cell 2 25], keep := [0, 4, 5], live := [], modes := [] }
theorem xYU : FnOk Tryz.prog 101 Tryz.f101 I101 := ⟨Tryz.func101, by kernel_rfl, by kernel_rfl, by kernel_rfl, by kernel_rfl⟩
def xQo (a0 : Str) : rE I101 (xFU a0) [] [] = dn (xFa (Exp.mk 3 0 a0 [])) [] := by kernel_rfl
theorem xYr {N : Nat} : ∀ a0 r, xId N a0 = some r → RE Tryz.f101 I101 (xFU a0) (xFa r) := fun a0 r h =>
 dE h xYU (xQo a0) on
theorem xKq {N : Nat} {a0 : Str} {r : Exp} (h : xId N  a0 = some r) : AbC 101 (xFU a0) (xFa r) :=
 AbsCalls.of_reach xYU rfl rfl (Nat.le_of_ble_eq_true rfl) (xYr a0 r h)
noncomputable def I106 : Info := { body := (Tryz.f106.body).getD .skip, nt := 26, results := [.tmp 2], keep := [0, 4, 6, 8, 12, 24, 40, 48], live := [], modes := [] }
theorem xHo : FnOk Tryz.prog 106 Tryz.f106 I106 := ⟨Tryz.func106, by kernel_rfl, by kernel_rfl, by kernel_rfl, by kernel_rfl⟩
abbrev xMQ (v0 : Str) := (v0 : Str) == [99, 108, 111, 99, 107]
def xQw (a0 : Str) : rE I106 (xAo a0) [Y] [] = dn (xAi 0) [iY (xMQ a0)] := by kernel_rfl
abbrev xDH (v0 : Str) : Prop := iN (xMQ v0)
abbrev xNm (v0 : Str) : Prop := iY ((v0 : Str) == [108, 101, 110])
def xQx (a0 : Str) : rE I106 (xAo a0) [F, Y, Y] [] = dn (xAi 1) [xDH a0, xNm a0, xNm a0] := by kernel_rfl
abbrev xDT (v0 : Str) : Prop := iN ((v0 : Str) == [108, 101, 110])
abbrev xNn (v0 : Str) : Prop := iY ((v0 : Str) == [115, 117, 109])
def xQy (a0 : Str) : rE I106 (xAo a0) [F, F, Y, Y] [] = dn (xAi 1) [xDH a0, xDT a0, xNn a0, xNn a0] := by kernel_rfl
abbrev xD9 (v0 : Str) : Prop := iN ((v0 : Str) == [115, 117, 109])
abbrev xNo (v0 : Str) : Prop := iY ((v0 : Str) == [114, 111, 119, 115])
def xQz (a0 : Str) : rE I106 (xAo a0) [F, F, F, Y, Y] [] = dn (xAi 1) [xDH a0, xDT a0, xD9 a0, xNo a0, xNo a0] := by kernel_rfl
abbrev xEw (v0 : Str) : Prop := iN ((v0 : Str) == [114, 111, 119, 115])
abbrev xNp (v0 : Str) : Prop := iY ((v0 : Str) == [99, 104, 97, 110, 99, 101])
def xQA (a0 : Str) : rE I106 (xAo a0) [F, F, F, F, Y, Y] [] = dn (xAi 1) [xDH a0, xDT a0, xD9 a0, xEw a0, xNp a0, xNp a0] := by kernel_rfl
abbrev xEK (v0 : Str) : Prop := iN ((v0 : Str) == [99, 104, 97, 110, 99, 101])
abbrev xMR (v0 : Str) := (v0 : Str) == [102, 105, 108, 101]
def xQB (a0 : Str) : rE I106 (xAo a0) [F, F, F, F, F, Y] [] = dn (xAi 1) [xDH a0, xDT a0, xD9 a0, xEw a0, xEK a0, iY (xMR a0)] := by kernel_rfl
abbrev xEX (v0 : Str) : Prop := iN (xMR v0)
abbrev xNq (v0 : Str) : Prop := iY ((v0 : Str) == [116, 97, 107, 101])
def xQC (a0 : Str) : rE I106 (xAo a0) [F, F, F, F, F, F, Y, Y] [] = dn (xAi 2) [xDH a0, xDT a0, xD9 a0, xEw a0, xEK a0, xEX a0, xNq a0, xNq a0] := by kernel_rfl
abbrev xFl (v0 : Str) : Prop := iN ((v0 : Str) == [116, 97, 107, 101])
abbrev xNr (v0 : Str) : Prop := iY ((v0 : Str) == [115, 107, 105, 112])
def xQD (a0 : Str) : rE I106 (xAo a0) [F, F, F, F, F, F, F, Y, Y] [] = dn (xAi 2) [xDH a0, xDT a0, xD9 a0, xEw a0, xEK a0, xEX a0, xFl a0, xNr a0, xNr a0] := by kernel_rfl
abbrev xFH (v0 : Str) : Prop := iN ((v0 : Str) == [115, 107, 105, 112])
abbrev xNs (v0 : Str) : Prop := iY ((v0 : Str) == [114, 97, 110, 103, 101])
def xQE (a0 : Str) : rE I106 (xAo a0) [F, F, F, F, F, F, F, F, Y, Y] [] = dn (xAi 2) [xDH a0, xDT a0, xD9 a0, xEw a0, xEK a0, xEX a0, xFl a0, xFH a0, xNs a0, xNs a0] := by kernel_rfl
abbrev xF1 (v0 : Str) : Prop := iN ((v0 : Str) == [114, 97, 110, 103, 101])
abbrev xNt (v0 : Str) : Prop := iY ((v0 : Str) == [110, 116, 104])
def xQF (a0 : Str) : rE I106 (xAo a0) [F, F, F, F, F, F, F, F, F, Y, Y] [] = dn (xAi 2) [xDH a0, xDT a0, xD9 a0, xEw a0, xEK a0, xEX a0, xFl a0, xFH a0, xF1 a0, xNt a0, xNt a0] := by kernel_rfl
abbrev xGn (v0 : Str) : Prop := iN ((v0 : Str) == [110, 116, 104])
abbrev xNu (v0 : Str) : Prop := iY ((v0 : Str) == [107, 101, 101, 112])
def xO6 (a0 : Str) : rE I106 (xAo a0) [F, F, F, F, F, F, F, F, F, F, Y, Y] [] = dn (xAi 2) [xDH a0, xDT a0, xD9 a0, xEw a0, xEK a0, xEX a0, xFl a0, xFH a0, xF1 a0, xGn a0, xNu a0, xNu a0] := by kernel_rfl
abbrev xGT (v0 : Str) : Prop := iN ((v0 : Str) == [107, 101, 101, 112])
abbrev xNv (v0 : Str) : Prop := iY ((v0 : Str) == [99, 111, 108, 117, 109, 110])
def xO7 (a0 : Str) : rE I106 (xAo a0) [F, F, F, F, F, F, F, F, F, F, F, Y, Y] [] = dn (xAi 2) [xDH a0, xDT a0, xD9 a0, xEw a0, xEK a0, xEX a0, xFl a0, xFH a0, xF1 a0, xGn a0, xGT a0, xNv a0, xNv a0] := by kernel_rfl
abbrev xHG (v0 : Str) : Prop := iN ((v0 : Str) == [99, 111, 108, 117, 109, 110])
abbrev xMS (v0 : Str) := (v0 : Str) == [116, 97, 98, 108, 101]
def xO8 (a0 : Str) : rE I106 (xAo a0) [F, F, F, F, F, F, F, F, F, F, F, F, Y] [] = dn (xAi 2) [xDH a0, xDT a0, xD9 a0, xEw a0, xEK a0, xEX a0, xFl a0, xFH a0, xF1 a0, xGn a0, xGT a0, xHG a0, iY (xMS a0)] := by kernel_rfl
abbrev xIB (v0 : Str) : Prop := iN (xMS v0)
abbrev xNw (v0 : Str) : Prop := iY ((v0 : Str) == [119, 104, 101, 114, 101])
def xO9 (a0 : Str) : rE I106 (xAo a0) [F, F, F, F, F, F, F, F, F, F, F, F, F, Y, Y] [] = dn (xAi 3) [xDH a0, xDT a0, xD9 a0, xEw a0, xEK a0, xEX a0, xFl a0, xFH a0, xF1 a0, xGn a0, xGT a0, xHG a0, xIB a0, xNw a0, xNw a0] := by kernel_rfl
abbrev xJH (v0 : Str) : Prop := iN ((v0 : Str) == [119, 104, 101, 114, 101])
abbrev xNx (v0 : Str) : Prop := iY ((v0 : Str) == [103, 114, 111, 117, 112])
def xPa (a0 : Str) : rE I106 (xAo a0) [F, F, F, F, F, F, F, F, F, F, F, F, F, F, Y, Y] [] = dn (xAi 3) [xDH a0, xDT a0, xD9 a0, xEw a0, xEK a0, xEX a0, xFl a0, xFH a0, xF1 a0, xGn a0, xGT a0, xHG a0, xIB a0, xJH a0, xNx a0, xNx a0] := by kernel_rfl
abbrev xKV (v0 : Str) : Prop := iN ((v0 : Str) == [103, 114, 111, 117, 112])
abbrev xMT (v0 : Str) := (v0 : Str) == [106, 111, 105, 110]
def xPb (a0 : Str) : rE I106 (xAo a0) [F, F, F, F, F, F, F, F, F, F, F, F, F, F, F, Y] [] = dn (xAi 3) [xDH a0, xDT a0, xD9 a0, xEw a0, xEK a0, xEX a0, xFl a0, xFH a0, xF1 a0, xGn a0, xGT a0, xHG a0, xIB a0, xJH a0, xKV a0, iY (xMT a0)] := by kernel_rfl
abbrev xNy (v0 : Str) : Prop := iN (xMT v0)
abbrev xLt (v0 : Str) := (v0 : Str) == [97, 100, 100]
def xPc (a0 : Str) : rE I106 (xAo a0) [F, F, F, F, F, F, F, F, F, F, F, F, F, F, F, F, Y] [] = dn (xAi 4) [xDH a0, xDT a0, xD9 a0, xEw a0, xEK a0, xEX a0, xFl a0, xFH a0, xF1 a0, xGn a0, xGT a0, xHG a0, xIB a0, xJH a0, xKV a0, xNy a0, iY (xLt a0)] := by kernel_rfl
def xPd (a0 : Str) : rE I106 (xAo a0) [F, F, F, F, F, F, F, F, F, F, F, F, F, F, F, F, F] [] = dn (xAi (-1)) [xDH a0, xDT a0, xD9 a0, xEw a0, xEK a0, xEX a0, xFl a0, xFH a0, xF1 a0, xGn a0, xGT a0, xHG a0, xIB a0, xJH a0, xKV a0, xNy a0, iN (xLt a0)] := by kernel_rfl
theorem xYw {N : Nat} : ∀ a0 r, xB2 N a0 = some r → RE Tryz.f106 I106 (xAo a0) (xAi r) := fun a0 r h =>
 cE h (fun h0 h => dE h xHo (xQw a0) (oc h0 on)) fun h0 h =>
 cE h (fun h1 h => dE h xHo (xQx a0) (oc3 h0 h1 h1 on)) fun h1 h =>
 cE h (fun h2 h => dE h xHo (xQy a0) (oc4 h0 h1 h2 h2 on)) fun h2 h =>
 cE h (fun h3 h => dE h xHo (xQz a0) (oc5 h0 h1 h2 h3 h3 on)) fun h3 h =>
 cE h (fun h4 h => dE h xHo (xQA a0) (oc6 h0 h1 h2 h3 h4 h4 on)) fun h4 h =>
 cE h (fun h5 h => dE h xHo (xQB a0) (oc6 h0 h1 h2 h3 h4 h5 on)) fun h5 h =>
 cE h (fun h6 h => dE h xHo (xQC a0) (oc8 h0 h1 h2 h3 h4 h5 h6 h6 on)) fun h6 h =>
 cE h (fun h7 h => dE h xHo (xQD a0) (oc9 h0 h1 h2 h3 h4 h5 h6 h7 h7 on)) fun h7 h =>
 cE h (fun h8 h => dE h xHo (xQE a0) (oc10 h0 h1 h2 h3 h4 h5 h6 h7 h8 h8 on)) fun h8 h =>
 cE h (fun h9 h => dE h xHo (xQF a0) (oc11 h0 h1 h2 h3 h4 h5 h6 h7 h8 h9 h9 on)) fun h9 h =>
 cE h (fun h10 h => dE h xHo (xO6 a0) (oc12 h0 h1 h2 h3 h4 h5 h6 h7 h8 h9 h10 h10 on)) fun h10 h =>
 cE h (fun h11 h => dE h xHo (xO7 a0) (oc12 h0 h1 h2 h3 h4 h5 h6 h7 h8 h9 h10 h11 (oc h11 on))) fun h11 h =>
 cE h (fun h12 h => dE h xHo (xO8 a0) (oc12 h0 h1 h2 h3 h4 h5 h6 h7 h8 h9 h10 h11 (oc h12 on))) fun h12 h =>
 cE h (fun h13 h => dE h xHo (xO9 a0) (oc12 h0 h1 h2 h3 h4 h5 h6 h7 h8 h9 h10 h11 (oc3 h12 h13 h13 on))) fun h13 h =>
 cE h (fun h14 h => dE h xHo (xPa a0) (oc12 h0 h1 h2 h3 h4 h5 h6 h7 h8 h9 h10 h11 (oc4 h12 h13 h14 h14 on))) fun h14 h =>
 cE h (fun h15 h => dE h xHo (xPb a0) (oc12 h0 h1 h2 h3 h4 h5 h6 h7 h8 h9 h10 h11 (oc4 h12 h13 h14 h15 on))) fun h15 h =>
 cE h (fun h16 h => dE h xHo (xPc a0) (oc12 h0 h1 h2 h3 h4 h5 h6 h7 h8 h9 h10 h11 (oc5 h12 h13 h14 h15 h16 on))) fun h16 h =>
 dE h xHo (xPd a0) (oc12 h0 h1 h2 h3 h4 h5 h6 h7 h8 h9 h10 h11 (oc5 h12 h13 h14 h15 h16 on))
theorem xDB {N : Nat} {a0 : Str} {r : Int} (h : xB2 N  a0 = some r) : AbC 106 (xAo a0) (xAi r) :=
 AbsCalls.of_reach xHo rfl rfl (Nat.le_of_ble_eq_true rfl) (xYw a0 r h)
noncomputable def I66 : Info := { body := (Tryz.f66.body).getD .skip, nt := 12, results := [.cell 6 25], keep := [0, 2, 4, 8, 10, 12, 9, 11, 13], live := [], modes := [] }
theorem fk66 : FnOk Tryz.prog 66 Tryz.f66 I66 := ⟨Tryz.func66, by kernel_rfl, by kernel_rfl, by kernel_rfl, by kernel_rfl⟩
def xWo (a0 : Int) (a1 a2 : Exp) : rE I66 (xDy a0 a1 a2) [] [] = dn (xBJ (Exp.mk 6 a0 [] [(Exp.re a1), (Exp.re a2)])) [] := by kernel_rfl
theorem xZZ {N : Nat} : ∀ a0 a1 a2 r, xD0 N a0 a1 a2 = some r → RE Tryz.f66 I66 (xDy a0 a1 a2) (xBJ r) := fun a0 a1 a2 r h =>
 dE h fk66 (xWo a0 a1 a2) on
theorem xEO {N : Nat} {a0 : Int} {a1 : Exp} {a2 : Exp} {r : Exp} (h : xD0 N  a0 a1 a2 = some r) : AbC 66 (xDy a0 a1 a2) (xBJ r) :=
 AbsCalls.of_reach fk66 rfl rfl (Nat.le_of_ble_eq_true rfl) (xZZ a0 a1 a2 r h)
end Go.Ab.T
end
section
open Go.Proofs
namespace Go.Ab.T
set_option maxRecDepth 100000
variable [Inhabited Lb]
variable [Nonempty Tab10]
variable [Nonempty ErrVars]
def G137 (q : Rdr → Str → Option ((List Exp) × Rdr)) : Prop := ∀ a0 a1 r, q a0 a1 = some r → AbC 137 (xD7 a0 a1) (xB7 r)
def G127 (q : Rdr → Option (Exp × Rdr)) : Prop := ∀ a0 r, q a0 = some r → AbC 127 (xBf a0) (xA9 r)
def G48 (q : Rdr → Option (Exp × Rdr)) : Prop := ∀ a0 r, q a0 = some r → AbC 48 (xC8 a0) (xCN r)
def G28 (q : Rdr → Option (Exp × Rdr)) : Prop := ∀ a0 r, q a0 = some r → AbC 28 (xB8 a0) (xAq r)
def G110 (q : Rdr → Option (Exp × Rdr)) : Prop := ∀ a0 r, q a0 = some r → AbC 110 (xDJ a0) (xBv r)
def G88 (q : Rdr → Option (Exp × Rdr)) : Prop := ∀ a0 r, q a0 = some r → AbC 88 (xDW a0) (xB3 r)
noncomputable def I137 : Info := { body := (Tryz.f137.body).getD .skip, nt := 44, results := [.tmp 4], keep := [0, 2, 8, 10, 18, 46, 62, 1], live := [(5, [0, 2, 10, 1])], modes := [(4, [(0, .take, false)]), (6, [(0, .take, false), (4, .take, false)]), (10, [(0, .take, false)])], ext := [0], casts := [(5, [(10, 0, false)])], fcast := [(8, 0, false)] }
theorem xNW : FnOk Tryz.prog 137 Tryz.f137 I137 := ⟨Tryz.func137, by kernel_rfl, by kernel_rfl, by kernel_rfl, by kernel_rfl⟩
def xKK (x1 : Str) (x5 : List Exp) (b0 : Rdr) : St := [(0, .v false [.ptr 0 0]), (2, .v false [.str x1]), (10, .v false [.sl .tip .exp x5]), (1, .v true [.sl .ro .tok (Rdr.toks b0), .int .i64 (Rdr.i b0), .int .i64 (Rdr.fin b0), .int .i64 (Rdr.bad b0)])]
abbrev xJI (v0 : Rdr) (v1 : Exp × Rdr) : Prop := AbC 28 (xB8 v0) (xAq v1)
def xR3 (x1 : Str) (x5 : List Exp) (b0 : Rdr) (r1 : Exp × Rdr) (r2 : Bool × Rdr) (r3 : Rdr) : rS 5 I137 (xKK x1 x5 b0) [Y, Y] [xAq r1, xAd r2, xAB r3] = dn (xB7 ((x5 ++ [(Exp.re r1.1)]), r3)) [xKh b0, xJI b0 r1, Ln x5 + Ln [(Exp.re r1.1)] ≤ Lim, AbC 45 (xAz r1.2 [44]) (xAd r2), iY (!r2.1), AbC 47 (xBx r2.2 x1) (xAB r3)] := by kernel_rfl
def xR4 (x1 : Str) (x5 : List Exp) (b0 : Rdr) (r1 : Exp × Rdr) (r2 : Bool × Rdr) : rS 5 I137 (xKK x1 x5 b0) [Y, F] [xAq r1, xAd r2] = st 5 I137 (xKK x1 (x5 ++ [(Exp.re r1.1)]) (xH8 r2)) [xKh b0, xJI b0 r1, Ln x5 + Ln [(Exp.re r1.1)] ≤ Lim, AbC 45 (xAz r1.2 [44]) (xAd r2), iN (!r2.1)] := by kernel_rfl
def xR5 (x1 : Str) (x5 : List Exp) (b0 r1 : Rdr) : rS 5 I137 (xKK x1 x5 b0) [F] [xAB r1] = dn (xB7 (x5, r1)) [iN (dc ((Rdr.bad b0) < 0)), AbC 47 (xBx b0 x1) (xAB r1)] := by kernel_rfl
def xR6 (a0 : Rdr) (a1 : Str) (r1 : Bool × Rdr) : rE I137 (xD7 a0 a1) [Y] [xAd r1] = dn (xB7 ([], (xH8 r1))) [AbC 45 (xAz a0 a1) (xAd r1), iY r1.1] := by kernel_rfl
def xR7 (a0 : Rdr) (a1 : Str) (r1 : Bool × Rdr) : rE I137 (xD7 a0 a1) [F] [xAd r1] = st 5 I137 (xKK a1 [] r1.2) [AbC 45 (xAz a0 a1) (xAd r1), iN r1.1] := by kernel_rfl
theorem xYO {N q0 q1 q2 q3 q4 q5} (g0 : G137 q0) (g1 : G127 q1) (g2 : G48 q2) (g3 : G28 q3) (g4 : G110 q4) (g5 : G88 q5) : ∀ n x1 x5 b0 r, xEF N q0 q1 q2 q3 q4 q5 n x1 x5 b0 = some r → RS Tryz.f137 I137 5 (xKK x1 x5 b0) (xB7 r) := by
 intro n
 induction n with
 | zero => exact fun _ _ _ _ h => nE h
 | succ n ih =>
  exact fun x1 x5 b0 r h =>
   cE h (fun h0 h => bE h fun r1 h1 h => iE h fun h2 h => bE h fun r2 h3 h => cE h (fun h4 h => bE h fun r3 h5 h => dS h xNW (xR3 x1 x5 b0 r1 r2 r3) (oc6 h0 (g3 _ _ h1) h2 (xAm h3) h4 (xCx h5) on)) fun h4 h =>
   tS xNW (xR4 x1 x5 b0 r1 r2) (oc5 h0 (g3 _ _ h1) h2 (xAm h3) h4 on) (ih _ _ _ _ h)) fun h0 h =>
   bE h fun r1 h1 h => dS h xNW (xR5 x1 x5 b0 r1) (oc2 h0 (xCx h1) on)
theorem xYP {N q0 q1 q2 q3 q4 q5} (g0 : G137 q0) (g1 : G127 q1) (g2 : G48 q2) (g3 : G28 q3) (g4 : G110 q4) (g5 : G88 q5) : ∀ a0 a1 r, xDs N q0 q1 q2 q3 q4 q5 a0 a1 = some r → RE Tryz.f137 I137 (xD7 a0 a1) (xB7 r) := fun a0 a1 r h =>
 bE h fun r1 h0 h => cE h (fun h1 h => dE h xNW (xR6 a0 a1 r1) (oc2 (xAm h0) h1 on)) fun h1 h =>
 tE xNW (xR7 a0 a1 r1) (oc2 (xAm h0) h1 on) (xYO g0 g1 g2 g3 g4 g5 _ _ _ _ _ h)
theorem xIp {N q0 q1 q2 q3 q4 q5} (g0 : G137 q0) (g1 : G127 q1) (g2 : G48 q2) (g3 : G28 q3) (g4 : G110 q4) (g5 : G88 q5) {a0} {a1} {r} (h : xDs N q0 q1 q2 q3 q4 q5 a0 a1 = some r) : AbC 137 (xD7 a0 a1) (xB7 r) :=
 AbsCalls.of_reach xNW rfl rfl (Nat.le_of_ble_eq_true rfl) (xYP g0 g1 g2 g3 g4 g5 a0 a1 r h)
noncomputable def I127 : Info := { body := (Tryz.f127.body).getD .skip, nt := 141, results := [.cell 2 25], keep := [0, 4, 6, 8, 42, 68, 98, 128, 168, 218, 246, 1, 5, 7, 9], live := [], modes := [(1, [(5, .take, false)]), (10, [(3, .take, false)]), (13, [(3, .take, false)])], ext := [0], fcast := [(5, 3, true)] }
theorem xJc : FnOk Tryz.prog 127 Tryz.f127 I127 := ⟨Tryz.func127, by kernel_rfl, by kernel_rfl, by kernel_rfl, by kernel_rfl⟩
def xRL (a0 : Rdr) (r1 : Exp × Rdr) : rE I127 (xBf a0) [Y, Y] [xAJ r1] = dn (xA9 (r1.1, r1.2)) [iY (dc ((Rdr.bad a0) ≥ 0)), iY true, xJG a0 r1] := by kernel_rfl
def xRM (a0 : Rdr) (r1 : Exp × Rdr) : rE I127 (xBf a0) [F, Y] [xAJ r1] = dn (xA9 (r1.1, r1.2)) [xGF a0, iY (xMO a0), xJG a0 r1] := by kernel_rfl
abbrev xOT (v0 : Exp) (v1 : Rdr) := xA9 (v0, (Rdr.mk (Rdr.toks v1) (W ((Rdr.i v1) + 1)) (Rdr.fin v1) (Rdr.bad v1)))
abbrev xOU (v0 : Rdr) := ((Tok.kind (gD (Rdr.toks v0) (tN (Rdr.i v0)) Ty.tok.dflt)) : Int) == 2
def xRN (a0 : Rdr) (r1 : Exp) : rE I127 (xBf a0) [F, F, Y] [xFs r1] = dn (xOT r1 a0) [xGF a0, xHh a0, xFQ a0, iY (xOU a0), AbC 67 (xF8 (Tok.n (xIJ a0))) (xFs r1)] := by kernel_rfl
abbrev xI2 (v0 : Rdr) : Prop := iN (xOU v0)
abbrev xOV (v0 : Rdr) := ((Tok.kind (gD (Rdr.toks v0) (tN (Rdr.i v0)) Ty.tok.dflt)) : Int) == 3
def xRO (a0 : Rdr) : rE I127 (xBf a0) [F, F, F, Y] [] = dn (xA9 ((Exp.mk 2 0 (xKd a0) []), (xKf a0))) [xGF a0, xHh a0, xFQ a0, xI2 a0, iY (xOV a0)] := by kernel_rfl
abbrev xJJ (v0 : Rdr) : Prop := iN (xOV v0)
abbrev xOW (v0 : Rdr) := ((Tok.kind (gD (Rdr.toks v0) (tN (Rdr.i v0)) Ty.tok.dflt)) : Int) == 1
abbrev xI3 (v0 : Rdr) : Prop := iY (xOW v0)
def xRP (a0 : Rdr) (r1 : Bool) (r2 : Exp) : rE I127 (xBf a0) [F, F, F, F, Y, Y] [xAD r1, xFa r2] = dn (xOT r2 a0) [xGF a0, xHh a0, xFQ a0, xI2 a0, xJJ a0, xI3 a0, xKi a0 r1, iY r1, AbC 101 (xFU (xKd a0)) (xFa r2)] := by kernel_rfl
abbrev xNz (v0 : Rdr) (v1 : Int) : Prop := AbC 106 (xAo (xKd v0)) (xAi v1)
def xRQ (a0 : Rdr) (r1 : Bool) (r2 : Int) (r3 : Rdr) (r4 : (List Exp) × Rdr) : rE I127 (xBf a0) [F, F, F, F, Y, F, Y, Y] [xAD r1, xAi r2, xAB r3, xB7 r4] = dn (xA9 ((Exp.mk 5 0 (xKd a0) r4.1), r4.2)) [xGF a0, xHh a0, xFQ a0, xI2 a0, xJJ a0, xI3 a0, xKi a0 r1, iN r1, xI3 a0, xNz a0 r2, iY (dc (r2 ≥ 0)), AbC 47 (xBx (xKf a0) [40]) (xAB r3), AbC 137 (xD7 r3 [41]) (xB7 r4)] := by kernel_rfl
abbrev xJK (v0 : Int) : Prop := iN (dc (v0 ≥ 0))
abbrev xKW (v0 : Rdr) (v1 : Bool) : Prop := AbC 85 (xDf (xIJ v0) [91]) (xAK v1)
abbrev xTv (v0 : Rdr) (v1 : (List Exp) × Rdr) : Prop := AbC 137 (xD7 (xKf v0) [93]) (xB7 v1)
def xRR (a0 : Rdr) (r1 : Bool) (r2 : Int) (r3 : Bool) (r4 : (List Exp) × Rdr) : rE I127 (xBf a0) [F, F, F, F, Y, F, Y, F, Y] [xAD r1, xAi r2, xAK r3, xB7 r4] = dn (xA9 ((Exp.mk 4 0 [] r4.1), r4.2)) [xGF a0, xHh a0, xFQ a0, xI2 a0, xJJ a0, xI3 a0, xKi a0 r1, iN r1, xI3 a0, xNz a0 r2, xJK r2, xKW a0 r3, iY r3, xTv a0 r4] := by kernel_rfl
abbrev xNA (v0 : Rdr) (v1 : Bool) : Prop := AbC 85 (xDf (xIJ v0) [40]) (xAK v1)
abbrev xTw (v0 : Rdr) (v1 : Exp × Rdr) : Prop := AbC 28 (xB8 (xKf v0)) (xAq v1)
def xRS (a0 : Rdr) (r1 : Bool) (r2 : Int) (r3 r4 : Bool) (r5 : Exp × Rdr) (r6 : Rdr) : rE I127 (xBf a0) [F, F, F, F, Y, F, Y, F, F, Y] [xAD r1, xAi r2, xAK r3, xAK r4, xAq r5, xAB r6] = dn (xA9 (r5.1, r6)) [xGF a0, xHh a0, xFQ a0, xI2 a0, xJJ a0, xI3 a0, xKi a0 r1, iN r1, xI3 a0, xNz a0 r2, xJK r2, xKW a0 r3, iN r3, xNA a0 r4, iY r4, xTw a0 r5, AbC 47 (xBx r5.2 [41]) (xAB r6)] := by kernel_rfl
def xRT (a0 : Rdr) (r1 : Bool) (r2 : Int) (r3 r4 : Bool) (r5 : Exp × Rdr) : rE I127 (xBf a0) [F, F, F, F, Y, F, Y, F, F, F] [xAD r1, xAi r2, xAK r3, xAK r4, xAJ r5] = dn (xA9 (r5.1, r5.2)) [xGF a0, xHh a0, xFQ a0, xI2 a0, xJJ a0, xI3 a0, xKi a0 r1, iN r1, xI3 a0, xNz a0 r2, xJK r2, xKW a0 r3, iN r3, xNA a0 r4, iN r4, xJG a0 r5] := by kernel_rfl
abbrev xKX (v0 : Rdr) : Prop := iN (xOW v0)
def xRU (a0 : Rdr) (r1 : Bool) (r2 : (List Exp) × Rdr) : rE I127 (xBf a0) [F, F, F, F, F, F, F, F, Y] [xAK r1, xB7 r2] = dn (xA9 ((Exp.mk 4 0 [] r2.1), r2.2)) [xGF a0, xHh a0, xFQ a0, xI2 a0, xJJ a0, xKX a0, iN false, xKX a0, iN false, xKW a0 r1, iY r1, xTv a0 r2] := by kernel_rfl
def xPx (a0 : Rdr) (r1 r2 : Bool) (r3 : Exp × Rdr) (r4 : Rdr) : rE I127 (xBf a0) [F, F, F, F, F, F, F, F, F, Y] [xAK r1, xAK r2, xAq r3, xAB r4] = dn (xA9 (r3.1, r4)) [xGF a0, xHh a0, xFQ a0, xI2 a0, xJJ a0, xKX a0, iN false, xKX a0, iN false, xKW a0 r1, iN r1, xNA a0 r2, iY r2, xTw a0 r3, AbC 47 (xBx r3.2 [41]) (xAB r4)] := by kernel_rfl
def xPy (a0 : Rdr) (r1 r2 : Bool) (r3 : Exp × Rdr) : rE I127 (xBf a0) [F, F, F, F, F, F, F, F, F, F] [xAK r1, xAK r2, xAJ r3] = dn (xA9 (r3.1, r3.2)) [xGF a0, xHh a0, xFQ a0, xI2 a0, xJJ a0, xKX a0, iN false, xKX a0, iN false, xKW a0 r1, iN r1, xNA a0 r2, iN r2, xJG a0 r3] := by kernel_rfl
theorem xYL {N q0 q1 q2 q3 q4 q5} (g0 : G137 q0) (g1 : G127 q1) (g2 : G48 q2) (g3 : G28 q3) (g4 : G110 q4) (g5 : G88 q5) : ∀ a0 r, xDt N q0 q1 q2 q3 q4 q5 a0 = some r → RE Tryz.f127 I127 (xBf a0) (xA9 r) := fun a0 r h =>
 cE h (fun h0 h => bE h fun r1 h2 h => dE h xJc (xRL a0 r1) (oc3 h0 rfl (xB9 h2) on)) fun h0 h =>
 cE h (fun h1 h => bE h fun r1 h2 h => dE h xJc (xRM a0 r1) (oc3 h0 h1 (xB9 h2) on)) fun h1 h =>
 iE h fun h2 h => cE h (fun h3 h => bE h fun r1 h4 h => dE h xJc (xRN a0 r1) (oc5 h0 h1 h2 h3 (xKG h4) on)) fun h3 h =>
 cE h (fun h4 h => dE h xJc (xRO a0) (oc5 h0 h1 h2 h3 h4 on)) fun h4 h =>
 cE h (fun h5 h => bE h fun r1 h6 h => cE h (fun h7 h => bE h fun r2 h8 h => dE h xJc (xRP a0 r1 r2) (oc9 h0 h1 h2 h3 h4 h5 (xBN h6) h7 (xKq h8) on)) fun h7 h =>
 bE h fun r2 h9 h => cE h (fun h10 h => bE h fun r3 h11 h => bE h fun r4 h12 h => dE h xJc (xRQ a0 r1 r2 r3 r4) (oc12 h0 h1 h2 h3 h4 h5 (xBN h6) h7 h5 (xDB h9) h10 (xCx h11) (oc (g0 _ _ _ h12) on))) fun h10 h =>
 bE h fun r3 h11 h => cE h (fun h12 h => bE h fun r4 h13 h => dE h xJc (xRR a0 r1 r2 r3 r4) (oc12 h0 h1 h2 h3 h4 h5 (xBN h6) h7 h5 (xDB h9) h10 (xBX h11) (oc2 h12 (g0 _ _ _ h13) on))) fun h12 h =>
 bE h fun r4 h13 h => cE h (fun h14 h => bE h fun r5 h15 h => bE h fun r6 h16 h => dE h xJc (xRS a0 r1 r2 r3 r4 r5 r6) (oc12 h0 h1 h2 h3 h4 h5 (xBN h6) h7 h5 (xDB h9) h10 (xBX h11) (oc5 h12 (xBX h13) h14 (g3 _ _ h15) (xCx h16) on))) fun h14 h =>
 bE h fun r5 h15 h => dE h xJc (xRT a0 r1 r2 r3 r4 r5) (oc12 h0 h1 h2 h3 h4 h5 (xBN h6) h7 h5 (xDB h9) h10 (xBX h11) (oc4 h12 (xBX h13) h14 (xB9 h15) on))) fun h5 h =>
 bE h fun r1 h9 h => cE h (fun h10 h => bE h fun r2 h11 h => dE h xJc (xRU a0 r1 r2) (oc12 h0 h1 h2 h3 h4 h5 rfl h5 rfl (xBX h9) h10 (g0 _ _ _ h11) on)) fun h10 h =>
 bE h fun r2 h11 h => cE h (fun h12 h => bE h fun r3 h13 h => bE h fun r4 h14 h => dE h xJc (xPx a0 r1 r2 r3 r4) (oc12 h0 h1 h2 h3 h4 h5 rfl h5 rfl (xBX h9) h10 (xBX h11) (oc3 h12 (g3 _ _ h13) (xCx h14) on))) fun h12 h =>
 bE h fun r3 h13 h => dE h xJc (xPy a0 r1 r2 r3) (oc12 h0 h1 h2 h3 h4 h5 rfl h5 rfl (xBX h9) h10 (xBX h11) (oc2 h12 (xB9 h13) on))
theorem xIq {N q0 q1 q2 q3 q4 q5} (g0 : G137 q0) (g1 : G127 q1) (g2 : G48 q2) (g3 : G28 q3) (g4 : G110 q4) (g5 : G88 q5) {a0} {r} (h : xDt N q0 q1 q2 q3 q4 q5 a0 = some r) : AbC 127 (xBf a0) (xA9 r) :=
 AbsCalls.of_reach xJc rfl rfl (Nat.le_of_ble_eq_true rfl) (xYL g0 g1 g2 g3 g4 g5 a0 r h)
noncomputable def I48 : Info := { body := (Tryz.f48.body).getD .skip, nt := 37, results := [.cell 2 25], keep := [0, 4, 6, 12, 42, 1, 5, 7], live := [], modes := [], ext := [0], fcast := [(5, 3, true)] }
theorem fk48 : FnOk Tryz.prog 48 Tryz.f48 I48 := ⟨Tryz.func48, by kernel_rfl, by kernel_rfl, by kernel_rfl, by kernel_rfl⟩
abbrev xTx (v0 : Bool × Rdr) (v1 : Exp × Rdr) : Prop := AbC 88 (xDW (xH8 v0)) (xB3 v1)
def xVH (a0 : Rdr) (r1 : Exp × Rdr) (r2 : Bool × Rdr) (r3 : Exp × Rdr) (r4 : Exp) : rE I48 (xC8 a0) [Y] [xB3 r1, xAd r2, xB3 r3, xBJ r4] = dn (xCN (r4, r3.2)) [AbC 88 (xDW a0) (xB3 r1), AbC 45 (xAz r1.2 [60]) (xAd r2), iY r2.1, xTx r2 r3, AbC 66 (xDy 4 r1.1 r3.1) (xBJ r4)] := by kernel_rfl
def xVI (a0 : Rdr) (r1 : Exp × Rdr) (r2 : Bool × Rdr) (r3 : Bool × Rdr) (r4 : Exp × Rdr) (r5 : Exp) : rE I48 (xC8 a0) [F, Y] [xB3 r1, xAd r2, xAd r3, xB3 r4, xBJ r5] = dn (xCN (r5, r4.2)) [AbC 88 (xDW a0) (xB3 r1), AbC 45 (xAz r1.2 [60]) (xAd r2), iN r2.1, AbC 45 (xAz r2.2 [61, 61]) (xAd r3), iY r3.1, xTx r3 r4, AbC 66 (xDy 5 r1.1 r4.1) (xBJ r5)] := by kernel_rfl
def xVJ (a0 : Rdr) (r1 : Exp × Rdr) (r2 : Bool × Rdr) (r3 : Bool × Rdr) : rE I48 (xC8 a0) [F, F] [xB3 r1, xAd r2, xAd r3] = dn (xCN (r1.1, r3.2)) [AbC 88 (xDW a0) (xB3 r1), AbC 45 (xAz r1.2 [60]) (xAd r2), iN r2.1, AbC 45 (xAz r2.2 [61, 61]) (xAd r3), iN r3.1] := by kernel_rfl
theorem xZI {N q0 q1 q2 q3 q4 q5} (g0 : G137 q0) (g1 : G127 q1) (g2 : G48 q2) (g3 : G28 q3) (g4 : G110 q4) (g5 : G88 q5) : ∀ a0 r, xCK N q0 q1 q2 q3 q4 q5 a0 = some r → RE Tryz.f48 I48 (xC8 a0) (xCN r) := fun a0 r h =>
 bE h fun r1 h0 h => bE h fun r2 h1 h => cE h (fun h2 h => bE h fun r3 h3 h => bE h fun r4 h4 h => dE h fk48 (xVH a0 r1 r2 r3 r4) (oc5 (g5 _ _ h0) (xAm h1) h2 (g5 _ _ h3) (xEO h4) on)) fun h2 h =>
 bE h fun r3 h3 h => cE h (fun h4 h => bE h fun r4 h5 h => bE h fun r5 h6 h => dE h fk48 (xVI a0 r1 r2 r3 r4 r5) (oc7 (g5 _ _ h0) (xAm h1) h2 (xAm h3) h4 (g5 _ _ h5) (xEO h6) on)) fun h4 h =>
 dE h fk48 (xVJ a0 r1 r2 r3) (oc5 (g5 _ _ h0) (xAm h1) h2 (xAm h3) h4 on)
theorem xHC {N q0 q1 q2 q3 q4 q5} (g0 : G137 q0) (g1 : G127 q1) (g2 : G48 q2) (g3 : G28 q3) (g4 : G110 q4) (g5 : G88 q5) {a0} {r} (h : xCK N q0 q1 q2 q3 q4 q5 a0 = some r) : AbC 48 (xC8 a0) (xCN r) :=
 AbsCalls.of_reach fk48 rfl rfl (Nat.le_of_ble_eq_true rfl) (xZI g0 g1 g2 g3 g4 g5 a0 r h)
noncomputable def I28 : Info := { body := (Tryz.f28.body).getD .skip, nt := 86, results := [.cell 2 25], keep := [0, 4, 6, 8, 10, 12, 14, 16, 18, 68, 118, 1, 5, 9, 11, 13, 17], live := [], modes := [(7, [(0, .take, false)]), (21, [(0, .take, false)])], ext := [0], fcast := [(5, 3, true)] }
theorem fk28 : FnOk Tryz.prog 28 Tryz.f28 I28 := ⟨Tryz.func28, by kernel_rfl, by kernel_rfl, by kernel_rfl, by kernel_rfl⟩
abbrev xNB (v0 : Rdr) (v1 : Bool × Rdr) : Prop := AbC 45 (xAz v0 [108, 101, 116]) (xAd v1)
abbrev xTy (v0 : Bool × Rdr) (v1 : Str × Rdr) : Prop := AbC 46 (xDD (xH8 v0)) (xCS v1)
def xUA (a0 : Rdr) (r1 : Bool × Rdr) (r2 : Str × Rdr) (r3 : Rdr) (r4 : Exp × Rdr) (r5 : Rdr) (r6 : Exp × Rdr) : rE I28 (xB8 a0) [Y] [xAd r1, xCS r2, xAB r3, xAq r4, xAB r5, xAq r6] = dn (xAq ((Exp.mk 7 0 r2.1 [(Exp.re r4.1), (Exp.re r6.1)]), r6.2)) [xNB a0 r1, iY r1.1, xTy r1 r2, AbC 47 (xBx r2.2 [61]) (xAB r3), xJI r3 r4, AbC 47 (xBx r4.2 [105, 110]) (xAB r5), xJI r5 r6] := by kernel_rfl
def xUB (a0 : Rdr) (r1 : Bool × Rdr) (r2 : Bool × Rdr) (r3 : Exp × Rdr) (r4 : Rdr) (r5 : Exp × Rdr) (r6 : Rdr) (r7 : Exp × Rdr) : rE I28 (xB8 a0) [F, Y] [xAd r1, xAd r2, xAq r3, xAB r4, xAq r5, xAB r6, xAq r7] = dn (xAq ((Exp.mk 8 0 [] [(Exp.re r3.1), (Exp.re r5.1), (Exp.re r7.1)]), r7.2)) [xNB a0 r1, iN r1.1, AbC 45 (xAz r1.2 [105, 102]) (xAd r2), iY r2.1, AbC 28 (xB8 (xH8 r2)) (xAq r3), AbC 47 (xBx r3.2 [116, 104, 101, 110]) (xAB r4), xJI r4 r5, AbC 47 (xBx r5.2 [101, 108, 115, 101]) (xAB r6), xJI r6 r7] := by kernel_rfl
def xUC (a0 : Rdr) (r1 : Bool × Rdr) (r2 : Bool × Rdr) (r3 : Bool × Rdr) (r4 : Str × Rdr) (r5 : Rdr) (r6 : Exp × Rdr) (r7 : Rdr) (r8 : Exp × Rdr) : rE I28 (xB8 a0) [F, F, Y] [xAd r1, xAd r2, xAd r3, xCS r4, xAB r5, xAq r6, xAB r7, xAq r8] = dn (xAq ((Exp.mk 9 0 r4.1 [(Exp.re r6.1), (Exp.re r8.1)]), r8.2)) [xNB a0 r1, iN r1.1, AbC 45 (xAz r1.2 [105, 102]) (xAd r2), iN r2.1, AbC 45 (xAz r2.2 [102, 111, 114]) (xAd r3), iY r3.1, xTy r3 r4, AbC 47 (xBx r4.2 [105, 110]) (xAB r5), xJI r5 r6, AbC 47 (xBx r6.2 [100, 111]) (xAB r7), xJI r7 r8] := by kernel_rfl
def xUD (a0 : Rdr) (r1 : Bool × Rdr) (r2 : Bool × Rdr) (r3 : Bool × Rdr) (r4 : Exp × Rdr) : rE I28 (xB8 a0) [F, F, F] [xAd r1, xAd r2, xAd r3, xCN r4] = dn (xAq (r4.1, r4.2)) [xNB a0 r1, iN r1.1, AbC 45 (xAz r1.2 [105, 102]) (xAd r2), iN r2.1, AbC 45 (xAz r2.2 [102, 111, 114]) (xAd r3), iN r3.1, AbC 48 (xC8 r3.2) (xCN r4)] := by kernel_rfl
theorem xZp {N q0 q1 q2 q3 q4 q5} (g0 : G137 q0) (g1 : G127 q1) (g2 : G48 q2) (g3 : G28 q3) (g4 : G110 q4) (g5 : G88 q5) : ∀ a0 r, xDu N q0 q1 q2 q3 q4 q5 a0 = some r → RE Tryz.f28 I28 (xB8 a0) (xAq r) := fun a0 r h =>
 bE h fun r1 h0 h => cE h (fun h1 h => bE h fun r2 h2 h => bE h fun r3 h3 h => bE h fun r4 h4 h => bE h fun r5 h5 h => bE h fun r6 h6 h => dE h fk28 (xUA a0 r1 r2 r3 r4 r5 r6) (oc7 (xAm h0) h1 (xIe h2) (xCx h3) (g3 _ _ h4) (xCx h5) (g3 _ _ h6) on)) fun h1 h =>
 bE h fun r2 h2 h => cE h (fun h3 h => bE h fun r3 h4 h => bE h fun r4 h5 h => bE h fun r5 h6 h => bE h fun r6 h7 h => bE h fun r7 h8 h => dE h fk28 (xUB a0 r1 r2 r3 r4 r5 r6 r7) (oc9 (xAm h0) h1 (xAm h2) h3 (g3 _ _ h4) (xCx h5) (g3 _ _ h6) (xCx h7) (g3 _ _ h8) on)) fun h3 h =>
 bE h fun r3 h4 h => cE h (fun h5 h => bE h fun r4 h6 h => bE h fun r5 h7 h => bE h fun r6 h8 h => bE h fun r7 h9 h => bE h fun r8 h10 h => dE h fk28 (xUC a0 r1 r2 r3 r4 r5 r6 r7 r8) (oc11 (xAm h0) h1 (xAm h2) h3 (xAm h4) h5 (xIe h6) (xCx h7) (g3 _ _ h8) (xCx h9) (g3 _ _ h10) on)) fun h5 h =>
 bE h fun r4 h6 h => dE h fk28 (xUD a0 r1 r2 r3 r4) (oc7 (xAm h0) h1 (xAm h2) h3 (xAm h4) h5 (g2 _ _ h6) on)
theorem xIr {N q0 q1 q2 q3 q4 q5} (g0 : G137 q0) (g1 : G127 q1) (g2 : G48 q2) (g3 : G28 q3) (g4 : G110 q4) (g5 : G88 q5) {a0} {r} (h : xDu N q0 q1 q2 q3 q4 q5 a0 = some r) : AbC 28 (xB8 a0) (xAq r) :=
 AbsCalls.of_reach fk28 rfl rfl (Nat.le_of_ble_eq_true rfl) (xZp g0 g1 g2 g3 g4 g5 a0 r h)
noncomputable def I110 : Info := { body := (Tryz.f110.body).getD .skip, nt := 21, results := [.cell 2 25], keep := [0, 4, 6, 14, 1, 5, 7], live := [(2, [0, 4, 6, 1, 5, 7])], modes := [], ext := [0], casts := [(2, [(7, 3, true)])] }
theorem xQf : FnOk Tryz.prog 110 Tryz.f110 I110 := ⟨Tryz.func110, by kernel_rfl, by kernel_rfl, by kernel_rfl, by kernel_rfl⟩
def xLE (b0 : Rdr) (b2 b3 : Exp) : St := [(0, .v false [.ptr 0 0]), (4, .v false [.ptr 2 0]), (6, .v false [.ptr 3 0]), (1, .v true [.sl .ro .tok (Rdr.toks b0), .int .i64 (Rdr.i b0), .int .i64 (Rdr.fin b0), .int .i64 (Rdr.bad b0)]), (5, .v true [.int .i64 (Exp.kind b2), .int .i64 (Exp.n b2), .str (Exp.text b2), .sl .own .exp (Exp.args b2)]), (7, .v true [.int .i64 (Exp.kind b3), .int .i64 (Exp.n b3), .str (Exp.text b3), .sl .ro .exp (Exp.args b3)])]
def xQ1 (b0 : Rdr) (b2 b3 : Exp) (r1 : Bool × Rdr) (r2 : Exp × Rdr) (r3 : Exp) : rS 2 I110 (xLE b0 b2 b3) [Y] [xAd r1, xA9 r2, xBJ r3] = st 2 I110 (xLE r2.2 b2 r3) [AbC 45 (xAz b0 [42]) (xAd r1), iY r1.1, AbC 127 (xBf (xH8 r1)) (xA9 r2), AbC 66 (xDy 3 b3 r2.1) (xBJ r3)] := by kernel_rfl
def xQ2 (b0 : Rdr) (b2 b3 : Exp) (r1 : Bool × Rdr) : rS 2 I110 (xLE b0 b2 b3) [F] [xAd r1] = dn (xBv (b3, r1.2)) [AbC 45 (xAz b0 [42]) (xAd r1), iN r1.1] := by kernel_rfl
def xQ3 (a0 : Rdr) (r1 : Exp × Rdr) : rE I110 (xDJ a0) [] [xA9 r1] = st 2 I110 (xLE r1.2 (Exp.mk 0 0 [] []) r1.1) [AbC 127 (xBf a0) (xA9 r1)] := by kernel_rfl
theorem xYB {N q0 q1 q2 q3 q4 q5} (g0 : G137 q0) (g1 : G127 q1) (g2 : G48 q2) (g3 : G28 q3) (g4 : G110 q4) (g5 : G88 q5) : ∀ n b0 b2 b3 r, xCO N q0 q1 q2 q3 q4 q5 n b0 b2 b3 = some r → RS Tryz.f110 I110 2 (xLE b0 b2 b3) (xBv r) := by
 intro n
 induction n with
 | zero => exact fun _ _ _ _ h => nE h
 | succ n ih =>
  exact fun b0 b2 b3 r h =>
   bE h fun r1 h0 h => cE h (fun h1 h => bE h fun r2 h2 h => bE h fun r3 h3 h => tS xQf (xQ1 b0 b2 b3 r1 r2 r3) (oc4 (xAm h0) h1 (g1 _ _ h2) (xEO h3) on) (ih _ _ _ _ h)) fun h1 h =>
   dS h xQf (xQ2 b0 b2 b3 r1) (oc2 (xAm h0) h1 on)
theorem xYC {N q0 q1 q2 q3 q4 q5} (g0 : G137 q0) (g1 : G127 q1) (g2 : G48 q2) (g3 : G28 q3) (g4 : G110 q4) (g5 : G88 q5) : ∀ a0 r, xCL N q0 q1 q2 q3 q4 q5 a0 = some r → RE Tryz.f110 I110 (xDJ a0) (xBv r) := fun a0 r h =>
 bE h fun r1 h0 h => tE xQf (xQ3 a0 r1) (oc (g1 _ _ h0) on) (xYB g0 g1 g2 g3 g4 g5 _ _ _ _ _ h)
theorem xHD {N q0 q1 q2 q3 q4 q5} (g0 : G137 q0) (g1 : G127 q1) (g2 : G48 q2) (g3 : G28 q3) (g4 : G110 q4) (g5 : G88 q5) {a0} {r} (h : xCL N q0 q1 q2 q3 q4 q5 a0 = some r) : AbC 110 (xDJ a0) (xBv r) :=
 AbsCalls.of_reach xQf rfl rfl (Nat.le_of_ble_eq_true rfl) (xYC g0 g1 g2 g3 g4 g5 a0 r h)
noncomputable def I88 : Info := { body := (Tryz.f88.body).getD .skip, nt := 29, results := [.cell 2 25], keep := [0, 4, 6, 8, 24, 28, 1, 5, 7], live := [(2, [0, 4, 6, 1, 5, 7])], modes := [(2, [(2, .take, false)]), (7, [(0, .take, false)])], ext := [0], casts := [(2, [(7, 3, true)])] }
theorem fk88 : FnOk Tryz.prog 88 Tryz.f88 I88 := ⟨Tryz.func88, by kernel_rfl, by kernel_rfl, by kernel_rfl, by kernel_rfl⟩
def xJ1 (b0 : Rdr) (b2 b3 : Exp) : St := [(0, .v false [.ptr 0 0]), (4, .v false [.ptr 2 0]), (6, .v false [.ptr 3 0]), (1, .v true [.sl .ro .tok (Rdr.toks b0), .int .i64 (Rdr.i b0), .int .i64 (Rdr.fin b0), .int .i64 (Rdr.bad b0)]), (5, .v true [.int .i64 (Exp.kind b2), .int .i64 (Exp.n b2), .str (Exp.text b2), .sl .own .exp (Exp.args b2)]), (7, .v true [.int .i64 (Exp.kind b3), .int .i64 (Exp.n b3), .str (Exp.text b3), .sl .ro .exp (Exp.args b3)])]
abbrev xLU (v0 : Rdr) (v1 : Bool × Rdr) : Prop := AbC 45 (xAz v0 [43]) (xAd v1)
abbrev xKj (v0 v1 : Bool × Rdr) : Prop := AbC 45 (xAz v0.2 [45]) (xAd v1)
abbrev xNC (v0 : Bool × Rdr) (v1 : Exp × Rdr) : Prop := AbC 110 (xDJ (xH8 v0)) (xBv v1)
def xXH (b0 : Rdr) (b2 b3 : Exp) (r1 : Bool × Rdr) (r2 : Bool × Rdr) (r3 : Exp × Rdr) (r4 : Exp) : rS 2 I88 (xJ1 b0 b2 b3) [Y, Y, Y] [xAd r1, xAd r2, xBv r3, xBJ r4] = st 2 I88 (xJ1 r3.2 b2 r4) [xLU b0 r1, iY r1.1, iY true, xKj r1 r2, iY r2.1, xNC r2 r3, AbC 66 (xDy 2 b3 r3.1) (xBJ r4)] := by kernel_rfl
def xXI (b0 : Rdr) (b2 b3 : Exp) (r1 : Bool × Rdr) (r2 : Bool × Rdr) (r3 : Exp × Rdr) (r4 : Exp) : rS 2 I88 (xJ1 b0 b2 b3) [Y, Y, F] [xAd r1, xAd r2, xBv r3, xBJ r4] = st 2 I88 (xJ1 r3.2 b2 r4) [xLU b0 r1, iY r1.1, iY true, xKj r1 r2, iN r2.1, xNC r2 r3, AbC 66 (xDy 1 b3 r3.1) (xBJ r4)] := by kernel_rfl
def xXJ (b0 : Rdr) (b2 b3 : Exp) (r1 : Bool × Rdr) (r2 : Bool × Rdr) (r3 : Bool × Rdr) (r4 : Exp × Rdr) (r5 : Exp) : rS 2 I88 (xJ1 b0 b2 b3) [F, Y, Y] [xAd r1, xAd r2, xAd r3, xBv r4, xBJ r5] = st 2 I88 (xJ1 r4.2 b2 r5) [xLU b0 r1, iN r1.1, xKj r1 r2, iY r2.1, xKj r2 r3, iY r3.1, xNC r3 r4, AbC 66 (xDy 2 b3 r4.1) (xBJ r5)] := by kernel_rfl
def xXK (b0 : Rdr) (b2 b3 : Exp) (r1 : Bool × Rdr) (r2 : Bool × Rdr) (r3 : Bool × Rdr) (r4 : Exp × Rdr) (r5 : Exp) : rS 2 I88 (xJ1 b0 b2 b3) [F, Y, F] [xAd r1, xAd r2, xAd r3, xBv r4, xBJ r5] = st 2 I88 (xJ1 r4.2 b2 r5) [xLU b0 r1, iN r1.1, xKj r1 r2, iY r2.1, xKj r2 r3, iN r3.1, xNC r3 r4, AbC 66 (xDy 1 b3 r4.1) (xBJ r5)] := by kernel_rfl
def xXL (b0 : Rdr) (b2 b3 : Exp) (r1 : Bool × Rdr) (r2 : Bool × Rdr) : rS 2 I88 (xJ1 b0 b2 b3) [F, F] [xAd r1, xAd r2] = dn (xB3 (b3, r2.2)) [xLU b0 r1, iN r1.1, xKj r1 r2, iN r2.1] := by kernel_rfl
def xXM (a0 : Rdr) (r1 : Exp × Rdr) : rE I88 (xDW a0) [] [xBv r1] = st 2 I88 (xJ1 r1.2 (Exp.mk 0 0 [] []) r1.1) [AbC 110 (xDJ a0) (xBv r1)] := by kernel_rfl
theorem vAo {N q0 q1 q2 q3 q4 q5} (g0 : G137 q0) (g1 : G127 q1) (g2 : G48 q2) (g3 : G28 q3) (g4 : G110 q4) (g5 : G88 q5) : ∀ n b0 b2 b3 r, xCC N q0 q1 q2 q3 q4 q5 n b0 b2 b3 = some r → RS Tryz.f88 I88 2 (xJ1 b0 b2 b3) (xB3 r) := by
 intro n
 induction n with
 | zero => exact fun _ _ _ _ h => nE h
 | succ n ih =>
  exact fun b0 b2 b3 r h =>
   bE h fun r1 h0 h => cE h (fun h1 h => bE h fun r2 h3 h => cE h (fun h4 h => bE h fun r3 h5 h => bE h fun r4 h6 h => tS fk88 (xXH b0 b2 b3 r1 r2 r3 r4) (oc7 (xAm h0) h1 rfl (xAm h3) h4 (g4 _ _ h5) (xEO h6) on) (ih _ _ _ _ h)) fun h4 h =>
   bE h fun r3 h5 h => bE h fun r4 h6 h => tS fk88 (xXI b0 b2 b3 r1 r2 r3 r4) (oc7 (xAm h0) h1 rfl (xAm h3) h4 (g4 _ _ h5) (xEO h6) on) (ih _ _ _ _ h)) fun h1 h =>
   bE h fun r2 h2 h => cE h (fun h3 h => bE h fun r3 h4 h => cE h (fun h5 h => bE h fun r4 h6 h => bE h fun r5 h7 h => tS fk88 (xXJ b0 b2 b3 r1 r2 r3 r4 r5) (oc8 (xAm h0) h1 (xAm h2) h3 (xAm h4) h5 (g4 _ _ h6) (xEO h7) on) (ih _ _ _ _ h)) fun h5 h =>
   bE h fun r4 h6 h => bE h fun r5 h7 h => tS fk88 (xXK b0 b2 b3 r1 r2 r3 r4 r5) (oc8 (xAm h0) h1 (xAm h2) h3 (xAm h4) h5 (g4 _ _ h6) (xEO h7) on) (ih _ _ _ _ h)) fun h3 h =>
   dS h fk88 (xXL b0 b2 b3 r1 r2) (oc4 (xAm h0) h1 (xAm h2) h3 on)
theorem vAp {N q0 q1 q2 q3 q4 q5} (g0 : G137 q0) (g1 : G127 q1) (g2 : G48 q2) (g3 : G28 q3) (g4 : G110 q4) (g5 : G88 q5) : ∀ a0 r, xDN N q0 q1 q2 q3 q4 q5 a0 = some r → RE Tryz.f88 I88 (xDW a0) (xB3 r) := fun a0 r h =>
 bE h fun r1 h0 h => tE fk88 (xXM a0 r1) (oc (g4 _ _ h0) on) (vAo g0 g1 g2 g3 g4 g5 _ _ _ _ _ h)
theorem xIS {N q0 q1 q2 q3 q4 q5} (g0 : G137 q0) (g1 : G127 q1) (g2 : G48 q2) (g3 : G28 q3) (g4 : G110 q4) (g5 : G88 q5) {a0} {r} (h : xDN N q0 q1 q2 q3 q4 q5 a0 = some r) : AbC 88 (xDW a0) (xB3 r) :=
 AbsCalls.of_reach fk88 rfl rfl (Nat.le_of_ble_eq_true rfl) (vAp g0 g1 g2 g3 g4 g5 a0 r h)
theorem xIR {N : Nat} : ∀ d, G137 (xAa N d).c_spec_l11Args ∧ G127 (xAa N d).c_spec_l11Atom ∧ G48 (xAa N d).c_spec_l11Compare ∧ G28 (xAa N d).c_spec_l11Expr ∧ G110 (xAa N d).c_spec_l11Product ∧ G88 (xAa N d).c_spec_l11Sum := by
 intro d
 induction d with
 | zero => exact ⟨fun _ _ _ h => nE h, fun _ _ h => nE h, fun _ _ h => nE h, fun _ _ h => nE h, fun _ _ h => nE h, fun _ _ h => nE h⟩
 | succ d ih =>
  obtain ⟨ih0, ih1, ih2, ih3, ih4, ih5⟩ := ih
  exact ⟨fun _ _ _ h => xIp (N := N) ih0 ih1 ih2 ih3 ih4 ih5 h, fun _ _ h => xIq (N := N) ih0 ih1 ih2 ih3 ih4 ih5 h, fun _ _ h => xHC (N := N) ih0 ih1 ih2 ih3 ih4 ih5 h, fun _ _ h => xIr (N := N) ih0 ih1 ih2 ih3 ih4 ih5 h, fun _ _ h => xHD (N := N) ih0 ih1 ih2 ih3 ih4 ih5 h, fun _ _ h => xIS (N := N) ih0 ih1 ih2 ih3 ih4 ih5 h⟩
theorem xC9 {N : Nat} {a0 : Rdr} {r : Exp × Rdr} (h : xGX N a0 = some r) : AbC 28 (xB8 a0) (xAq r) := (xIR N).2.2.2.1 _ r h
def G40 (q : Exp → Int → Option (Int)) : Prop := ∀ a0 a1 r, q a0 a1 = some r → AbC 40 (xC7 a0 a1) (xBw r)
noncomputable def I40 : Info := { body := (Tryz.f40.body).getD .skip, nt := 27, results := [.tmp 4], keep := [0, 2, 4, 8, 10, 32, 5], live := [(3, [2, 4, 10, 5])], modes := [(3, [(5, .take, false)])] }
theorem fk40 : FnOk Tryz.prog 40 Tryz.f40 I40 := ⟨Tryz.func40, by kernel_rfl, by kernel_rfl, by kernel_rfl, by kernel_rfl⟩
def xNN (x1 x5 : Int) (b2 : Exp) : St := [(2, .v false [.int .i64 x1]), (4, .v false [.ptr 2 0]), (10, .v false [.int .i64 x5]), (5, .v true [.int .i64 (Exp.kind b2), .int .i64 (Exp.n b2), .str (Exp.text b2), .sl .ro .exp (Exp.args b2)])]
abbrev xLu (v0 : Int) (v1 : Exp) := dc (v0 < (Ln (Exp.args v1) : Int))
abbrev xLV (v0 : Int) (v1 : Exp) : Prop := iY (xLu v0 v1)
abbrev xND (v0 : Int) (v1 : Exp) : Prop := (0 : Int) ≤ v0 ∧ v0 < (Ln (Exp.args v1))
abbrev xLv (v0 : Exp) (v1 : Int) := gD (Exp.args v0) (tN v1) Ty.exp.dflt
def xVf (x1 x5 : Int) (b2 : Exp) (r1 : Int) : rS 3 I40 (xNN x1 x5 b2) [Y, Y] [xBw r1] = st 3 I40 (xNN r1 (W (x5 + 1)) b2) [xLV x5 b2, iY (dc (x1 ≥ 0)), xND x5 b2, AbC 40 (xC7 (xLv b2 x5) x1) (xBw r1)] := by kernel_rfl
def xVg (x1 x5 : Int) (b2 : Exp) : rS 3 I40 (xNN x1 x5 b2) [Y, F] [] = dn (xBw x1) [xLV x5 b2, xJK x1] := by kernel_rfl
def xVh (x1 x5 : Int) (b2 : Exp) : rS 3 I40 (xNN x1 x5 b2) [F, F] [] = dn (xBw x1) [iN (xLu x5 b2), iN false] := by kernel_rfl
def xVi (a0 : Exp) (a1 : Int) : rE I40 (xC7 a0 a1) [] [] = st 3 I40 (xNN (W (a1 - 1)) 0 a0) [] := by kernel_rfl
theorem xZx {N q0} (g0 : G40 q0) : ∀ n x1 x5 b2 r, xDC N q0 n x1 x5 b2 = some r → RS Tryz.f40 I40 3 (xNN x1 x5 b2) (xBw r) := by
 intro n
 induction n with
 | zero => exact fun _ _ _ _ h => nE h
 | succ n ih =>
  exact fun x1 x5 b2 r h =>
   cE h (fun h0 h => cE h (fun h1 h => iE h fun h2 h => bE h fun r1 h3 h => tS fk40 (xVf x1 x5 b2 r1) (oc4 h0 h1 h2 (g0 _ _ _ h3) on) (ih _ _ _ _ h)) fun h1 h =>
   dS h fk40 (xVg x1 x5 b2) (oc2 h0 h1 on)) fun h0 h =>
   dS h fk40 (xVh x1 x5 b2) (oc2 h0 rfl on)
theorem xZy {N q0} (g0 : G40 q0) : ∀ a0 a1 r, xF5 N q0 a0 a1 = some r → RE Tryz.f40 I40 (xC7 a0 a1) (xBw r) := fun a0 a1 r h =>
 tE fk40 (xVi a0 a1) on (xZx g0 _ _ _ _ _ h)
theorem xIo {N q0} (g0 : G40 q0) {a0} {a1} {r} (h : xF5 N q0 a0 a1 = some r) : AbC 40 (xC7 a0 a1) (xBw r) :=
 AbsCalls.of_reach fk40 rfl rfl (Nat.le_of_ble_eq_true rfl) (xZy g0 a0 a1 r h)
theorem xGI {N : Nat} : ∀ d, G40 (xEg N d)
 | 0 => fun _ _ _ h => nE h
 | d + 1 => fun _ _ _ h => xIo (N := N) (xGI d) h
theorem xGJ {N : Nat} {a0 : Exp} {a1 : Int} {r : Int} (h : xIc N a0 a1 = some r) : AbC 40 (xC7 a0 a1) (xBw r) := xGI N _ _ r h
noncomputable def I77 : Info := { body := (Tryz.f77.body).getD .skip, nt := 10, results := [.tmp 4], keep := [0, 2, 8, 14], live := [], modes := [] }
theorem fk77 : FnOk Tryz.prog 77 Tryz.f77 I77 := ⟨Tryz.func77, by kernel_rfl, by kernel_rfl, by kernel_rfl, by kernel_rfl⟩
def xW3 (a0 a1 : Int) : rE I77 (xFV a0 a1) [Y] [] = dn (xFi a0) [iY (dc (a0 > a1))] := by kernel_rfl
def xW4 (a0 a1 : Int) : rE I77 (xFV a0 a1) [F] [] = dn (xFi a1) [iN (dc (a0 > a1))] := by kernel_rfl
theorem vAd {N : Nat} : ∀ a0 a1 r, xHn N a0 a1 = some r → RE Tryz.f77 I77 (xFV a0 a1) (xFi r) := fun a0 a1 r h =>
 cE h (fun h0 h => dE h fk77 (xW3 a0 a1) (oc h0 on)) fun h0 h =>
 dE h fk77 (xW4 a0 a1) (oc h0 on)
theorem xLC {N : Nat} {a0 : Int} {a1 : Int} {r : Int} (h : xHn N  a0 a1 = some r) : AbC 77 (xFV a0 a1) (xFi r) :=
 AbsCalls.of_reach fk77 rfl rfl (Nat.le_of_ble_eq_true rfl) (vAd a0 a1 r h)
def G41 (q : Exp → Option (Int)) : Prop := ∀ a0 r, q a0 = some r → AbC 41 (xC3 a0) (xBF r)
noncomputable def I41 : Info := { body := (Tryz.f41.body).getD .skip, nt := 22, results := [.tmp 2], keep := [0, 2, 4, 6, 8, 18, 3], live := [(3, [2, 6, 8, 3])], modes := [] }
theorem fk41 : FnOk Tryz.prog 41 Tryz.f41 I41 := ⟨Tryz.func41, by kernel_rfl, by kernel_rfl, by kernel_rfl, by kernel_rfl⟩
def xOb (x3 x4 : Int) (b1 : Exp) : St := [(2, .v false [.ptr 1 0]), (6, .v false [.int .i64 x3]), (8, .v false [.int .i64 x4]), (3, .v true [.int .i64 (Exp.kind b1), .int .i64 (Exp.n b1), .str (Exp.text b1), .sl .ro .exp (Exp.args b1)])]
def xVj (x3 x4 : Int) (b1 : Exp) (r1 r2 : Int) : rS 3 I41 (xOb x3 x4 b1) [Y] [xBF r1, xFi r2] = st 3 I41 (xOb r2 (W (x4 + 1)) b1) [xLV x4 b1, xND x4 b1, AbC 41 (xC3 (xLv b1 x4)) (xBF r1), AbC 77 (xFV x3 r1) (xFi r2)] := by kernel_rfl
def xVk (x3 x4 : Int) (b1 : Exp) : rS 3 I41 (xOb x3 x4 b1) [F] [] = dn (xBF (W (x3 + 1))) [iN (xLu x4 b1)] := by kernel_rfl
def xVl (a0 : Exp) : rE I41 (xC3 a0) [] [] = st 3 I41 (xOb 0 0 a0) [] := by kernel_rfl
theorem xZz {N q0} (g0 : G41 q0) : ∀ n x3 x4 b1 r, xDZ N q0 n x3 x4 b1 = some r → RS Tryz.f41 I41 3 (xOb x3 x4 b1) (xBF r) := by
 intro n
 induction n with
 | zero => exact fun _ _ _ _ h => nE h
 | succ n ih =>
  exact fun x3 x4 b1 r h =>
   cE h (fun h0 h => iE h fun h1 h => bE h fun r1 h2 h => bE h fun r2 h3 h => tS fk41 (xVj x3 x4 b1 r1 r2) (oc4 h0 h1 (g0 _ _ h2) (xLC h3) on) (ih _ _ _ _ h)) fun h0 h =>
   dS h fk41 (xVk x3 x4 b1) (oc h0 on)
theorem xZA {N q0} (g0 : G41 q0) : ∀ a0 r, xFF N q0 a0 = some r → RE Tryz.f41 I41 (xC3 a0) (xBF r) := fun a0 r h =>
 tE fk41 (xVl a0) on (xZz g0 _ _ _ _ _ h)
theorem xHL {N q0} (g0 : G41 q0) {a0} {r} (h : xFF N q0 a0 = some r) : AbC 41 (xC3 a0) (xBF r) :=
 AbsCalls.of_reach fk41 rfl rfl (Nat.le_of_ble_eq_true rfl) (xZA g0 a0 r h)
theorem xGf {N : Nat} : ∀ d, G41 (xEo N d)
 | 0 => fun _ _ h => nE h
 | d + 1 => fun _ _ h => xHL (N := N) (xGf d) h
theorem xHl {N : Nat} {a0 : Exp} {r : Int} (h : xG9 N a0 = some r) : AbC 41 (xC3 a0) (xBF r) := xGf N _ r h
noncomputable def I105 : Info := { body := (Tryz.f105.body).getD .skip, nt := 15, results := [.tmp 6], keep := [0, 2, 4, 12], live := [], modes := [(1, [(3, .take, false)])] }
theorem xTL : FnOk Tryz.prog 105 Tryz.f105 I105 := ⟨Tryz.func105, by kernel_rfl, by kernel_rfl, by kernel_rfl, by kernel_rfl⟩
def xQu (a0 a1 a2 : Int) : rE I105 (xEL a0 a1 a2) [Y] [] = dn (xDi (dc (a0 ≤ a2))) [iY (dc (a0 ≥ a1))] := by kernel_rfl
def xQv (a0 a1 a2 : Int) : rE I105 (xEL a0 a1 a2) [F] [] = dn (xDi false) [iN (dc (a0 ≥ a1))] := by kernel_rfl
theorem xYv {N : Nat} : ∀ a0 a1 a2 r, xGK N a0 a1 a2 = some r → RE Tryz.f105 I105 (xEL a0 a1 a2) (xDi r) := fun a0 a1 a2 r h =>
 cE h (fun h0 h => dE h xTL (xQu a0 a1 a2) (oc h0 on)) fun h0 h =>
 dE h xTL (xQv a0 a1 a2) (oc h0 on)
theorem xGY {N : Nat} {a0 : Int} {a1 : Int} {a2 : Int} {r : Bool} (h : xGK N  a0 a1 a2 = some r) : AbC 105 (xEL a0 a1 a2) (xDi r) :=
 AbsCalls.of_reach xTL rfl rfl (Nat.le_of_ble_eq_true rfl) (xYv a0 a1 a2 r h)
noncomputable def I78 : Info := { body := (Tryz.f78.body).getD .skip, nt := 120, results := [.tmp 2], keep := [0, 2, 4, 6, 16, 18, 46, 74, 102, 130, 154, 182, 212, 3], live := [], modes := [(4, [(2, .take, false), (7, .take, false)]), (6, [(2, .take, false), (7, .take, false)]), (8, [(2, .take, false), (7, .take, false)]), (10, [(3, .take, false), (8, .take, false)]), (12, [(3, .take, false)]), (14, [(3, .take, false), (7, .take, false)]), (17, [(3, .take, false), (7, .take, false)]), (19, [(3, .take, false), (8, .take, false)])] }
theorem fk78 : FnOk Tryz.prog 78 Tryz.f78 I78 := ⟨Tryz.func78, by kernel_rfl, by kernel_rfl, by kernel_rfl, by kernel_rfl⟩
abbrev xJL (v0 : Exp) : Prop := iY ((Exp.kind v0) == 1)
abbrev xOX (v0 : Exp) := (Ln (Exp.args v0) : Int) == 0
abbrev xKY (v0 : Exp) : Prop := iY (xOX v0)
abbrev xHv (v0 : Exp) : Prop := iY (((Exp.text v0) : Str) == [])
def xW5 (a0 : Exp) (r1 : Bool) : rE I78 (xAu a0) [Y, Y, Y] [xDi r1] = dn (xAt r1) [xJL a0, xKY a0, xHv a0, AbC 105 (xEL (Exp.n a0) 0 1000000000) (xDi r1)] := by kernel_rfl
abbrev xHS (v0 : Exp) : Prop := iN (((Exp.text v0) : Str) == [])
def xW6 (a0 : Exp) : rE I78 (xAu a0) [Y, Y, F] [] = dn (xAt false) [xJL a0, xKY a0, xHS a0] := by kernel_rfl
abbrev xMp (v0 : Exp) : Prop := iN (xOX v0)
def xW7 (a0 : Exp) : rE I78 (xAu a0) [Y, F, F] [] = dn (xAt false) [xJL a0, xMp a0, iN false] := by kernel_rfl
abbrev xAP (v0 : Exp) : Prop := iN ((Exp.kind v0) == 1)
abbrev xHT (v0 : Exp) : Prop := iY ((Exp.kind v0) == 2)
abbrev xDP (v0 : Exp) : Prop := iY ((Exp.n v0) == 0)
def xW8 (a0 : Exp) (r1 : Bool) : rE I78 (xAu a0) [F, Y, Y, Y] [xA2 r1] = dn (xAt r1) [xAP a0, xHT a0, xKY a0, xDP a0, AbC 82 (xD5 (Exp.text a0)) (xA2 r1)] := by kernel_rfl
abbrev xFP (v0 : Exp) : Prop := iN ((Exp.n v0) == 0)
def xW9 (a0 : Exp) : rE I78 (xAu a0) [F, Y, Y, F] [] = dn (xAt false) [xAP a0, xHT a0, xKY a0, xFP a0] := by kernel_rfl
def xXa (a0 : Exp) : rE I78 (xAu a0) [F, Y, F, F] [] = dn (xAt false) [xAP a0, xHT a0, xMp a0, iN false] := by kernel_rfl
abbrev xA5 (v0 : Exp) : Prop := iN ((Exp.kind v0) == 2)
abbrev xHU (v0 : Exp) : Prop := iY ((Exp.kind v0) == 3)
def xXb (a0 : Exp) (r1 : Bool) : rE I78 (xAu a0) [F, F, Y, Y, Y] [xAD r1] = dn (xAt r1) [xAP a0, xA5 a0, xHU a0, xKY a0, xDP a0, AbC 87 (xB6 (Exp.text a0)) (xAD r1)] := by kernel_rfl
def xXc (a0 : Exp) : rE I78 (xAu a0) [F, F, Y, Y, F] [] = dn (xAt false) [xAP a0, xA5 a0, xHU a0, xKY a0, xFP a0] := by kernel_rfl
def xXd (a0 : Exp) : rE I78 (xAu a0) [F, F, Y, F, F] [] = dn (xAt false) [xAP a0, xA5 a0, xHU a0, xMp a0, iN false] := by kernel_rfl
abbrev xBm (v0 : Exp) : Prop := iN ((Exp.kind v0) == 3)
abbrev xHV (v0 : Exp) : Prop := iY ((Exp.kind v0) == 4)
abbrev xHz (v0 : Exp) := (Ln (Exp.args v0) : Int)
def xXe (a0 : Exp) : rE I78 (xAu a0) [F, F, F, Y, Y, Y] [] = dn (xAt (dc ((xHz a0) ≤ 8))) [xAP a0, xA5 a0, xBm a0, xHV a0, xDP a0, xHv a0] := by kernel_rfl
def xSE (a0 : Exp) : rE I78 (xAu a0) [F, F, F, Y, Y, F] [] = dn (xAt false) [xAP a0, xA5 a0, xBm a0, xHV a0, xDP a0, xHS a0] := by kernel_rfl
def xSF (a0 : Exp) : rE I78 (xAu a0) [F, F, F, Y, F, F] [] = dn (xAt false) [xAP a0, xA5 a0, xBm a0, xHV a0, xFP a0, iN false] := by kernel_rfl
abbrev xBQ (v0 : Exp) : Prop := iN ((Exp.kind v0) == 4)
abbrev xJh (v0 : Exp) : Prop := iY ((Exp.kind v0) == 5)
def xSG (a0 : Exp) (r1 : Int) : rE I78 (xAu a0) [F, F, F, F, Y, Y] [xAi r1] = dn (xAt ((xHz a0) == r1)) [xAP a0, xA5 a0, xBm a0, xBQ a0, xJh a0, xDP a0, AbC 106 (xAo (Exp.text a0)) (xAi r1)] := by kernel_rfl
def xSH (a0 : Exp) : rE I78 (xAu a0) [F, F, F, F, Y, F] [] = dn (xAt false) [xAP a0, xA5 a0, xBm a0, xBQ a0, xJh a0, xFP a0] := by kernel_rfl
abbrev xCj (v0 : Exp) : Prop := iN ((Exp.kind v0) == 5)
abbrev xEU (v0 : Exp) : Prop := iY ((Exp.kind v0) == 6)
abbrev xOY (v0 : Exp) := (Ln (Exp.args v0) : Int) == 2
abbrev xMq (v0 : Exp) : Prop := iY (xOY v0)
def xSI (a0 : Exp) (r1 : Bool) : rE I78 (xAu a0) [F, F, F, F, F, Y, Y, Y] [xDi r1] = dn (xAt r1) [xAP a0, xA5 a0, xBm a0, xBQ a0, xCj a0, xEU a0, xHv a0, xMq a0, AbC 105 (xEL (Exp.n a0) 1 5) (xDi r1)] := by kernel_rfl
abbrev xMr (v0 : Exp) : Prop := iN (xOY v0)
def xSJ (a0 : Exp) : rE I78 (xAu a0) [F, F, F, F, F, Y, Y, F] [] = dn (xAt false) [xAP a0, xA5 a0, xBm a0, xBQ a0, xCj a0, xEU a0, xHv a0, xMr a0] := by kernel_rfl
def xSK (a0 : Exp) : rE I78 (xAu a0) [F, F, F, F, F, Y, F, F] [] = dn (xAt false) [xAP a0, xA5 a0, xBm a0, xBQ a0, xCj a0, xEU a0, xHS a0, iN false] := by kernel_rfl
abbrev xEa (v0 : Exp) : Prop := iN ((Exp.kind v0) == 6)
abbrev xEV (v0 : Exp) : Prop := iY ((Exp.kind v0) == 7)
def xSL (a0 : Exp) (r1 : Bool) : rE I78 (xAu a0) [F, F, F, F, F, F, Y, Y, Y, Y] [xAD r1] = dn (xAt r1) [xAP a0, xA5 a0, xBm a0, xBQ a0, xCj a0, xEa a0, xEV a0, xEV a0, xDP a0, xMq a0, AbC 87 (xB6 (Exp.text a0)) (xAD r1)] := by kernel_rfl
def xSM (a0 : Exp) : rE I78 (xAu a0) [F, F, F, F, F, F, Y, Y, Y, F] [] = dn (xAt false) [xAP a0, xA5 a0, xBm a0, xBQ a0, xCj a0, xEa a0, xEV a0, xEV a0, xDP a0, xMr a0] := by kernel_rfl
def xSN (a0 : Exp) : rE I78 (xAu a0) [F, F, F, F, F, F, Y, Y, F, F] [] = dn (xAt false) [xAP a0, xA5 a0, xBm a0, xBQ a0, xCj a0, xEa a0, xEV a0, xEV a0, xFP a0, iN false] := by kernel_rfl
abbrev xB4 (v0 : Exp) : Prop := iN ((Exp.kind v0) == 7)
abbrev xG4 (v0 : Exp) : Prop := iY ((Exp.kind v0) == 9)
def xSO (a0 : Exp) (r1 : Bool) : rE I78 (xAu a0) [F, F, F, F, F, F, F, Y, Y, Y] [xAD r1] = dn (xAt r1) [xAP a0, xA5 a0, xBm a0, xBQ a0, xCj a0, xEa a0, xB4 a0, xG4 a0, xDP a0, xMq a0, AbC 87 (xB6 (Exp.text a0)) (xAD r1)] := by kernel_rfl
def xSP (a0 : Exp) : rE I78 (xAu a0) [F, F, F, F, F, F, F, Y, Y, F] [] = dn (xAt false) [xAP a0, xA5 a0, xBm a0, xBQ a0, xCj a0, xEa a0, xB4 a0, xG4 a0, xDP a0, xMr a0] := by kernel_rfl
def xSQ (a0 : Exp) : rE I78 (xAu a0) [F, F, F, F, F, F, F, Y, F, F] [] = dn (xAt false) [xAP a0, xA5 a0, xBm a0, xBQ a0, xCj a0, xEa a0, xB4 a0, xG4 a0, xFP a0, iN false] := by kernel_rfl
abbrev xDr (v0 : Exp) : Prop := iN ((Exp.kind v0) == 9)
abbrev xGh (v0 : Exp) : Prop := iY ((Exp.kind v0) == 8)
def xSR (a0 : Exp) : rE I78 (xAu a0) [F, F, F, F, F, F, F, F, Y, Y, Y] [] = dn (xAt ((xHz a0) == 3)) [xAP a0, xA5 a0, xBm a0, xBQ a0, xCj a0, xEa a0, xB4 a0, xDr a0, xGh a0, xDP a0, xHv a0] := by kernel_rfl
def xSS (a0 : Exp) : rE I78 (xAu a0) [F, F, F, F, F, F, F, F, Y, Y, F] [] = dn (xAt false) [xAP a0, xA5 a0, xBm a0, xBQ a0, xCj a0, xEa a0, xB4 a0, xDr a0, xGh a0, xDP a0, xHS a0] := by kernel_rfl
def xST (a0 : Exp) : rE I78 (xAu a0) [F, F, F, F, F, F, F, F, Y, F, F] [] = dn (xAt false) [xAP a0, xA5 a0, xBm a0, xBQ a0, xCj a0, xEa a0, xB4 a0, xDr a0, xGh a0, xFP a0, iN false] := by kernel_rfl
abbrev xD4 (v0 : Exp) : Prop := iN ((Exp.kind v0) == 8)
def xSU (a0 : Exp) : rE I78 (xAu a0) [F, F, F, F, F, F, F, F, F] [] = dn (xAt false) [xAP a0, xA5 a0, xBm a0, xBQ a0, xCj a0, xEa a0, xB4 a0, xDr a0, xD4 a0] := by kernel_rfl
theorem vAe {N : Nat} : ∀ a0 r, xGg N a0 = some r → RE Tryz.f78 I78 (xAu a0) (xAt r) := fun a0 r h =>
 cE h (fun h0 h => cE h (fun h1 h => cE h (fun h2 h => bE h fun r1 h3 h => dE h fk78 (xW5 a0 r1) (oc4 h0 h1 h2 (xGY h3) on)) fun h2 h =>
 dE h fk78 (xW6 a0) (oc3 h0 h1 h2 on)) fun h1 h =>
 dE h fk78 (xW7 a0) (oc3 h0 h1 rfl on)) fun h0 h =>
 cE h (fun h1 h => cE h (fun h2 h => cE h (fun h3 h => bE h fun r1 h4 h => dE h fk78 (xW8 a0 r1) (oc5 h0 h1 h2 h3 (xD6 h4) on)) fun h3 h =>
 dE h fk78 (xW9 a0) (oc4 h0 h1 h2 h3 on)) fun h2 h =>
 dE h fk78 (xXa a0) (oc4 h0 h1 h2 rfl on)) fun h1 h =>
 cE h (fun h2 h => cE h (fun h3 h => cE h (fun h4 h => bE h fun r1 h5 h => dE h fk78 (xXb a0 r1) (oc6 h0 h1 h2 h3 h4 (xBN h5) on)) fun h4 h =>
 dE h fk78 (xXc a0) (oc5 h0 h1 h2 h3 h4 on)) fun h3 h =>
 dE h fk78 (xXd a0) (oc5 h0 h1 h2 h3 rfl on)) fun h2 h =>
 cE h (fun h3 h => cE h (fun h4 h => cE h (fun h5 h => dE h fk78 (xXe a0) (oc6 h0 h1 h2 h3 h4 h5 on)) fun h5 h =>
 dE h fk78 (xSE a0) (oc6 h0 h1 h2 h3 h4 h5 on)) fun h4 h =>
 dE h fk78 (xSF a0) (oc6 h0 h1 h2 h3 h4 rfl on)) fun h3 h =>
 cE h (fun h4 h => cE h (fun h5 h => bE h fun r1 h6 h => dE h fk78 (xSG a0 r1) (oc7 h0 h1 h2 h3 h4 h5 (xDB h6) on)) fun h5 h =>
 dE h fk78 (xSH a0) (oc6 h0 h1 h2 h3 h4 h5 on)) fun h4 h =>
 cE h (fun h5 h => cE h (fun h6 h => cE h (fun h7 h => bE h fun r1 h8 h => dE h fk78 (xSI a0 r1) (oc9 h0 h1 h2 h3 h4 h5 h6 h7 (xGY h8) on)) fun h7 h =>
 dE h fk78 (xSJ a0) (oc8 h0 h1 h2 h3 h4 h5 h6 h7 on)) fun h6 h =>
 dE h fk78 (xSK a0) (oc8 h0 h1 h2 h3 h4 h5 h6 rfl on)) fun h5 h =>
 cE h (fun h6 h => cE h (fun h8 h => cE h (fun h9 h => bE h fun r1 h10 h => dE h fk78 (xSL a0 r1) (oc11 h0 h1 h2 h3 h4 h5 h6 h6 h8 h9 (xBN h10) on)) fun h9 h =>
 dE h fk78 (xSM a0) (oc10 h0 h1 h2 h3 h4 h5 h6 h6 h8 h9 on)) fun h8 h =>
 dE h fk78 (xSN a0) (oc10 h0 h1 h2 h3 h4 h5 h6 h6 h8 rfl on)) fun h6 h =>
 cE h (fun h7 h => cE h (fun h8 h => cE h (fun h9 h => bE h fun r1 h10 h => dE h fk78 (xSO a0 r1) (oc11 h0 h1 h2 h3 h4 h5 h6 h7 h8 h9 (xBN h10) on)) fun h9 h =>
 dE h fk78 (xSP a0) (oc10 h0 h1 h2 h3 h4 h5 h6 h7 h8 h9 on)) fun h8 h =>
 dE h fk78 (xSQ a0) (oc10 h0 h1 h2 h3 h4 h5 h6 h7 h8 rfl on)) fun h7 h =>
 cE h (fun h8 h => cE h (fun h9 h => cE h (fun h10 h => dE h fk78 (xSR a0) (oc11 h0 h1 h2 h3 h4 h5 h6 h7 h8 h9 h10 on)) fun h10 h =>
 dE h fk78 (xSS a0) (oc11 h0 h1 h2 h3 h4 h5 h6 h7 h8 h9 h10 on)) fun h9 h =>
 dE h fk78 (xST a0) (oc11 h0 h1 h2 h3 h4 h5 h6 h7 h8 h9 rfl on)) fun h8 h =>
 dE h fk78 (xSU a0) (oc9 h0 h1 h2 h3 h4 h5 h6 h7 h8 on)
theorem xKs {N : Nat} {a0 : Exp} {r : Bool} (h : xGg N  a0 = some r) : AbC 78 (xAu a0) (xAt r) :=
 AbsCalls.of_reach fk78 rfl rfl (Nat.le_of_ble_eq_true rfl) (vAe a0 r h)
def G42 (q : Exp → Option (Bool)) : Prop := ∀ a0 r, q a0 = some r → AbC 42 (xDV a0) (xCc r)
noncomputable def I42 : Info := { body := (Tryz.f42.body).getD .skip, nt := 20, results := [.tmp 2], keep := [0, 2, 4, 6, 16, 34, 3], live := [(2, [2, 6, 3])], modes := [] }
theorem fk42 : FnOk Tryz.prog 42 Tryz.f42 I42 := ⟨Tryz.func42, by kernel_rfl, by kernel_rfl, by kernel_rfl, by kernel_rfl⟩
def xNO (x3 : Int) (b1 : Exp) : St := [(2, .v false [.ptr 1 0]), (6, .v false [.int .i64 x3]), (3, .v true [.int .i64 (Exp.kind b1), .int .i64 (Exp.n b1), .str (Exp.text b1), .sl .ro .exp (Exp.args b1)])]
def xVm (x3 : Int) (b1 : Exp) (r1 : Bool) : rS 2 I42 (xNO x3 b1) [Y, Y] [xCc r1] = dn (xCc false) [xLV x3 b1, xND x3 b1, AbC 42 (xDV (xLv b1 x3)) (xCc r1), iY (!r1)] := by kernel_rfl
def xVn (x3 : Int) (b1 : Exp) (r1 : Bool) : rS 2 I42 (xNO x3 b1) [Y, F] [xCc r1] = st 2 I42 (xNO (W (x3 + 1)) b1) [xLV x3 b1, xND x3 b1, AbC 42 (xDV (xLv b1 x3)) (xCc r1), iN (!r1)] := by kernel_rfl
def xVo (x3 : Int) (b1 : Exp) (r1 : Bool) : rS 2 I42 (xNO x3 b1) [F] [xAt r1] = dn (xCc r1) [iN (xLu x3 b1), AbC 78 (xAu b1) (xAt r1)] := by kernel_rfl
def xVp (a0 : Exp) : rE I42 (xDV a0) [] [] = st 2 I42 (xNO 0 a0) [] := by kernel_rfl
theorem xZB {N q0} (g0 : G42 q0) : ∀ n x3 b1 r, xEv N q0 n x3 b1 = some r → RS Tryz.f42 I42 2 (xNO x3 b1) (xCc r) := by
 intro n
 induction n with
 | zero => exact fun _ _ _ h => nE h
 | succ n ih =>
  exact fun x3 b1 r h =>
   cE h (fun h0 h => iE h fun h1 h => bE h fun r1 h2 h => cE h (fun h3 h => dS h fk42 (xVm x3 b1 r1) (oc4 h0 h1 (g0 _ _ h2) h3 on)) fun h3 h =>
   tS fk42 (xVn x3 b1 r1) (oc4 h0 h1 (g0 _ _ h2) h3 on) (ih _ _ _ h)) fun h0 h =>
   bE h fun r1 h1 h => dS h fk42 (xVo x3 b1 r1) (oc2 h0 (xKs h1) on)
theorem xZC {N q0} (g0 : G42 q0) : ∀ a0 r, xGk N q0 a0 = some r → RE Tryz.f42 I42 (xDV a0) (xCc r) := fun a0 r h =>
 tE fk42 (xVp a0) on (xZB g0 _ _ _ _ h)
theorem xIP {N q0} (g0 : G42 q0) {a0} {r} (h : xGk N q0 a0 = some r) : AbC 42 (xDV a0) (xCc r) :=
 AbsCalls.of_reach fk42 rfl rfl (Nat.le_of_ble_eq_true rfl) (xZC g0 a0 r h)
theorem xGW {N : Nat} : ∀ d, G42 (xE9 N d)
 | 0 => fun _ _ h => nE h
 | d + 1 => fun _ _ h => xIP (N := N) (xGW d) h
theorem xKF {N : Nat} {a0 : Exp} {r : Bool} (h : xIO N a0 = some r) : AbC 42 (xDV a0) (xCc r) := xGW N _ r h
noncomputable def I22 : Info := { body := (Tryz.f22.body).getD .skip, nt := 15, results := [.tmp 2], keep := [0, 2, 4, 3], live := [], modes := [(1, [(3, .take, false), (8, .take, false)])] }
theorem fk22 : FnOk Tryz.prog 22 Tryz.f22 I22 := ⟨Tryz.func22, by kernel_rfl, by kernel_rfl, by kernel_rfl, by kernel_rfl⟩
def xUq (a0 : Exp) (r1 r2 : Int) (r3 : Bool) : rE I22 (xCt a0) [Y, Y] [xBw r1, xBF r2, xCc r3] = dn (xAN r3) [AbC 40 (xC7 a0 40) (xBw r1), iY (dc (r1 ≥ 0)), AbC 41 (xC3 a0) (xBF r2), iY (dc (r2 ≤ 8)), AbC 42 (xDV a0) (xCc r3)] := by kernel_rfl
def xUr (a0 : Exp) (r1 r2 : Int) : rE I22 (xCt a0) [Y, F] [xBw r1, xBF r2] = dn (xAN false) [AbC 40 (xC7 a0 40) (xBw r1), iY (dc (r1 ≥ 0)), AbC 41 (xC3 a0) (xBF r2), iN (dc (r2 ≤ 8))] := by kernel_rfl
def xUs (a0 : Exp) (r1 : Int) : rE I22 (xCt a0) [F, F] [xBw r1] = dn (xAN false) [AbC 40 (xC7 a0 40) (xBw r1), xJK r1, iN false] := by kernel_rfl
theorem xZm {N : Nat} : ∀ a0 r, xCz N a0 = some r → RE Tryz.f22 I22 (xCt a0) (xAN r) := fun a0 r h =>
 bE h fun r1 h0 h => cE h (fun h1 h => bE h fun r2 h2 h => cE h (fun h3 h => bE h fun r3 h4 h => dE h fk22 (xUq a0 r1 r2 r3) (oc5 (xGJ h0) h1 (xHl h2) h3 (xKF h4) on)) fun h3 h =>
 dE h fk22 (xUr a0 r1 r2) (oc4 (xGJ h0) h1 (xHl h2) h3 on)) fun h1 h =>
 dE h fk22 (xUs a0 r1) (oc3 (xGJ h0) h1 rfl on)
theorem xCu {N : Nat} {a0 : Exp} {r : Bool} (h : xCz N  a0 = some r) : AbC 22 (xCt a0) (xAN r) :=
 AbsCalls.of_reach fk22 rfl rfl (Nat.le_of_ble_eq_true rfl) (xZm a0 r h)
noncomputable def I11 : Info := { body := (Tryz.f11.body).getD .skip, nt := 55, results := [.cell 2 25, .tmp 3], keep := [0, 4, 6, 8, 10, 12, 14, 28, 74, 88, 104, 5, 15, 43], live := [], modes := [(1, [(1, .cp, true), (2, .take, false)]), (4, [(0, .take, false)]), (6, [(5, .take, false)])], fcast := [(5, 3, true)] }
theorem fk11 : FnOk Tryz.prog 11 Tryz.f11 I11 := ⟨Tryz.func11, by kernel_rfl, by kernel_rfl, by kernel_rfl, by kernel_rfl⟩
abbrev xG5 (v0 : Str) (v1 : (List Tok) × Int) : Prop := AbC 23 (xES v0) (xAY v1)
def xTY (a0 : Str) (r1 : (List Tok) × Int) : rE I11 (xBh a0) [Y] [xAY r1] = dn (xBi ((Exp.mk 0 0 [] []), r1.2)) [xG5 a0 r1, iY (dc (r1.2 ≥ 0))] := by kernel_rfl
abbrev xEs (v0 : (List Tok) × Int) : Prop := iN (dc (v0.2 ≥ 0))
abbrev xHw (v0 : (List Tok) × Int) (v1 : Str) (v2 : Exp × Rdr) : Prop := AbC 28 (xB8 (Rdr.mk v0.1 0 (Ln v1 : Int) (-1))) (xAq v2)
abbrev xJi (v0 : Exp × Rdr) : Prop := iY (dc ((Rdr.bad v0.2) < 0))
abbrev xMU (v0 : Exp × Rdr) := xBi ((Exp.mk 0 0 [] []), (Rdr.bad v0.2))
abbrev xJv (v0 : Exp × Rdr) (v1 : (List Tok) × Int) := dc ((Rdr.i v0.2) < (Ln v1.1 : Int))
def xTZ (a0 : Str) (r1 : (List Tok) × Int) (r2 : Exp × Rdr) (r3 : Exp × Rdr) : rE I11 (xBh a0) [F, Y, Y, Y] [xAY r1, xAq r2, xAJ r3] = dn (xMU r3) [xG5 a0 r1, xEs r1, xHw r1 a0 r2, xJi r2, iY (xJv r2 r1), AbC 29 (xCR r2.2) (xAJ r3), iY (dc ((Rdr.bad r3.2) ≥ 0))] := by kernel_rfl
abbrev xJj (v0 : Exp × Rdr) : Prop := iN (dc ((Rdr.bad v0.2) ≥ 0))
abbrev xJk (v0 : Exp × Rdr) (v1 : Bool) : Prop := AbC 22 (xCt v0.1) (xAN v1)
def xT0 (a0 : Str) (r1 : (List Tok) × Int) (r2 : Exp × Rdr) (r3 : Exp × Rdr) (r4 : Bool) : rE I11 (xBh a0) [F, Y, Y, F, Y] [xAY r1, xAq r2, xAJ r3, xAN r4] = dn (xBi ((Exp.mk 0 0 [] []), 0)) [xG5 a0 r1, xEs r1, xHw r1 a0 r2, xJi r2, iY (xJv r2 r1), AbC 29 (xCR r2.2) (xAJ r3), xJj r3, xJk r2 r4, iY (!r4)] := by kernel_rfl
def xT1 (a0 : Str) (r1 : (List Tok) × Int) (r2 : Exp × Rdr) (r3 : Exp × Rdr) (r4 : Bool) : rE I11 (xBh a0) [F, Y, Y, F, F] [xAY r1, xAq r2, xAJ r3, xAN r4] = dn (xBi (r2.1, (-1))) [xG5 a0 r1, xEs r1, xHw r1 a0 r2, xJi r2, iY (xJv r2 r1), AbC 29 (xCR r2.2) (xAJ r3), xJj r3, xJk r2 r4, iN (!r4)] := by kernel_rfl
def xT2 (a0 : Str) (r1 : (List Tok) × Int) (r2 : Exp × Rdr) : rE I11 (xBh a0) [F, Y, F, Y] [xAY r1, xAq r2] = dn (xMU r2) [xG5 a0 r1, xEs r1, xHw r1 a0 r2, xJi r2, iN (xJv r2 r1), iY (dc ((Rdr.bad r2.2) ≥ 0))] := by kernel_rfl
def xT3 (a0 : Str) (r1 : (List Tok) × Int) (r2 : Exp × Rdr) (r3 : Bool) : rE I11 (xBh a0) [F, Y, F, F, Y] [xAY r1, xAq r2, xAN r3] = dn (xBi ((Exp.mk 0 0 [] []), 0)) [xG5 a0 r1, xEs r1, xHw r1 a0 r2, xJi r2, iN (xJv r2 r1), xJj r2, xJk r2 r3, iY (!r3)] := by kernel_rfl
def xT4 (a0 : Str) (r1 : (List Tok) × Int) (r2 : Exp × Rdr) (r3 : Bool) : rE I11 (xBh a0) [F, Y, F, F, F] [xAY r1, xAq r2, xAN r3] = dn (xBi (r2.1, (-1))) [xG5 a0 r1, xEs r1, xHw r1 a0 r2, xJi r2, iN (xJv r2 r1), xJj r2, xJk r2 r3, iN (!r3)] := by kernel_rfl
def xT5 (a0 : Str) (r1 : (List Tok) × Int) (r2 : Exp × Rdr) : rE I11 (xBh a0) [F, F, F, Y] [xAY r1, xAq r2] = dn (xMU r2) [xG5 a0 r1, xEs r1, xHw r1 a0 r2, iN (dc ((Rdr.bad r2.2) < 0)), iN false, iY (dc ((Rdr.bad r2.2) ≥ 0))] := by kernel_rfl
def xT6 (a0 : Str) (r1 : (List Tok) × Int) (r2 : Exp × Rdr) (r3 : Bool) : rE I11 (xBh a0) [F, F, F, F, Y] [xAY r1, xAq r2, xAN r3] = dn (xBi ((Exp.mk 0 0 [] []), 0)) [xG5 a0 r1, xEs r1, xHw r1 a0 r2, iN (dc ((Rdr.bad r2.2) < 0)), iN false, xJj r2, xJk r2 r3, iY (!r3)] := by kernel_rfl
def xT7 (a0 : Str) (r1 : (List Tok) × Int) (r2 : Exp × Rdr) (r3 : Bool) : rE I11 (xBh a0) [F, F, F, F, F] [xAY r1, xAq r2, xAN r3] = dn (xBi (r2.1, (-1))) [xG5 a0 r1, xEs r1, xHw r1 a0 r2, iN (dc ((Rdr.bad r2.2) < 0)), iN false, xJj r2, xJk r2 r3, iN (!r3)] := by kernel_rfl
theorem xZg {N : Nat} : ∀ a0 r, xEu N a0 = some r → RE Tryz.f11 I11 (xBh a0) (xBi r) := fun a0 r h =>
 bE h fun r1 h0 h => cE h (fun h1 h => dE h fk11 (xTY a0 r1) (oc2 (xCB h0) h1 on)) fun h1 h =>
 bE h fun r2 h2 h => cE h (fun h3 h => cE h (fun h4 h => bE h fun r3 h5 h => cE h (fun h6 h => dE h fk11 (xTZ a0 r1 r2 r3) (oc7 (xCB h0) h1 (xC9 h2) h3 h4 (xB9 h5) h6 on)) fun h6 h =>
 bE h fun r4 h7 h => cE h (fun h8 h => dE h fk11 (xT0 a0 r1 r2 r3 r4) (oc9 (xCB h0) h1 (xC9 h2) h3 h4 (xB9 h5) h6 (xCu h7) h8 on)) fun h8 h =>
 dE h fk11 (xT1 a0 r1 r2 r3 r4) (oc9 (xCB h0) h1 (xC9 h2) h3 h4 (xB9 h5) h6 (xCu h7) h8 on)) fun h4 h =>
 cE h (fun h5 h => dE h fk11 (xT2 a0 r1 r2) (oc6 (xCB h0) h1 (xC9 h2) h3 h4 h5 on)) fun h5 h =>
 bE h fun r3 h6 h => cE h (fun h7 h => dE h fk11 (xT3 a0 r1 r2 r3) (oc8 (xCB h0) h1 (xC9 h2) h3 h4 h5 (xCu h6) h7 on)) fun h7 h =>
 dE h fk11 (xT4 a0 r1 r2 r3) (oc8 (xCB h0) h1 (xC9 h2) h3 h4 h5 (xCu h6) h7 on)) fun h3 h =>
 cE h (fun h5 h => dE h fk11 (xT5 a0 r1 r2) (oc6 (xCB h0) h1 (xC9 h2) h3 rfl h5 on)) fun h5 h =>
 bE h fun r3 h6 h => cE h (fun h7 h => dE h fk11 (xT6 a0 r1 r2 r3) (oc8 (xCB h0) h1 (xC9 h2) h3 rfl h5 (xCu h6) h7 on)) fun h7 h =>
 dE h fk11 (xT7 a0 r1 r2 r3) (oc8 (xCB h0) h1 (xC9 h2) h3 rfl h5 (xCu h6) h7 on)
theorem xHm {N : Nat} {a0 : Str} {r : Exp × Int} (h : xEu N  a0 = some r) : AbC 11 (xBh a0) (xBi r) :=
 AbsCalls.of_reach fk11 rfl rfl (Nat.le_of_ble_eq_true rfl) (xZg a0 r h)
theorem xHs {N : Nat} {a0 : Str} {a1 a2 : Int} {r : Int × Bool} (h : xGu N a0 a1 a2 = some r) : AbC 89 (xIY a0 a1 a2) (xFO r) :=
 zIi xMl (fun s lo hi w hs hw => xM1 s lo hi hs zHR xZa xTK w hw) h
theorem xBe {N : Nat} {a0 : Str} {a1 r : Int} (h : strings_IndexByte N a0 a1 = some r) : AbC 90 (xFn a0 a1) (xAO r) :=
 zG7 (xJ4 Tryz.lays137) (Any.strings_IndexByte Tryz.lays137) h
noncomputable def I91 : Info := { body := (Tryz.f91.body).getD .skip, nt := 29, results := [.tmp 2], keep := [0, 4, 6, 14, 50], live := [(2, [0, 6])], modes := [(4, [(4, .take, false), (10, .take, false)])] }
theorem fk91 : FnOk Tryz.prog 91 Tryz.f91 I91 := ⟨Tryz.func91, by kernel_rfl, by kernel_rfl, by kernel_rfl, by kernel_rfl⟩
def xLJ (x0 : Str) (x3 : Int) : St := [(0, .v false [.str x0]), (6, .v false [.int .i64 x3])]
def xXN (x0 : Str) (x3 : Int) : rS 2 I91 (xLJ x0 x3) [Y, Y, Y, Y] [] = dn (xAM false) [xC2 x3 x0, xAx x3 x0, iY (xMB x0 x3), iY true, iY true] := by kernel_rfl
def xXO (x0 : Str) (x3 : Int) : rS 2 I91 (xLJ x0 x3) [Y, F, Y, Y] [] = dn (xAM false) [xC2 x3 x0, xAx x3 x0, xKQ x0 x3, xAx x3 x0, iY (xMC x0 x3), iY true] := by kernel_rfl
def xXP (x0 : Str) (x3 : Int) : rS 2 I91 (xLJ x0 x3) [Y, F, F, Y] [] = dn (xAM false) [xC2 x3 x0, xAx x3 x0, xKQ x0 x3, xAx x3 x0, xNj x0 x3, xAx x3 x0, xH5 x0 x3] := by kernel_rfl
def xXQ (x0 : Str) (x3 : Int) : rS 2 I91 (xLJ x0 x3) [Y, F, F, F] [] = st 2 I91 (xLJ x0 (W (x3 + 1))) [xC2 x3 x0, xAx x3 x0, xKQ x0 x3, xAx x3 x0, xNj x0 x3, xAx x3 x0, xH6 x0 x3] := by kernel_rfl
def xXR (x0 : Str) (x3 : Int) : rS 2 I91 (xLJ x0 x3) [F] [] = dn (xAM (dc ((Ln x0 : Int) ≤ 20))) [xHi x3 x0] := by kernel_rfl
def xXS (a0 : Str) : rE I91 (xDn a0) [] [] = st 2 I91 (xLJ a0 0) [] := by kernel_rfl
theorem vAq {N : Nat} : ∀ n x0 x3 r, xD1 N n x0 x3 = some r → RS Tryz.f91 I91 2 (xLJ x0 x3) (xAM r) := by
 intro n
 induction n with
 | zero => exact fun _ _ _ h => nE h
 | succ n ih =>
  exact fun x0 x3 r h =>
   cE h (fun h0 h => iE h fun h1 h => cE h (fun h2 h => dS h fk91 (xXN x0 x3) (oc5 h0 h1 h2 rfl rfl on)) fun h2 h =>
   cE h (fun h4 h => dS h fk91 (xXO x0 x3) (oc6 h0 h1 h2 h1 h4 rfl on)) fun h4 h =>
   cE h (fun h6 h => dS h fk91 (xXP x0 x3) (oc7 h0 h1 h2 h1 h4 h1 h6 on)) fun h6 h =>
   tS fk91 (xXQ x0 x3) (oc7 h0 h1 h2 h1 h4 h1 h6 on) (ih _ _ _ h)) fun h0 h =>
   dS h fk91 (xXR x0 x3) (oc h0 on)
theorem vAr {N : Nat} : ∀ a0 r, xCW N a0 = some r → RE Tryz.f91 I91 (xDn a0) (xAM r) := fun a0 r h =>
 tE fk91 (xXS a0) on (vAq _ _ _ _ h)
theorem xDo {N : Nat} {a0 : Str} {r : Bool} (h : xCW N  a0 = some r) : AbC 91 (xDn a0) (xAM r) :=
 AbsCalls.of_reach fk91 rfl rfl (Nat.le_of_ble_eq_true rfl) (vAr a0 r h)
theorem xCf {N : Nat} {a0 a1 : Str} {r : Bool} (h : strings_HasPrefix N a0 a1 = some r) : AbC 92 (xGo a0 a1) (xBz r) :=
 zG6 (xJ3 Tryz.lays99) (Any.strings_HasPrefix Tryz.lays99) h
noncomputable def I49 : Info := { body := (Tryz.f49.body).getD .skip, nt := 152, results := [.cell 4 50, .tmp 5, .tmp 6], keep := [0, 2, 8, 10, 12, 14, 16, 18, 20, 22, 24, 34, 102, 130, 174, 206, 224, 262, 9], live := [(4, [0, 2, 8, 14, 9]), (8, [0, 2, 8, 14, 9])], modes := [(3, [(2, .take, false)]), (4, [(4, .take, false), (9, .take, false), (15, .take, false), (20, .take, false)]), (7, [(2, .take, false)]), (8, [(4, .take, false), (10, .take, false)]), (10, [(5, .take, false)]), (11, [(0, .take, false), (4, .take, false)])] }
theorem fk49 : FnOk Tryz.prog 49 Tryz.f49 I49 := ⟨Tryz.func49, by kernel_rfl, by kernel_rfl, by kernel_rfl, by kernel_rfl⟩
def xJb (x0 : Str) (x1 x7 : Int) (b4 : Tok) : St := [(0, .v false [.str x0]), (2, .v false [.int .i64 x1]), (8, .v false [.ptr 4 0]), (14, .v false [.int .i64 x7]), (9, .v true [.int .i64 (Tok.kind b4), .int .i64 (Tok.n b4), .int .i64 (Tok.pos b4), .str (Tok.text b4)])]
def xLF (x0 : Str) (x1 x7 : Int) (b4 : Tok) : St := [(0, .v false [.str x0]), (2, .v false [.int .i64 x1]), (8, .v false [.ptr 4 0]), (14, .v false [.int .i64 x7]), (9, .v true [.int .i64 (Tok.kind b4), .int .i64 (Tok.n b4), .int .i64 (Tok.pos b4), .str (Tok.text b4)])]
def xVK (x0 : Str) (x1 x7 : Int) (b4 : Tok) : rS 4 I49 (xJb x0 x1 x7 b4) [Y, Y, Y, Y] [] = st 4 I49 (xJb x0 x1 (W (x7 + 1)) b4) [xC2 x7 x0, xAx x7 x0, xEJ x0 x7, xAx x7 x0, iY (xKc x0 x7), iY true] := by kernel_rfl
abbrev xGi (v0 : Str) (v1 : Int) : Prop := iN (xKc v0 v1)
abbrev xJ9 (v0 : Str) (v1 : Int) : Prop := iY (xJt v0 v1)
def xVL (x0 : Str) (x1 x7 : Int) (b4 : Tok) : rS 4 I49 (xJb x0 x1 x7 b4) [Y, Y, F, Y, Y] [] = st 4 I49 (xJb x0 x1 (W (x7 + 1)) b4) [xC2 x7 x0, xAx x7 x0, xEJ x0 x7, xAx x7 x0, xGi x0 x7, xAx x7 x0, xE3 x0 x7, xAx x7 x0, xJ9 x0 x7] := by kernel_rfl
abbrev xGE (v0 : Str) (v1 : Int) : Prop := iN (xJt v0 v1)
abbrev xKg (v0 v1 : Int) (v2 : Str) := xAQ ((Tok.mk 1 0 v0 (List.drop (tN v0) (List.take (tN v1) v2))), v1, (dc ((W (v1 - v0)) ≤ 8)))
def xVM (x0 : Str) (x1 x7 : Int) (b4 : Tok) : rS 4 I49 (xJb x0 x1 x7 b4) [Y, Y, F, Y, F] [] = dn (xKg x1 x7 x0) [xC2 x7 x0, xAx x7 x0, xEJ x0 x7, xAx x7 x0, xGi x0 x7, xAx x7 x0, xE3 x0 x7, xAx x7 x0, xGE x0 x7, xF0 x1 x7 x0] := by kernel_rfl
def xVN (x0 : Str) (x1 x7 : Int) (b4 : Tok) : rS 4 I49 (xJb x0 x1 x7 b4) [Y, Y, F, F, F] [] = dn (xKg x1 x7 x0) [xC2 x7 x0, xAx x7 x0, xEJ x0 x7, xAx x7 x0, xGi x0 x7, xAx x7 x0, xGm x0 x7, iN false, xF0 x1 x7 x0] := by kernel_rfl
def xVO (x0 : Str) (x1 x7 : Int) (b4 : Tok) : rS 4 I49 (xJb x0 x1 x7 b4) [Y, F, F, Y, Y] [] = st 4 I49 (xJb x0 x1 (W (x7 + 1)) b4) [xC2 x7 x0, xAx x7 x0, xFq x0 x7, iN false, xAx x7 x0, xE3 x0 x7, xAx x7 x0, xJ9 x0 x7] := by kernel_rfl
def xVP (x0 : Str) (x1 x7 : Int) (b4 : Tok) : rS 4 I49 (xJb x0 x1 x7 b4) [Y, F, F, Y, F] [] = dn (xKg x1 x7 x0) [xC2 x7 x0, xAx x7 x0, xFq x0 x7, iN false, xAx x7 x0, xE3 x0 x7, xAx x7 x0, xGE x0 x7, xF0 x1 x7 x0] := by kernel_rfl
def xVQ (x0 : Str) (x1 x7 : Int) (b4 : Tok) : rS 4 I49 (xJb x0 x1 x7 b4) [Y, F, F, F, F] [] = dn (xKg x1 x7 x0) [xC2 x7 x0, xAx x7 x0, xFq x0 x7, iN false, xAx x7 x0, xGm x0 x7, iN false, xF0 x1 x7 x0] := by kernel_rfl
def xVR (x0 : Str) (x1 x7 : Int) (b4 : Tok) : rS 4 I49 (xJb x0 x1 x7 b4) [F, F] [] = dn (xKg x1 x7 x0) [xHi x7 x0, iN false, xF0 x1 x7 x0] := by kernel_rfl
def xVS (x0 : Str) (x1 x7 : Int) (b4 : Tok) : rS 8 I49 (xLF x0 x1 x7 b4) [Y, Y, Y] [] = st 8 I49 (xLF x0 x1 (W (x7 + 1)) b4) [xC2 x7 x0, xAx x7 x0, xE3 x0 x7, xAx x7 x0, xJ9 x0 x7] := by kernel_rfl
abbrev xMs (v0 v1 : Int) (v2 : Str) (v3 : Int × Bool) : Prop := AbC 89 (xIY (xOP v0 v1 v2) 0 1000000000) (xFO v3)
def xVT (x0 : Str) (x1 x7 : Int) (b4 : Tok) (r1 : Int × Bool) : rS 8 I49 (xLF x0 x1 x7 b4) [Y, Y, F] [xFO r1] = dn (xAQ ((Tok.mk 2 r1.1 x1 []), x7, r1.2)) [xC2 x7 x0, xAx x7 x0, xE3 x0 x7, xAx x7 x0, xGE x0 x7, xF0 x1 x7 x0, xMs x1 x7 x0 r1] := by kernel_rfl
def xSj (x0 : Str) (x1 x7 : Int) (b4 : Tok) (r1 : Int × Bool) : rS 8 I49 (xLF x0 x1 x7 b4) [Y, F, F] [xFO r1] = dn (xAQ ((Tok.mk 2 r1.1 x1 []), x7, r1.2)) [xC2 x7 x0, xAx x7 x0, xGm x0 x7, iN false, xF0 x1 x7 x0, xMs x1 x7 x0 r1] := by kernel_rfl
def xSk (x0 : Str) (x1 x7 : Int) (b4 : Tok) (r1 : Int × Bool) : rS 8 I49 (xLF x0 x1 x7 b4) [F, F, F] [xFO r1] = dn (xAQ ((Tok.mk 2 r1.1 x1 []), x7, r1.2)) [xHi x7 x0, iN false, iN false, xF0 x1 x7 x0, xMs x1 x7 x0 r1] := by kernel_rfl
def xSl (a0 : Str) (a1 : Int) : rE I49 (xAG a0 a1) [Y, Y] [] = st 4 I49 (xJb a0 a1 a1 (Tok.mk 0 0 0 [])) [xAx a1 a0, xEJ a0 a1, iY (xKc a0 a1)] := by kernel_rfl
def xSm (a0 : Str) (a1 : Int) : rE I49 (xAG a0 a1) [Y, F, Y, Y] [] = st 8 I49 (xLF a0 a1 a1 (Tok.mk 0 0 0 [])) [xAx a1 a0, xEJ a0 a1, xGi a0 a1, xE3 a0 a1, xJ9 a0 a1] := by kernel_rfl
abbrev xHW (v0 : Int) (v1 : Str) : Prop := (0 : Int) ≤ (W (v0 + 1)) ∧ (W (v0 + 1)) ≤ (Ln v1)
abbrev xHX (v0 : Int) (v1 : Str) (v2 : Int) : Prop := AbC 90 (xFn (List.drop (xML v0) v1) 34) (xAO v2)
def xSn (a0 : Str) (a1 r1 : Int) : rE I49 (xAG a0 a1) [Y, F, Y, F, Y, Y] [xAO r1] = dn (xAQ ((Tok.mk 0 0 0 []), 0, false)) [xAx a1 a0, xEJ a0 a1, xGi a0 a1, xE3 a0 a1, xGE a0 a1, xH5 a0 a1, xHW a1 a0, xHX a1 a0 r1, iY (dc (r1 < 0))] := by kernel_rfl
abbrev xOZ (v0 v1 : Int) := W ((W (v0 + 1)) + v1)
abbrev xK8 (v0 v1 : Int) (v2 : Str) : Prop := (0 : Int) ≤ (W (v0 + 1)) ∧ (W (v0 + 1)) ≤ (xOZ v0 v1) ∧ (xOZ v0 v1) ≤ (Ln v2)
abbrev xTT (v0 v1 : Int) (v2 : Str) := List.drop (tN (W (v0 + 1))) (List.take (tN (W ((W (v0 + 1)) + v1))) v2)
abbrev xK9 (v0 v1 : Int) (v2 : Str) (v3 : Bool) : Prop := AbC 91 (xDn (xTT v0 v1 v2)) (xAM v3)
abbrev xLw (v0 v1 : Int) (v2 : Str) (v3 : Bool) := xAQ ((Tok.mk 3 0 v0 (List.drop (tN (W (v0 + 1))) (List.take (tN (W ((W (v0 + 1)) + v1))) v2))), (W ((W (v0 + v1)) + 2)), v3)
def xSo (a0 : Str) (a1 r1 : Int) (r2 : Bool) : rE I49 (xAG a0 a1) [Y, F, Y, F, Y, F] [xAO r1, xAM r2] = dn (xLw a1 r1 a0 r2) [xAx a1 a0, xEJ a0 a1, xGi a0 a1, xE3 a0 a1, xGE a0 a1, xH5 a0 a1, xHW a1 a0, xHX a1 a0 r1, iN (dc (r1 < 0)), xK8 a1 r1 a0, xK9 a1 r1 a0 r2] := by kernel_rfl
abbrev xHY (v0 : Int) (v1 : Str) : Prop := (0 : Int) ≤ v0 ∧ v0 ≤ (Ln v1)
abbrev xHZ (v0 : Int) (v1 : Str) (v2 : Bool) : Prop := AbC 92 (xGo (List.drop (tN v0) v1) [61, 61]) (xBz v2)
abbrev xLx (v0 : Int) := xAQ ((Tok.mk 4 0 v0 [61, 61]), (W (v0 + 2)), true)
def xSp (a0 : Str) (a1 : Int) (r1 : Bool) : rE I49 (xAG a0 a1) [Y, F, Y, F, F, Y] [xBz r1] = dn (xLx a1) [xAx a1 a0, xEJ a0 a1, xGi a0 a1, xE3 a0 a1, xGE a0 a1, xH6 a0 a1, xHY a1 a0, xHZ a1 a0 r1, iY r1] := by kernel_rfl
abbrev xLa (v0 : Int) (v1 : Str) : Prop := (0 : Int) ≤ v0 ∧ v0 ≤ (W (v0 + 1)) ∧ (W (v0 + 1)) ≤ (Ln v1)
abbrev xLb (v0 : Str) (v1 v2 : Int) : Prop := AbC 90 (xFn [40, 41, 91, 93, 44, 43, 45, 42, 60, 61] (xLm v0 v1)) (xAO v2)
abbrev xLy (v0 : Int) (v1 : Str) (v2 : Int) := xAQ ((Tok.mk 4 0 v0 (List.drop (tN v0) (List.take (tN (W (v0 + 1))) v1))), (W (v0 + 1)), (dc (v2 ≥ 0)))
def xSq (a0 : Str) (a1 : Int) (r1 : Bool) (r2 : Int) : rE I49 (xAG a0 a1) [Y, F, Y, F, F, F] [xBz r1, xAO r2] = dn (xLy a1 a0 r2) [xAx a1 a0, xEJ a0 a1, xGi a0 a1, xE3 a0 a1, xGE a0 a1, xH6 a0 a1, xHY a1 a0, xHZ a1 a0 r1, iN r1, xLa a1 a0, xLb a0 a1 r2] := by kernel_rfl
def xSr (a0 : Str) (a1 r1 : Int) : rE I49 (xAG a0 a1) [Y, F, F, F, Y, Y] [xAO r1] = dn (xAQ ((Tok.mk 0 0 0 []), 0, false)) [xAx a1 a0, xEJ a0 a1, xGi a0 a1, xGm a0 a1, iN false, xH5 a0 a1, xHW a1 a0, xHX a1 a0 r1, iY (dc (r1 < 0))] := by kernel_rfl
def xSs (a0 : Str) (a1 r1 : Int) (r2 : Bool) : rE I49 (xAG a0 a1) [Y, F, F, F, Y, F] [xAO r1, xAM r2] = dn (xLw a1 r1 a0 r2) [xAx a1 a0, xEJ a0 a1, xGi a0 a1, xGm a0 a1, iN false, xH5 a0 a1, xHW a1 a0, xHX a1 a0 r1, iN (dc (r1 < 0)), xK8 a1 r1 a0, xK9 a1 r1 a0 r2] := by kernel_rfl
def xSt (a0 : Str) (a1 : Int) (r1 : Bool) : rE I49 (xAG a0 a1) [Y, F, F, F, F, Y] [xBz r1] = dn (xLx a1) [xAx a1 a0, xEJ a0 a1, xGi a0 a1, xGm a0 a1, iN false, xH6 a0 a1, xHY a1 a0, xHZ a1 a0 r1, iY r1] := by kernel_rfl
def xSu (a0 : Str) (a1 : Int) (r1 : Bool) (r2 : Int) : rE I49 (xAG a0 a1) [Y, F, F, F, F, F] [xBz r1, xAO r2] = dn (xLy a1 a0 r2) [xAx a1 a0, xEJ a0 a1, xGi a0 a1, xGm a0 a1, iN false, xH6 a0 a1, xHY a1 a0, xHZ a1 a0 r1, iN r1, xLa a1 a0, xLb a0 a1 r2] := by kernel_rfl
def xSv (a0 : Str) (a1 : Int) : rE I49 (xAG a0 a1) [F, F, Y, Y] [] = st 8 I49 (xLF a0 a1 a1 (Tok.mk 0 0 0 [])) [xAx a1 a0, xFq a0 a1, iN false, xE3 a0 a1, xJ9 a0 a1] := by kernel_rfl
def xSw (a0 : Str) (a1 r1 : Int) : rE I49 (xAG a0 a1) [F, F, Y, F, Y, Y] [xAO r1] = dn (xAQ ((Tok.mk 0 0 0 []), 0, false)) [xAx a1 a0, xFq a0 a1, iN false, xE3 a0 a1, xGE a0 a1, xH5 a0 a1, xHW a1 a0, xHX a1 a0 r1, iY (dc (r1 < 0))] := by kernel_rfl
def xSx (a0 : Str) (a1 r1 : Int) (r2 : Bool) : rE I49 (xAG a0 a1) [F, F, Y, F, Y, F] [xAO r1, xAM r2] = dn (xLw a1 r1 a0 r2) [xAx a1 a0, xFq a0 a1, iN false, xE3 a0 a1, xGE a0 a1, xH5 a0 a1, xHW a1 a0, xHX a1 a0 r1, iN (dc (r1 < 0)), xK8 a1 r1 a0, xK9 a1 r1 a0 r2] := by kernel_rfl
def xSy (a0 : Str) (a1 : Int) (r1 : Bool) : rE I49 (xAG a0 a1) [F, F, Y, F, F, Y] [xBz r1] = dn (xLx a1) [xAx a1 a0, xFq a0 a1, iN false, xE3 a0 a1, xGE a0 a1, xH6 a0 a1, xHY a1 a0, xHZ a1 a0 r1, iY r1] := by kernel_rfl
def xSz (a0 : Str) (a1 : Int) (r1 : Bool) (r2 : Int) : rE I49 (xAG a0 a1) [F, F, Y, F, F, F] [xBz r1, xAO r2] = dn (xLy a1 a0 r2) [xAx a1 a0, xFq a0 a1, iN false, xE3 a0 a1, xGE a0 a1, xH6 a0 a1, xHY a1 a0, xHZ a1 a0 r1, iN r1, xLa a1 a0, xLb a0 a1 r2] := by kernel_rfl
def xSA (a0 : Str) (a1 r1 : Int) : rE I49 (xAG a0 a1) [F, F, F, F, Y, Y] [xAO r1] = dn (xAQ ((Tok.mk 0 0 0 []), 0, false)) [xAx a1 a0, xFq a0 a1, iN false, xGm a0 a1, iN false, xH5 a0 a1, xHW a1 a0, xHX a1 a0 r1, iY (dc (r1 < 0))] := by kernel_rfl
def xSB (a0 : Str) (a1 r1 : Int) (r2 : Bool) : rE I49 (xAG a0 a1) [F, F, F, F, Y, F] [xAO r1, xAM r2] = dn (xLw a1 r1 a0 r2) [xAx a1 a0, xFq a0 a1, iN false, xGm a0 a1, iN false, xH5 a0 a1, xHW a1 a0, xHX a1 a0 r1, iN (dc (r1 < 0)), xK8 a1 r1 a0, xK9 a1 r1 a0 r2] := by kernel_rfl
def xSC (a0 : Str) (a1 : Int) (r1 : Bool) : rE I49 (xAG a0 a1) [F, F, F, F, F, Y] [xBz r1] = dn (xLx a1) [xAx a1 a0, xFq a0 a1, iN false, xGm a0 a1, iN false, xH6 a0 a1, xHY a1 a0, xHZ a1 a0 r1, iY r1] := by kernel_rfl
def xSD (a0 : Str) (a1 : Int) (r1 : Bool) (r2 : Int) : rE I49 (xAG a0 a1) [F, F, F, F, F, F] [xBz r1, xAO r2] = dn (xLy a1 a0 r2) [xAx a1 a0, xFq a0 a1, iN false, xGm a0 a1, iN false, xH6 a0 a1, xHY a1 a0, xHZ a1 a0 r1, iN r1, xLa a1 a0, xLb a0 a1 r2] := by kernel_rfl
theorem xZJ {N : Nat} : ∀ n x0 x1 x7 b4 r, xCs N n x0 x1 x7 b4 = some r → RS Tryz.f49 I49 4 (xJb x0 x1 x7 b4) (xAQ r) := by
 intro n
 induction n with
 | zero => exact fun _ _ _ _ _ h => nE h
 | succ n ih =>
  exact fun x0 x1 x7 b4 r h =>
   cE h (fun h0 h => iE h fun h1 h => cE h (fun h2 h => cE h (fun h4 h => tS fk49 (xVK x0 x1 x7 b4) (oc6 h0 h1 h2 h1 h4 rfl on) (ih _ _ _ _ _ h)) fun h4 h =>
   cE h (fun h6 h => cE h (fun h8 h => tS fk49 (xVL x0 x1 x7 b4) (oc9 h0 h1 h2 h1 h4 h1 h6 h1 h8 on) (ih _ _ _ _ _ h)) fun h8 h =>
   iE h fun h9 h => dS h fk49 (xVM x0 x1 x7 b4) (oc10 h0 h1 h2 h1 h4 h1 h6 h1 h8 h9 on)) fun h6 h =>
   iE h fun h8 h => dS h fk49 (xVN x0 x1 x7 b4) (oc9 h0 h1 h2 h1 h4 h1 h6 rfl h8 on)) fun h2 h =>
   cE h (fun h5 h => cE h (fun h7 h => tS fk49 (xVO x0 x1 x7 b4) (oc8 h0 h1 h2 rfl h1 h5 h1 h7 on) (ih _ _ _ _ _ h)) fun h7 h =>
   iE h fun h8 h => dS h fk49 (xVP x0 x1 x7 b4) (oc9 h0 h1 h2 rfl h1 h5 h1 h7 h8 on)) fun h5 h =>
   iE h fun h7 h => dS h fk49 (xVQ x0 x1 x7 b4) (oc8 h0 h1 h2 rfl h1 h5 rfl h7 on)) fun h0 h =>
   iE h fun h2 h => dS h fk49 (xVR x0 x1 x7 b4) (oc3 h0 rfl h2 on)
theorem xYT {N : Nat} : ∀ n x0 x1 x7 b4 r, xCP N n x0 x1 x7 b4 = some r → RS Tryz.f49 I49 8 (xLF x0 x1 x7 b4) (xAQ r) := by
 intro n
 induction n with
 | zero => exact fun _ _ _ _ _ h => nE h
 | succ n ih =>
  exact fun x0 x1 x7 b4 r h =>
   cE h (fun h0 h => iE h fun h1 h => cE h (fun h2 h => cE h (fun h4 h => tS fk49 (xVS x0 x1 x7 b4) (oc5 h0 h1 h2 h1 h4 on) (ih _ _ _ _ _ h)) fun h4 h =>
   iE h fun h5 h => bE h fun r1 h6 h => dS h fk49 (xVT x0 x1 x7 b4 r1) (oc7 h0 h1 h2 h1 h4 h5 (xHs h6) on)) fun h2 h =>
   iE h fun h4 h => bE h fun r1 h5 h => dS h fk49 (xSj x0 x1 x7 b4 r1) (oc6 h0 h1 h2 rfl h4 (xHs h5) on)) fun h0 h =>
   iE h fun h3 h => bE h fun r1 h4 h => dS h fk49 (xSk x0 x1 x7 b4 r1) (oc5 h0 rfl rfl h3 (xHs h4) on)
theorem xZK {N : Nat} : ∀ a0 a1 r, xGd N a0 a1 = some r → RE Tryz.f49 I49 (xAG a0 a1) (xAQ r) := fun a0 a1 r h =>
 iE h fun h0 h => cE h (fun h1 h => cE h (fun h2 h => tE fk49 (xSl a0 a1) (oc3 h0 h1 h2 on) (xZJ _ _ _ _ _ _ h)) fun h2 h =>
 cE h (fun h3 h => cE h (fun h4 h => tE fk49 (xSm a0 a1) (oc5 h0 h1 h2 h3 h4 on) (xYT _ _ _ _ _ _ h)) fun h4 h =>
 cE h (fun h5 h => iE h fun h6 h => bE h fun r1 h7 h => cE h (fun h8 h => dE h fk49 (xSn a0 a1 r1) (oc9 h0 h1 h2 h3 h4 h5 h6 (xBe h7) h8 on)) fun h8 h =>
 iE h fun h9 h => bE h fun r2 h10 h => dE h fk49 (xSo a0 a1 r1 r2) (oc11 h0 h1 h2 h3 h4 h5 h6 (xBe h7) h8 h9 (xDo h10) on)) fun h5 h =>
 iE h fun h6 h => bE h fun r1 h7 h => cE h (fun h8 h => dE h fk49 (xSp a0 a1 r1) (oc9 h0 h1 h2 h3 h4 h5 h6 (xCf h7) h8 on)) fun h8 h =>
 iE h fun h9 h => bE h fun r2 h10 h => dE h fk49 (xSq a0 a1 r1 r2) (oc11 h0 h1 h2 h3 h4 h5 h6 (xCf h7) h8 h9 (xBe h10) on)) fun h3 h =>
 cE h (fun h5 h => iE h fun h6 h => bE h fun r1 h7 h => cE h (fun h8 h => dE h fk49 (xSr a0 a1 r1) (oc9 h0 h1 h2 h3 rfl h5 h6 (xBe h7) h8 on)) fun h8 h =>
 iE h fun h9 h => bE h fun r2 h10 h => dE h fk49 (xSs a0 a1 r1 r2) (oc11 h0 h1 h2 h3 rfl h5 h6 (xBe h7) h8 h9 (xDo h10) on)) fun h5 h =>
 iE h fun h6 h => bE h fun r1 h7 h => cE h (fun h8 h => dE h fk49 (xSt a0 a1 r1) (oc9 h0 h1 h2 h3 rfl h5 h6 (xCf h7) h8 on)) fun h8 h =>
 iE h fun h9 h => bE h fun r2 h10 h => dE h fk49 (xSu a0 a1 r1 r2) (oc11 h0 h1 h2 h3 rfl h5 h6 (xCf h7) h8 h9 (xBe h10) on)) fun h1 h =>
 cE h (fun h3 h => cE h (fun h4 h => tE fk49 (xSv a0 a1) (oc5 h0 h1 rfl h3 h4 on) (xYT _ _ _ _ _ _ h)) fun h4 h =>
 cE h (fun h5 h => iE h fun h6 h => bE h fun r1 h7 h => cE h (fun h8 h => dE h fk49 (xSw a0 a1 r1) (oc9 h0 h1 rfl h3 h4 h5 h6 (xBe h7) h8 on)) fun h8 h =>
 iE h fun h9 h => bE h fun r2 h10 h => dE h fk49 (xSx a0 a1 r1 r2) (oc11 h0 h1 rfl h3 h4 h5 h6 (xBe h7) h8 h9 (xDo h10) on)) fun h5 h =>
 iE h fun h6 h => bE h fun r1 h7 h => cE h (fun h8 h => dE h fk49 (xSy a0 a1 r1) (oc9 h0 h1 rfl h3 h4 h5 h6 (xCf h7) h8 on)) fun h8 h =>
 iE h fun h9 h => bE h fun r2 h10 h => dE h fk49 (xSz a0 a1 r1 r2) (oc11 h0 h1 rfl h3 h4 h5 h6 (xCf h7) h8 h9 (xBe h10) on)) fun h3 h =>
 cE h (fun h5 h => iE h fun h6 h => bE h fun r1 h7 h => cE h (fun h8 h => dE h fk49 (xSA a0 a1 r1) (oc9 h0 h1 rfl h3 rfl h5 h6 (xBe h7) h8 on)) fun h8 h =>
 iE h fun h9 h => bE h fun r2 h10 h => dE h fk49 (xSB a0 a1 r1 r2) (oc11 h0 h1 rfl h3 rfl h5 h6 (xBe h7) h8 h9 (xDo h10) on)) fun h5 h =>
 iE h fun h6 h => bE h fun r1 h7 h => cE h (fun h8 h => dE h fk49 (xSC a0 a1 r1) (oc9 h0 h1 rfl h3 rfl h5 h6 (xCf h7) h8 on)) fun h8 h =>
 iE h fun h9 h => bE h fun r2 h10 h => dE h fk49 (xSD a0 a1 r1 r2) (oc11 h0 h1 rfl h3 rfl h5 h6 (xCf h7) h8 h9 (xBe h10) on)
theorem xGB {N : Nat} {a0 : Str} {a1 : Int} {r : Tok × Int × Bool} (h : xGd N  a0 a1 = some r) : AbC 49 (xAG a0 a1) (xAQ r) :=
 AbsCalls.of_reach fk49 rfl rfl (Nat.le_of_ble_eq_true rfl) (xZK a0 a1 r h)
noncomputable def I30 : Info := { body := (Tryz.f30.body).getD .skip, nt := 44, results := [.tmp 2, .tmp 3], keep := [0, 4, 6, 8, 10, 12, 14, 16, 22, 32, 40, 72, 13], live := [(5, [0, 8, 10])], modes := [(8, [(3, .take, false)]), (9, [(0, .take, false), (2, .take, false)]), (11, [(0, .take, false)]), (12, [(0, .take, false)]), (13, [(0, .take, false)])] }
theorem fk30 : FnOk Tryz.prog 30 Tryz.f30 I30 := ⟨Tryz.func30, by kernel_rfl, by kernel_rfl, by kernel_rfl, by kernel_rfl⟩
def xK3 (x0 : Str) (x4 : List Tok) (x5 : Int) : St := [(0, .v false [.str x0]), (8, .v false [.sl .own .tok x4]), (10, .v false [.int .i64 x5])]
def xUH (x0 : Str) (x4 : List Tok) (x5 : Int) : rS 5 I30 (xK3 x0 x4 x5) [Y, Y] [] = st 5 I30 (xK3 x0 x4 (W (x5 + 1))) [xC2 x5 x0, xAx x5 x0, iY (xMM x0 x5)] := by kernel_rfl
def xUI (x0 : Str) (x4 : List Tok) (x5 : Int) (r1 : Tok × Int × Bool) : rS 5 I30 (xK3 x0 x4 x5) [Y, F, Y, Y] [xAQ r1] = dn (xAI ([], x5)) [xC2 x5 x0, xAx x5 x0, xKU x0 x5, AbC 49 (xAG x0 x5) (xAQ r1), iY (!r1.2.2), iY true] := by kernel_rfl
def xUJ (x0 : Str) (x4 : List Tok) (x5 : Int) (r1 : Tok × Int × Bool) : rS 5 I30 (xK3 x0 x4 x5) [Y, F, F, Y] [xAQ r1] = dn (xAI ([], x5)) [xC2 x5 x0, xAx x5 x0, xKU x0 x5, AbC 49 (xAG x0 x5) (xAQ r1), iN (!r1.2.2), iY ((Ln x4 : Int) == 60)] := by kernel_rfl
def xUK (x0 : Str) (x4 : List Tok) (x5 : Int) (r1 : Tok × Int × Bool) : rS 5 I30 (xK3 x0 x4 x5) [Y, F, F, F] [xAQ r1] = st 5 I30 (xK3 x0 (x4 ++ [r1.1]) r1.2.1) [xC2 x5 x0, xAx x5 x0, xKU x0 x5, AbC 49 (xAG x0 x5) (xAQ r1), iN (!r1.2.2), iN ((Ln x4 : Int) == 60), Ln x4 + Ln [r1.1] ≤ Lim] := by kernel_rfl
def xUL (x0 : Str) (x4 : List Tok) (x5 : Int) : rS 5 I30 (xK3 x0 x4 x5) [F] [] = dn (xAI (x4, (-1))) [xHi x5 x0] := by kernel_rfl
def xUM (a0 : Str) : rE I30 (xER a0) [Y] [] = dn (xAI ([], 120)) [iY (xLs a0)] := by kernel_rfl
def xUN (a0 : Str) : rE I30 (xER a0) [F] [] = st 5 I30 (xK3 a0 [] 0) [iN (xLs a0)] := by kernel_rfl
theorem xZr {N : Nat} : ∀ n x0 x4 x5 r, xDK N n x0 x4 x5 = some r → RS Tryz.f30 I30 5 (xK3 x0 x4 x5) (xAI r) := by
 intro n
 induction n with
 | zero => exact fun _ _ _ _ h => nE h
 | succ n ih =>
  exact fun x0 x4 x5 r h =>
   cE h (fun h0 h => iE h fun h1 h => cE h (fun h2 h => tS fk30 (xUH x0 x4 x5) (oc3 h0 h1 h2 on) (ih _ _ _ _ h)) fun h2 h =>
   bE h fun r1 h3 h => cE h (fun h4 h => dS h fk30 (xUI x0 x4 x5 r1) (oc6 h0 h1 h2 (xGB h3) h4 rfl on)) fun h4 h =>
   cE h (fun h5 h => dS h fk30 (xUJ x0 x4 x5 r1) (oc6 h0 h1 h2 (xGB h3) h4 h5 on)) fun h5 h =>
   iE h fun h6 h => tS fk30 (xUK x0 x4 x5 r1) (oc7 h0 h1 h2 (xGB h3) h4 h5 h6 on) (ih _ _ _ _ h)) fun h0 h =>
   dS h fk30 (xUL x0 x4 x5) (oc h0 on)
theorem xZs {N : Nat} : ∀ a0 r, xFg N a0 = some r → RE Tryz.f30 I30 (xER a0) (xAI r) := fun a0 r h =>
 cE h (fun h0 h => dE h fk30 (xUM a0) (oc h0 on)) fun h0 h =>
 tE fk30 (xUN a0) (oc h0 on) (xZr _ _ _ _ _ h)
theorem xBC {N : Nat} {a0 : Str} {r : (List Tok) × Int} (h : xFg N  a0 = some r) : AbC 30 (xER a0) (xAI r) :=
 AbsCalls.of_reach fk30 rfl rfl (Nat.le_of_ble_eq_true rfl) (xZs a0 r h)
noncomputable def I51 : Info := { body := (Tryz.f51.body).getD .skip, nt := 31, results := [.cell 2 50], keep := [0, 4, 38, 1, 5], live := [], modes := [(1, [(5, .take, false)])], ext := [0] }
theorem fk51 : FnOk Tryz.prog 51 Tryz.f51 I51 := ⟨Tryz.func51, by kernel_rfl, by kernel_rfl, by kernel_rfl, by kernel_rfl⟩
abbrev xH0 (v0 : Psr) : Prop := iY (dc ((Psr.bad v0) < 0))
def xVW (a0 : Psr) : rE I51 (xCZ a0) [Y, Y] [] = dn (xAf ((gD (Psr.list a0) (tN (Psr.pos a0)) Ty.tok.dflt), a0)) [xH0 a0, iY (dc ((Psr.pos a0) < (Ln (Psr.list a0) : Int))), (0 : Int) ≤ (Psr.pos a0) ∧ (Psr.pos a0) < (Ln (Psr.list a0))] := by kernel_rfl
def xVX (a0 : Psr) : rE I51 (xCZ a0) [Y, F] [] = dn (xAf ((Tok.mk 0 0 0 []), a0)) [xH0 a0, iN (dc ((Psr.pos a0) < (Ln (Psr.list a0) : Int)))] := by kernel_rfl
abbrev xLc (v0 : Psr) : Prop := iN (dc ((Psr.bad v0) < 0))
def xVY (a0 : Psr) : rE I51 (xCZ a0) [F, F] [] = dn (xAf ((Tok.mk 0 0 0 []), a0)) [xLc a0, iN false] := by kernel_rfl
theorem xZM {N : Nat} : ∀ a0 r, xBu N a0 = some r → RE Tryz.f51 I51 (xCZ a0) (xAf r) := fun a0 r h =>
 cE h (fun h0 h => cE h (fun h1 h => iE h fun h2 h => dE h fk51 (xVW a0) (oc3 h0 h1 h2 on)) fun h1 h =>
 dE h fk51 (xVX a0) (oc2 h0 h1 on)) fun h0 h =>
 dE h fk51 (xVY a0) (oc2 h0 rfl on)
theorem xAj {N : Nat} {a0 : Psr} {r : Tok × Psr} (h : xBu N  a0 = some r) : AbC 51 (xCZ a0) (xAf r) :=
 AbsCalls.of_reach fk51 rfl rfl (Nat.le_of_ble_eq_true rfl) (xZM a0 r h)
noncomputable def I50 : Info := { body := (Tryz.f50.body).getD .skip, nt := 14, results := [.tmp 4], keep := [0, 2, 4, 8, 5], live := [], modes := [(1, [(3, .take, false)])] }
theorem fk50 : FnOk Tryz.prog 50 Tryz.f50 I50 := ⟨Tryz.func50, by kernel_rfl, by kernel_rfl, by kernel_rfl, by kernel_rfl⟩
def xVU (a0 : Tok) (a1 : Str) : rE I50 (xBs a0 a1) [Y] [] = dn (xAv (((Tok.text a0) : Str) == a1)) [iY ((Tok.kind a0) == 1)] := by kernel_rfl
def xVV (a0 : Tok) (a1 : Str) : rE I50 (xBs a0 a1) [F] [] = dn (xAv false) [iN ((Tok.kind a0) == 1)] := by kernel_rfl
theorem xZL {N : Nat} : ∀ a0 a1 r, xDS N a0 a1 = some r → RE Tryz.f50 I50 (xBs a0 a1) (xAv r) := fun a0 a1 r h =>
 cE h (fun h0 h => dE h fk50 (xVU a0 a1) (oc h0 on)) fun h0 h =>
 dE h fk50 (xVV a0 a1) (oc h0 on)
theorem xBA {N : Nat} {a0 : Tok} {a1 : Str} {r : Bool} (h : xDS N  a0 a1 = some r) : AbC 50 (xBs a0 a1) (xAv r) :=
 AbsCalls.of_reach fk50 rfl rfl (Nat.le_of_ble_eq_true rfl) (xZL a0 a1 r h)
noncomputable def I97 : Info := { body := (Tryz.f97.body).getD .skip, nt := 15, results := [.tmp 6], keep := [0, 2, 4, 12], live := [], modes := [(1, [(3, .take, false)])] }
theorem fk97 : FnOk Tryz.prog 97 Tryz.f97 I97 := ⟨Tryz.func97, by kernel_rfl, by kernel_rfl, by kernel_rfl, by kernel_rfl⟩
def xX2 (a0 a1 a2 : Int) : rE I97 (xCQ a0 a1 a2) [Y] [] = dn (xA7 (dc (a0 ≤ a2))) [iY (dc (a1 ≤ a0))] := by kernel_rfl
def xX3 (a0 a1 a2 : Int) : rE I97 (xCQ a0 a1 a2) [F] [] = dn (xA7 false) [iN (dc (a1 ≤ a0))] := by kernel_rfl
theorem vAx {N : Nat} : ∀ a0 a1 a2 r, xE2 N a0 a1 a2 = some r → RE Tryz.f97 I97 (xCQ a0 a1 a2) (xA7 r) := fun a0 a1 a2 r h =>
 cE h (fun h0 h => dE h fk97 (xX2 a0 a1 a2) (oc h0 on)) fun h0 h =>
 dE h fk97 (xX3 a0 a1 a2) (oc h0 on)
theorem xDw {N : Nat} {a0 : Int} {a1 : Int} {a2 : Int} {r : Bool} (h : xE2 N  a0 a1 a2 = some r) : AbC 97 (xCQ a0 a1 a2) (xA7 r) :=
 AbsCalls.of_reach fk97 rfl rfl (Nat.le_of_ble_eq_true rfl) (vAx a0 a1 a2 r h)
noncomputable def I114 : Info := { body := (Tryz.f114.body).getD .skip, nt := 42, results := [.tmp 2], keep := [0, 4, 6, 8, 16, 76], live := [(2, [0, 6])], modes := [(4, [(4, .take, false)]), (5, [(0, .take, false), (2, .take, false), (5, .take, false), (11, .take, false)])] }
theorem xJQ : FnOk Tryz.prog 114 Tryz.f114 I114 := ⟨Tryz.func114, by kernel_rfl, by kernel_rfl, by kernel_rfl, by kernel_rfl⟩
def xGw (x0 : Str) (x3 : Int) : St := [(0, .v false [.str x0]), (6, .v false [.int .i64 x3])]
def xQ4 (x0 : Str) (x3 : Int) : rS 2 I114 (xGw x0 x3) [Y, Y, Y, Y, Y, Y] [] = dn (xBZ false) [xC2 x3 x0, xAx x3 x0, xEJ x0 x3, xAx x3 x0, xI1 x0 x3, iY (x3 == 0), iY true, iY true] := by kernel_rfl
def xQ5 (x0 : Str) (x3 : Int) : rS 2 I114 (xGw x0 x3) [Y, Y, Y, F, Y, Y] [] = dn (xBZ false) [xC2 x3 x0, xAx x3 x0, xEJ x0 x3, xAx x3 x0, xI1 x0 x3, xJg x3, xAx x3 x0, xTU x0 x3, iY true] := by kernel_rfl
def xQ6 (x0 : Str) (x3 : Int) : rS 2 I114 (xGw x0 x3) [Y, Y, Y, F, F, Y] [] = dn (xBZ false) [xC2 x3 x0, xAx x3 x0, xEJ x0 x3, xAx x3 x0, xI1 x0 x3, xJg x3, xAx x3 x0, xNZ x0 x3, xAx x3 x0, xTV x0 x3] := by kernel_rfl
def xQ7 (x0 : Str) (x3 : Int) : rS 2 I114 (xGw x0 x3) [Y, Y, Y, F, F, F] [] = st 2 I114 (xGw x0 (W (x3 + 1))) [xC2 x3 x0, xAx x3 x0, xEJ x0 x3, xAx x3 x0, xI1 x0 x3, xJg x3, xAx x3 x0, xNZ x0 x3, xAx x3 x0, xTW x0 x3] := by kernel_rfl
def xQ8 (x0 : Str) (x3 : Int) : rS 2 I114 (xGw x0 x3) [Y, Y, F, F] [] = st 2 I114 (xGw x0 (W (x3 + 1))) [xC2 x3 x0, xAx x3 x0, xEJ x0 x3, xAx x3 x0, xO4 x0 x3, iN false] := by kernel_rfl
def xQ9 (x0 : Str) (x3 : Int) : rS 2 I114 (xGw x0 x3) [Y, F, Y, Y, Y, Y] [] = dn (xBZ false) [xC2 x3 x0, xAx x3 x0, xFq x0 x3, iY (!false), iY (x3 == 0), iY true, iY true] := by kernel_rfl
def xRa (x0 : Str) (x3 : Int) : rS 2 I114 (xGw x0 x3) [Y, F, Y, F, Y, Y] [] = dn (xBZ false) [xC2 x3 x0, xAx x3 x0, xFq x0 x3, iY (!false), xJg x3, xAx x3 x0, xTU x0 x3, iY true] := by kernel_rfl
def xRb (x0 : Str) (x3 : Int) : rS 2 I114 (xGw x0 x3) [Y, F, Y, F, F, Y] [] = dn (xBZ false) [xC2 x3 x0, xAx x3 x0, xFq x0 x3, iY (!false), xJg x3, xAx x3 x0, xNZ x0 x3, xAx x3 x0, xTV x0 x3] := by kernel_rfl
def xRc (x0 : Str) (x3 : Int) : rS 2 I114 (xGw x0 x3) [Y, F, Y, F, F, F] [] = st 2 I114 (xGw x0 (W (x3 + 1))) [xC2 x3 x0, xAx x3 x0, xFq x0 x3, iY (!false), xJg x3, xAx x3 x0, xNZ x0 x3, xAx x3 x0, xTW x0 x3] := by kernel_rfl
def xRd (x0 : Str) (x3 : Int) (r1 : Bool) : rS 2 I114 (xGw x0 x3) [F] [xA7 r1] = dn (xBZ r1) [xHi x3 x0, AbC 97 (xCQ (Ln x0 : Int) 1 8) (xA7 r1)] := by kernel_rfl
def xPo (a0 : Str) : rE I114 (xFp a0) [] [] = st 2 I114 (xGw a0 0) [] := by kernel_rfl
theorem xYD {N : Nat} : ∀ n x0 x3 r, xDv N n x0 x3 = some r → RS Tryz.f114 I114 2 (xGw x0 x3) (xBZ r) := by
 intro n
 induction n with
 | zero => exact fun _ _ _ h => nE h
 | succ n ih =>
  exact fun x0 x3 r h =>
   cE h (fun h0 h => iE h fun h1 h => cE h (fun h2 h => cE h (fun h4 h => cE h (fun h5 h => dS h xJQ (xQ4 x0 x3) (oc8 h0 h1 h2 h1 h4 h5 rfl rfl on)) fun h5 h =>
   cE h (fun h7 h => dS h xJQ (xQ5 x0 x3) (oc9 h0 h1 h2 h1 h4 h5 h1 h7 rfl on)) fun h7 h =>
   cE h (fun h9 h => dS h xJQ (xQ6 x0 x3) (oc10 h0 h1 h2 h1 h4 h5 h1 h7 h1 h9 on)) fun h9 h =>
   tS xJQ (xQ7 x0 x3) (oc10 h0 h1 h2 h1 h4 h5 h1 h7 h1 h9 on) (ih _ _ _ h)) fun h4 h =>
   tS xJQ (xQ8 x0 x3) (oc6 h0 h1 h2 h1 h4 rfl on) (ih _ _ _ h)) fun h2 h =>
   cE h (fun h4 h => dS h xJQ (xQ9 x0 x3) (oc7 h0 h1 h2 rfl h4 rfl rfl on)) fun h4 h =>
   cE h (fun h6 h => dS h xJQ (xRa x0 x3) (oc8 h0 h1 h2 rfl h4 h1 h6 rfl on)) fun h6 h =>
   cE h (fun h8 h => dS h xJQ (xRb x0 x3) (oc9 h0 h1 h2 rfl h4 h1 h6 h1 h8 on)) fun h8 h =>
   tS xJQ (xRc x0 x3) (oc9 h0 h1 h2 rfl h4 h1 h6 h1 h8 on) (ih _ _ _ h)) fun h0 h =>
   bE h fun r1 h1 h => dS h xJQ (xRd x0 x3 r1) (oc2 h0 (xDw h1) on)
theorem xYE {N : Nat} : ∀ a0 r, xHr N a0 = some r → RE Tryz.f114 I114 (xFp a0) (xBZ r) := fun a0 r h =>
 tE xJQ (xPo a0) on (xYD _ _ _ _ h)
theorem xIx {N : Nat} {a0 : Str} {r : Bool} (h : xHr N  a0 = some r) : AbC 114 (xFp a0) (xBZ r) :=
 AbsCalls.of_reach xJQ rfl rfl (Nat.le_of_ble_eq_true rfl) (xYE a0 r h)
end Go.Ab.T
end
