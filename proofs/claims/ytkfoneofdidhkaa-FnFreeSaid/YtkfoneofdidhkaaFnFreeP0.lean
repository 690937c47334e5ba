/- The statement FnFree holds: plain functions, certificates, laws. Conditions: none. -/
import Derived.Shelf.Slices.In.SortNone2
import Derived.Shelf.Sort.Plain
import Derived.Test.YtkfoneofdidhkaaChecked
import Derived.Test.YtkfoneofdidhkaaProg
import Derived.Test.YtkfoneofdidhkaaRows
import Derived.Test.YtkfoneofdidhkaaL2
set_option linter.all false
section
namespace Go.Ab
abbrev Ex (f : Fl) (e : Exp) : List CV := [.int .i64 (Exp.kind e), .int .i64 (Exp.n e), .str (Exp.text e), .sl f .exp (Exp.args e)]
abbrev Cu (f : Fl) (e : Cur) : List CV := [.sl f .byte (Cur.b e), .int .i64 (Cur.i e), .int .i64 (Cur.h e)]
end Go.Ab
end
section
namespace Go.Ab
def xED (a0 : Str) (a1 : List Str) (a2 : List Str) : List Arg := [.val (.v false [.str a0]), .val (.v false [.sl .ro .str a1]), .box [.sl .own .str a2]]
def xDG (r : (List Str)) : CallO := ⟨.tup [], [[.sl .own .str r]], []⟩
def xFz (N : Nat) (a0 : Str) (a1 : List Str) (a2 : List Str) : Option ((List Str)) := if List.length a2 + List.length [a0] ≤ Lim then some (a2 ++ [a0]) else none
def xDn (a0 : Str) (a1 : List Str) : List Arg := [.val (.v false [.str a0]), .box [.sl .own .str a1]]
def xCf (r : (List Str)) : CallO := ⟨.tup [], [[.sl .own .str r]], []⟩
def xDz (N : Nat) (a0 : Str) (a1 : List Str) : Option ((List Str)) := if List.length a1 + List.length [a0] ≤ Lim then some (a1 ++ [a0]) else none
def xFj (a0 : List Str) (a1 : Str) : List Arg := [.val (.v false [.sl .ro .str a0]), .val (.v false [.str a1])]
def xBR (r : Bool) : CallO := ⟨.v false [.bool r], [], []⟩
def xEG (N : Nat) : Nat → (List Str) → Str → Int → Option (Bool)
 | 0, _, _, _ => none
 | n + 1, x0, x1, x5 => bif (decide (x5 < (List.length x0 : Int))) then (if (0 : Int) ≤ x5 ∧ x5 < (List.length x0) then bif (((List.getD x0 (Int.toNat x5) Ty.str.dflt) : Str) == x1) then (some true) else ((xEG N n x0 x1 (IntKind.i64.wrap (x5 + 1)))) else none) else (some false)
def xFi (N : Nat) (a0 : List Str) (a1 : Str) : Option (Bool) := (xEG N N a0 a1 0)
def xBJ (a0 : Exp) (a1 : Str) (a2 : Str) (a3 : List Str) : List Arg := [.val (.v true (Ex .ro a0)), .val (.v false [.str a1]), .val (.v false [.str a2]), .val (.v false [.sl .ro .str a3])]
def xAH (r : Bool) : CallO := ⟨.v false [.bool r], [], []⟩
def xBj (N : Nat) (q0 : Exp → Str → Str → (List Str) → Option (Bool)) : Nat → Str → Str → (List Str) → Int → Exp → Option (Bool)
 | 0, _, _, _, _, _ => none
 | n + 1, x1, x2, x3, x9, b4 => bif (decide (x9 < (List.length (Exp.args b4) : Int))) then (bif ((Exp.kind b4) == 7) then (bif (decide (x9 > 0)) then (if 0 + List.length x3 ≤ Lim then if List.length ([] ++ x3) + List.length [(Exp.text b4)] ≤ Lim then if (0 : Int) ≤ x9 ∧ x9 < (List.length (Exp.args b4)) then (q0 (List.getD (Exp.args b4) (Int.toNat x9) Ty.exp.dflt) x1 x2 (([] ++ x3) ++ [(Exp.text b4)])).bind fun r1 => bif r1 then (some true) else ((xBj N q0 n x1 x2 x3 (IntKind.i64.wrap (x9 + 1)) b4)) else none else none else none) else (if (0 : Int) ≤ x9 ∧ x9 < (List.length (Exp.args b4)) then (q0 (List.getD (Exp.args b4) (Int.toNat x9) Ty.exp.dflt) x1 x2 x3).bind fun r1 => bif r1 then (some true) else ((xBj N q0 n x1 x2 x3 (IntKind.i64.wrap (x9 + 1)) b4)) else none)) else (bif ((Exp.kind b4) == 9) then (bif (decide (x9 > 0)) then (if 0 + List.length x3 ≤ Lim then if List.length ([] ++ x3) + List.length [(Exp.text b4)] ≤ Lim then if (0 : Int) ≤ x9 ∧ x9 < (List.length (Exp.args b4)) then (q0 (List.getD (Exp.args b4) (Int.toNat x9) Ty.exp.dflt) x1 x2 (([] ++ x3) ++ [(Exp.text b4)])).bind fun r1 => bif r1 then (some true) else ((xBj N q0 n x1 x2 x3 (IntKind.i64.wrap (x9 + 1)) b4)) else none else none else none) else (if (0 : Int) ≤ x9 ∧ x9 < (List.length (Exp.args b4)) then (q0 (List.getD (Exp.args b4) (Int.toNat x9) Ty.exp.dflt) x1 x2 x3).bind fun r1 => bif r1 then (some true) else ((xBj N q0 n x1 x2 x3 (IntKind.i64.wrap (x9 + 1)) b4)) else none)) else (if (0 : Int) ≤ x9 ∧ x9 < (List.length (Exp.args b4)) then (q0 (List.getD (Exp.args b4) (Int.toNat x9) Ty.exp.dflt) x1 x2 x3).bind fun r1 => bif r1 then (some true) else ((xBj N q0 n x1 x2 x3 (IntKind.i64.wrap (x9 + 1)) b4)) else none))) else (some false)
def xDT (N : Nat) (q0 : Exp → Str → Str → (List Str) → Option (Bool)) (a0 : Exp) (a1 : Str) (a2 : Str) (a3 : List Str) : Option (Bool) := bif ((Exp.kind a0) == 3) then ((xFi N a3 (Exp.text a0)).bind fun r1 => bif (!r1) then (bif (((Exp.text a0) : Str) == a1) then ((xFi N a3 a2).bind fun r2 => some r2) else (some false)) else ((xBj N q0 N a1 a2 a3 0 a0))) else ((xBj N q0 N a1 a2 a3 0 a0))
def xDf (N : Nat) : Nat → Exp → Str → Str → (List Str) → Option (Bool)
 | 0, _, _, _, _ => none
 | d + 1, a0, a1, a2, a3 => xDT N (xDf N d) a0 a1 a2 a3
def xHd (N : Nat) (a0 : Exp) (a1 : Str) (a2 : Str) (a3 : List Str) : Option (Bool) := xDf N N a0 a1 a2 a3
def xD9 (a0 : Exp) (a1 : Str) (a2 : Str) : List Arg := [.val (.v true (Ex .ro a0)), .val (.v false [.str a1]), .val (.v false [.str a2])]
def xCG (r : Bool) : CallO := ⟨.v false [.bool r], [], []⟩
def xE4 (N : Nat) (a0 : Exp) (a1 : Str) (a2 : Str) : Option (Bool) := (xHd N a0 a1 a2 []).bind fun r1 => some r1
def xDH (a0 : List Str) (a1 : Str) : List Arg := [.val (.v false [.sl .ro .str a0]), .val (.v false [.str a1])]
def xA9 (r : Int) : CallO := ⟨.v false [.int .i64 r], [], []⟩
def xDI (N : Nat) : Nat → Str → (List Str) → Int → Int → Option (Int)
 | 0, _, _, _, _ => none
 | n + 1, x1, x7, x8, x9 => bif (decide (x9 < x8)) then (if (0 : Int) ≤ x9 ∧ x9 < (List.length x7) then bif (((List.getD x7 (Int.toNat x9) Ty.str.dflt) : Str) == x1) then (some x9) else ((xDI N n x1 x7 x8 (IntKind.i64.wrap (x9 + 1)))) else none) else (some (-1))
def xCL (N : Nat) (a0 : List Str) (a1 : Str) : Option (Int) := (xDI N N a1 a0 (List.length a0 : Int) 0)
def xAA (a0 : Exp) (a1 : List Str) (a2 : List Str) : List Arg := [.box [.clo 51 [1000003], .val .nilFunc], .val (.v true (Ex .ro a0)), .val (.v false [.sl .ro .str a1]), .gbox [.sl .own .str a2]]
def xAs (r : (List Str)) : CallO := ⟨.tup [], [[.clo 51 [1000003], .val .nilFunc], [.sl .own .str r]], []⟩
def xAB (N : Nat) (q0 : Exp → (List Str) → (List Str) → Option ((List Str))) : Nat → (List Str) → Bool → (List Exp) → Int → Int → Exp → (List Str) → Option ((List Str))
 | 0, _, _, _, _, _, _, _ => none
 | n + 1, x2, x6, x57, x58, x59, b4, b1000003 => bif (decide (x59 < x58)) then (if (0 : Int) ≤ x59 ∧ x59 < (List.length x57) then bif x6 then (bif (decide (x59 > 0)) then (if 0 + List.length x2 ≤ Lim then if List.length ([] ++ x2) + List.length [(Exp.text b4)] ≤ Lim then (q0 (List.getD x57 (Int.toNat x59) Ty.exp.dflt) (([] ++ x2) ++ [(Exp.text b4)]) b1000003).bind fun r1 => (xAB N q0 n x2 x6 x57 x58 (IntKind.i64.wrap (x59 + 1)) b4 r1) else none else none) else ((q0 (List.getD x57 (Int.toNat x59) Ty.exp.dflt) x2 b1000003).bind fun r1 => (xAB N q0 n x2 x6 x57 x58 (IntKind.i64.wrap (x59 + 1)) b4 r1))) else ((q0 (List.getD x57 (Int.toNat x59) Ty.exp.dflt) x2 b1000003).bind fun r1 => (xAB N q0 n x2 x6 x57 x58 (IntKind.i64.wrap (x59 + 1)) b4 r1)) else none) else (some b1000003)
def xBt (N : Nat) (q0 : Exp → (List Str) → (List Str) → Option ((List Str))) (a0 : Exp) (a1 : List Str) (a2 : List Str) : Option ((List Str)) := bif ((Exp.kind a0) == 3) then ((xCL N a1 (Exp.text a0)).bind fun r1 => bif (decide (r1 < 0)) then ((xFz N (Exp.text a0) a1 a2).bind fun r2 => some r2) else ((xAB N q0 N a1 ((Exp.kind a0) == 9) (Exp.args a0) (List.length (Exp.args a0) : Int) 0 a0 a2))) else (bif ((Exp.kind a0) == 7) then ((xAB N q0 N a1 true (Exp.args a0) (List.length (Exp.args a0) : Int) 0 a0 a2)) else (bif ((Exp.kind a0) == 9) then ((xAB N q0 N a1 ((Exp.kind a0) == 9) (Exp.args a0) (List.length (Exp.args a0) : Int) 0 a0 a2)) else ((xAB N q0 N a1 ((Exp.kind a0) == 9) (Exp.args a0) (List.length (Exp.args a0) : Int) 0 a0 a2))))
def xBf (N : Nat) : Nat → Exp → (List Str) → (List Str) → Option ((List Str))
 | 0, _, _, _ => none
 | d + 1, a0, a1, a2 => xBt N (xBf N d) a0 a1 a2
def xC3 (N : Nat) (a0 : Exp) (a1 : List Str) (a2 : List Str) : Option ((List Str)) := xBf N N a0 a1 a2
def xAw (a0 : Exp) (a1 : List Str) (a2 : List Str) : List Arg := [.box [.val .nilFunc, .clo 47 [1000003]], .val (.v true (Ex .ro a0)), .val (.v false [.sl .ro .str a1]), .gbox [.sl .own .str a2]]
def xAu (r : (List Str)) : CallO := ⟨.tup [], [[.val .nilFunc, .clo 47 [1000003]], [.sl .own .str r]], []⟩
def xAt (N : Nat) (q0 : Exp → (List Str) → (List Str) → Option ((List Str))) : Nat → (List Str) → Bool → (List Exp) → Int → Int → Exp → (List Str) → Option ((List Str))
 | 0, _, _, _, _, _, _, _ => none
 | n + 1, x2, x6, x57, x58, x59, b4, b1000003 => bif (decide (x59 < x58)) then (if (0 : Int) ≤ x59 ∧ x59 < (List.length x57) then bif x6 then (bif (decide (x59 > 0)) then (if 0 + List.length x2 ≤ Lim then if List.length ([] ++ x2) + List.length [(Exp.text b4)] ≤ Lim then (q0 (List.getD x57 (Int.toNat x59) Ty.exp.dflt) (([] ++ x2) ++ [(Exp.text b4)]) b1000003).bind fun r1 => (xAt N q0 n x2 x6 x57 x58 (IntKind.i64.wrap (x59 + 1)) b4 r1) else none else none) else ((q0 (List.getD x57 (Int.toNat x59) Ty.exp.dflt) x2 b1000003).bind fun r1 => (xAt N q0 n x2 x6 x57 x58 (IntKind.i64.wrap (x59 + 1)) b4 r1))) else ((q0 (List.getD x57 (Int.toNat x59) Ty.exp.dflt) x2 b1000003).bind fun r1 => (xAt N q0 n x2 x6 x57 x58 (IntKind.i64.wrap (x59 + 1)) b4 r1)) else none) else (some b1000003)
def xBp (N : Nat) (q0 : Exp → (List Str) → (List Str) → Option ((List Str))) (a0 : Exp) (a1 : List Str) (a2 : List Str) : Option ((List Str)) := bif ((Exp.kind a0) == 3) then ((xCL N a1 (Exp.text a0)).bind fun r1 => bif (decide (r1 < 0)) then ((xAt N q0 N a1 ((Exp.kind a0) == 9) (Exp.args a0) (List.length (Exp.args a0) : Int) 0 a0 a2)) else ((xAt N q0 N a1 ((Exp.kind a0) == 9) (Exp.args a0) (List.length (Exp.args a0) : Int) 0 a0 a2))) else (bif ((Exp.kind a0) == 7) then ((xDz N (Exp.text a0) a2).bind fun r1 => (xAt N q0 N a1 true (Exp.args a0) (List.length (Exp.args a0) : Int) 0 a0 r1)) else (bif ((Exp.kind a0) == 9) then ((xDz N (Exp.text a0) a2).bind fun r1 => (xAt N q0 N a1 ((Exp.kind a0) == 9) (Exp.args a0) (List.length (Exp.args a0) : Int) 0 a0 r1)) else ((xAt N q0 N a1 ((Exp.kind a0) == 9) (Exp.args a0) (List.length (Exp.args a0) : Int) 0 a0 a2))))
def xBd (N : Nat) : Nat → Exp → (List Str) → (List Str) → Option ((List Str))
 | 0, _, _, _ => none
 | d + 1, a0, a1, a2 => xBp N (xBd N d) a0 a1 a2
def xCR (N : Nat) (a0 : Exp) (a1 : List Str) (a2 : List Str) : Option ((List Str)) := xBd N N a0 a1 a2
def xCK (a0 : Str) (a1 : List Str) (a2 : Bool) (a3 : Str) (a4 : Str) : List Arg := [.val (.v false [.str a0]), .val (.v false [.sl .ro .str a1]), .box [.bool a2], .box [.str a3], .box [.str a4]]
def xCg (r : Bool × Str × Str) : CallO := ⟨.tup [], [[.bool r.1], [.str r.2.1], [.str r.2.2]], []⟩
def xFc (N : Nat) (a0 : Str) (a1 : List Str) (a2 : Bool) (a3 : Str) (a4 : Str) : Option (Bool × Str × Str) := bif a2 then (some (true, a3, a4)) else (bif ((a0 : Str) == a3) then ((xCL N a1 a4).bind fun r1 => some ((decide (r1 ≥ 0)), a3, a4)) else (some (false, a3, a4)))
def xAx (a0 : Exp) (a1 : List Str) (a2 : Bool) (a3 : Str) (a4 : Str) : List Arg := [.box [.clo 33 [1000003, 1000004, 1000005], .val .nilFunc], .val (.v true (Ex .ro a0)), .val (.v false [.sl .ro .str a1]), .gbox [.bool a2], .gbox [.str a3], .gbox [.str a4]]
def xAr (r : Bool × Str × Str) : CallO := ⟨.tup [], [[.clo 33 [1000003, 1000004, 1000005], .val .nilFunc], [.bool r.1], [.str r.2.1], [.str r.2.2]], []⟩
def xAy (N : Nat) (q0 : Exp → (List Str) → Bool → Str → Str → Option (Bool × Str × Str)) : Nat → (List Str) → Bool → (List Exp) → Int → Int → Exp → Bool → Str → Str → Option (Bool × Str × Str)
 | 0, _, _, _, _, _, _, _, _, _ => none
 | n + 1, x2, x6, x57, x58, x59, b4, b1000003, b1000004, b1000005 => bif (decide (x59 < x58)) then (if (0 : Int) ≤ x59 ∧ x59 < (List.length x57) then bif x6 then (bif (decide (x59 > 0)) then (if 0 + List.length x2 ≤ Lim then if List.length ([] ++ x2) + List.length [(Exp.text b4)] ≤ Lim then (q0 (List.getD x57 (Int.toNat x59) Ty.exp.dflt) (([] ++ x2) ++ [(Exp.text b4)]) b1000003 b1000004 b1000005).bind fun r1 => (xAy N q0 n x2 x6 x57 x58 (IntKind.i64.wrap (x59 + 1)) b4 r1.1 r1.2.1 r1.2.2) else none else none) else ((q0 (List.getD x57 (Int.toNat x59) Ty.exp.dflt) x2 b1000003 b1000004 b1000005).bind fun r1 => (xAy N q0 n x2 x6 x57 x58 (IntKind.i64.wrap (x59 + 1)) b4 r1.1 r1.2.1 r1.2.2))) else ((q0 (List.getD x57 (Int.toNat x59) Ty.exp.dflt) x2 b1000003 b1000004 b1000005).bind fun r1 => (xAy N q0 n x2 x6 x57 x58 (IntKind.i64.wrap (x59 + 1)) b4 r1.1 r1.2.1 r1.2.2)) else none) else (some (b1000003, b1000004, b1000005))
def xBq (N : Nat) (q0 : Exp → (List Str) → Bool → Str → Str → Option (Bool × Str × Str)) (a0 : Exp) (a1 : List Str) (a2 : Bool) (a3 : Str) (a4 : Str) : Option (Bool × Str × Str) := bif ((Exp.kind a0) == 3) then ((xCL N a1 (Exp.text a0)).bind fun r1 => bif (decide (r1 < 0)) then ((xFc N (Exp.text a0) a1 a2 a3 a4).bind fun r2 => some (r2.1, r2.2.1, r2.2.2)) else ((xAy N q0 N a1 ((Exp.kind a0) == 9) (Exp.args a0) (List.length (Exp.args a0) : Int) 0 a0 a2 a3 a4))) else (bif ((Exp.kind a0) == 7) then ((xAy N q0 N a1 true (Exp.args a0) (List.length (Exp.args a0) : Int) 0 a0 a2 a3 a4)) else (bif ((Exp.kind a0) == 9) then ((xAy N q0 N a1 ((Exp.kind a0) == 9) (Exp.args a0) (List.length (Exp.args a0) : Int) 0 a0 a2 a3 a4)) else ((xAy N q0 N a1 ((Exp.kind a0) == 9) (Exp.args a0) (List.length (Exp.args a0) : Int) 0 a0 a2 a3 a4))))
def xBe (N : Nat) : Nat → Exp → (List Str) → Bool → Str → Str → Option (Bool × Str × Str)
 | 0, _, _, _, _, _ => none
 | d + 1, a0, a1, a2, a3, a4 => xBq N (xBe N d) a0 a1 a2 a3 a4
def xCS (N : Nat) (a0 : Exp) (a1 : List Str) (a2 : Bool) (a3 : Str) (a4 : Str) : Option (Bool × Str × Str) := xBe N N a0 a1 a2 a3 a4
def xC9 (a0 : Exp) (a1 : Str) (a2 : Str) : List Arg := [.val (.v true (Ex .ro a0)), .val (.v false [.str a1]), .val (.v false [.str a2])]
def xAU (r : Bool) : CallO := ⟨.v false [.bool r], [], []⟩
def xCF (N : Nat) (a0 : Exp) (a1 : Str) (a2 : Str) : Option (Bool) := (xCS N a0 [] false a1 a2).bind fun r1 => some r1.1
def xCr (N : Nat) (q0 : Exp → Option ((List Str))) : Nat → (List Str) → Int → Exp → Option ((List Str))
 | 0, _, _, _ => none
 | n + 1, x3, x4, b1 => bif (decide (x4 < (List.length (Exp.args b1) : Int))) then (if (0 : Int) ≤ x4 ∧ x4 < (List.length (Exp.args b1)) then (q0 (List.getD (Exp.args b1) (Int.toNat x4) Ty.exp.dflt)).bind fun r1 => if List.length x3 + List.length r1 ≤ Lim then (xCr N q0 n (x3 ++ r1) (IntKind.i64.wrap (x4 + 1)) b1) else none else none) else (some x3)
def xF1 (N : Nat) (q0 : Exp → Option ((List Str))) (a0 : Exp) : Option ((List Str)) := bif ((Exp.kind a0) == 7) then (if 0 + List.length [(Exp.text a0)] ≤ Lim then (xCr N q0 N ([] ++ [(Exp.text a0)]) 0 a0) else none) else (bif ((Exp.kind a0) == 9) then (if 0 + List.length [(Exp.text a0)] ≤ Lim then (xCr N q0 N ([] ++ [(Exp.text a0)]) 0 a0) else none) else ((xCr N q0 N [] 0 a0)))
def xEw (N : Nat) : Nat → Exp → Option ((List Str))
 | 0, _ => none
 | d + 1, a0 => xF1 N (xEw N d) a0
def xIN (N : Nat) (a0 : Exp) : Option ((List Str)) := xEw N N a0
def xFf (a0 : List Str) : List Arg := [.val (.v false [.sl .ro .str a0])]
def xCB (r : (List Str)) : CallO := ⟨.v false [.sl .own .str r], [], []⟩
def xCW (N : Nat) (k3 : (List Str) → (List Str) → Int → Option ((List Str))) : Nat → (List Str) → (List Str) → Int → Int → Option ((List Str))
 | 0, _, _, _, _ => none
 | n + 1, x0, x3, x4, x5 => bif (decide (x5 < (List.length x3 : Int))) then (if (0 : Int) ≤ x5 ∧ x5 < (List.length x3) then if (0 : Int) ≤ x4 ∧ x4 < (List.length x0) then bif (Op.bytesLess (List.getD x3 (Int.toNat x5) Ty.str.dflt) (List.getD x0 (Int.toNat x4) Ty.str.dflt)) then ((xCW N k3 n x0 x3 x4 (IntKind.i64.wrap (x5 + 1)))) else (bif (((List.getD x3 (Int.toNat x5) Ty.str.dflt) : Str) == (List.getD x0 (Int.toNat x4) Ty.str.dflt)) then ((k3 x0 x3 (IntKind.i64.wrap (x4 + 1)))) else (if (0 : Int) ≤ x5 ∧ x5 ≤ (List.length x3) then if 0 + List.length (List.drop (Int.toNat x5) x3) ≤ Lim then if List.length (List.take (Int.toNat x5) x3) + List.length [(List.getD x0 (Int.toNat x4) Ty.str.dflt)] ≤ Lim then if List.length ((List.take (Int.toNat x5) x3) ++ [(List.getD x0 (Int.toNat x4) Ty.str.dflt)]) + List.length ([] ++ (List.drop (Int.toNat x5) x3)) ≤ Lim then (k3 x0 (((List.take (Int.toNat x5) x3) ++ [(List.getD x0 (Int.toNat x4) Ty.str.dflt)]) ++ ([] ++ (List.drop (Int.toNat x5) x3))) (IntKind.i64.wrap (x4 + 1))) else none else none else none else none)) else none else none) else (if (0 : Int) ≤ x5 ∧ x5 ≤ (List.length x3) then if 0 + List.length (List.drop (Int.toNat x5) x3) ≤ Lim then if (0 : Int) ≤ x4 ∧ x4 < (List.length x0) then if List.length (List.take (Int.toNat x5) x3) + List.length [(List.getD x0 (Int.toNat x4) Ty.str.dflt)] ≤ Lim then if List.length ((List.take (Int.toNat x5) x3) ++ [(List.getD x0 (Int.toNat x4) Ty.str.dflt)]) + List.length ([] ++ (List.drop (Int.toNat x5) x3)) ≤ Lim then (k3 x0 (((List.take (Int.toNat x5) x3) ++ [(List.getD x0 (Int.toNat x4) Ty.str.dflt)]) ++ ([] ++ (List.drop (Int.toNat x5) x3))) (IntKind.i64.wrap (x4 + 1))) else none else none else none else none else none)
def xDE (N : Nat) : Nat → (List Str) → (List Str) → Int → Option ((List Str))
 | 0, _, _, _ => none
 | n + 1, x0, x3, x4 => bif (decide (x4 < (List.length x0 : Int))) then ((xCW N (fun z0 z1 z2 => (xDE N n z0 z1 z2)) N x0 x3 x4 0)) else (some x3)
def xFx (N : Nat) (a0 : List Str) : Option ((List Str)) := (xDE N N a0 [] 0)
def xHW (N : Nat) (a0 : Exp) : Option ((List Str)) := (xIN N a0).bind fun r1 => (xFx N r1).bind fun r2 => some r2
def xHU (a0 : List Str) : List Arg := [.val (.v false [.sl (.lnt 0) .str a0])]
def xGQ (r : (List Str)) : CallO := ⟨.tup [], [], [.sl (.lnt 0) .str r]⟩
def sort_Strings (N : Nat) (a0 : List Str) : Option (List Str) := zF0 a0
def xEk (a0 : List Str) : List Arg := [.val (.v false [.sl .ro .str a0])]
def xCx (r : (List Str)) : CallO := ⟨.v false [.sl .own .str r], [], []⟩
def xCw (N : Nat) : Nat → (List Str) → (List Str) → (List Str) → Int → Int → Option ((List Str))
 | 0, _, _, _, _, _ => none
 | n + 1, x0, x3, x7, x8, x9 => bif (decide (x9 < x8)) then (if (0 : Int) ≤ x9 ∧ x9 < (List.length x7) then (xCL N x0 (List.getD x7 (Int.toNat x9) Ty.str.dflt)).bind fun r1 => bif (r1 == x9) then (if List.length x3 + List.length [(List.getD x7 (Int.toNat x9) Ty.str.dflt)] ≤ Lim then (xCw N n x0 (x3 ++ [(List.getD x7 (Int.toNat x9) Ty.str.dflt)]) x7 x8 (IntKind.i64.wrap (x9 + 1))) else none) else ((xCw N n x0 x3 x7 x8 (IntKind.i64.wrap (x9 + 1)))) else none) else ((sort_Strings N x3).bind fun r1 => if List.length r1 = List.length x3 then some r1 else none)
def xFt (N : Nat) (a0 : List Str) : Option ((List Str)) := (xCw N N a0 [] a0 (List.length a0 : Int) 0)
def xD6 (a0 : Exp) : List Arg := [.val (.v true (Ex .ro a0))]
def xAi (r : (List Str)) : CallO := ⟨.v false [.sl .own .str r], [], []⟩
def xBS (N : Nat) (a0 : Exp) : Option ((List Str)) := (xCR N a0 [] []).bind fun r1 => (xFt N r1).bind fun r2 => some r2
def xBK (a0 : Exp) (a1 : List Str) : List Arg := [.val (.v true (Ex .ro a0)), .val (.v false [.sl .ro .str a1])]
def xA6 (r : (List Str)) : CallO := ⟨.v false [.sl .own .str r], [], []⟩
def xBX (N : Nat) (q0 : Exp → (List Str) → Option ((List Str))) : Nat → (List Str) → (List Str) → Int → Exp → Option ((List Str))
 | 0, _, _, _, _ => none
 | n + 1, x1, x5, x6, b2 => bif (decide (x6 < (List.length (Exp.args b2) : Int))) then (bif ((Exp.kind b2) == 7) then (bif (decide (x6 > 0)) then (if 0 + List.length x1 ≤ Lim then if List.length ([] ++ x1) + List.length [(Exp.text b2)] ≤ Lim then if (0 : Int) ≤ x6 ∧ x6 < (List.length (Exp.args b2)) then (q0 (List.getD (Exp.args b2) (Int.toNat x6) Ty.exp.dflt) (([] ++ x1) ++ [(Exp.text b2)])).bind fun r1 => if List.length x5 + List.length r1 ≤ Lim then (xBX N q0 n x1 (x5 ++ r1) (IntKind.i64.wrap (x6 + 1)) b2) else none else none else none else none) else (if (0 : Int) ≤ x6 ∧ x6 < (List.length (Exp.args b2)) then (q0 (List.getD (Exp.args b2) (Int.toNat x6) Ty.exp.dflt) x1).bind fun r1 => if List.length x5 + List.length r1 ≤ Lim then (xBX N q0 n x1 (x5 ++ r1) (IntKind.i64.wrap (x6 + 1)) b2) else none else none)) else (bif ((Exp.kind b2) == 9) then (bif (decide (x6 > 0)) then (if 0 + List.length x1 ≤ Lim then if List.length ([] ++ x1) + List.length [(Exp.text b2)] ≤ Lim then if (0 : Int) ≤ x6 ∧ x6 < (List.length (Exp.args b2)) then (q0 (List.getD (Exp.args b2) (Int.toNat x6) Ty.exp.dflt) (([] ++ x1) ++ [(Exp.text b2)])).bind fun r1 => if List.length x5 + List.length r1 ≤ Lim then (xBX N q0 n x1 (x5 ++ r1) (IntKind.i64.wrap (x6 + 1)) b2) else none else none else none else none) else (if (0 : Int) ≤ x6 ∧ x6 < (List.length (Exp.args b2)) then (q0 (List.getD (Exp.args b2) (Int.toNat x6) Ty.exp.dflt) x1).bind fun r1 => if List.length x5 + List.length r1 ≤ Lim then (xBX N q0 n x1 (x5 ++ r1) (IntKind.i64.wrap (x6 + 1)) b2) else none else none)) else (if (0 : Int) ≤ x6 ∧ x6 < (List.length (Exp.args b2)) then (q0 (List.getD (Exp.args b2) (Int.toNat x6) Ty.exp.dflt) x1).bind fun r1 => if List.length x5 + List.length r1 ≤ Lim then (xBX N q0 n x1 (x5 ++ r1) (IntKind.i64.wrap (x6 + 1)) b2) else none else none))) else (some x5)
def xEx (N : Nat) (q0 : Exp → (List Str) → Option ((List Str))) (a0 : Exp) (a1 : List Str) : Option ((List Str)) := bif ((Exp.kind a0) == 3) then ((xFi N a1 (Exp.text a0)).bind fun r1 => bif (!r1) then (if 0 + List.length [(Exp.text a0)] ≤ Lim then some ([] ++ [(Exp.text a0)]) else none) else ((xBX N q0 N a1 [] 0 a0))) else ((xBX N q0 N a1 [] 0 a0))
def xD5 (N : Nat) : Nat → Exp → (List Str) → Option ((List Str))
 | 0, _, _ => none
 | d + 1, a0, a1 => xEx N (xD5 N d) a0 a1
def xH3 (N : Nat) (a0 : Exp) (a1 : List Str) : Option ((List Str)) := xD5 N N a0 a1
def xFe (a0 : Exp) : List Arg := [.val (.v true (Ex .ro a0))]
def xAf (r : (List Str)) : CallO := ⟨.v false [.sl .own .str r], [], []⟩
def xCC (N : Nat) (a0 : Exp) : Option ((List Str)) := (xH3 N a0 []).bind fun r1 => (xFx N r1).bind fun r2 => some r2
def xEj (a0 : Exp) : List Arg := [.val (.v true (Ex .ro a0))]
def xAc (r : (List Str)) : CallO := ⟨.v false [.sl .own .str r], [], []⟩
def xDv (N : Nat) (a0 : Exp) : Option ((List Str)) := (xC3 N a0 [] []).bind fun r1 => (xFt N r1).bind fun r2 => some r2
def xCI (a0 : Exp) (a1 : Int) : List Arg := [.val (.v true (Ex .ro a0)), .val (.v false [.int .i64 a1])]
def xBu (r : Int) : CallO := ⟨.v false [.int .i64 r], [], []⟩
def xC7 (N : Nat) (q0 : Exp → Int → Option (Int)) : Nat → Int → Int → Exp → Option (Int)
 | 0, _, _, _ => none
 | n + 1, x1, x5, b2 => bif (decide (x5 < (List.length (Exp.args b2) : Int))) then (bif (decide (x1 ≥ 0)) then (if (0 : Int) ≤ x5 ∧ x5 < (List.length (Exp.args b2)) then (q0 (List.getD (Exp.args b2) (Int.toNat x5) Ty.exp.dflt) x1).bind fun r1 => (xC7 N q0 n r1 (IntKind.i64.wrap (x5 + 1)) b2) else none) else (some x1)) else (some x1)
def xGf (N : Nat) (q0 : Exp → Int → Option (Int)) (a0 : Exp) (a1 : Int) : Option (Int) := (xC7 N q0 N (IntKind.i64.wrap (a1 - 1)) 0 a0)
def xD2 (N : Nat) : Nat → Exp → Int → Option (Int)
 | 0, _, _ => none
 | d + 1, a0, a1 => xGf N (xD2 N d) a0 a1
def xHY (N : Nat) (a0 : Exp) (a1 : Int) : Option (Int) := xD2 N N a0 a1
def xF2 (a0 : Int) (a1 : Int) : List Arg := [.val (.v false [.int .i64 a0]), .val (.v false [.int .i64 a1])]
def xFk (r : Int) : CallO := ⟨.v false [.int .i64 r], [], []⟩
def xHn (N : Nat) (a0 : Int) (a1 : Int) : Option (Int) := bif (decide (a0 > a1)) then (some a0) else (some a1)
def xCA (a0 : Exp) : List Arg := [.val (.v true (Ex .ro a0))]
def xBz (r : Int) : CallO := ⟨.v false [.int .i64 r], [], []⟩
def xDD (N : Nat) (q0 : Exp → Option (Int)) : Nat → Int → Int → Exp → Option (Int)
 | 0, _, _, _ => none
 | n + 1, x3, x4, b1 => bif (decide (x4 < (List.length (Exp.args b1) : Int))) then (if (0 : Int) ≤ x4 ∧ x4 < (List.length (Exp.args b1)) then (q0 (List.getD (Exp.args b1) (Int.toNat x4) Ty.exp.dflt)).bind fun r1 => (xHn N x3 r1).bind fun r2 => (xDD N q0 n r2 (IntKind.i64.wrap (x4 + 1)) b1) else none) else (some (IntKind.i64.wrap (x3 + 1)))
def xFI (N : Nat) (q0 : Exp → Option (Int)) (a0 : Exp) : Option (Int) := (xDD N q0 N 0 0 a0)
def xEb (N : Nat) : Nat → Exp → Option (Int)
 | 0, _ => none
 | d + 1, a0 => xFI N (xEb N d) a0
def xHc (N : Nat) (a0 : Exp) : Option (Int) := xEb N N a0
def xFN (a0 : Int) (a1 : Int) (a2 : Int) : List Arg := [.val (.v false [.int .i64 a0]), .val (.v false [.int .i64 a1]), .val (.v false [.int .i64 a2])]
def xEC (r : Bool) : CallO := ⟨.v false [.bool r], [], []⟩
def xHm (N : Nat) (a0 : Int) (a1 : Int) (a2 : Int) : Option (Bool) := bif (decide (a0 ≥ a1)) then (some (decide (a0 ≤ a2))) else (some false)
def xEE (a0 : Str) : List Arg := [.val (.v false [.str a0])]
def xBQ (r : Bool) : CallO := ⟨.v false [.bool r], [], []⟩
def xB7 (N : Nat) : Nat → Str → Int → Option (Bool)
 | 0, _, _ => none
 | n + 1, x0, x3 => bif (decide (x3 < (List.length x0 : Int))) then (if (0 : Int) ≤ x3 ∧ x3 < (List.length x0) then bif (decide ((((List.getD x0 (Int.toNat x3) 0).toNat : Int) : Int) < 32)) then (some false) else (bif (decide ((((List.getD x0 (Int.toNat x3) 0).toNat : Int) : Int) > 126)) then (some false) else (bif ((((List.getD x0 (Int.toNat x3) 0).toNat : Int) : Int) == 34) then (some false) else ((xB7 N n x0 (IntKind.i64.wrap (x3 + 1)))))) else none) else (some (decide ((List.length x0 : Int) ≤ 20)))
def xFB (N : Nat) (a0 : Str) : Option (Bool) := (xB7 N N a0 0)
def xEz (a0 : Str) : List Arg := [.val (.v false [.str a0])]
def xBa (r : Bool) : CallO := ⟨.v false [.bool r], [], []⟩
def xCn (N : Nat) : Nat → Str → Int → Option (Bool)
 | 0, _, _ => none
 | n + 1, x0, x3 => bif (decide (x3 < (List.length x0 : Int))) then (if (0 : Int) ≤ x3 ∧ x3 < (List.length x0) then bif (decide ((((List.getD x0 (Int.toNat x3) 0).toNat : Int) : Int) ≥ 97)) then (bif (decide ((((List.getD x0 (Int.toNat x3) 0).toNat : Int) : Int) ≥ 48)) then (bif (!(decide ((((List.getD x0 (Int.toNat x3) 0).toNat : Int) : Int) ≤ 122))) then (bif (x3 == 0) then (some false) else (bif (!(decide ((((List.getD x0 (Int.toNat x3) 0).toNat : Int) : Int) ≤ 57))) then (some false) else ((xCn N n x0 (IntKind.i64.wrap (x3 + 1)))))) else ((xCn N n x0 (IntKind.i64.wrap (x3 + 1))))) else (bif (!(decide ((((List.getD x0 (Int.toNat x3) 0).toNat : Int) : Int) ≤ 122))) then (bif (x3 == 0) then (some false) else (some false)) else ((xCn N n x0 (IntKind.i64.wrap (x3 + 1)))))) else (bif (decide ((((List.getD x0 (Int.toNat x3) 0).toNat : Int) : Int) ≥ 48)) then (bif (x3 == 0) then (some false) else (bif (!(decide ((((List.getD x0 (Int.toNat x3) 0).toNat : Int) : Int) ≤ 57))) then (some false) else ((xCn N n x0 (IntKind.i64.wrap (x3 + 1)))))) else (bif (x3 == 0) then (some false) else (some false))) else none) else (some (decide ((List.length x0 : Int) > 0)))
def xG7 (N : Nat) (a0 : Str) : Option (Bool) := (xCn N N a0 0)
def xEW : List Arg := []
def xEc (r : (List Str)) : CallO := ⟨.v false [.sl .own .str r], [], []⟩
def xF4 (N : Nat) : Option ((List Str)) := some [[108, 101, 116], [105, 110], [105, 102], [116, 104, 101, 110], [101, 108, 115, 101], [102, 111, 114], [100, 111], [108, 101, 110], [115, 117, 109], [116, 97, 107, 101], [115, 107, 105, 112], [114, 97, 110, 103, 101], [110, 116, 104], [119, 104, 101, 114, 101], [107, 101, 101, 112], [97, 100, 100], [103, 114, 111, 117, 112], [106, 111, 105, 110], [99, 111, 108, 117, 109, 110], [114, 111, 119, 115], [99, 108, 111, 99, 107], [99, 104, 97, 110, 99, 101], [102, 105, 108, 101], [116, 97, 98, 108, 101]]
def xEV (a0 : Str) : List Arg := [.val (.v false [.str a0])]
def xEa (r : Bool) : CallO := ⟨.v false [.bool r], [], []⟩
def xE5 (N : Nat) (a0 : Str) : Option (Bool) := (xF4 N).bind fun r1 => (xFi N r1 a0).bind fun r2 => some r2
def xBP (a0 : Str) : List Arg := [.val (.v false [.str a0])]
def xAT (r : Bool) : CallO := ⟨.v false [.bool r], [], []⟩
def xCp (N : Nat) (a0 : Str) : Option (Bool) := (xG7 N a0).bind fun r1 => bif r1 then (bif (decide ((List.length a0 : Int) ≤ 8)) then ((xE5 N a0).bind fun r2 => some (!r2)) else (some false)) else (some false)
def xAF (a0 : Str) : List Arg := [.val (.v false [.str a0])]
def xAE (r : Int) : CallO := ⟨.v false [.int .i64 r], [], []⟩
def xB2 (N : Nat) (a0 : Str) : Option (Int) := bif ((a0 : Str) == [99, 108, 111, 99, 107]) then (some 0) else (bif ((a0 : Str) == [108, 101, 110]) then (some 1) else (bif ((a0 : Str) == [115, 117, 109]) then (some 1) else (bif ((a0 : Str) == [114, 111, 119, 115]) then (some 1) else (bif ((a0 : Str) == [99, 104, 97, 110, 99, 101]) then (some 1) else (bif ((a0 : Str) == [102, 105, 108, 101]) then (some 1) else (bif ((a0 : Str) == [116, 97, 107, 101]) then (some 2) else (bif ((a0 : Str) == [115, 107, 105, 112]) then (some 2) else (bif ((a0 : Str) == [114, 97, 110, 103, 101]) then (some 2) else (bif ((a0 : Str) == [110, 116, 104]) then (some 2) else (bif ((a0 : Str) == [107, 101, 101, 112]) then (some 2) else (bif ((a0 : Str) == [99, 111, 108, 117, 109, 110]) then (some 2) else (bif ((a0 : Str) == [116, 97, 98, 108, 101]) then (some 2) else (bif ((a0 : Str) == [119, 104, 101, 114, 101]) then (some 3) else (bif ((a0 : Str) == [103, 114, 111, 117, 112]) then (some 3) else (bif ((a0 : Str) == [106, 111, 105, 110]) then (some 3) else (bif ((a0 : Str) == [97, 100, 100]) then (some 4) else (some (-1))))))))))))))))))
def xAJ (a0 : Exp) : List Arg := [.val (.v true (Ex .ro a0))]
def xAI (r : Bool) : CallO := ⟨.v false [.bool r], [], []⟩
def xGu (N : Nat) (a0 : Exp) : Option (Bool) := bif ((Exp.kind a0) == 1) then (bif ((List.length (Exp.args a0) : Int) == 0) then (bif (((Exp.text a0) : Str) == []) then ((xHm N (Exp.n a0) 0 1000000000).bind fun r1 => some r1) else (some false)) else (some false)) else (bif ((Exp.kind a0) == 2) then (bif ((List.length (Exp.args a0) : Int) == 0) then (bif ((Exp.n a0) == 0) then ((xFB N (Exp.text a0)).bind fun r1 => some r1) else (some false)) else (some false)) else (bif ((Exp.kind a0) == 3) then (bif ((List.length (Exp.args a0) : Int) == 0) then (bif ((Exp.n a0) == 0) then ((xCp N (Exp.text a0)).bind fun r1 => some r1) else (some false)) else (some false)) else (bif ((Exp.kind a0) == 4) then (bif ((Exp.n a0) == 0) then (bif (((Exp.text a0) : Str) == []) then (some (decide ((List.length (Exp.args a0) : Int) ≤ 8))) else (some false)) else (some false)) else (bif ((Exp.kind a0) == 5) then (bif ((Exp.n a0) == 0) then ((xB2 N (Exp.text a0)).bind fun r1 => some ((List.length (Exp.args a0) : Int) == r1)) else (some false)) else (bif ((Exp.kind a0) == 6) then (bif (((Exp.text a0) : Str) == []) then (bif ((List.length (Exp.args a0) : Int) == 2) then ((xHm N (Exp.n a0) 1 5).bind fun r1 => some r1) else (some false)) else (some false)) else (bif ((Exp.kind a0) == 7) then (bif ((Exp.n a0) == 0) then (bif ((List.length (Exp.args a0) : Int) == 2) then ((xCp N (Exp.text a0)).bind fun r1 => some r1) else (some false)) else (some false)) else (bif ((Exp.kind a0) == 9) then (bif ((Exp.n a0) == 0) then (bif ((List.length (Exp.args a0) : Int) == 2) then ((xCp N (Exp.text a0)).bind fun r1 => some r1) else (some false)) else (some false)) else (bif ((Exp.kind a0) == 8) then (bif ((Exp.n a0) == 0) then (bif (((Exp.text a0) : Str) == []) then (some ((List.length (Exp.args a0) : Int) == 3)
            ) else (some false)) else (some false)) else (some false)))))))))
def xDy (a0 : Exp) : List Arg := [.val (.v true (Ex .ro a0))]
def xBY (r : Bool) : CallO := ⟨.v false [.bool r], [], []⟩
def xEf (N : Nat) (q0 : Exp → Option (Bool)) : Nat → Int → Exp → Option (Bool)
 | 0, _, _ => none
 | n + 1, x3, b1 => bif (decide (x3 < (List.length (Exp.args b1) : Int))) then (if (0 : Int) ≤ x3 ∧ x3 < (List.length (Exp.args b1)) then (q0 (List.getD (Exp.args b1) (Int.toNat x3) Ty.exp.dflt)).bind fun r1 => bif (!r1) then (some false) else ((xEf N q0 n (IntKind.i64.wrap (x3 + 1)) b1)) else none) else ((xGu N b1).bind fun r1 => some r1)
def xGB (N : Nat) (q0 : Exp → Option (Bool)) (a0 : Exp) : Option (Bool) := (xEf N q0 N 0 a0)
def xE6 (N : Nat) : Nat → Exp → Option (Bool)
 | 0, _ => none
 | d + 1, a0 => xGB N (xE6 N d) a0
def xIv (N : Nat) (a0 : Exp) : Option (Bool) := xE6 N N a0
def xBo (a0 : Exp) : List Arg := [.val (.v true (Ex .ro a0))]
def xAS (r : Bool) : CallO := ⟨.v false [.bool r], [], []⟩
def xD1 (N : Nat) (a0 : Exp) : Option (Bool) := (xHY N a0 40).bind fun r1 => bif (decide (r1 ≥ 0)) then ((xHc N a0).bind fun r2 => bif (decide (r2 ≤ 8)) then ((xIv N a0).bind fun r3 => some r3) else (some false)) else (some false)
def xEt (a0 : Exp) : List Arg := [.val (.v true (Ex .ro a0))]
def xCl (r : Exp) : CallO := ⟨.v true (Ex .own r), [], []⟩
def xEu (N : Nat) (q0 : Exp → Option (Exp)) : Nat → Int → Exp → Exp → Exp → Option (Exp)
 | 0, _, _, _, _ => none
 | n + 1, x4, b1, b2, b3 => bif (decide (x4 < (List.length (Exp.args b1) : Int))) then (if (0 : Int) ≤ x4 ∧ x4 < (List.length (Exp.args b1)) then (q0 (List.getD (Exp.args b1) (Int.toNat x4) Ty.exp.dflt)).bind fun r1 => if List.length (Exp.args b3) + List.length [(Exp.re r1)] ≤ Lim then (xEu N q0 n (IntKind.i64.wrap (x4 + 1)) b1 b2 (Exp.mk (Exp.kind b3) (Exp.n b3) (Exp.text b3) ((Exp.args b3) ++ [(Exp.re r1)]))) else none else none) else (some b3)
def xGe (N : Nat) (q0 : Exp → Option (Exp)) (a0 : Exp) : Option (Exp) := (xEu N q0 N 0 a0 (Exp.mk 0 0 [] []) (Exp.mk (Exp.kind a0) (Exp.n a0) (Exp.text a0) []))
def xEK (N : Nat) : Nat → Exp → Option (Exp)
 | 0, _ => none
 | d + 1, a0 => xGe N (xEK N d) a0
def xGs (N : Nat) (a0 : Exp) : Option (Exp) := xEK N N a0
def xCe (a0 : Exp) (a1 : Str) (a2 : Str) : List Arg := [.val (.v true (Ex .ro a0)), .val (.v false [.str a1]), .val (.v false [.str a2])]
def xBk (r : Exp) : CallO := ⟨.v true (Ex .own r), [], []⟩
def xA1 (N : Nat) (q0 : Exp → Str → Str → Option (Exp)) : Nat → Str → Str → Int → Exp → Exp → Exp → Option (Exp)
 | 0, _, _, _, _, _, _ => none
 | n + 1, x1, x2, x8, b3, b6, b7 => bif (decide (x8 < (List.length (Exp.args b3) : Int))) then (bif ((Exp.kind b3) == 7) then (bif (x8 == 1) then (bif (((Exp.text b3) : Str) == x1) then (if (0 : Int) ≤ x8 ∧ x8 < (List.length (Exp.args b3)) then (xGs N (List.getD (Exp.args b3) (Int.toNat x8) Ty.exp.dflt)).bind fun r1 => if List.length (Exp.args b7) + List.length [(Exp.re r1)] ≤ Lim then (xA1 N q0 n x1 x2 (IntKind.i64.wrap (x8 + 1)) b3 b6 (Exp.mk (Exp.kind b7) (Exp.n b7) (Exp.text b7) ((Exp.args b7) ++ [(Exp.re r1)]))) else none else none) else (if (0 : Int) ≤ x8 ∧ x8 < (List.length (Exp.args b3)) then (q0 (List.getD (Exp.args b3) (Int.toNat x8) Ty.exp.dflt) x1 x2).bind fun r1 => if List.length (Exp.args b7) + List.length [(Exp.re r1)] ≤ Lim then (xA1 N q0 n x1 x2 (IntKind.i64.wrap (x8 + 1)) b3 b6 (Exp.mk (Exp.kind b7) (Exp.n b7) (Exp.text b7) ((Exp.args b7) ++ [(Exp.re r1)]))) else none else none)) else (if (0 : Int) ≤ x8 ∧ x8 < (List.length (Exp.args b3)) then (q0 (List.getD (Exp.args b3) (Int.toNat x8) Ty.exp.dflt) x1 x2).bind fun r1 => if List.length (Exp.args b7) + List.length [(Exp.re r1)] ≤ Lim then (xA1 N q0 n x1 x2 (IntKind.i64.wrap (x8 + 1)) b3 b6 (Exp.mk (Exp.kind b7) (Exp.n b7) (Exp.text b7) ((Exp.args b7) ++ [(Exp.re r1)]))) else none else none)) else (bif ((Exp.kind b3) == 9) then (bif (x8 == 1) then (bif (((Exp.text b3) : Str) == x1) then (if (0 : Int) ≤ x8 ∧ x8 < (List.length (Exp.args b3)) then (xGs N (List.getD (Exp.args b3) (Int.toNat x8) Ty.exp.dflt)).bind fun r1 => if List.length (Exp.args b7) + List.length [(Exp.re r1)] ≤ Lim then (xA1 N q0 n x1 x2 (IntKind.i64.wrap (x8 + 1)) b3 b6 (Exp.mk (Exp.kind b7) (Exp.n b7) (Exp.text b7) ((Exp.args b7) ++ [(Exp.re r1)]))) else none else none) else (if (0 : Int) ≤ x8 ∧ x8 < (List.length (Exp.args b3)) then (q0 (List.getD (Exp.args b3) (Int.toNat x8) Ty.exp.dflt) x1 x2).bind fun r1 =>
             if List.length (Exp.args b7) + List.length [(Exp.re r1)] ≤ Lim then (xA1 N q0 n x1 x2 (IntKind.i64.wrap (x8 + 1)) b3 b6 (Exp.mk (Exp.kind b7) (Exp.n b7) (Exp.text b7) ((Exp.args b7) ++ [(Exp.re r1)]))) else none else none)) else (if (0 : Int) ≤ x8 ∧ x8 < (List.length (Exp.args b3)) then (q0 (List.getD (Exp.args b3) (Int.toNat x8) Ty.exp.dflt) x1 x2).bind fun r1 => if List.length (Exp.args b7) + List.length [(Exp.re r1)] ≤ Lim then (xA1 N q0 n x1 x2 (IntKind.i64.wrap (x8 + 1)) b3 b6 (Exp.mk (Exp.kind b7) (Exp.n b7) (Exp.text b7) ((Exp.args b7) ++ [(Exp.re r1)]))) else none else none)) else (if (0 : Int) ≤ x8 ∧ x8 < (List.length (Exp.args b3)) then (q0 (List.getD (Exp.args b3) (Int.toNat x8) Ty.exp.dflt) x1 x2).bind fun r1 => if List.length (Exp.args b7) + List.length [(Exp.re r1)] ≤ Lim then (xA1 N q0 n x1 x2 (IntKind.i64.wrap (x8 + 1)) b3 b6 (Exp.mk (Exp.kind b7) (Exp.n b7) (Exp.text b7) ((Exp.args b7) ++ [(Exp.re r1)]))) else none else none))) else (some b7)
def xDU (N : Nat) (q0 : Exp → Str → Str → Option (Exp)) (a0 : Exp) (a1 : Str) (a2 : Str) : Option (Exp) := bif ((Exp.kind a0) == 3) then (bif (((Exp.text a0) : Str) == a1) then ((xA1 N q0 N a1 a2 0 a0 (Exp.mk 0 0 [] []) (Exp.mk (Exp.kind a0) (Exp.n a0) a2 []))) else ((xA1 N q0 N a1 a2 0 a0 (Exp.mk 0 0 [] []) (Exp.mk (Exp.kind a0) (Exp.n a0) (Exp.text a0) [])))) else ((xA1 N q0 N a1 a2 0 a0 (Exp.mk 0 0 [] []) (Exp.mk (Exp.kind a0) (Exp.n a0) (Exp.text a0) [])))
def xDg (N : Nat) : Nat → Exp → Str → Str → Option (Exp)
 | 0, _, _, _ => none
 | d + 1, a0, a1, a2 => xDU N (xDg N d) a0 a1 a2
def xHe (N : Nat) (a0 : Exp) (a1 : Str) (a2 : Str) : Option (Exp) := xDg N N a0 a1 a2
def xCh (a0 : Exp) (a1 : Str) (a2 : Str) : List Arg := [.val (.v true (Ex .ro a0)), .val (.v false [.str a1]), .val (.v false [.str a2])]
def xAn (r : Exp × Bool) : CallO := ⟨.tup [(true, (Ex .own r.1)), (false, [.bool r.2])], [], []⟩
def xEs (N : Nat) (a0 : Exp) (a1 : Str) (a2 : Str) : Option (Exp × Bool) := (xD1 N a0).bind fun r1 => bif (!r1) then (some ((Exp.mk 0 0 [] []), false)) else ((xCp N a1).bind fun r2 => bif (!r2) then (some ((Exp.mk 0 0 [] []), false)) else ((xCp N a2).bind fun r3 => bif (!r3) then (some ((Exp.mk 0 0 [] []), false)) else ((xE4 N a0 a1 a2).bind fun r4 => bif r4 then (some ((Exp.mk 0 0 [] []), false)) else ((xHe N a0 a1 a2).bind fun r5 => some (r5, true)))))
def xCc (a0 : Exp) : List Arg := [.val (.v true (Ex .ro a0))]
def xBi (r : Int) : CallO := ⟨.v false [.int .i64 r], [], []⟩
def xCQ (N : Nat) (q0 : Exp → Option (Int)) : Nat → Int → (List Exp) → Int → Int → Option (Int)
 | 0, _, _, _, _ => none
 | n + 1, x3, x7, x8, x9 => bif (decide (x9 < x8)) then (if (0 : Int) ≤ x9 ∧ x9 < (List.length x7) then (q0 (List.getD x7 (Int.toNat x9) Ty.exp.dflt)).bind fun r1 => (xCQ N q0 n (IntKind.i64.wrap (x3 + r1)) x7 x8 (IntKind.i64.wrap (x9 + 1))) else none) else (some x3)
def xFE (N : Nat) (q0 : Exp → Option (Int)) (a0 : Exp) : Option (Int) := (xCQ N q0 N 1 (Exp.args a0) (List.length (Exp.args a0) : Int) 0)
def xDa (N : Nat) : Nat → Exp → Option (Int)
 | 0, _ => none
 | d + 1, a0 => xFE N (xDa N d) a0
def xG9 (N : Nat) (a0 : Exp) : Option (Int) := xDa N N a0
def xCv (a0 : Exp) : List Arg := [.val (.v true (Ex .ro a0))]
def xBx (r : Int) : CallO := ⟨.v false [.int .i64 r], [], []⟩
def xDA (N : Nat) (q0 : Exp → Option (Int)) : Nat → Int → (List Exp) → Int → Int → Option (Int)
 | 0, _, _, _, _ => none
 | n + 1, x3, x7, x8, x9 => bif (decide (x9 < x8)) then (if (0 : Int) ≤ x9 ∧ x9 < (List.length x7) then (q0 (List.getD x7 (Int.toNat x9) Ty.exp.dflt)).bind fun r1 => (xDA N q0 n (if r1 > x3 then r1 else x3) x7 x8 (IntKind.i64.wrap (x9 + 1))) else none) else (some (IntKind.i64.wrap (x3 + 1)))
def xFD (N : Nat) (q0 : Exp → Option (Int)) (a0 : Exp) : Option (Int) := (xDA N q0 N 0 (Exp.args a0) (List.length (Exp.args a0) : Int) 0)
def xD7 (N : Nat) : Nat → Exp → Option (Int)
 | 0, _ => none
 | d + 1, a0 => xFD N (xD7 N d) a0
def xG8 (N : Nat) (a0 : Exp) : Option (Int) := xD7 N N a0
def xCZ (a0 : Int) (a1 : Int) (a2 : Int) : List Arg := [.val (.v false [.int .i64 a0]), .val (.v false [.int .i64 a1]), .val (.v false [.int .i64 a2])]
def xBv (r : Bool) : CallO := ⟨.v false [.bool r], [], []⟩
def xFF (N : Nat) (a0 : Int) (a1 : Int) (a2 : Int) : Option (Bool) := bif (decide (a1 ≤ a0)) then (some (decide (a0 ≤ a2))) else (some false)
def xDK (a0 : Str) : List Arg := [.val (.v false [.str a0])]
def xBs (r : Bool) : CallO := ⟨.v false [.bool r], [], []⟩
def xDL (N : Nat) : Nat → Str → Int → Option (Bool)
 | 0, _, _ => none
 | n + 1, x0, x3 => bif (decide (x3 < (List.length x0 : Int))) then (if (0 : Int) ≤ x3 ∧ x3 < (List.length x0) then bif (decide ((((List.getD x0 (Int.toNat x3) 0).toNat : Int) : Int) < 32)) then (some false) else (bif (decide ((((List.getD x0 (Int.toNat x3) 0).toNat : Int) : Int) > 126)) then (some false) else (bif ((((List.getD x0 (Int.toNat x3) 0).toNat : Int) : Int) == 34) then (some false) else ((xDL N n x0 (IntKind.i64.wrap (x3 + 1)))))) else none) else (some (decide ((List.length x0 : Int) ≤ 20)))
def xFA (N : Nat) (a0 : Str) : Option (Bool) := (xDL N N a0 0)
def xFu (a0 : Str) : List Arg := [.val (.v false [.str a0])]
def xBL (r : Bool) : CallO := ⟨.v false [.bool r], [], []⟩
def xCY (N : Nat) : Nat → Str → Int → Option (Bool)
 | 0, _, _ => none
 | n + 1, x0, x3 => bif (decide (x3 < (List.length x0 : Int))) then (if (0 : Int) ≤ x3 ∧ x3 < (List.length x0) then bif (decide ((((List.getD x0 (Int.toNat x3) 0).toNat : Int) : Int) ≥ 97)) then (bif (!(decide ((((List.getD x0 (Int.toNat x3) 0).toNat : Int) : Int) ≤ 122))) then (bif (x3 == 0) then (some false) else (bif (decide ((((List.getD x0 (Int.toNat x3) 0).toNat : Int) : Int) < 48)) then (some false) else (bif (decide ((((List.getD x0 (Int.toNat x3) 0).toNat : Int) : Int) > 57)) then (some false) else ((xCY N n x0 (IntKind.i64.wrap (x3 + 1))))))) else ((xCY N n x0 (IntKind.i64.wrap (x3 + 1))))) else (bif (x3 == 0) then (some false) else (bif (decide ((((List.getD x0 (Int.toNat x3) 0).toNat : Int) : Int) < 48)) then (some false) else (bif (decide ((((List.getD x0 (Int.toNat x3) 0).toNat : Int) : Int) > 57)) then (some false) else ((xCY N n x0 (IntKind.i64.wrap (x3 + 1))))))) else none) else ((xFF N (List.length x0 : Int) 1 8).bind fun r1 => some r1)
def xHt (N : Nat) (a0 : Str) : Option (Bool) := (xCY N N a0 0)
def xAD (a0 : Str) : List Arg := [.val (.v false [.str a0])]
def xAv (r : Int) : CallO := ⟨.v false [.int .i64 r], [], []⟩
def xCD (N : Nat) (a0 : Str) : Option (Int) := bif ((a0 : Str) == [99, 108, 111, 99, 107]) then (some 0) else (bif ((a0 : Str) == [108, 101, 110]) then (some 1) else (bif ((a0 : Str) == [115, 117, 109]) then (some 1) else (bif ((a0 : Str) == [114, 111, 119, 115]) then (some 1) else (bif ((a0 : Str) == [99, 104, 97, 110, 99, 101]) then (some 1) else (bif ((a0 : Str) == [102, 105, 108, 101]) then (some 1) else (bif ((a0 : Str) == [116, 97, 107, 101]) then (some 2) else (bif ((a0 : Str) == [115, 107, 105, 112]) then (some 2) else (bif ((a0 : Str) == [114, 97, 110, 103, 101]) then (some 2) else (bif ((a0 : Str) == [110, 116, 104]) then (some 2) else (bif ((a0 : Str) == [107, 101, 101, 112]) then (some 2) else (bif ((a0 : Str) == [99, 111, 108, 117, 109, 110]) then (some 2) else (bif ((a0 : Str) == [116, 97, 98, 108, 101]) then (some 2) else (bif ((a0 : Str) == [119, 104, 101, 114, 101]) then (some 3) else (bif ((a0 : Str) == [103, 114, 111, 117, 112]) then (some 3) else (bif ((a0 : Str) == [106, 111, 105, 110]) then (some 3) else (bif ((a0 : Str) == [97, 100, 100]) then (some 4) else (some (-1))))))))))))))))))
def xBA (a0 : Str) : List Arg := [.val (.v false [.str a0])]
def xBr (r : Bool) : CallO := ⟨.v false [.bool r], [], []⟩
def xEX (N : Nat) (a0 : Str) : Option (Bool) := bif ((a0 : Str) == [108, 101, 116]) then (some true) else (bif ((a0 : Str) == [105, 110]) then (some true) else (bif ((a0 : Str) == [105, 102]) then (some true) else (bif ((a0 : Str) == [116, 104, 101, 110]) then (some true) else (bif ((a0 : Str) == [101, 108, 115, 101]) then (some true) else (bif ((a0 : Str) == [102, 111, 114]) then (some true) else (bif ((a0 : Str) == [100, 111]) then (some true) else ((xCD N a0).bind fun r1 => some (decide (r1 ≥ 0)))))))))
def xCP (a0 : Str) : List Arg := [.val (.v false [.str a0])]
def xAR (r : Bool) : CallO := ⟨.v false [.bool r], [], []⟩
def xCo (N : Nat) (a0 : Str) : Option (Bool) := (xHt N a0).bind fun r1 => bif r1 then ((xEX N a0).bind fun r2 => some (!r2)) else (some false)
def xAL (a0 : Exp) : List Arg := [.val (.v true (Ex .ro a0))]
def xAV (r : Bool) : CallO := ⟨.v false [.bool r], [], []⟩
def xGL (N : Nat) (a0 : Exp) : Option (Bool) := bif ((Exp.kind a0) == 1) then ((xFF N (Exp.n a0) 0 1000000000).bind fun r1 => bif r1 then (bif (((Exp.text a0) : Str) == []) then (some ((List.length (Exp.args a0) : Int) == 0)) else (some false)) else (some false)) else (bif ((Exp.kind a0) == 2) then (bif ((Exp.n a0) == 0) then ((xFA N (Exp.text a0)).bind fun r1 => bif r1 then (some ((List.length (Exp.args a0) : Int) == 0)) else (some false)) else (some false)) else (bif ((Exp.kind a0) == 3) then (bif ((Exp.n a0) == 0) then ((xCo N (Exp.text a0)).bind fun r1 => bif r1 then (some ((List.length (Exp.args a0) : Int) == 0)) else (some false)) else (some false)) else (bif ((Exp.kind a0) == 4) then (bif ((Exp.n a0) == 0) then (bif (((Exp.text a0) : Str) == []) then (some (decide ((List.length (Exp.args a0) : Int) ≤ 8))) else (some false)) else (some false)) else (bif ((Exp.kind a0) == 5) then (bif ((Exp.n a0) == 0) then ((xCD N (Exp.text a0)).bind fun r1 => some ((List.length (Exp.args a0) : Int) == r1)) else (some false)) else (bif ((Exp.kind a0) == 6) then ((xFF N (Exp.n a0) 1 5).bind fun r1 => bif r1 then (bif (((Exp.text a0) : Str) == []) then (some ((List.length (Exp.args a0) : Int) == 2)) else (some false)) else (some false)) else (bif ((Exp.kind a0) == 7) then (bif ((Exp.n a0) == 0) then ((xCo N (Exp.text a0)).bind fun r1 => bif r1 then (some ((List.length (Exp.args a0) : Int) == 2)) else (some false)) else (some false)) else (bif ((Exp.kind a0) == 9) then (bif ((Exp.n a0) == 0) then ((xCo N (Exp.text a0)).bind fun r1 => bif r1 then (some ((List.length (Exp.args a0) : Int) == 2)) else (some false)) else (some false)) else (bif ((Exp.kind a0) == 8) then (bif ((Exp.n a0) == 0) then (bif (((Exp.text a0) : Str) == []) then (some ((List.length (Exp.args a0) : Int) == 3)
             ) else (some false)) else (some false)) else (some false)))))))))
def xCM (a0 : Exp) : List Arg := [.val (.v true (Ex .ro a0))]
def xBy (r : Bool) : CallO := ⟨.v false [.bool r], [], []⟩
def xDi (N : Nat) (q0 : Exp → Option (Bool)) : Nat → (List Exp) → Int → Int → Exp → Option (Bool)
 | 0, _, _, _, _ => none
 | n + 1, x6, x7, x8, b1 => bif (decide (x8 < x7)) then (if (0 : Int) ≤ x8 ∧ x8 < (List.length x6) then (q0 (List.getD x6 (Int.toNat x8) Ty.exp.dflt)).bind fun r1 => bif (!r1) then (some false) else ((xDi N q0 n x6 x7 (IntKind.i64.wrap (x8 + 1)) b1)) else none) else ((xGL N b1).bind fun r1 => some r1)
def xFS (N : Nat) (q0 : Exp → Option (Bool)) (a0 : Exp) : Option (Bool) := (xDi N q0 N (Exp.args a0) (List.length (Exp.args a0) : Int) 0 a0)
def xEl (N : Nat) : Nat → Exp → Option (Bool)
 | 0, _ => none
 | d + 1, a0 => xFS N (xEl N d) a0
def xHs (N : Nat) (a0 : Exp) : Option (Bool) := xEl N N a0
def xBD (a0 : Exp) : List Arg := [.val (.v true (Ex .ro a0))]
def xA3 (r : Bool) : CallO := ⟨.v false [.bool r], [], []⟩
def xEJ (N : Nat) (a0 : Exp) : Option (Bool) := (xG9 N a0).bind fun r1 => bif (decide (r1 ≤ 40)) then ((xG8 N a0).bind fun r2 => bif (decide (r2 ≤ 8)) then ((xHs N a0).bind fun r3 => some r3) else (some false)) else (some false)
def xDj (a0 : Exp) : List Arg := [.val (.v true (Ex .ro a0))]
def xB9 (r : Exp) : CallO := ⟨.v true (Ex .own r), [], []⟩
def xDZ (N : Nat) (q0 : Exp → Option (Exp)) : Nat → (List Exp) → Int → Int → Exp → Exp → Option (Exp)
 | 0, _, _, _, _, _ => none
 | n + 1, x14, x15, x16, b2, b3 => bif (decide (x16 < x15)) then (if (0 : Int) ≤ x16 ∧ x16 < (List.length x14) then (q0 (List.getD x14 (Int.toNat x16) Ty.exp.dflt)).bind fun r1 => if List.length (Exp.args b3) + List.length [(Exp.re r1)] ≤ Lim then (xDZ N q0 n x14 x15 (IntKind.i64.wrap (x16 + 1)) b2 (Exp.mk (Exp.kind b3) (Exp.n b3) (Exp.text b3) ((Exp.args b3) ++ [(Exp.re r1)]))) else none else none) else (some b3)
def xFT (N : Nat) (q0 : Exp → Option (Exp)) (a0 : Exp) : Option (Exp) := (xDZ N q0 N (Exp.args a0) (List.length (Exp.args a0) : Int) 0 (Exp.mk 0 0 [] []) (Exp.mk (Exp.kind a0) (Exp.n a0) (Exp.text a0) []))
def xEm (N : Nat) : Nat → Exp → Option (Exp)
 | 0, _ => none
 | d + 1, a0 => xFT N (xEm N d) a0
def xGH (N : Nat) (a0 : Exp) : Option (Exp) := xEm N N a0
def xBT (a0 : Exp) (a1 : Str) (a2 : Str) : List Arg := [.val (.v true (Ex .ro a0)), .val (.v false [.str a1]), .val (.v false [.str a2])]
def xBU (r : Exp) : CallO := ⟨.v true (Ex .own r), [], []⟩
def xBB (N : Nat) (q0 : Exp → Str → Str → Option (Exp)) : Nat → Str → Str → Bool → (List Exp) → Int → Int → Exp → Exp → Option (Exp)
 | 0, _, _, _, _, _, _, _, _ => none
 | n + 1, x1, x2, x8, x44, x45, x46, b6, b7 => bif (decide (x46 < x45)) then (if (0 : Int) ≤ x46 ∧ x46 < (List.length x44) then bif x8 then (bif (decide (x46 > 0)) then ((xGH N (List.getD x44 (Int.toNat x46) Ty.exp.dflt)).bind fun r1 => if List.length (Exp.args b7) + List.length [(Exp.re r1)] ≤ Lim then (xBB N q0 n x1 x2 x8 x44 x45 (IntKind.i64.wrap (x46 + 1)) b6 (Exp.mk (Exp.kind b7) (Exp.n b7) (Exp.text b7) ((Exp.args b7) ++ [(Exp.re r1)]))) else none) else ((q0 (List.getD x44 (Int.toNat x46) Ty.exp.dflt) x1 x2).bind fun r1 => if List.length (Exp.args b7) + List.length [(Exp.re r1)] ≤ Lim then (xBB N q0 n x1 x2 x8 x44 x45 (IntKind.i64.wrap (x46 + 1)) b6 (Exp.mk (Exp.kind b7) (Exp.n b7) (Exp.text b7) ((Exp.args b7) ++ [(Exp.re r1)]))) else none)) else ((q0 (List.getD x44 (Int.toNat x46) Ty.exp.dflt) x1 x2).bind fun r1 => if List.length (Exp.args b7) + List.length [(Exp.re r1)] ≤ Lim then (xBB N q0 n x1 x2 x8 x44 x45 (IntKind.i64.wrap (x46 + 1)) b6 (Exp.mk (Exp.kind b7) (Exp.n b7) (Exp.text b7) ((Exp.args b7) ++ [(Exp.re r1)]))) else none) else none) else (some b7)
def xEn (N : Nat) (q0 : Exp → Str → Str → Option (Exp)) (a0 : Exp) (a1 : Str) (a2 : Str) : Option (Exp) := bif ((Exp.kind a0) == 3) then (bif (((Exp.text a0) : Str) == a1) then ((xBB N q0 N a1 a2 false (Exp.args a0) (List.length (Exp.args a0) : Int) 0 (Exp.mk 0 0 [] []) (Exp.mk (Exp.kind a0) (Exp.n a0) a2 []))) else ((xBB N q0 N a1 a2 false (Exp.args a0) (List.length (Exp.args a0) : Int) 0 (Exp.mk 0 0 [] []) (Exp.mk (Exp.kind a0) (Exp.n a0) (Exp.text a0) [])))) else (bif ((Exp.kind a0) == 7) then ((xBB N q0 N a1 a2 (((Exp.text a0) : Str) == a1) (Exp.args a0) (List.length (Exp.args a0) : Int) 0 (Exp.mk 0 0 [] []) (Exp.mk (Exp.kind a0) (Exp.n a0) (Exp.text a0) []))) else (bif ((Exp.kind a0) == 9) then ((xBB N q0 N a1 a2 (((Exp.text a0) : Str) == a1) (Exp.args a0) (List.length (Exp.args a0) : Int) 0 (Exp.mk 0 0 [] []) (Exp.mk (Exp.kind a0) (Exp.n a0) (Exp.text a0) []))) else ((xBB N q0 N a1 a2 false (Exp.args a0) (List.length (Exp.args a0) : Int) 0 (Exp.mk 0 0 [] []) (Exp.mk (Exp.kind a0) (Exp.n a0) (Exp.text a0) [])))))
def xD0 (N : Nat) : Nat → Exp → Str → Str → Option (Exp)
 | 0, _, _, _ => none
 | d + 1, a0, a1, a2 => xEn N (xD0 N d) a0 a1 a2
def xHO (N : Nat) (a0 : Exp) (a1 : Str) (a2 : Str) : Option (Exp) := xD0 N N a0 a1 a2
def xB1 (a0 : Exp) (a1 : Str) (a2 : Str) : List Arg := [.val (.v true (Ex .ro a0)), .val (.v false [.str a1]), .val (.v false [.str a2])]
def xAj (r : Exp × Bool) : CallO := ⟨.tup [(true, (Ex .own r.1)), (false, [.bool r.2])], [], []⟩
def xCj (N : Nat) (a0 : Exp) (a1 : Str) (a2 : Str) : Option (Exp × Bool) := (xEJ N a0).bind fun r1 => bif (!r1) then (some ((Exp.mk 0 0 [] []), false)) else ((xCo N a1).bind fun r2 => bif (!r2) then (some ((Exp.mk 0 0 [] []), false)) else ((xCo N a2).bind fun r3 => bif (!r3) then (some ((Exp.mk 0 0 [] []), false)) else ((xCF N a0 a1 a2).bind fun r4 => bif r4 then (some ((Exp.mk 0 0 [] []), false)) else ((xHO N a0 a1 a2).bind fun r5 => some (r5, true)))))
def xHu (a0 : List Int) : List Arg := [.val (.v false [.sl .ro .byte a0])]
def xA2 (r : Bool) : CallO := ⟨.v false [.bool r], [], []⟩
def xH9 (N : Nat) (a0 : List Int) : Option (Bool) := some (decide ((List.length a0 : Int) > 1048576))
def xF3 (a0 : List Int) : List Arg := [.val (.v false [.sl .ro .byte a0])]
def xDt (r : Cur) : CallO := ⟨.tup [(false, [.ptr 0 0]), (true, (Cu .ro r))], [], []⟩
def xFl (N : Nat) : Nat → (List Int) → Int → Int → Option (Cur)
 | 0, _, _, _ => none
 | n + 1, x0, x3, x4 => bif (decide (x4 < (List.length x0 : Int))) then (bif (decide (x4 < 4000)) then (if (0 : Int) ≤ x4 ∧ x4 < (List.length x0) then (xFl N n x0 (andI .i64 (IntKind.i64.wrap ((IntKind.i64.wrap ((IntKind.i64.wrap (x3 * 131)) + (IntKind.i64.wrap ((List.getD x0 (Int.toNat x4) Ty.byte.dflt))))) + 7)) 1073741823) (IntKind.i64.wrap (x4 + 1))) else none) else (some (Cur.mk x0 0 x3))) else (some (Cur.mk x0 0 x3))
def xGg (N : Nat) (a0 : List Int) : Option (Cur) := (xFl N N a0 (IntKind.i64.wrap (26583 + (List.length a0 : Int))) 0)
def xC1 (a0 : Cur) : List Arg := [.box (Cu .ro a0)]
def xBM (r : Int × Cur) : CallO := ⟨.v false [.int .i64 r.1], [(Cu .ro r.2)], []⟩
def xEF (N : Nat) (a0 : Cur) : Option (Int × Cur) := bif (decide ((Cur.i a0) < (List.length (Cur.b a0) : Int))) then (if (0 : Int) ≤ (Cur.i a0) ∧ (Cur.i a0) < (List.length (Cur.b a0)) then some ((andI .i64 (IntKind.i64.wrap ((andI .i64 (xorI .i64 (Int.fdiv (IntKind.i64.wrap ((IntKind.i64.wrap ((Cur.h a0) * 6364136223846793005)) + 1442695040888963407)) ((2 : Int) ^ (Int.toNat 33))) (Int.fdiv (IntKind.i64.wrap ((IntKind.i64.wrap ((Cur.h a0) * 6364136223846793005)) + 1442695040888963407)) ((2 : Int) ^ (Int.toNat 45)))) 255) + (IntKind.i64.wrap ((List.getD (Cur.b a0) (Int.toNat (Cur.i a0)) Ty.byte.dflt))))) 255), (Cur.mk (Cur.b a0) (IntKind.i64.wrap ((Cur.i a0) + 1)) (IntKind.i64.wrap ((IntKind.i64.wrap ((Cur.h a0) * 6364136223846793005)) + 1442695040888963407)))) else none) else (some ((andI .i64 (xorI .i64 (Int.fdiv (IntKind.i64.wrap ((IntKind.i64.wrap ((Cur.h a0) * 6364136223846793005)) + 1442695040888963407)) ((2 : Int) ^ (Int.toNat 33))) (Int.fdiv (IntKind.i64.wrap ((IntKind.i64.wrap ((Cur.h a0) * 6364136223846793005)) + 1442695040888963407)) ((2 : Int) ^ (Int.toNat 45)))) 255), (Cur.mk (Cur.b a0) (Cur.i a0) (IntKind.i64.wrap ((IntKind.i64.wrap ((Cur.h a0) * 6364136223846793005)) + 1442695040888963407)))))
def xAP (a0 : Cur) (a1 : Int) : List Arg := [.box (Cu .ro a0), .val (.v false [.int .i64 a1])]
def xAd (r : Int × Cur) : CallO := ⟨.v false [.int .i64 r.1], [(Cu .ro r.2)], []⟩
def xAZ (N : Nat) (a0 : Cur) (a1 : Int) : Option (Int × Cur) := bif (decide (a1 ≤ 0)) then (some (0, a0)) else (bif (decide (a1 ≤ 256)) then ((xEF N a0).bind fun r1 => if a1 ≠ (0 : Int) then some ((Int.tmod r1.1 a1), r1.2) else none) else ((xEF N a0).bind fun r1 => (xEF N r1.2).bind fun r2 => (xEF N r2.2).bind fun r3 => (xEF N r3.2).bind fun r4 => if a1 ≠ (0 : Int) then some ((Int.tmod (IntKind.i64.wrap ((IntKind.i64.wrap ((IntKind.i64.wrap ((IntKind.i64.wrap (r1.1 * 16777216)) + (IntKind.i64.wrap (r2.1 * 65536)))) + (IntKind.i64.wrap (r3.1 * 256)))) + r4.1)) a1), r4.2) else none))
def xBw (a0 : Cur) (a1 : List Str) : List Arg := [.box (Cu .ro a0), .val (.v false [.sl .ro .str a1])]
def xAQ (r : Str × Cur) : CallO := ⟨.v false [.str r.1], [(Cu .ro r.2)], []⟩
def xBG (N : Nat) (a0 : Cur) (a1 : List Str) : Option (Str × Cur) := (xAZ N a0 (List.length a1 : Int)).bind fun r1 => if (0 : Int) ≤ r1.1 ∧ r1.1 < (List.length a1) then some ((List.getD a1 (Int.toNat r1.1) Ty.str.dflt), r1.2) else none
def xEP (a0 : Int) : List Arg := [.val (.v false [.int .i64 a0])]
def xBl (r : Exp) : CallO := ⟨.v true (Ex .own r), [], []⟩
def xB0 (N : Nat) (a0 : Int) : Option (Exp) := some (Exp.mk 1 a0 [] [])
def xF0 (a0 : Str) : List Arg := [.val (.v false [.str a0])]
def xFa (r : Exp) : CallO := ⟨.v true (Ex .own r), [], []⟩
def xH1 (N : Nat) (a0 : Str) : Option (Exp) := some (Exp.mk 3 0 a0 [])
def xCm (a0 : Cur) (a1 : List Str) : List Arg := [.box (Cu .ro a0), .val (.v false [.sl .ro .str a1])]
def xBC (r : Exp × Cur) : CallO := ⟨.v true (Ex .own r.1), [(Cu .ro r.2)], []⟩
def xE8 (N : Nat) (a0 : Cur) (a1 : List Str) : Option (Exp × Cur) := (xAZ N a0 5).bind fun r1 => bif (r1.1 == 0) then ((xBG N r1.2 [[97], [97, 98], [], [98]]).bind fun r2 => some ((Exp.mk 2 0 r2.1 []), r2.2)) else (bif (r1.1 == 1) then ((xAZ N r1.2 6).bind fun r2 => (xB0 N r2.1).bind fun r3 => some (r3, r2.2)) else (bif (r1.1 == 2) then ((xAZ N r1.2 6).bind fun r2 => (xB0 N r2.1).bind fun r3 => some (r3, r2.2)) else ((xBG N r1.2 a1).bind fun r2 => (xH1 N r2.1).bind fun r3 => some (r3, r2.2))))
def xFg (a0 : Int) (a1 : Exp) (a2 : Exp) : List Arg := [.val (.v false [.int .i64 a0]), .val (.v true (Ex .tip a1)), .val (.v true (Ex .tip a2))]
def xDs (r : Exp) : CallO := ⟨.v true (Ex .tip r), [], []⟩
def xFM (N : Nat) (a0 : Int) (a1 : Exp) (a2 : Exp) : Option (Exp) := some (Exp.mk 6 a0 [] [(Exp.re a1), (Exp.re a2)])
def xC2 (a0 : Cur) (a1 : Int) : List Arg := [.box (Cu .ro a0), .val (.v false [.int .i64 a1])]
def xBF (r : Bool × Cur) : CallO := ⟨.v false [.bool r.1], [(Cu .ro r.2)], []⟩
def xEI (N : Nat) (a0 : Cur) (a1 : Int) : Option (Bool × Cur) := (xAZ N a0 a1).bind fun r1 => some ((r1.1 == 0), r1.2)
def xDR (a0 : Cur) (a1 : List Str) : List Arg := [.box (Cu .ro a0), .val (.v false [.sl .ro .str a1])]
def xBW (r : Exp × Cur) : CallO := ⟨.v true (Ex .own r.1), [(Cu .ro r.2)], []⟩
def xDS (N : Nat) : Nat → (List Str) → Int → Int → Cur → Exp → Exp → Option (Exp × Cur)
 | 0, _, _, _, _, _, _ => none
 | n + 1, x1, x6, x7, b0, b4, b5 => bif (decide (x7 < x6)) then ((xAZ N b0 5).bind fun r1 => (xB0 N r1.1).bind fun r2 => if List.length (Exp.args b5) + List.length [(Exp.re r2)] ≤ Lim then (xEI N r1.2 4).bind fun r3 => bif r3.1 then ((xE8 N r3.2 x1).bind fun r4 => if (0 : Int) ≤ x7 ∧ x7 < (List.length ((Exp.args b5) ++ [(Exp.re r2)])) then (xDS N n x1 x6 (IntKind.i64.wrap (x7 + 1)) r4.2 b4 (Exp.mk (Exp.kind b5) (Exp.n b5) (Exp.text b5) ((fun (z2 : List Exp) => List.set z2 (Int.toNat x7) (Exp.re r4.1)) ((Exp.args b5) ++ [(Exp.re r2)])))) else none) else ((xDS N n x1 x6 (IntKind.i64.wrap (x7 + 1)) r3.2 b4 (Exp.mk (Exp.kind b5) (Exp.n b5) (Exp.text b5) ((Exp.args b5) ++ [(Exp.re r2)])))) else none) else (some (b5, b0))
def xE9 (N : Nat) (a0 : Cur) (a1 : List Str) : Option (Exp × Cur) := (xAZ N a0 4).bind fun r1 => (xDS N N a1 r1.1 0 r1.2 (Exp.mk 0 0 [] []) (Exp.mk 4 0 [] []))
def xBN (a0 : Cur) (a1 : Exp) (a2 : Exp) : List Arg := [.box (Cu .ro a0), .val (.v true (Ex .tip a1)), .val (.v true (Ex .tip a2))]
def xA4 (r : Exp × Cur) : CallO := ⟨.v true (Ex .tip r.1), [(Cu .ro r.2)], []⟩
def xCJ (N : Nat) (a0 : Cur) (a1 : Exp) (a2 : Exp) : Option (Exp × Cur) := (xEI N a0 2).bind fun r1 => bif r1.1 then (some (a1, r1.2)) else (some (a2, r1.2))
def xBH (a0 : Str) (a1 : List Exp) : List Arg := [.val (.v false [.str a0]), .val (.v false [.sl .tip .exp a1])]
def xAY (r : Exp) : CallO := ⟨.v true (Ex .tip r), [], []⟩
def xCi (N : Nat) (a0 : Str) (a1 : List Exp) : Option (Exp) := some (Exp.mk 5 0 a0 a1)
def xDF (a0 : Cur) : List Arg := [.box (Cu .ro a0)]
def xCd (r : Exp × Cur) : CallO := ⟨.v true (Ex .own r.1), [(Cu .ro r.2)], []⟩
def xEO (N : Nat) (a0 : Cur) : Option (Exp × Cur) := (xBG N a0 [[97], [97], [98], [99], [120]]).bind fun r1 => some ((Exp.mk 2 0 r1.1 []), r1.2)
def xD3 (a0 : Cur) : List Arg := [.box (Cu .ro a0)]
def xCb (r : Exp × Cur) : CallO := ⟨.v true (Ex .tip r.1), [(Cu .ro r.2)], []⟩
def xD4 (N : Nat) : Nat → Int → Int → Cur → Exp → Exp → Option (Exp × Cur)
 | 0, _, _, _, _, _ => none
 | n + 1, x4, x5, b0, b2, b3 => bif (decide (x5 < x4)) then ((xAZ N b0 3).bind fun r1 => (xB0 N r1.1).bind fun r2 => (xAZ N r1.2 4).bind fun r3 => (xB0 N r3.1).bind fun r4 => if List.length (Exp.args b3) + List.length [(Exp.mk 4 0 [] [(Exp.re r2), (Exp.re r4)])] ≤ Lim then (xD4 N n x4 (IntKind.i64.wrap (x5 + 1)) r3.2 b2 (Exp.mk (Exp.kind b3) (Exp.n b3) (Exp.text b3) ((Exp.args b3) ++ [(Exp.mk 4 0 [] [(Exp.re r2), (Exp.re r4)])]))) else none) else ((xCi N [116, 97, 98, 108, 101] [(Exp.mk 2 0 [97, 32, 98] []), (Exp.re b3)]).bind fun r1 => some (r1, b0))
def xFh (N : Nat) (a0 : Cur) : Option (Exp × Cur) := (xAZ N a0 4).bind fun r1 => (xD4 N N r1.1 0 r1.2 (Exp.mk 0 0 [] []) (Exp.mk 4 0 [] []))
def xAO (a0 : Cur) (a1 : List Str) (a2 : Int) : List Arg := [.box (Cu .ro a0), .val (.v false [.sl .ro .str a1]), .val (.v false [.int .i64 a2])]
def xAq (r : Exp × Cur) : CallO := ⟨.v true (Ex .tip r.1), [(Cu .ro r.2)], []⟩
def xCX (N : Nat) (q0 : Cur → (List Str) → Int → Option (Exp × Cur)) (a0 : Cur) (a1 : List Str) (a2 : Int) : Option (Exp × Cur) := bif (decide (a2 < 2)) then ((xE8 N a0 a1).bind fun r1 => some (r1.1, r1.2)) else ((xAZ N a0 13).bind fun r1 => bif (r1.1 == 0) then ((xAZ N r1.2 5).bind fun r2 => (q0 r2.2 a1 (IntKind.i64.wrap (a2 - 1))).bind fun r3 => (q0 r3.2 a1 (IntKind.i64.wrap (a2 - 1))).bind fun r4 => (xFM N (IntKind.i64.wrap (1 + r2.1)) r3.1 r4.1).bind fun r5 => some (r5, r4.2)) else (bif (r1.1 == 1) then ((xAZ N r1.2 5).bind fun r2 => (q0 r2.2 a1 (IntKind.i64.wrap (a2 - 1))).bind fun r3 => (q0 r3.2 a1 (IntKind.i64.wrap (a2 - 1))).bind fun r4 => (xFM N (IntKind.i64.wrap (1 + r2.1)) r3.1 r4.1).bind fun r5 => some (r5, r4.2)) else (bif (r1.1 == 2) then (if (0 : Int) ≤ 0 ∧ (0 : Int) < (List.length a1) then (xBG N r1.2 [[117], [118], (List.getD a1 (Int.toNat 0) Ty.str.dflt)]).bind fun r2 => (q0 r2.2 a1 (IntKind.i64.wrap (a2 - 1))).bind fun r3 => if List.length [r2.1] + List.length a1 ≤ Lim then (q0 r3.2 ([r2.1] ++ a1) (IntKind.i64.wrap (a2 - 1))).bind fun r4 => some ((Exp.mk 7 0 r2.1 [(Exp.re r3.1), (Exp.re r4.1)]), r4.2) else none else none) else (bif (r1.1 == 3) then ((q0 r1.2 a1 (IntKind.i64.wrap (a2 - 1))).bind fun r2 => (q0 r2.2 a1 (IntKind.i64.wrap (a2 - 1))).bind fun r3 => (q0 r3.2 a1 (IntKind.i64.wrap (a2 - 1))).bind fun r4 => some ((Exp.mk 8 0 [] [(Exp.re r2.1), (Exp.re r3.1), (Exp.re r4.1)]), r4.2)) else (bif (r1.1 == 4) then (if (0 : Int) ≤ 0 ∧ (0 : Int) < (List.length a1) then (xBG N r1.2 [[117], [118], (List.getD a1 (Int.toNat 0) Ty.str.dflt)]).bind fun r2 => (xE9 N r2.2 a1).bind fun r3 => if List.length [r2.1, r2.1] + List.length a1 ≤ Lim then (q0 r3.2 ([r2.1, r2.1] ++ a1) (IntKind.i64.wrap (a2 - 1))).bind fun r4 => some ((Exp.mk 9 0 r2.1 [(Exp.re r3.1), (Exp.re r4.1)]), r4.2)
     else none else none) else (bif (r1.1 == 5) then ((xE9 N r1.2 a1).bind fun r2 => some (r2.1, r2.2)) else (bif (r1.1 == 6) then ((xBG N r1.2 [[108, 101, 110], [115, 117, 109]]).bind fun r2 => (xE9 N r2.2 a1).bind fun r3 => (q0 r3.2 a1 (IntKind.i64.wrap (a2 - 1))).bind fun r4 => (xCJ N r4.2 r3.1 r4.1).bind fun r5 => (xCi N r2.1 [(Exp.re r5.1)]).bind fun r6 => some (r6, r5.2)) else (bif (r1.1 == 7) then ((xBG N r1.2 [[116, 97, 107, 101], [115, 107, 105, 112], [110, 116, 104], [116, 97, 107, 101]]).bind fun r2 => (xAZ N r2.2 4).bind fun r3 => (xB0 N r3.1).bind fun r4 => (xE9 N r3.2 a1).bind fun r5 => (xAZ N r5.2 9).bind fun r6 => (xB0 N r6.1).bind fun r7 => (xAZ N r6.2 4).bind fun r8 => (xB0 N r8.1).bind fun r9 => (xCi N [114, 97, 110, 103, 101] [(Exp.re r7), (Exp.re r9)]).bind fun r10 => (xCJ N r8.2 r5.1 r10).bind fun r11 => (xCi N r2.1 [(Exp.re r4), (Exp.re r11.1)]).bind fun r12 => some (r12, r11.2)) else (bif (r1.1 == 8) then ((xEO N r1.2).bind fun r2 => (xAZ N r2.2 3).bind fun r3 => (xB0 N r3.1).bind fun r4 => (xFh N r3.2).bind fun r5 => (q0 r5.2 a1 (IntKind.i64.wrap (a2 - 1))).bind fun r6 => (xCJ N r6.2 r5.1 r6.1).bind fun r7 => (xCi N [119, 104, 101, 114, 101] [(Exp.re r2.1), (Exp.re r4), (Exp.re r7.1)]).bind fun r8 => some (r8, r7.2)) else (bif (r1.1 == 9) then ((xEO N r1.2).bind fun r2 => (xEO N r2.2).bind fun r3 => (xFh N r3.2).bind fun r4 => (q0 r4.2 a1 (IntKind.i64.wrap (a2 - 1))).bind fun r5 => (xCJ N r5.2 r4.1 r5.1).bind fun r6 => (xCi N [103, 114, 111, 117, 112] [(Exp.re r2.1), (Exp.re r3.1), (Exp.re r6.1)]).bind fun r7 =>
               some (r7, r6.2)) else (bif (r1.1 == 10) then ((xFh N r1.2).bind fun r2 => (q0 r2.2 a1 (IntKind.i64.wrap (a2 - 1))).bind fun r3 => (xCJ N r3.2 r2.1 r3.1).bind fun r4 => (xCi N [114, 111, 119, 115] [(Exp.re r4.1)]).bind fun r5 => some (r5, r4.2)) else (bif (r1.1 == 11) then ((xAZ N r1.2 6).bind fun r2 => (xB0 N (IntKind.i64.wrap (1 + r2.1))).bind fun r3 => (xCi N [99, 104, 97, 110, 99, 101] [(Exp.re r3)]).bind fun r4 => some (r4, r2.2)) else ((xCi N [99, 108, 111, 99, 107] []).bind fun r2 => (xBG N r1.2 [[102], [103], [104]]).bind fun r3 => (xCi N [102, 105, 108, 101] [(Exp.mk 2 0 r3.1 [])]).bind fun r4 => (xCJ N r3.2 r2 r4).bind fun r5 => some (r5.1, r5.2))))))))))))))
def xCq (N : Nat) : Nat → Cur → (List Str) → Int → Option (Exp × Cur)
 | 0, _, _, _ => none
 | d + 1, a0, a1, a2 => xCX N (xCq N d) a0 a1 a2
def xHZ (N : Nat) (a0 : Cur) (a1 : List Str) (a2 : Int) : Option (Exp × Cur) := xCq N N a0 a1 a2
def xE7 (a0 : Cur) : List Arg := [.box (Cu .ro a0)]
def xBI (r : Exp × Cur) : CallO := ⟨.v true (Ex .tip r.1), [(Cu .ro r.2)], []⟩
def xGt (N : Nat) (a0 : Cur) : Option (Exp × Cur) := (xAZ N a0 4).bind fun r1 => (xHZ N r1.2 [[97], [98], [99]] (IntKind.i64.wrap (1 + r1.1))).bind fun r2 => (xD1 N r2.1).bind fun r3 => bif (!r3) then ((xE8 N r2.2 [[97], [98], [99]]).bind fun r4 => some (r4.1, r4.2)) else (some (r2.1, r2.2))
def xFm (a0 : Cur) (a1 : List Int) : List Arg := [.box (Cu .ro a0), .val (.v false [.sl .ro .int a1])]
def xEy (r : Int × Cur) : CallO := ⟨.v false [.int .i64 r.1], [(Cu .ro r.2)], []⟩
def xGj (N : Nat) (a0 : Cur) (a1 : List Int) : Option (Int × Cur) := (xAZ N a0 (List.length a1 : Int)).bind fun r1 => if (0 : Int) ≤ r1.1 ∧ r1.1 < (List.length a1) then some ((List.getD a1 (Int.toNat r1.1) Ty.int.dflt), r1.2) else none
def xCH (a0 : Cur) : List Arg := [.box (Cu .ro a0)]
def xB8 (r : Exp × Cur) : CallO := ⟨.v true (Ex .tip r.1), [(Cu .ro r.2)], []⟩
def xDm (N : Nat) : Nat → Int → Cur → Exp → Exp → Option (Exp × Cur)
 | 0, _, _, _, _ => none
 | n + 1, x4, b0, b2, b3 => bif (decide (x4 < 7)) then ((xB0 N x4).bind fun r1 => (xFM N 1 b3 r1).bind fun r2 => (xDm N n (IntKind.i64.wrap (x4 + 1)) b0 b2 r2)) else (some (b3, b0))
def xG6 (N : Nat) (a0 : Cur) : Option (Exp × Cur) := (xGt N a0).bind fun r1 => (xAZ N r1.2 12).bind fun r2 => bif (r2.1 == 0) then ((xAZ N r2.2 11).bind fun r3 => some ((Exp.mk r3.1 (Exp.n r1.1) (Exp.text r1.1) (Exp.args r1.1)), r3.2)) else (bif (r2.1 == 1) then ((xE8 N r2.2 [[97]]).bind fun r3 => if List.length (Exp.args r1.1) + List.length [(Exp.re r3.1)] ≤ Lim then some ((Exp.mk (Exp.kind r1.1) (Exp.n r1.1) (Exp.text r1.1) ((Exp.args r1.1) ++ [(Exp.re r3.1)])), r3.2) else none) else (bif (r2.1 == 2) then ((xBG N r2.2 [[108, 101, 116], [115, 117, 109], [], [120]]).bind fun r3 => some ((Exp.mk (Exp.kind r1.1) (Exp.n r1.1) r3.1 (Exp.args r1.1)), r3.2)) else (bif (r2.1 == 3) then ((xGj N r2.2 [(-1), 7, 1000000001]).bind fun r3 => some ((Exp.mk (Exp.kind r1.1) r3.1 (Exp.text r1.1) (Exp.args r1.1)), r3.2)) else (bif (r2.1 == 4) then ((xDm N N 0 r2.2 (Exp.mk 0 0 [] []) r1.1)) else (some (r1.1, r2.2))))))
def xFb (a0 : List Int) : List Arg := [.val (.v false [.sl .ro .byte a0])]
def xEv (r : Exp × Str × Str) : CallO := ⟨.tup [(true, (Ex .tip r.1)), (false, [.str r.2.1]), (false, [.str r.2.2])], [], []⟩
def xH2 (N : Nat) (a0 : List Int) : Option (Exp × Str × Str) := (xGg N a0).bind fun r1 => (xGt N r1).bind fun r2 => (xEI N r2.2 10).bind fun r3 => bif r3.1 then ((xG6 N r3.2).bind fun r4 => (xBG N r4.2 [[97], [98], [99], [117]]).bind fun r5 => (xBG N r5.2 [[97], [117], [118], [122], [108, 101, 116]]).bind fun r6 => some (r4.1, r5.1, r6.1)) else ((xBG N r3.2 [[97], [98], [99], [117]]).bind fun r4 => (xBG N r4.2 [[97], [117], [118], [122], [108, 101, 116]]).bind fun r5 => some (r2.1, r4.1, r5.1))
def xDW (a0 : List Int) : List Arg := [.val (.v false [.sl .ro .byte a0])]
def xAl (r : Exp × Str × Str) : CallO := ⟨.tup [(true, (Ex .tip r.1)), (false, [.str r.2.1]), (false, [.str r.2.2])], [], []⟩
def xDN (N : Nat) (a0 : List Int) : Option (Exp × Str × Str) := (xH2 N a0).bind fun r1 => some (r1.1, r1.2.1, r1.2.2)
def xA7 (a0 : Exp) (a1 : Exp) : List Arg := [.val (.v true (Ex .ro a0)), .val (.v true (Ex .ro a1))]
def xAh (r : Bool) : CallO := ⟨.v false [.bool r], [], []⟩
def xDC (N : Nat) (q0 : Exp → Exp → Option (Bool)) : Nat → Int → Exp → Exp → Option (Bool)
 | 0, _, _, _ => none
 | n + 1, x5, b2, b3 => bif (decide (x5 < (List.length (Exp.args b2) : Int))) then (if (0 : Int) ≤ x5 ∧ x5 < (List.length (Exp.args b2)) then if (0 : Int) ≤ x5 ∧ x5 < (List.length (Exp.args b3)) then (q0 (List.getD (Exp.args b2) (Int.toNat x5) Ty.exp.dflt) (List.getD (Exp.args b3) (Int.toNat x5) Ty.exp.dflt)).bind fun r1 => bif (!r1) then (some false) else ((xDC N q0 n (IntKind.i64.wrap (x5 + 1)) b2 b3)) else none else none) else (some true)
def xDO (N : Nat) (q0 : Exp → Exp → Option (Bool)) (a0 : Exp) (a1 : Exp) : Option (Bool) := bif ((Exp.kind a0) != (Exp.kind a1)) then (some false) else (bif ((Exp.n a0) != (Exp.n a1)) then (some false) else (bif (!(((Exp.text a0) : Str) == (Exp.text a1))) then (some false) else (bif ((List.length (Exp.args a0) : Int) != (List.length (Exp.args a1) : Int)) then (some false) else ((xDC N q0 N 0 a0 a1)))))
def xDe (N : Nat) : Nat → Exp → Exp → Option (Bool)
 | 0, _, _ => none
 | d + 1, a0, a1 => xDO N (xDe N d) a0 a1
def xC0 (N : Nat) (a0 : Exp) (a1 : Exp) : Option (Bool) := xDe N N a0 a1
def xGi (a0 : List Str) : List Arg := [.val (.v false [.sl .ro .str a0])]
def xAK (r : Bool) : CallO := ⟨.v false [.bool r], [], []⟩
def xEN (N : Nat) : Nat → (List Str) → Int → Option (Bool)
 | 0, _, _ => none
 | n + 1, x0, x3 => bif (decide (x3 < (List.length x0 : Int))) then (if (0 : Int) ≤ (IntKind.i64.wrap (x3 - 1)) ∧ (IntKind.i64.wrap (x3 - 1)) < (List.length x0) then if (0 : Int) ≤ x3 ∧ x3 < (List.length x0) then bif (!(Op.bytesLess (List.getD x0 (Int.toNat (IntKind.i64.wrap (x3 - 1))) Ty.str.dflt) (List.getD x0 (Int.toNat x3) Ty.str.dflt))) then (some false) else ((xEN N n x0 (IntKind.i64.wrap (x3 + 1)))) else none else none) else (some true)
def xGN (N : Nat) (a0 : List Str) : Option (Bool) := (xEN N N a0 1)
def xFX (a0 : List Str) (a1 : Str) : List Arg := [.val (.v false [.sl .ro .str a0]), .val (.v false [.str a1])]
def xDQ (r : Int) : CallO := ⟨.v false [.int .i64 r], [], []⟩
def xDP (N : Nat) : Nat → (List Str) → Str → Int → Option (Int)
 | 0, _, _, _ => none
 | n + 1, x0, x1, x5 => bif (decide (x5 < (List.length x0 : Int))) then (if (0 : Int) ≤ x5 ∧ x5 < (List.length x0) then bif (((List.getD x0 (Int.toNat x5) Ty.str.dflt) : Str) == x1) then (some x5) else ((xDP N n x0 x1 (IntKind.i64.wrap (x5 + 1)))) else none) else (some (-1))
def xG3 (N : Nat) (a0 : List Str) (a1 : Str) : Option (Int) := (xDP N N a0 a1 0)
def xE0 (a0 : List Str) (a1 : Str) : List Arg := [.val (.v false [.sl .ro .str a0]), .val (.v false [.str a1])]
def xAa (r : Bool) : CallO := ⟨.v false [.bool r], [], []⟩
def xCy (N : Nat) (a0 : List Str) (a1 : Str) : Option (Bool) := (xG3 N a0 a1).bind fun r1 => some (decide (r1 ≥ 0))
def xEo (a0 : List Str) (a1 : List Str) : List Arg := [.val (.v false [.sl .ro .str a0]), .val (.v false [.sl .ro .str a1])]
def xAG (r : Bool) : CallO := ⟨.v false [.bool r], [], []⟩
def xDB (N : Nat) : Nat → (List Str) → (List Str) → Int → Option (Bool)
 | 0, _, _, _ => none
 | n + 1, x0, x1, x5 => bif (decide (x5 < (List.length x0 : Int))) then (if (0 : Int) ≤ x5 ∧ x5 < (List.length x0) then if (0 : Int) ≤ x5 ∧ x5 < (List.length x1) then bif (!(((List.getD x0 (Int.toNat x5) Ty.str.dflt) : Str) == (List.getD x1 (Int.toNat x5) Ty.str.dflt))) then (some false) else ((xDB N n x0 x1 (IntKind.i64.wrap (x5 + 1)))) else none else none) else (some true)
def xDw (N : Nat) (a0 : List Str) (a1 : List Str) : Option (Bool) := bif ((List.length a0 : Int) != (List.length a1 : Int)) then (some false) else ((xDB N N a0 a1 0))
def xAM (a0 : List Int) : List Arg := [.val (.v false [.sl .ro .byte a0])]
def xAN (r : Bool) : CallO := ⟨.v false [.bool r], [], []⟩
def xGa (N : Nat) (a0 : List Int) : Option (Bool) := (xH9 N a0).bind fun r1 => bif r1 then (some true) else ((xDN N a0).bind fun r2 => (xCj N r2.1 r2.2.1 r2.2.2).bind fun r3 => (xEs N r2.1 r2.2.1 r2.2.2).bind fun r4 => bif (!((r3.2 : Bool) == r4.2)) then (some false) else ((xC0 N r3.1 r4.1).bind fun r5 => bif (!r5) then (some false) else ((xDv N r2.1).bind fun r6 => (xGN N r6).bind fun r7 => bif (!r7) then (some false) else (bif (!r3.2) then (some true) else ((xCC N r2.1).bind fun r8 => (xCy N r8 r2.2.1).bind fun r9 => (xDv N r3.1).bind fun r10 => (xCy N r10 r2.2.2).bind fun r11 => bif (!((r9 : Bool) == r11)) then ((xCC N r2.1).bind fun r12 => (xCy N r12 r2.2.2).bind fun r13 => bif (!r13) then (some false) else (bif (!((r2.2.1 : Str) == r2.2.2)) then ((xDv N r3.1).bind fun r14 => (xCy N r14 r2.2.1).bind fun r15 => bif r15 then (some false) else ((xBS N r3.1).bind fun r16 => (xBS N r2.1).bind fun r17 => (xDw N r16 r17).bind fun r18 => bif (!r18) then (some false) else ((xCC N r2.1).bind fun r19 => (xCy N r19 r2.2.2).bind fun r20 => bif r20 then (some true) else ((xCF N r3.1 r2.2.2 r2.2.1).bind fun r21 => bif r21 then (some true) else ((xCj N r3.1 r2.2.2 r2.2.1).bind fun r22 => bif r22.2 then ((xC0 N r22.1 r2.1).bind fun r23 => some r23) else (some false)))))) else ((xBS N r3.1).bind fun r14 => (xBS N r2.1).bind fun r15 => (xDw N r14 r15).bind fun r16 => bif (!r16) then (some false) else ((xCC N r2.1).bind fun r17 => (xCy N r17 r2.2.2).bind fun r18 =>
            bif r18 then (some true) else ((xCF N r3.1 r2.2.2 r2.2.1).bind fun r19 => bif r19 then (some true) else ((xCj N r3.1 r2.2.2 r2.2.1).bind fun r20 => bif r20.2 then ((xC0 N r20.1 r2.1).bind fun r21 => some r21) else (some false))))))) else (bif (!((r2.2.1 : Str) == r2.2.2)) then ((xDv N r3.1).bind fun r12 => (xCy N r12 r2.2.1).bind fun r13 => bif r13 then (some false) else ((xBS N r3.1).bind fun r14 => (xBS N r2.1).bind fun r15 => (xDw N r14 r15).bind fun r16 => bif (!r16) then (some false) else ((xCC N r2.1).bind fun r17 => (xCy N r17 r2.2.2).bind fun r18 => bif r18 then (some true) else ((xCF N r3.1 r2.2.2 r2.2.1).bind fun r19 => bif r19 then (some true) else ((xCj N r3.1 r2.2.2 r2.2.1).bind fun r20 => bif r20.2 then ((xC0 N r20.1 r2.1).bind fun r21 => some r21) else (some false)))))) else ((xBS N r3.1).bind fun r12 => (xBS N r2.1).bind fun r13 => (xDw N r12 r13).bind fun r14 => bif (!r14) then (some false) else ((xCC N r2.1).bind fun r15 => (xCy N r15 r2.2.2).bind fun r16 => bif r16 then (some true) else ((xCF N r3.1 r2.2.2 r2.2.1).bind fun r17 => bif r17 then (some true) else ((xCj N r3.1 r2.2.2 r2.2.1).bind fun r18 => bif r18.2 then ((xC0 N r18.1 r2.1).bind fun r19 => some r19) else (some false)))))))))))
end Go.Ab
end
section
namespace Go.Ab
open Go.Proofs Go.Shelf
variable {P : Program} {ρ : Ren}
theorem xIQ (L : Lays.n192 P ρ) : ∀ args w, (callFunc (ρ.f 192) args).run P w = .ok (.enter (ρ.f 192) args) w := enters_of L.f192 (by kernel_rfl) rfl
end Go.Ab
end
section
namespace Go.Proofs
open Go.Shelf
def Try.lays192_ren : Go.Shelf.Ren := ⟨fun | 192 => 67 | 190 => 79 | 125 => 91 | 258 => 90 | 128 => 108 | 129 => 109 | 302 => 99 | 303 => 100 | 304 => 101 | 305 => 102 | 306 => 103 | 307 => 104 | 308 => 105 | 309 => 106 | 310 => 107 | 333 => 110 | 329 => 111 | 330 => 112 | 334 => 113 | 335 => 114 | 336 => 115 | 344 => 116 | n => n, fun | 31 => 36 | 0 => 0 | 9 => 9 | 3 => 3 | 46 => 88 | 51 => 103 | 53 => 105 | 4 => 4 | 183 => 95 | 182 => 94 | 131 => 100 | 5 => 5 | 218 => 106 | 222 => 110 | 228 => 112 | 229 => 113 | n => n, fun | n => n⟩
theorem Try.lays192 : Go.Proofs.Lays.n192 Try.prog Try.lays192_ren := {
 mixed := by kernel_rfl
 f125 := Try.func91.trans (congrArg some (by kernel_rfl))
 f128 := Try.func108.trans (congrArg some (by kernel_rfl))
 f129 := Try.func109.trans (congrArg some (by kernel_rfl))
 f190 := Try.func79.trans (congrArg some (by kernel_rfl))
 f192 := Try.func67.trans (congrArg some (by kernel_rfl))
 f258 := Try.func90.trans (congrArg some (by kernel_rfl))
 f302 := Try.func99.trans (congrArg some (by kernel_rfl))
 f303 := Try.func100.trans (congrArg some (by kernel_rfl))
 f304 := Try.func101.trans (congrArg some (by kernel_rfl))
 f305 := Try.func102.trans (congrArg some (by kernel_rfl))
 f306 := Try.func103.trans (congrArg some (by kernel_rfl))
 f307 := Try.func104.trans (congrArg some (by kernel_rfl))
 f308 := Try.func105.trans (congrArg some (by kernel_rfl))
 f309 := Try.func106.trans (congrArg some (by kernel_rfl))
 f310 := Try.func107.trans (congrArg some (by kernel_rfl))
 f329 := Try.func111.trans (congrArg some (by kernel_rfl))
 f330 := Try.func112.trans (congrArg some (by kernel_rfl))
 f333 := Try.func110.trans (congrArg some (by kernel_rfl))
 f334 := Try.func113.trans (congrArg some (by kernel_rfl))
 f335 := Try.func114.trans (congrArg some (by kernel_rfl))
 f336 := Try.func115.trans (congrArg some (by kernel_rfl))
 f344 := Try.func116.trans (congrArg some (by kernel_rfl))
 t0 := Try.underlying0
 a0 := Try.isAgg0
 z0 := Try.sizeOf0
 v0 := Try.zeroValue0
 t3 := Try.underlying3
 a3 := Try.isAgg3
 z3 := Try.sizeOf3
 v3 := Try.zeroValue3
 t4 := Try.underlying4
 a4 := Try.isAgg4
 z4 := Try.sizeOf4
 v4 := Try.zeroValue4
 t5 := Try.underlying5
 a5 := Try.isAgg5
 z5 := Try.sizeOf5
 v5 := Try.zeroValue5
 t9 := Try.underlying9
 a9 := Try.isAgg9
 z9 := Try.sizeOf9
 v9 := Try.zeroValue9
 t31 := Try.underlying36
 a31 := Try.isAgg36
 z31 := Try.sizeOf36
 v31 := Try.zeroValue36
 t46 := Try.underlying88
 a46 := Try.isAgg88
 z46 := Try.sizeOf88
 v46 := Try.zeroValue88
 t51 := Try.underlying103
 a51 := Try.isAgg103
 z51 := Try.sizeOf103
 v51 := Try.zeroValue103
 t53 := Try.underlying105
 a53 := Try.isAgg105
 z53 := Try.sizeOf105
 v53 := Try.zeroValue105
 t131 := Try.underlying100
 a131 := Try.isAgg100
 z131 := Try.sizeOf100
 v131 := Try.zeroValue100
 t182 := Try.underlying94
 a182 := Try.isAgg94
 z182 := Try.sizeOf94
 v182 := Try.zeroValue94
 t183 := Try.underlying95
 a183 := Try.isAgg95
 z183 := Try.sizeOf95
 v183 := Try.zeroValue95
 t218 := Try.underlying106
 a218 := Try.isAgg106
 z218 := Try.sizeOf106
 v218 := Try.zeroValue106
 t222 := Try.underlying110
 a222 := Try.isAgg110
 z222 := Try.sizeOf110
 v222 := Try.zeroValue110
 t228 := Try.underlying112
 a228 := Try.isAgg112
 z228 := Try.sizeOf112
 v228 := Try.zeroValue112
 t229 := Try.underlying113
 a229 := Try.isAgg113
 z229 := Try.sizeOf113
 v229 := Try.zeroValue113 }
end Go.Proofs
end
section
open Go.Proofs
namespace Go.Ab.T
variable [Inhabited Lb]
abbrev AbC (f : FuncId) (a : List Arg) (r : CallO) : Prop := AbsCalls Try.prog f a r
abbrev W (x : Int) : Int := IntKind.i64.wrap x
abbrev Ln {α : Type} (l : List α) : Nat := List.length l
abbrev tN (x : Int) : Nat := Int.toNat x
abbrev gD {α : Type} (l : List α) (i : Nat) (d : α) : α := List.getD l i d
abbrev iY (b : Bool) : Prop := b = true
abbrev iN (b : Bool) : Prop := b = false
abbrev dc (p : Prop) [Decidable p] : Bool := decide p
abbrev vd : Val := Ty.val.dflt
abbrev rd : Rowd := Ty.row.dflt
end Go.Ab.T
end
section
open Go.Proofs
namespace Go.Ab.T
set_option maxRecDepth 100000
variable [Inhabited Lb]
def tt : TT := [(3, { zero := some [.int .i64 0], ik := some .i64 }),
 (4, { zero := some [.bool false], isBool := true }),
 (5, { zero := some [.int .u8 0], ik := some .u8 }),
 (9, { zero := some [.str []], isStr := true }),
 (22, { zero := some [.sl .own .exp []], elem := some (24, .exp) }),
 (24, { sz := 4, agg := true, zero := some [.int .i64 0, .int .i64 0, .str [], .sl .own .exp []], offs := [0, 1, 2, 3], fsz := [1, 1, 1, 1] }),
 (27, { zero := some [.sl .own .exp []], elem := some (29, .exp) }),
 (29, { sz := 4, agg := true, zero := some [.int .i64 0, .int .i64 0, .str [], .sl .own .exp []], offs := [0, 1, 2, 3], fsz := [1, 1, 1, 1] }),
 (36, { zero := some [.sl .own .str []], elem := some (9, .str) }),
 (41, { zero := some [.sl .own .byte []], elem := some (5, .byte) }),
 (52, { zero := some [.val .nilFunc], isFn := true }),
 (53, { zero := some [.val .nilFunc], isFn := true }),
 (55, { sz := 2, agg := true, zero := some [.val .nilFunc, .val .nilFunc], offs := [0, 1], fsz := [1, 1] }),
 (78, { sz := 3, agg := true, zero := some [.sl .own .byte [], .int .i64 0, .int .i64 0], offs := [0, 1, 2], fsz := [1, 1, 1] }),
 (83, { zero := some [.sl .own .int []], elem := some (3, .int) })]
theorem ttok : TTok Try.prog tt := zJe (by kernel_rfl)
theorem mix : Try.prog.follows .mixedOrders = true := by kernel_rfl
def F : Bool := false
def cl (r : CallO) : CallO := ⟨r.res, r.outs, [.clo 0 []]⟩
def Y : Bool := true
noncomputable def rE (I : Info) (ag : List Arg) (bs : List Bool) (cs : List CallO) : Option Res := run tt (AbsCalls Try.prog) I 3000 false [.code I.body] ⟨zA8 0 ag, bs, cs, []⟩
noncomputable def rS (k : Nat) (I : Info) (σ : St) (bs : List Bool) (cs : List CallO) : Option Res := run tt (AbsCalls Try.prog) I 3000 true (stkAt k I.body) ⟨σ, bs, cs, []⟩
noncomputable def dn (r : CallO) (ob : List Prop) : Option Res := some (.done r ob)
noncomputable def st (k : Nat) (I : Info) (σ : St) (ob : List Prop) : Option Res := some (.stop (stkAt k I.body) σ ob)
def RE (fn : Func) (I : Info) (ag : List Arg) (r : CallO) : Prop := Reach Try.prog fn I [.code I.body] (zA8 0 ag) r
def RS (fn : Func) (I : Info) (k : Nat) (σ : St) (r : CallO) : Prop := Reach Try.prog fn I (stkAt k I.body) σ r
section
variable {ρ : Type} {f : FuncId} {fn : Func} {I : Info} {ag : List Arg} {bs : List Bool} {cs : List CallO} {k j : Nat} {σ σ' : St} {ob : List Prop} {ro : ρ → CallO} {x r : ρ} {q : CallO}
theorem dE (e : some x = some r) (hf : FnOk Try.prog f fn I) (h : rE I ag bs cs = dn (ro x) ob) (o : ∀ p ∈ ob, p) : RE fn I ag (ro r) := by
 cases e; exact Reach.done ttok mix hf h o
theorem dS (e : some x = some r) (hf : FnOk Try.prog f fn I) (h : rS k I σ bs cs = dn (ro x) ob) (o : ∀ p ∈ ob, p) : RS fn I k σ (ro r) := by
 cases e; exact Reach.done ttok mix hf h o
theorem tE (hf : FnOk Try.prog f fn I) (h : rE I ag bs cs = st k I σ ob) (o : ∀ p ∈ ob, p) (t : RS fn I k σ q) : RE fn I ag q := Reach.stop ttok mix hf h o t
theorem tS (hf : FnOk Try.prog f fn I) (h : rS j I σ' bs cs = st k I σ ob) (o : ∀ p ∈ ob, p) (t : RS fn I k σ q) : RS fn I j σ' q := Reach.stop ttok mix hf h o t
end
theorem oc {p : Prop} {l : List Prop} (h : p) (t : ∀ q ∈ l, q) : ∀ q ∈ p :: l, q := zJd h t
theorem on : ∀ q ∈ ([] : List Prop), q := zJg
theorem oc2 {p0 p1 : Prop} {l : List Prop} (h0 : p0) (h1 : p1) (t : ∀ q ∈ l, q) : ∀ q ∈ p0 :: p1 :: l, q := oc h0 (oc h1 t)
theorem oc3 {p0 p1 p2 : Prop} {l : List Prop} (h0 : p0) (h1 : p1) (h2 : p2) (t : ∀ q ∈ l, q) : ∀ q ∈ p0 :: p1 :: p2 :: l, q := oc h0 (oc2 h1 h2 t)
theorem oc4 {p0 p1 p2 p3 : Prop} {l : List Prop} (h0 : p0) (h1 : p1) (h2 : p2) (h3 : p3) (t : ∀ q ∈ l, q) : ∀ q ∈ p0 :: p1 :: p2 :: p3 :: l, q := oc h0 (oc3 h1 h2 h3 t)
theorem oc5 {p0 p1 p2 p3 p4 : Prop} {l : List Prop} (h0 : p0) (h1 : p1) (h2 : p2) (h3 : p3) (h4 : p4) (t : ∀ q ∈ l, q) : ∀ q ∈ p0 :: p1 :: p2 :: p3 :: p4 :: l, q := oc h0 (oc4 h1 h2 h3 h4 t)
theorem oc6 {p0 p1 p2 p3 p4 p5 : Prop} {l : List Prop} (h0 : p0) (h1 : p1) (h2 : p2) (h3 : p3) (h4 : p4) (h5 : p5) (t : ∀ q ∈ l, q) : ∀ q ∈ p0 :: p1 :: p2 :: p3 :: p4 :: p5 :: l, q := oc h0 (oc5 h1 h2 h3 h4 h5 t)
theorem oc7 {p0 p1 p2 p3 p4 p5 p6 : Prop} {l : List Prop} (h0 : p0) (h1 : p1) (h2 : p2) (h3 : p3) (h4 : p4) (h5 : p5) (h6 : p6) (t : ∀ q ∈ l, q) : ∀ q ∈ p0 :: p1 :: p2 :: p3 :: p4 :: p5 :: p6 :: l, q := oc h0 (oc6 h1 h2 h3 h4 h5 h6 t)
theorem oc8 {p0 p1 p2 p3 p4 p5 p6 p7 : Prop} {l : List Prop} (h0 : p0) (h1 : p1) (h2 : p2) (h3 : p3) (h4 : p4) (h5 : p5) (h6 : p6) (h7 : p7) (t : ∀ q ∈ l, q) : ∀ q ∈ p0 :: p1 :: p2 :: p3 :: p4 :: p5 :: p6 :: p7 :: l, q := oc h0 (oc7 h1 h2 h3 h4 h5 h6 h7 t)
theorem oc9 {p0 p1 p2 p3 p4 p5 p6 p7 p8 : Prop} {l : List Prop} (h0 : p0) (h1 : p1) (h2 : p2) (h3 : p3) (h4 : p4) (h5 : p5) (h6 : p6) (h7 : p7) (h8 : p8) (t : ∀ q ∈ l, q) : ∀ q ∈ p0 :: p1 :: p2 :: p3 :: p4 :: p5 :: p6 :: p7 :: p8 :: l, q := oc h0 (oc8 h1 h2 h3 h4 h5 h6 h7 h8 t)
theorem oc10 {p0 p1 p2 p3 p4 p5 p6 p7 p8 p9 : Prop} {l : List Prop} (h0 : p0) (h1 : p1) (h2 : p2) (h3 : p3) (h4 : p4) (h5 : p5) (h6 : p6) (h7 : p7) (h8 : p8) (h9 : p9) (t : ∀ q ∈ l, q) : ∀ q ∈ p0 :: p1 :: p2 :: p3 :: p4 :: p5 :: p6 :: p7 :: p8 :: p9 :: l, q := oc h0 (oc9 h1 h2 h3 h4 h5 h6 h7 h8 h9 t)
theorem oc11 {p0 p1 p2 p3 p4 p5 p6 p7 p8 p9 p10 : Prop} {l : List Prop} (h0 : p0) (h1 : p1) (h2 : p2) (h3 : p3) (h4 : p4) (h5 : p5) (h6 : p6) (h7 : p7) (h8 : p8) (h9 : p9) (h10 : p10) (t : ∀ q ∈ l, q) : ∀ q ∈ p0 :: p1 :: p2 :: p3 :: p4 :: p5 :: p6 :: p7 :: p8 :: p9 :: p10 :: l, q := oc h0 (oc10 h1 h2 h3 h4 h5 h6 h7 h8 h9 h10 t)
theorem oc12 {p0 p1 p2 p3 p4 p5 p6 p7 p8 p9 p10 p11 : Prop} {l : List Prop} (h0 : p0) (h1 : p1) (h2 : p2) (h3 : p3) (h4 : p4) (h5 : p5) (h6 : p6) (h7 : p7) (h8 : p8) (h9 : p9) (h10 : p10) (h11 : p11) (t : ∀ q ∈ l, q) : ∀ q ∈ p0 :: p1 :: p2 :: p3 :: p4 :: p5 :: p6 :: p7 :: p8 :: p9 :: p10 :: p11 :: l, q := oc h0 (oc11 h1 h2 h3 h4 h5 h6 h7 h8 h9 h10 h11 t)
theorem cE {α : Type} {C : Prop} {b : Bool} {x y : Option α} {r : α} (h : cond b x y = some r) (f : b = true → x = some r → C) (g : b = false → y = some r → C) : C := (zJc h).elim (fun h => f h.1 h.2) fun h => g h.1 h.2
theorem bE {α β : Type} {C : Prop} {o : Option α} {f : α → Option β} {r : β} (h : Option.bind o f = some r) (g : ∀ a, o = some a → f a = some r → C) : C := (zJa h).elim fun a h => g a h.1 h.2
theorem iE {α : Type} {C p : Prop} [Decidable p] {x : Option α} {r : α} (h : (if p then x else none) = some r) (g : p → x = some r → C) : C := (zJf h).elim g
theorem nE {α : Type} {C : Prop} {r : α} (h : none = some r) : C := nomatch h
noncomputable def xJ0 : Info := { body := (Try.f51.body).getD .skip, nt := 9, results := [], keep := [0, 4, 5], live := [], modes := [(0, [(0, .take, false)])], ext := [2] }
theorem xKs : FnOk Try.prog 51 Try.f51 xJ0 := ⟨Try.func51, by kernel_rfl, by kernel_rfl, by kernel_rfl, by kernel_rfl⟩
def xK7 (a0 : Str) (a1 a2 : List Str) : rE xJ0 (xED a0 a1 a2) [] [] = dn (xDG (a2 ++ [a0])) [Ln a2 + Ln [a0] ≤ Lim] := by kernel_rfl
theorem xMl {N : Nat} : ∀ a0 a1 a2 r, xFz N a0 a1 a2 = some r → RE Try.f51 xJ0 (xED a0 a1 a2) (xDG r) := fun a0 a1 a2 r h =>
 iE h fun h0 h => dE h xKs (xK7 a0 a1 a2) (oc h0 on)
theorem xIp {N : Nat} {a0 : Str} {a1 : List Str} {a2 : List Str} {r : (List Str)} (h : xFz N  a0 a1 a2 = some r) : AbC 51 (xED a0 a1 a2) (xDG r) :=
 AbsCalls.of_reach xKs rfl rfl rfl (Nat.le_of_ble_eq_true rfl) (xMl a0 a1 a2 r h)
noncomputable def xJZ : Info := { body := (Try.f47.body).getD .skip, nt := 7, results := [], keep := [0, 2, 3], live := [], modes := [(0, [(0, .take, false)])], ext := [1] }
theorem xKr : FnOk Try.prog 47 Try.f47 xJZ := ⟨Try.func47, by kernel_rfl, by kernel_rfl, by kernel_rfl, by kernel_rfl⟩
def xK6 (a0 : Str) (a1 : List Str) : rE xJZ (xDn a0 a1) [] [] = dn (xCf (a1 ++ [a0])) [Ln a1 + Ln [a0] ≤ Lim] := by kernel_rfl
theorem xMk {N : Nat} : ∀ a0 a1 r, xDz N a0 a1 = some r → RE Try.f47 xJZ (xDn a0 a1) (xCf r) := fun a0 a1 r h =>
 iE h fun h0 h => dE h xKr (xK6 a0 a1) (oc h0 on)
theorem xGD {N : Nat} {a0 : Str} {a1 : List Str} {r : (List Str)} (h : xDz N  a0 a1 = some r) : AbC 47 (xDn a0 a1) (xCf r) :=
 AbsCalls.of_reach xKr rfl rfl rfl (Nat.le_of_ble_eq_true rfl) (xMk a0 a1 r h)
noncomputable def I54 : Info := { body := (Try.f54.body).getD .skip, nt := 18, results := [.tmp 4], keep := [0, 2, 8, 10, 18, 34], live := [(2, [0, 2, 10])], modes := [] }
theorem fk54 : FnOk Try.prog 54 Try.f54 I54 := ⟨Try.func54, by kernel_rfl, by kernel_rfl, by kernel_rfl, by kernel_rfl⟩
def xMa (x0 : List Str) (x1 : Str) (x5 : Int) : St := [(0, .v false [.sl .ro .str x0]), (2, .v false [.str x1]), (10, .v false [.int .i64 x5])]
abbrev xIF (v0 : Int) (v1 : List Str) : Prop := iY (dc (v0 < (Ln v1 : Int)))
abbrev xGn (v0 : Int) (v1 : List Str) : Prop := (0 : Int) ≤ v0 ∧ v0 < (Ln v1)
abbrev xIS (v0 : List Str) (v1 : Int) (v2 : Str) := ((gD v0 (tN v1) Ty.str.dflt) : Str) == v2
def xQg (x0 : List Str) (x1 : Str) (x5 : Int) : rS 2 I54 (xMa x0 x1 x5) [Y, Y] [] = dn (xBR true) [xIF x5 x0, xGn x5 x0, iY (xIS x0 x5 x1)] := by kernel_rfl
def xQh (x0 : List Str) (x1 : Str) (x5 : Int) : rS 2 I54 (xMa x0 x1 x5) [Y, F] [] = st 2 I54 (xMa x0 x1 (W (x5 + 1))) [xIF x5 x0, xGn x5 x0, iN (xIS x0 x5 x1)] := by kernel_rfl
abbrev xLD (v0 : Int) (v1 : List Str) : Prop := iN (dc (v0 < (Ln v1 : Int)))
def xQi (x0 : List Str) (x1 : Str) (x5 : Int) : rS 2 I54 (xMa x0 x1 x5) [F] [] = dn (xBR false) [xLD x5 x0] := by kernel_rfl
def xQj (a0 : List Str) (a1 : Str) : rE I54 (xFj a0 a1) [] [] = st 2 I54 (xMa a0 a1 0) [] := by kernel_rfl
theorem xUs {N : Nat} : ∀ n x0 x1 x5 r, xEG N n x0 x1 x5 = some r → RS Try.f54 I54 2 (xMa x0 x1 x5) (xBR r) := by
 intro n
 induction n with
 | zero => exact fun _ _ _ _ h => nE h
 | succ n ih =>
  exact fun x0 x1 x5 r h =>
   cE h (fun h0 h => iE h fun h1 h => cE h (fun h2 h => dS h fk54 (xQg x0 x1 x5) (oc3 h0 h1 h2 on)) fun h2 h =>
   tS fk54 (xQh x0 x1 x5) (oc3 h0 h1 h2 on) (ih _ _ _ _ h)) fun h0 h =>
   dS h fk54 (xQi x0 x1 x5) (oc h0 on)
theorem xUt {N : Nat} : ∀ a0 a1 r, xFi N a0 a1 = some r → RE Try.f54 I54 (xFj a0 a1) (xBR r) := fun a0 a1 r h =>
 tE fk54 (xQj a0 a1) on (xUs _ _ _ _ _ h)
theorem xEH {N : Nat} {a0 : List Str} {a1 : Str} {r : Bool} (h : xFi N  a0 a1 = some r) : AbC 54 (xFj a0 a1) (xBR r) :=
 AbsCalls.of_reach fk54 rfl rfl rfl (Nat.le_of_ble_eq_true rfl) (xUt a0 a1 r h)
def G31 (q : Exp → Str → Str → (List Str) → Option (Bool)) : Prop := ∀ a0 a1 a2 a3 r, q a0 a1 a2 a3 = some r → AbC 31 (xBJ a0 a1 a2 a3) (xAH r)
noncomputable def I31 : Info := { body := (Try.f31.body).getD .skip, nt := 66, results := [.tmp 8], keep := [0, 2, 4, 6, 8, 16, 18, 20, 40, 68, 98, 130, 9], live := [(4, [2, 4, 6, 8, 18, 9])], modes := [(1, [(3, .take, false)]), (2, [(4, .take, false)]), (7, [(3, .take, false), (8, .take, false)]), (9, [(7, .take, false)])] }
theorem fk31 : FnOk Try.prog 31 Try.f31 I31 := ⟨Try.func31, by kernel_rfl, by kernel_rfl, by kernel_rfl, by kernel_rfl⟩
def xHo (x1 x2 : Str) (x3 : List Str) (x9 : Int) (b4 : Exp) : St := [(2, .v false [.str x1]), (4, .v false [.str x2]), (6, .v false [.sl .ro .str x3]), (8, .v false [.ptr 4 0]), (18, .v false [.int .i64 x9]), (9, .v true [.int .i64 (Exp.kind b4), .int .i64 (Exp.n b4), .str (Exp.text b4), .sl .ro .exp (Exp.args b4)])]
abbrev xEe (v0 : Exp) := (Ln (Exp.args v0) : Int)
abbrev xFQ (v0 : Int) (v1 : Exp) : Prop := iY (dc (v0 < (xEe v1)))
abbrev xGA (v0 : Exp) : Prop := iY ((Exp.kind v0) == 7)
abbrev xJH (v0 : Int) : Prop := iY (dc (v0 > 0))
abbrev xKd (v0 : List Str) : Prop := 0 + Ln v0 ≤ Lim
abbrev xKe (v0 : List Str) (v1 : Exp) : Prop := Ln ([] ++ v0) + Ln [(Exp.text v1)] ≤ Lim
abbrev xFG (v0 : Int) (v1 : Exp) : Prop := (0 : Int) ≤ v0 ∧ v0 < (Ln (Exp.args v1))
abbrev xE2 (v0 : Exp) (v1 : Int) := gD (Exp.args v0) (tN v1) Ty.exp.dflt
abbrev xNf (v0 : Exp) (v1 : Int) (v2 v3 : Str) (v4 : List Str) (v5 : Bool) : Prop := AbC 31 (xBJ (xE2 v0 v1) v2 v3 (([] ++ v4) ++ [(Exp.text v0)])) (xAH v5)
def xO8 (x1 x2 : Str) (x3 : List Str) (x9 : Int) (b4 : Exp) (r1 : Bool) : rS 4 I31 (xHo x1 x2 x3 x9 b4) [Y, Y, Y, Y, Y] [xAH r1] = dn (xAH true) [xFQ x9 b4, xGA b4, iY true, xJH x9, xKd x3, xKe x3 b4, xFG x9 b4, xNf b4 x9 x1 x2 x3 r1, iY r1] := by kernel_rfl
def xO9 (x1 x2 : Str) (x3 : List Str) (x9 : Int) (b4 : Exp) (r1 : Bool) : rS 4 I31 (xHo x1 x2 x3 x9 b4) [Y, Y, Y, Y, F] [xAH r1] = st 4 I31 (xHo x1 x2 x3 (W (x9 + 1)) b4) [xFQ x9 b4, xGA b4, iY true, xJH x9, xKd x3, xKe x3 b4, xFG x9 b4, xNf b4 x9 x1 x2 x3 r1, iN r1] := by kernel_rfl
abbrev xIk (v0 : Int) : Prop := iN (dc (v0 > 0))
abbrev xJK (v0 : Exp) (v1 : Int) (v2 v3 : Str) (v4 : List Str) (v5 : Bool) : Prop := AbC 31 (xBJ (xE2 v0 v1) v2 v3 v4) (xAH v5)
def xPa (x1 x2 : Str) (x3 : List Str) (x9 : Int) (b4 : Exp) (r1 : Bool) : rS 4 I31 (xHo x1 x2 x3 x9 b4) [Y, Y, Y, F, Y] [xAH r1] = dn (xAH true) [xFQ x9 b4, xGA b4, iY true, xIk x9, xFG x9 b4, xJK b4 x9 x1 x2 x3 r1, iY r1] := by kernel_rfl
def xPb (x1 x2 : Str) (x3 : List Str) (x9 : Int) (b4 : Exp) (r1 : Bool) : rS 4 I31 (xHo x1 x2 x3 x9 b4) [Y, Y, Y, F, F] [xAH r1] = st 4 I31 (xHo x1 x2 x3 (W (x9 + 1)) b4) [xFQ x9 b4, xGA b4, iY true, xIk x9, xFG x9 b4, xJK b4 x9 x1 x2 x3 r1, iN r1] := by kernel_rfl
abbrev xCz (v0 : Exp) : Prop := iN ((Exp.kind v0) == 7)
abbrev xLn (v0 : Exp) := (Exp.kind v0) == 9
abbrev xFW (v0 : Exp) : Prop := iY (xLn v0)
def xPc (x1 x2 : Str) (x3 : List Str) (x9 : Int) (b4 : Exp) (r1 : Bool) : rS 4 I31 (xHo x1 x2 x3 x9 b4) [Y, F, Y, Y, Y] [xAH r1] = dn (xAH true) [xFQ x9 b4, xCz b4, xFW b4, xJH x9, xKd x3, xKe x3 b4, xFG x9 b4, xNf b4 x9 x1 x2 x3 r1, iY r1] := by kernel_rfl
def xPd (x1 x2 : Str) (x3 : List Str) (x9 : Int) (b4 : Exp) (r1 : Bool) : rS 4 I31 (xHo x1 x2 x3 x9 b4) [Y, F, Y, Y, F] [xAH r1] = st 4 I31 (xHo x1 x2 x3 (W (x9 + 1)) b4) [xFQ x9 b4, xCz b4, xFW b4, xJH x9, xKd x3, xKe x3 b4, xFG x9 b4, xNf b4 x9 x1 x2 x3 r1, iN r1] := by kernel_rfl
def xPe (x1 x2 : Str) (x3 : List Str) (x9 : Int) (b4 : Exp) (r1 : Bool) : rS 4 I31 (xHo x1 x2 x3 x9 b4) [Y, F, Y, F, Y] [xAH r1] = dn (xAH true) [xFQ x9 b4, xCz b4, xFW b4, xIk x9, xFG x9 b4, xJK b4 x9 x1 x2 x3 r1, iY r1] := by kernel_rfl
def xPf (x1 x2 : Str) (x3 : List Str) (x9 : Int) (b4 : Exp) (r1 : Bool) : rS 4 I31 (xHo x1 x2 x3 x9 b4) [Y, F, Y, F, F] [xAH r1] = st 4 I31 (xHo x1 x2 x3 (W (x9 + 1)) b4) [xFQ x9 b4, xCz b4, xFW b4, xIk x9, xFG x9 b4, xJK b4 x9 x1 x2 x3 r1, iN r1] := by kernel_rfl
abbrev xFn (v0 : Exp) : Prop := iN (xLn v0)
def xPg (x1 x2 : Str) (x3 : List Str) (x9 : Int) (b4 : Exp) (r1 : Bool) : rS 4 I31 (xHo x1 x2 x3 x9 b4) [Y, F, F, F, Y] [xAH r1] = dn (xAH true) [xFQ x9 b4, xCz b4, xFn b4, iN false, xFG x9 b4, xJK b4 x9 x1 x2 x3 r1, iY r1] := by kernel_rfl
def xPh (x1 x2 : Str) (x3 : List Str) (x9 : Int) (b4 : Exp) (r1 : Bool) : rS 4 I31 (xHo x1 x2 x3 x9 b4) [Y, F, F, F, F] [xAH r1] = st 4 I31 (xHo x1 x2 x3 (W (x9 + 1)) b4) [xFQ x9 b4, xCz b4, xFn b4, iN false, xFG x9 b4, xJK b4 x9 x1 x2 x3 r1, iN r1] := by kernel_rfl
abbrev xI0 (v0 : Int) (v1 : Exp) : Prop := iN (dc (v0 < (xEe v1)))
def xNg (x1 x2 : Str) (x3 : List Str) (x9 : Int) (b4 : Exp) : rS 4 I31 (xHo x1 x2 x3 x9 b4) [F] [] = dn (xAH false) [xI0 x9 b4] := by kernel_rfl
abbrev xFv (v0 : Exp) : Prop := iY ((Exp.kind v0) == 3)
abbrev xKw (v0 : List Str) (v1 : Exp) (v2 : Bool) : Prop := AbC 54 (xFj v0 (Exp.text v1)) (xBR v2)
abbrev xIt (v0 : Exp) := ((Exp.text v0) : Str)
abbrev xKx (v0 : Exp) (v1 : Str) : Prop := iY ((xIt v0) == v1)
def xNh (a0 : Exp) (a1 a2 : Str) (a3 : List Str) (r1 r2 : Bool) : rE I31 (xBJ a0 a1 a2 a3) [Y, Y, Y] [xBR r1, xBR r2] = dn (xAH r2) [xFv a0, xKw a3 a0 r1, iY (!r1), xKx a0 a1, AbC 54 (xFj a3 a2) (xBR r2)] := by kernel_rfl
abbrev xKy (v0 : Exp) (v1 : Str) : Prop := iN ((xIt v0) == v1)
def xNi (a0 : Exp) (a1 a2 : Str) (a3 : List Str) (r1 : Bool) : rE I31 (xBJ a0 a1 a2 a3) [Y, Y, F] [xBR r1] = dn (xAH false) [xFv a0, xKw a3 a0 r1, iY (!r1), xKy a0 a1] := by kernel_rfl
abbrev xAW (v0 : Bool) : Prop := iN (!v0)
def xNj (a0 : Exp) (a1 a2 : Str) (a3 : List Str) (r1 : Bool) : rE I31 (xBJ a0 a1 a2 a3) [Y, F] [xBR r1] = st 4 I31 (xHo a1 a2 a3 0 a0) [xFv a0, xKw a3 a0 r1, xAW r1] := by kernel_rfl
abbrev xBV (v0 : Exp) : Prop := iN ((Exp.kind v0) == 3)
def xNk (a0 : Exp) (a1 a2 : Str) (a3 : List Str) : rE I31 (xBJ a0 a1 a2 a3) [F, F] [] = st 4 I31 (xHo a1 a2 a3 0 a0) [xBV a0, iN false] := by kernel_rfl
theorem xTt {N q0} (g0 : G31 q0) : ∀ n x1 x2 x3 x9 b4 r, xBj N q0 n x1 x2 x3 x9 b4 = some r → RS Try.f31 I31 4 (xHo x1 x2 x3 x9 b4) (xAH r) := by
 intro n
 induction n with
 | zero => exact fun _ _ _ _ _ _ h => nE h
 | succ n ih =>
  exact fun x1 x2 x3 x9 b4 r h =>
   cE h (fun h0 h => cE h (fun h1 h => cE h (fun h3 h => iE h fun h4 h => iE h fun h5 h => iE h fun h6 h => bE h fun r1 h7 h => cE h (fun h8 h => dS h fk31 (xO8 x1 x2 x3 x9 b4 r1) (oc9 h0 h1 rfl h3 h4 h5 h6 (g0 _ _ _ _ _ h7) h8 on)) fun h8 h =>
   tS fk31 (xO9 x1 x2 x3 x9 b4 r1) (oc9 h0 h1 rfl h3 h4 h5 h6 (g0 _ _ _ _ _ h7) h8 on) (ih _ _ _ _ _ _ h)) fun h3 h =>
   iE h fun h4 h => bE h fun r1 h5 h => cE h (fun h6 h => dS h fk31 (xPa x1 x2 x3 x9 b4 r1) (oc7 h0 h1 rfl h3 h4 (g0 _ _ _ _ _ h5) h6 on)) fun h6 h =>
   tS fk31 (xPb x1 x2 x3 x9 b4 r1) (oc7 h0 h1 rfl h3 h4 (g0 _ _ _ _ _ h5) h6 on) (ih _ _ _ _ _ _ h)) fun h1 h =>
   cE h (fun h2 h => cE h (fun h3 h => iE h fun h4 h => iE h fun h5 h => iE h fun h6 h => bE h fun r1 h7 h => cE h (fun h8 h => dS h fk31 (xPc x1 x2 x3 x9 b4 r1) (oc9 h0 h1 h2 h3 h4 h5 h6 (g0 _ _ _ _ _ h7) h8 on)) fun h8 h =>
   tS fk31 (xPd x1 x2 x3 x9 b4 r1) (oc9 h0 h1 h2 h3 h4 h5 h6 (g0 _ _ _ _ _ h7) h8 on) (ih _ _ _ _ _ _ h)) fun h3 h =>
   iE h fun h4 h => bE h fun r1 h5 h => cE h (fun h6 h => dS h fk31 (xPe x1 x2 x3 x9 b4 r1) (oc7 h0 h1 h2 h3 h4 (g0 _ _ _ _ _ h5) h6 on)) fun h6 h =>
   tS fk31 (xPf x1 x2 x3 x9 b4 r1) (oc7 h0 h1 h2 h3 h4 (g0 _ _ _ _ _ h5) h6 on) (ih _ _ _ _ _ _ h)) fun h2 h =>
   iE h fun h4 h => bE h fun r1 h5 h => cE h (fun h6 h => dS h fk31 (xPg x1 x2 x3 x9 b4 r1) (oc7 h0 h1 h2 rfl h4 (g0 _ _ _ _ _ h5) h6 on)) fun h6 h =>
   tS fk31 (xPh x1 x2 x3 x9 b4 r1) (oc7 h0 h1 h2 rfl h4 (g0 _ _ _ _ _ h5) h6 on) (ih _ _ _ _ _ _ h)) fun h0 h =>
   dS h fk31 (xNg x1 x2 x3 x9 b4) (oc h0 on)
theorem xUa {N q0} (g0 : G31 q0) : ∀ a0 a1 a2 a3 r, xDT N q0 a0 a1 a2 a3 = some r → RE Try.f31 I31 (xBJ a0 a1 a2 a3) (xAH r) := fun a0 a1 a2 a3 r h =>
 cE h (fun h0 h => bE h fun r1 h1 h => cE h (fun h2 h => cE h (fun h3 h => bE h fun r2 h4 h => dE h fk31 (xNh a0 a1 a2 a3 r1 r2) (oc5 h0 (xEH h1) h2 h3 (xEH h4) on)) fun h3 h =>
 dE h fk31 (xNi a0 a1 a2 a3 r1) (oc4 h0 (xEH h1) h2 h3 on)) fun h2 h =>
 tE fk31 (xNj a0 a1 a2 a3 r1) (oc3 h0 (xEH h1) h2 on) (xTt g0 _ _ _ _ _ _ _ h)) fun h0 h =>
 tE fk31 (xNk a0 a1 a2 a3) (oc2 h0 rfl on) (xTt g0 _ _ _ _ _ _ _ h)
theorem xHH {N q0} (g0 : G31 q0) {a0} {a1} {a2} {a3} {r} (h : xDT N q0 a0 a1 a2 a3 = some r) : AbC 31 (xBJ a0 a1 a2 a3) (xAH r) :=
 AbsCalls.of_reach fk31 rfl rfl rfl (Nat.le_of_ble_eq_true rfl) (xUa g0 a0 a1 a2 a3 r h)
theorem xGv {N : Nat} : ∀ d, G31 (xDf N d)
 | 0 => fun _ _ _ _ _ h => nE h
 | d + 1 => fun _ _ _ _ _ h => xHH (N := N) (xGv d) h
theorem xIV {N : Nat} {a0 : Exp} {a1 : Str} {a2 : Str} {a3 : List Str} {r : Bool} (h : xHd N a0 a1 a2 a3 = some r) : AbC 31 (xBJ a0 a1 a2 a3) (xAH r) := xGv N _ _ _ _ r h
noncomputable def I9 : Info := { body := (Try.f9.body).getD .skip, nt := 12, results := [.tmp 6], keep := [0, 2, 4, 6, 12, 7], live := [], modes := [] }
theorem fk9 : FnOk Try.prog 9 Try.f9 I9 := ⟨Try.func9, by kernel_rfl, by kernel_rfl, by kernel_rfl, by kernel_rfl⟩
def xTO (a0 : Exp) (a1 a2 : Str) (r1 : Bool) : rE I9 (xD9 a0 a1 a2) [] [xAH r1] = dn (xCG r1) [AbC 31 (xBJ a0 a1 a2 []) (xAH r1)] := by kernel_rfl
theorem c9_e {N : Nat} : ∀ a0 a1 a2 r, xE4 N a0 a1 a2 = some r → RE Try.f9 I9 (xD9 a0 a1 a2) (xCG r) := fun a0 a1 a2 r h =>
 bE h fun r1 h0 h => dE h fk9 (xTO a0 a1 a2 r1) (oc (xIV h0) on)
theorem xG4 {N : Nat} {a0 : Exp} {a1 : Str} {a2 : Str} {r : Bool} (h : xE4 N  a0 a1 a2 = some r) : AbC 9 (xD9 a0 a1 a2) (xCG r) :=
 AbsCalls.of_reach fk9 rfl rfl rfl (Nat.le_of_ble_eq_true rfl) (c9_e a0 a1 a2 r h)
noncomputable def I34 : Info := { body := (Try.f34.body).getD .skip, nt := 19, results := [.tmp 4], keep := [0, 2, 8, 10, 12, 14, 16, 18, 20, 32], live := [(2, [2, 14, 16, 18])], modes := [(4, [(0, .take, false)]), (5, [(0, .take, false)]), (6, [(1, .take, false)])] }
theorem fk34 : FnOk Try.prog 34 Try.f34 I34 := ⟨Try.func34, by kernel_rfl, by kernel_rfl, by kernel_rfl, by kernel_rfl⟩
def xL8 (x1 : Str) (x7 : List Str) (x8 x9 : Int) : St := [(2, .v false [.str x1]), (14, .v false [.sl .ro .str x7]), (16, .v false [.int .i64 x8]), (18, .v false [.int .i64 x9])]
abbrev xES (v0 v1 : Int) : Prop := iY (dc (v0 < v1))
def xPi (x1 : Str) (x7 : List Str) (x8 x9 : Int) : rS 2 I34 (xL8 x1 x7 x8 x9) [Y, Y] [] = dn (xA9 x9) [xES x9 x8, xGn x9 x7, iY (xIS x7 x9 x1)] := by kernel_rfl
def xPj (x1 : Str) (x7 : List Str) (x8 x9 : Int) : rS 2 I34 (xL8 x1 x7 x8 x9) [Y, F] [] = st 2 I34 (xL8 x1 x7 x8 (W (x9 + 1))) [xES x9 x8, xGn x9 x7, iN (xIS x7 x9 x1)] := by kernel_rfl
abbrev xHy (v0 v1 : Int) : Prop := iN (dc (v0 < v1))
def xPk (x1 : Str) (x7 : List Str) (x8 x9 : Int) : rS 2 I34 (xL8 x1 x7 x8 x9) [F] [] = dn (xA9 (-1)) [xHy x9 x8] := by kernel_rfl
def xPl (a0 : List Str) (a1 : Str) : rE I34 (xDH a0 a1) [] [] = st 2 I34 (xL8 a1 a0 (Ln a0 : Int) 0) [] := by kernel_rfl
theorem xUb {N : Nat} : ∀ n x1 x7 x8 x9 r, xDI N n x1 x7 x8 x9 = some r → RS Try.f34 I34 2 (xL8 x1 x7 x8 x9) (xA9 r) := by
 intro n
 induction n with
 | zero => exact fun _ _ _ _ _ h => nE h
 | succ n ih =>
  exact fun x1 x7 x8 x9 r h =>
   cE h (fun h0 h => iE h fun h1 h => cE h (fun h2 h => dS h fk34 (xPi x1 x7 x8 x9) (oc3 h0 h1 h2 on)) fun h2 h =>
   tS fk34 (xPj x1 x7 x8 x9) (oc3 h0 h1 h2 on) (ih _ _ _ _ _ h)) fun h0 h =>
   dS h fk34 (xPk x1 x7 x8 x9) (oc h0 on)
theorem xUc {N : Nat} : ∀ a0 a1 r, xCL N a0 a1 = some r → RE Try.f34 I34 (xDH a0 a1) (xA9 r) := fun a0 a1 r h =>
 tE fk34 (xPl a0 a1) on (xUb _ _ _ _ _ _ h)
theorem xCE {N : Nat} {a0 : List Str} {a1 : Str} {r : Int} (h : xCL N  a0 a1 = some r) : AbC 34 (xDH a0 a1) (xA9 r) :=
 AbsCalls.of_reach fk34 rfl rfl rfl (Nat.le_of_ble_eq_true rfl) (xUc a0 a1 r h)
def xI9 (q : Exp → (List Str) → (List Str) → Option ((List Str))) : Prop := ∀ a0 a1 a2 r, q a0 a1 a2 = some r → AbC 35 (xAA a0 a1 a2) (xAs r)
noncomputable def xDq : Info := { body := (Try.f35.body).getD .skip, nt := 82, results := [], keep := [0, 2, 4, 8, 12, 14, 16, 18, 38, 48, 96, 114, 116, 118, 120, 138, 2000006, 1, 9, 17, 2000007], live := [(8, [0, 4, 8, 12, 114, 116, 118, 2000006, 1, 9, 2000007])], modes := [(1, [(3, .take, false)]), (4, [(3, .take, false)]), (5, [(1, .take, false)]), (11, [(1, .take, false), (2, .take, false)]), (12, [(6, .cp, true)]), (13, [(2, .take, false), (3, .take, false)]), (14, [(1, .take, false)])], ext := [0, 1000003] }
theorem xFs : FnOk Try.prog 35 Try.f35 xDq := ⟨Try.func35, by kernel_rfl, by kernel_rfl, by kernel_rfl, by kernel_rfl⟩
def xEM (x2 : List Str) (x6 : Bool) (x57 : List Exp) (x58 x59 : Int) (b4 : Exp) (b1000003 : List Str) : St := [(0, .v false [.ptr 0 0]), (4, .v false [.sl .ro .str x2]), (8, .v false [.ptr 4 0]), (12, .v false [.bool x6]), (114, .v false [.sl .ro .exp x57]), (116, .v false [.int .i64 x58]), (118, .v false [.int .i64 x59]), (1, .v true [.clo 51 [1000003], .val .nilFunc]), (9, .v true [.int .i64 (Exp.kind b4), .int .i64 (Exp.n b4), .str (Exp.text b4), .sl .ro .exp (Exp.args b4)]), (2000007, .v true [.sl .own .str b1000003])]
abbrev xGo (v0 : Int) (v1 : List Exp) : Prop := (0 : Int) ≤ v0 ∧ v0 < (Ln v1)
abbrev xE3 (v0 : List Exp) (v1 : Int) := gD v0 (tN v1) Ty.exp.dflt
def xKU (x2 : List Str) (x6 : Bool) (x57 : List Exp) (x58 x59 : Int) (b4 : Exp) (b1000003 : List Str) (r1 : (List Str)) : rS 8 xDq (xEM x2 x6 x57 x58 x59 b4 b1000003) [Y, Y, Y] [cl (xAs r1)] = st 8 xDq (xEM x2 x6 x57 x58 (W (x59 + 1)) b4 r1) [xES x59 x58, xGo x59 x57, iY x6, xJH x59, xKd x2, xKe x2 b4, AbC 35 (xAA (xE3 x57 x59) (([] ++ x2) ++ [(Exp.text b4)]) b1000003) (xAs r1)] := by kernel_rfl
def xKV (x2 : List Str) (x6 : Bool) (x57 : List Exp) (x58 x59 : Int) (b4 : Exp) (b1000003 : List Str) (r1 : (List Str)) : rS 8 xDq (xEM x2 x6 x57 x58 x59 b4 b1000003) [Y, Y, F] [cl (xAs r1)] = st 8 xDq (xEM x2 x6 x57 x58 (W (x59 + 1)) b4 r1) [xES x59 x58, xGo x59 x57, iY x6, xIk x59, AbC 35 (xAA (xE3 x57 x59) x2 b1000003) (xAs r1)] := by kernel_rfl
def xKW (x2 : List Str) (x6 : Bool) (x57 : List Exp) (x58 x59 : Int) (b4 : Exp) (b1000003 : List Str) (r1 : (List Str)) : rS 8 xDq (xEM x2 x6 x57 x58 x59 b4 b1000003) [Y, F, F] [cl (xAs r1)] = st 8 xDq (xEM x2 x6 x57 x58 (W (x59 + 1)) b4 r1) [xES x59 x58, xGo x59 x57, iN x6, iN false, AbC 35 (xAA (xE3 x57 x59) x2 b1000003) (xAs r1)] := by kernel_rfl
def xKX (x2 : List Str) (x6 : Bool) (x57 : List Exp) (x58 x59 : Int) (b4 : Exp) (b1000003 : List Str) : rS 8 xDq (xEM x2 x6 x57 x58 x59 b4 b1000003) [F] [] = dn (xAs b1000003) [xHy x59 x58] := by kernel_rfl
abbrev xJL (v0 : List Str) (v1 : Exp) (v2 : Int) : Prop := AbC 34 (xDH v0 (Exp.text v1)) (xA9 v2)
def xKY (a0 : Exp) (a1 a2 : List Str) (r1 : Int) (r2 : (List Str)) : rE xDq (xAA a0 a1 a2) [Y, Y, Y] [xA9 r1, xDG r2] = dn (xAs r2) [xFv a0, xJL a1 a0 r1, iY (dc (r1 < 0)), iY true, AbC 51 (xED (Exp.text a0) a1 a2) (xDG r2)] := by kernel_rfl
abbrev xLo (v0 : List Str) (v1 : Exp) (v2 : List Str) := xEM v0 ((Exp.kind v1) == 9) (Exp.args v1) (Ln (Exp.args v1) : Int) 0 v1 v2
def xKZ (a0 : Exp) (a1 a2 : List Str) (r1 : Int) : rE xDq (xAA a0 a1 a2) [Y, F, F, F, F] [xA9 r1] = st 8 xDq (xLo a1 a0 a2) [xFv a0, xJL a1 a0 r1, iN (dc (r1 < 0)), xCz a0, xFn a0, iN false] := by kernel_rfl
def xK0 (a0 : Exp) (a1 a2 : List Str) : rE xDq (xAA a0 a1 a2) [F, F, Y, Y, F] [] = st 8 xDq (xEM a1 true (Exp.args a0) (xEe a0) 0 a0 a2) [xBV a0, iN false, xGA a0, iY true, iN false] := by kernel_rfl
def xK1 (a0 : Exp) (a1 a2 : List Str) : rE xDq (xAA a0 a1 a2) [F, F, F, Y, F] [] = st 8 xDq (xLo a1 a0 a2) [xBV a0, iN false, xCz a0, xFW a0, iN false] := by kernel_rfl
def xK2 (a0 : Exp) (a1 a2 : List Str) : rE xDq (xAA a0 a1 a2) [F, F, F, F, F] [] = st 8 xDq (xLo a1 a0 a2) [xBV a0, iN false, xCz a0, xFn a0, iN false] := by kernel_rfl
theorem xH6 {N q0} (g0 : xI9 q0) : ∀ n x2 x6 x57 x58 x59 b4 b1000003 r, xAB N q0 n x2 x6 x57 x58 x59 b4 b1000003 = some r → RS Try.f35 xDq 8 (xEM x2 x6 x57 x58 x59 b4 b1000003) (xAs r) := by
 intro n
 induction n with
 | zero => exact fun _ _ _ _ _ _ _ _ h => nE h
 | succ n ih =>
  exact fun x2 x6 x57 x58 x59 b4 b1000003 r h =>
   cE h (fun h0 h => iE h fun h1 h => cE h (fun h2 h => cE h (fun h3 h => iE h fun h4 h => iE h fun h5 h => bE h fun r1 h6 h => tS xFs (xKU x2 x6 x57 x58 x59 b4 b1000003 r1) (oc7 h0 h1 h2 h3 h4 h5 (g0 _ _ _ _ h6) on) (ih _ _ _ _ _ _ _ _ h)) fun h3 h =>
   bE h fun r1 h4 h => tS xFs (xKV x2 x6 x57 x58 x59 b4 b1000003 r1) (oc5 h0 h1 h2 h3 (g0 _ _ _ _ h4) on) (ih _ _ _ _ _ _ _ _ h)) fun h2 h =>
   bE h fun r1 h4 h => tS xFs (xKW x2 x6 x57 x58 x59 b4 b1000003 r1) (oc5 h0 h1 h2 rfl (g0 _ _ _ _ h4) on) (ih _ _ _ _ _ _ _ _ h)) fun h0 h =>
   dS h xFs (xKX x2 x6 x57 x58 x59 b4 b1000003) (oc h0 on)
theorem xMi {N q0} (g0 : xI9 q0) : ∀ a0 a1 a2 r, xBt N q0 a0 a1 a2 = some r → RE Try.f35 xDq (xAA a0 a1 a2) (xAs r) := fun a0 a1 a2 r h =>
 cE h (fun h0 h => bE h fun r1 h1 h => cE h (fun h2 h => bE h fun r2 h4 h => dE h xFs (xKY a0 a1 a2 r1 r2) (oc5 h0 (xCE h1) h2 rfl (xIp h4) on)) fun h2 h =>
 tE xFs (xKZ a0 a1 a2 r1) (oc6 h0 (xCE h1) h2 (eq_ne h0 rfl) (eq_ne h0 rfl) rfl on) (xH6 g0 _ _ _ _ _ _ _ _ _ h)) fun h0 h =>
 cE h (fun h2 h => tE xFs (xK0 a0 a1 a2) (oc5 h0 rfl h2 rfl rfl on) (xH6 g0 _ _ _ _ _ _ _ _ _ h)) fun h2 h =>
 cE h (fun h3 h => tE xFs (xK1 a0 a1 a2) (oc5 h0 rfl h2 h3 rfl on) (xH6 g0 _ _ _ _ _ _ _ _ _ h)) fun h3 h =>
 tE xFs (xK2 a0 a1 a2) (oc5 h0 rfl h2 h3 rfl on) (xH6 g0 _ _ _ _ _ _ _ _ _ h)
theorem xFd {N q0} (g0 : xI9 q0) {a0} {a1} {a2} {r} (h : xBt N q0 a0 a1 a2 = some r) : AbC 35 (xAA a0 a1 a2) (xAs r) :=
 AbsCalls.of_reach xFs rfl rfl rfl (Nat.le_of_ble_eq_true rfl) (xMi g0 a0 a1 a2 r h)
theorem xDo {N : Nat} : ∀ d, xI9 (xBf N d)
 | 0 => fun _ _ _ _ h => nE h
 | d + 1 => fun _ _ _ _ h => xFd (N := N) (xDo d) h
theorem xFU {N : Nat} {a0 : Exp} {a1 : List Str} {a2 : List Str} {r : (List Str)} (h : xC3 N a0 a1 a2 = some r) : AbC 35 (xAA a0 a1 a2) (xAs r) := xDo N _ _ _ r h
def xI8 (q : Exp → (List Str) → (List Str) → Option ((List Str))) : Prop := ∀ a0 a1 a2 r, q a0 a1 a2 = some r → AbC 35 (xAw a0 a1 a2) (xAu r)
noncomputable def xC8 : Info := { body := (Try.f35.body).getD .skip, nt := 82, results := [], keep := [0, 2, 4, 8, 12, 14, 16, 18, 38, 48, 96, 114, 116, 118, 120, 138, 2000006, 1, 9, 17, 2000007], live := [(8, [0, 4, 8, 12, 114, 116, 118, 2000006, 1, 9, 2000007])], modes := [(1, [(3, .take, false)]), (4, [(3, .take, false)]), (5, [(1, .take, false)]), (11, [(1, .take, false), (2, .take, false)]), (12, [(6, .cp, true)]), (13, [(2, .take, false), (3, .take, false)]), (14, [(1, .take, false)])], ext := [0, 1000003] }
theorem xFr : FnOk Try.prog 35 Try.f35 xC8 := ⟨Try.func35, by kernel_rfl, by kernel_rfl, by kernel_rfl, by kernel_rfl⟩
def xEi (x2 : List Str) (x6 : Bool) (x57 : List Exp) (x58 x59 : Int) (b4 : Exp) (b1000003 : List Str) : St := [(0, .v false [.ptr 0 0]), (4, .v false [.sl .ro .str x2]), (8, .v false [.ptr 4 0]), (12, .v false [.bool x6]), (114, .v false [.sl .ro .exp x57]), (116, .v false [.int .i64 x58]), (118, .v false [.int .i64 x59]), (1, .v true [.val .nilFunc, .clo 47 [1000003]]), (9, .v true [.int .i64 (Exp.kind b4), .int .i64 (Exp.n b4), .str (Exp.text b4), .sl .ro .exp (Exp.args b4)]), (2000007, .v true [.sl .own .str b1000003])]
def xKL (x2 : List Str) (x6 : Bool) (x57 : List Exp) (x58 x59 : Int) (b4 : Exp) (b1000003 : List Str) (r1 : (List Str)) : rS 8 xC8 (xEi x2 x6 x57 x58 x59 b4 b1000003) [Y, Y, Y] [cl (xAu r1)] = st 8 xC8 (xEi x2 x6 x57 x58 (W (x59 + 1)) b4 r1) [xES x59 x58, xGo x59 x57, iY x6, xJH x59, xKd x2, xKe x2 b4, AbC 35 (xAw (xE3 x57 x59) (([] ++ x2) ++ [(Exp.text b4)]) b1000003) (xAu r1)] := by kernel_rfl
def xKM (x2 : List Str) (x6 : Bool) (x57 : List Exp) (x58 x59 : Int) (b4 : Exp) (b1000003 : List Str) (r1 : (List Str)) : rS 8 xC8 (xEi x2 x6 x57 x58 x59 b4 b1000003) [Y, Y, F] [cl (xAu r1)] = st 8 xC8 (xEi x2 x6 x57 x58 (W (x59 + 1)) b4 r1) [xES x59 x58, xGo x59 x57, iY x6, xIk x59, AbC 35 (xAw (xE3 x57 x59) x2 b1000003) (xAu r1)] := by kernel_rfl
def xKN (x2 : List Str) (x6 : Bool) (x57 : List Exp) (x58 x59 : Int) (b4 : Exp) (b1000003 : List Str) (r1 : (List Str)) : rS 8 xC8 (xEi x2 x6 x57 x58 x59 b4 b1000003) [Y, F, F] [cl (xAu r1)] = st 8 xC8 (xEi x2 x6 x57 x58 (W (x59 + 1)) b4 r1) [xES x59 x58, xGo x59 x57, iN x6, iN false, AbC 35 (xAw (xE3 x57 x59) x2 b1000003) (xAu r1)] := by kernel_rfl
def xKO (x2 : List Str) (x6 : Bool) (x57 : List Exp) (x58 x59 : Int) (b4 : Exp) (b1000003 : List Str) : rS 8 xC8 (xEi x2 x6 x57 x58 x59 b4 b1000003) [F] [] = dn (xAu b1000003) [xHy x59 x58] := by kernel_rfl
abbrev xLp (v0 : List Str) (v1 : Exp) (v2 : List Str) := xEi v0 ((Exp.kind v1) == 9) (Exp.args v1) (Ln (Exp.args v1) : Int) 0 v1 v2
def xKP (a0 : Exp) (a1 a2 : List Str) (r1 : Int) : rE xC8 (xAw a0 a1 a2) [Y, Y, F, F, F, F] [xA9 r1] = st 8 xC8 (xLp a1 a0 a2) [xFv a0, xJL a1 a0 r1, iY (dc (r1 < 0)), iN false, xCz a0, xFn a0, iN false] := by kernel_rfl
def xKQ (a0 : Exp) (a1 a2 : List Str) (r1 : Int) : rE xC8 (xAw a0 a1 a2) [Y, F, F, F, F] [xA9 r1] = st 8 xC8 (xLp a1 a0 a2) [xFv a0, xJL a1 a0 r1, iN (dc (r1 < 0)), xCz a0, xFn a0, iN false] := by kernel_rfl
def xKR (a0 : Exp) (a1 a2 : List Str) (r1 : (List Str)) : rE xC8 (xAw a0 a1 a2) [F, F, Y, Y, Y] [xCf r1] = st 8 xC8 (xEi a1 true (Exp.args a0) (xEe a0) 0 a0 r1) [xBV a0, iN false, xGA a0, iY true, iY true, AbC 47 (xDn (Exp.text a0) a2) (xCf r1)] := by kernel_rfl
def xKS (a0 : Exp) (a1 a2 : List Str) (r1 : (List Str)) : rE xC8 (xAw a0 a1 a2) [F, F, F, Y, Y] [xCf r1] = st 8 xC8 (xEi a1 (xLn a0) (Exp.args a0) (xEe a0) 0 a0 r1) [xBV a0, iN false, xCz a0, xFW a0, iY true, AbC 47 (xDn (Exp.text a0) a2) (xCf r1)] := by kernel_rfl
def xKT (a0 : Exp) (a1 a2 : List Str) : rE xC8 (xAw a0 a1 a2) [F, F, F, F, F] [] = st 8 xC8 (xLp a1 a0 a2) [xBV a0, iN false, xCz a0, xFn a0, iN false] := by kernel_rfl
theorem xHf {N q0} (g0 : xI8 q0) : ∀ n x2 x6 x57 x58 x59 b4 b1000003 r, xAt N q0 n x2 x6 x57 x58 x59 b4 b1000003 = some r → RS Try.f35 xC8 8 (xEi x2 x6 x57 x58 x59 b4 b1000003) (xAu r) := by
 intro n
 induction n with
 | zero => exact fun _ _ _ _ _ _ _ _ h => nE h
 | succ n ih =>
  exact fun x2 x6 x57 x58 x59 b4 b1000003 r h =>
   cE h (fun h0 h => iE h fun h1 h => cE h (fun h2 h => cE h (fun h3 h => iE h fun h4 h => iE h fun h5 h => bE h fun r1 h6 h => tS xFr (xKL x2 x6 x57 x58 x59 b4 b1000003 r1) (oc7 h0 h1 h2 h3 h4 h5 (g0 _ _ _ _ h6) on) (ih _ _ _ _ _ _ _ _ h)) fun h3 h =>
   bE h fun r1 h4 h => tS xFr (xKM x2 x6 x57 x58 x59 b4 b1000003 r1) (oc5 h0 h1 h2 h3 (g0 _ _ _ _ h4) on) (ih _ _ _ _ _ _ _ _ h)) fun h2 h =>
   bE h fun r1 h4 h => tS xFr (xKN x2 x6 x57 x58 x59 b4 b1000003 r1) (oc5 h0 h1 h2 rfl (g0 _ _ _ _ h4) on) (ih _ _ _ _ _ _ _ _ h)) fun h0 h =>
   dS h xFr (xKO x2 x6 x57 x58 x59 b4 b1000003) (oc h0 on)
theorem xMh {N q0} (g0 : xI8 q0) : ∀ a0 a1 a2 r, xBp N q0 a0 a1 a2 = some r → RE Try.f35 xC8 (xAw a0 a1 a2) (xAu r) := fun a0 a1 a2 r h =>
 cE h (fun h0 h => bE h fun r1 h1 h => cE h (fun h2 h => tE xFr (xKP a0 a1 a2 r1) (oc7 h0 (xCE h1) h2 rfl (eq_ne h0 rfl) (eq_ne h0 rfl) rfl on) (xHf g0 _ _ _ _ _ _ _ _ _ h)) fun h2 h =>
 tE xFr (xKQ a0 a1 a2 r1) (oc6 h0 (xCE h1) h2 (eq_ne h0 rfl) (eq_ne h0 rfl) rfl on) (xHf g0 _ _ _ _ _ _ _ _ _ h)) fun h0 h =>
 cE h (fun h2 h => bE h fun r1 h5 h => tE xFr (xKR a0 a1 a2 r1) (oc6 h0 rfl h2 rfl rfl (xGD h5) on) (xHf g0 _ _ _ _ _ _ _ _ _ h)) fun h2 h =>
 cE h (fun h3 h => bE h fun r1 h5 h => tE xFr (xKS a0 a1 a2 r1) (oc6 h0 rfl h2 h3 rfl (xGD h5) on) (xHf g0 _ _ _ _ _ _ _ _ _ h)) fun h3 h =>
 tE xFr (xKT a0 a1 a2) (oc5 h0 rfl h2 h3 rfl on) (xHf g0 _ _ _ _ _ _ _ _ _ h)
theorem xEY {N q0} (g0 : xI8 q0) {a0} {a1} {a2} {r} (h : xBp N q0 a0 a1 a2 = some r) : AbC 35 (xAw a0 a1 a2) (xAu r) :=
 AbsCalls.of_reach xFr rfl rfl rfl (Nat.le_of_ble_eq_true rfl) (xMh g0 a0 a1 a2 r h)
theorem xDb {N : Nat} : ∀ d, xI8 (xBd N d)
 | 0 => fun _ _ _ _ h => nE h
 | d + 1 => fun _ _ _ _ h => xEY (N := N) (xDb d) h
theorem xFO {N : Nat} {a0 : Exp} {a1 : List Str} {a2 : List Str} {r : (List Str)} (h : xCR N a0 a1 a2 = some r) : AbC 35 (xAw a0 a1 a2) (xAu r) := xDb N _ _ _ r h
noncomputable def xIx : Info := { body := (Try.f33.body).getD .skip, nt := 19, results := [], keep := [0, 2, 4, 6, 8, 5, 7, 9], live := [], modes := [(0, [(1, .take, false), (5, .take, false)])], ext := [2, 3, 4] }
theorem xIA : FnOk Try.prog 33 Try.f33 xIx := ⟨Try.func33, by kernel_rfl, by kernel_rfl, by kernel_rfl, by kernel_rfl⟩
def xK3 (a0 : Str) (a1 : List Str) (a2 : Bool) (a3 a4 : Str) : rE xIx (xCK a0 a1 a2 a3 a4) [Y] [] = dn (xCg (true, a3, a4)) [iY a2] := by kernel_rfl
def xK4 (a0 : Str) (a1 : List Str) (a2 : Bool) (a3 a4 : Str) (r1 : Int) : rE xIx (xCK a0 a1 a2 a3 a4) [F, Y] [xA9 r1] = dn (xCg ((dc (r1 ≥ 0)), a3, a4)) [iN a2, iY ((a0 : Str) == a3), AbC 34 (xDH a1 a4) (xA9 r1)] := by kernel_rfl
def xK5 (a0 : Str) (a1 : List Str) (a2 : Bool) (a3 a4 : Str) : rE xIx (xCK a0 a1 a2 a3 a4) [F, F] [] = dn (xCg (false, a3, a4)) [iN a2, iN ((a0 : Str) == a3)] := by kernel_rfl
theorem xMj {N : Nat} : ∀ a0 a1 a2 a3 a4 r, xFc N a0 a1 a2 a3 a4 = some r → RE Try.f33 xIx (xCK a0 a1 a2 a3 a4) (xCg r) := fun a0 a1 a2 a3 a4 r h =>
 cE h (fun h0 h => dE h xIA (xK3 a0 a1 a2 a3 a4) (oc h0 on)) fun h0 h =>
 cE h (fun h1 h => bE h fun r1 h2 h => dE h xIA (xK4 a0 a1 a2 a3 a4 r1) (oc3 h0 h1 (xCE h2) on)) fun h1 h =>
 dE h xIA (xK5 a0 a1 a2 a3 a4) (oc2 h0 h1 on)
theorem xIb {N : Nat} {a0 : Str} {a1 : List Str} {a2 : Bool} {a3 : Str} {a4 : Str} {r : Bool × Str × Str} (h : xFc N  a0 a1 a2 a3 a4 = some r) : AbC 33 (xCK a0 a1 a2 a3 a4) (xCg r) :=
 AbsCalls.of_reach xIA rfl rfl rfl (Nat.le_of_ble_eq_true rfl) (xMj a0 a1 a2 a3 a4 r h)
def xI7 (q : Exp → (List Str) → Bool → Str → Str → Option (Bool × Str × Str)) : Prop := ∀ a0 a1 a2 a3 a4 r, q a0 a1 a2 a3 a4 = some r → AbC 35 (xAx a0 a1 a2 a3 a4) (xAr r)
noncomputable def xDp : Info := { body := (Try.f35.body).getD .skip, nt := 82, results := [], keep := [0, 2, 4, 8, 12, 14, 16, 18, 38, 48, 96, 114, 116, 118, 120, 138, 2000006, 2000008, 2000010, 1, 9, 17, 2000007, 2000009, 2000011], live := [(8, [0, 4, 8, 12, 114, 116, 118, 2000006, 2000008, 2000010, 1, 9, 2000007, 2000009, 2000011])], modes := [(1, [(3, .take, false)]), (4, [(3, .take, false)]), (5, [(1, .take, false)]), (11, [(1, .take, false), (2, .take, false)]), (12, [(6, .cp, true)]), (13, [(2, .take, false), (3, .take, false)]), (14, [(1, .take, false)])], ext := [0, 1000003, 1000004, 1000005] }
theorem xFq : FnOk Try.prog 35 Try.f35 xDp := ⟨Try.func35, by kernel_rfl, by kernel_rfl, by kernel_rfl, by kernel_rfl⟩
def xEL (x2 : List Str) (x6 : Bool) (x57 : List Exp) (x58 x59 : Int) (b4 : Exp) (b1000003 : Bool) (b1000004 b1000005 : Str) : St := [(0, .v false [.ptr 0 0]), (4, .v false [.sl .ro .str x2]), (8, .v false [.ptr 4 0]), (12, .v false [.bool x6]), (114, .v false [.sl .ro .exp x57]), (116, .v false [.int .i64 x58]), (118, .v false [.int .i64 x59]), (1, .v true [.clo 33 [1000003, 1000004, 1000005], .val .nilFunc]), (9, .v true [.int .i64 (Exp.kind b4), .int .i64 (Exp.n b4), .str (Exp.text b4), .sl .ro .exp (Exp.args b4)]), (2000007, .v true [.bool b1000003]), (2000009, .v true [.str b1000004]), (2000011, .v true [.str b1000005])]
def xKC (x2 : List Str) (x6 : Bool) (x57 : List Exp) (x58 x59 : Int) (b4 : Exp) (b1000003 : Bool) (b1000004 b1000005 : Str) (r1 : Bool × Str × Str) : rS 8 xDp (xEL x2 x6 x57 x58 x59 b4 b1000003 b1000004 b1000005) [Y, Y, Y] [cl (xAr r1)] = st 8 xDp (xEL x2 x6 x57 x58 (W (x59 + 1)) b4 r1.1 r1.2.1 r1.2.2) [xES x59 x58, xGo x59 x57, iY x6, xJH x59, xKd x2, xKe x2 b4, AbC 35 (xAx (xE3 x57 x59) (([] ++ x2) ++ [(Exp.text b4)]) b1000003 b1000004 b1000005) (xAr r1)] := by kernel_rfl
def xKD (x2 : List Str) (x6 : Bool) (x57 : List Exp) (x58 x59 : Int) (b4 : Exp) (b1000003 : Bool) (b1000004 b1000005 : Str) (r1 : Bool × Str × Str) : rS 8 xDp (xEL x2 x6 x57 x58 x59 b4 b1000003 b1000004 b1000005) [Y, Y, F] [cl (xAr r1)] = st 8 xDp (xEL x2 x6 x57 x58 (W (x59 + 1)) b4 r1.1 r1.2.1 r1.2.2) [xES x59 x58, xGo x59 x57, iY x6, xIk x59, AbC 35 (xAx (xE3 x57 x59) x2 b1000003 b1000004 b1000005) (xAr r1)] := by kernel_rfl
def xKE (x2 : List Str) (x6 : Bool) (x57 : List Exp) (x58 x59 : Int) (b4 : Exp) (b1000003 : Bool) (b1000004 b1000005 : Str) (r1 : Bool × Str × Str) : rS 8 xDp (xEL x2 x6 x57 x58 x59 b4 b1000003 b1000004 b1000005) [Y, F, F] [cl (xAr r1)] = st 8 xDp (xEL x2 x6 x57 x58 (W (x59 + 1)) b4 r1.1 r1.2.1 r1.2.2) [xES x59 x58, xGo x59 x57, iN x6, iN false, AbC 35 (xAx (xE3 x57 x59) x2 b1000003 b1000004 b1000005) (xAr r1)] := by kernel_rfl
def xKF (x2 : List Str) (x6 : Bool) (x57 : List Exp) (x58 x59 : Int) (b4 : Exp) (b1000003 : Bool) (b1000004 b1000005 : Str) : rS 8 xDp (xEL x2 x6 x57 x58 x59 b4 b1000003 b1000004 b1000005) [F] [] = dn (xAr (b1000003, b1000004, b1000005)) [xHy x59 x58] := by kernel_rfl
def xKG (a0 : Exp) (a1 : List Str) (a2 : Bool) (a3 a4 : Str) (r1 : Int) (r2 : Bool × Str × Str) : rE xDp (xAx a0 a1 a2 a3 a4) [Y, Y, Y] [xA9 r1, xCg r2] = dn (xAr (r2.1, r2.2.1, r2.2.2)) [xFv a0, xJL a1 a0 r1, iY (dc (r1 < 0)), iY true, AbC 33 (xCK (Exp.text a0) a1 a2 a3 a4) (xCg r2)] := by kernel_rfl
abbrev xLq (v0 : List Str) (v1 : Exp) (v2 : Bool) (v3 v4 : Str) := xEL v0 ((Exp.kind v1) == 9) (Exp.args v1) (Ln (Exp.args v1) : Int) 0 v1 v2 v3 v4
def xKH (a0 : Exp) (a1 : List Str) (a2 : Bool) (a3 a4 : Str) (r1 : Int) : rE xDp (xAx a0 a1 a2 a3 a4) [Y, F, F, F, F] [xA9 r1] = st 8 xDp (xLq a1 a0 a2 a3 a4) [xFv a0, xJL a1 a0 r1, iN (dc (r1 < 0)), xCz a0, xFn a0, iN false] := by kernel_rfl
def xKI (a0 : Exp) (a1 : List Str) (a2 : Bool) (a3 a4 : Str) : rE xDp (xAx a0 a1 a2 a3 a4) [F, F, Y, Y, F] [] = st 8 xDp (xEL a1 true (Exp.args a0) (xEe a0) 0 a0 a2 a3 a4) [xBV a0, iN false, xGA a0, iY true, iN false] := by kernel_rfl
def xKJ (a0 : Exp) (a1 : List Str) (a2 : Bool) (a3 a4 : Str) : rE xDp (xAx a0 a1 a2 a3 a4) [F, F, F, Y, F] [] = st 8 xDp (xLq a1 a0 a2 a3 a4) [xBV a0, iN false, xCz a0, xFW a0, iN false] := by kernel_rfl
def xKK (a0 : Exp) (a1 : List Str) (a2 : Bool) (a3 a4 : Str) : rE xDp (xAx a0 a1 a2 a3 a4) [F, F, F, F, F] [] = st 8 xDp (xLq a1 a0 a2 a3 a4) [xBV a0, iN false, xCz a0, xFn a0, iN false] := by kernel_rfl
theorem xH5 {N q0} (g0 : xI7 q0) : ∀ n x2 x6 x57 x58 x59 b4 b1000003 b1000004 b1000005 r, xAy N q0 n x2 x6 x57 x58 x59 b4 b1000003 b1000004 b1000005 = some r → RS Try.f35 xDp 8 (xEL x2 x6 x57 x58 x59 b4 b1000003 b1000004 b1000005) (xAr r) := by
 intro n
 induction n with
 | zero => exact fun _ _ _ _ _ _ _ _ _ _ h => nE h
 | succ n ih =>
  exact fun x2 x6 x57 x58 x59 b4 b1000003 b1000004 b1000005 r h =>
   cE h (fun h0 h => iE h fun h1 h => cE h (fun h2 h => cE h (fun h3 h => iE h fun h4 h => iE h fun h5 h => bE h fun r1 h6 h => tS xFq (xKC x2 x6 x57 x58 x59 b4 b1000003 b1000004 b1000005 r1) (oc7 h0 h1 h2 h3 h4 h5 (g0 _ _ _ _ _ _ h6) on) (ih _ _ _ _ _ _ _ _ _ _ h)) fun h3 h =>
   bE h fun r1 h4 h => tS xFq (xKD x2 x6 x57 x58 x59 b4 b1000003 b1000004 b1000005 r1) (oc5 h0 h1 h2 h3 (g0 _ _ _ _ _ _ h4) on) (ih _ _ _ _ _ _ _ _ _ _ h)) fun h2 h =>
   bE h fun r1 h4 h => tS xFq (xKE x2 x6 x57 x58 x59 b4 b1000003 b1000004 b1000005 r1) (oc5 h0 h1 h2 rfl (g0 _ _ _ _ _ _ h4) on) (ih _ _ _ _ _ _ _ _ _ _ h)) fun h0 h =>
   dS h xFq (xKF x2 x6 x57 x58 x59 b4 b1000003 b1000004 b1000005) (oc h0 on)
theorem xMg {N q0} (g0 : xI7 q0) : ∀ a0 a1 a2 a3 a4 r, xBq N q0 a0 a1 a2 a3 a4 = some r → RE Try.f35 xDp (xAx a0 a1 a2 a3 a4) (xAr r) := fun a0 a1 a2 a3 a4 r h =>
 cE h (fun h0 h => bE h fun r1 h1 h => cE h (fun h2 h => bE h fun r2 h4 h => dE h xFq (xKG a0 a1 a2 a3 a4 r1 r2) (oc5 h0 (xCE h1) h2 rfl (xIb h4) on)) fun h2 h =>
 tE xFq (xKH a0 a1 a2 a3 a4 r1) (oc6 h0 (xCE h1) h2 (eq_ne h0 rfl) (eq_ne h0 rfl) rfl on) (xH5 g0 _ _ _ _ _ _ _ _ _ _ _ h)) fun h0 h =>
 cE h (fun h2 h => tE xFq (xKI a0 a1 a2 a3 a4) (oc5 h0 rfl h2 rfl rfl on) (xH5 g0 _ _ _ _ _ _ _ _ _ _ _ h)) fun h2 h =>
 cE h (fun h3 h => tE xFq (xKJ a0 a1 a2 a3 a4) (oc5 h0 rfl h2 h3 rfl on) (xH5 g0 _ _ _ _ _ _ _ _ _ _ _ h)) fun h3 h =>
 tE xFq (xKK a0 a1 a2 a3 a4) (oc5 h0 rfl h2 h3 rfl on) (xH5 g0 _ _ _ _ _ _ _ _ _ _ _ h)
theorem xEZ {N q0} (g0 : xI7 q0) {a0} {a1} {a2} {a3} {a4} {r} (h : xBq N q0 a0 a1 a2 a3 a4 = some r) : AbC 35 (xAx a0 a1 a2 a3 a4) (xAr r) :=
 AbsCalls.of_reach xFq rfl rfl rfl (Nat.le_of_ble_eq_true rfl) (xMg g0 a0 a1 a2 a3 a4 r h)
theorem xDc {N : Nat} : ∀ d, xI7 (xBe N d)
 | 0 => fun _ _ _ _ _ _ h => nE h
 | d + 1 => fun _ _ _ _ _ _ h => xEZ (N := N) (xDc d) h
theorem xFP {N : Nat} {a0 : Exp} {a1 : List Str} {a2 : Bool} {a3 : Str} {a4 : Str} {r : Bool × Str × Str} (h : xCS N a0 a1 a2 a3 a4 = some r) : AbC 35 (xAx a0 a1 a2 a3 a4) (xAr r) := xDc N _ _ _ _ _ r h
noncomputable def I11 : Info := { body := (Try.f11.body).getD .skip, nt := 16, results := [.tmp 6], keep := [0, 2, 4, 6, 8, 10, 12, 14, 16, 7, 9, 11, 15, 23], live := [], modes := [(3, [(0, .take, false)])] }
theorem fk11 : FnOk Try.prog 11 Try.f11 I11 := ⟨Try.func11, by kernel_rfl, by kernel_rfl, by kernel_rfl, by kernel_rfl⟩
def xOA (a0 : Exp) (a1 a2 : Str) (r1 : Bool × Str × Str) : rE I11 (xC9 a0 a1 a2) [] [cl (xAr r1)] = dn (xAU r1.1) [AbC 35 (xAx a0 [] false a1 a2) (xAr r1)] := by kernel_rfl
theorem xTV {N : Nat} : ∀ a0 a1 a2 r, xCF N a0 a1 a2 = some r → RE Try.f11 I11 (xC9 a0 a1 a2) (xAU r) := fun a0 a1 a2 r h =>
 bE h fun r1 h0 h => dE h fk11 (xOA a0 a1 a2 r1) (oc (xFP h0) on)
theorem xBb {N : Nat} {a0 : Exp} {a1 : Str} {a2 : Str} {r : Bool} (h : xCF N  a0 a1 a2 = some r) : AbC 11 (xC9 a0 a1 a2) (xAU r) :=
 AbsCalls.of_reach fk11 rfl rfl rfl (Nat.le_of_ble_eq_true rfl) (xTV a0 a1 a2 r h)
noncomputable def I45 : Info := { body := (Try.f45.body).getD .skip, nt := 63, results := [.tmp 2], keep := [0, 4, 6, 8, 10, 12, 22, 56, 90], live := [(3, [0, 6, 8]), (6, [0, 6, 8, 10])], modes := [(6, [(4, .take, false)]), (8, [(4, .take, false)]), (10, [(0, .take, false), (2, .take, false), (9, .take, false)]), (11, [(0, .take, false)])] }
theorem fk45 : FnOk Try.prog 45 Try.f45 I45 := ⟨Try.func45, by kernel_rfl, by kernel_rfl, by kernel_rfl, by kernel_rfl⟩
def xKk (x0 x3 : List Str) (x4 : Int) : St := [(0, .v false [.sl .ro .str x0]), (6, .v false [.sl .own .str x3]), (8, .v false [.int .i64 x4])]
def xLe (x0 x3 : List Str) (x4 x5 : Int) : St := [(0, .v false [.sl .ro .str x0]), (6, .v false [.sl .own .str x3]), (8, .v false [.int .i64 x4]), (10, .v false [.int .i64 x5])]
abbrev xLr (v0 : List Str) (v1 : Int) (v2 : List Str) (v3 : Int) := Op.bytesLess (gD v0 (tN v1) Ty.str.dflt) (gD v2 (tN v3) Ty.str.dflt)
def xPS (x0 x3 : List Str) (x4 x5 : Int) : rS 6 I45 (xLe x0 x3 x4 x5) [Y, Y] [] = st 6 I45 (xLe x0 x3 x4 (W (x5 + 1))) [xIF x5 x3, xGn x5 x3, xGn x4 x0, iY (xLr x3 x5 x0 x4)] := by kernel_rfl
abbrev xJ6 (v0 : List Str) (v1 : Int) := ((gD v0 (tN v1) Ty.str.dflt) : Str)
abbrev xFp (v0 : List Str) (v1 : Int) := gD v0 (tN v1) Ty.str.dflt
def xPT (x0 x3 : List Str) (x4 x5 : Int) : rS 6 I45 (xLe x0 x3 x4 x5) [Y, F, Y, Y] [] = st 3 I45 (xKk x0 x3 (W (x4 + 1))) [xIF x5 x3, xGn x5 x3, xGn x4 x0, iN (xLr x3 x5 x0 x4), xIF x5 x3, xGn x5 x3, xGn x4 x0, iY ((xJ6 x3 x5) == (xFp x0 x4))] := by kernel_rfl
def xPU (x0 x3 : List Str) (x4 x5 : Int) : rS 6 I45 (xLe x0 x3 x4 x5) [Y, F, Y, F] [] = st 3 I45 (xKk x0 (((List.take (tN x5) x3) ++ [(xFp x0 x4)]) ++ ([] ++ (List.drop (tN x5) x3))) (W (x4 + 1))) [xIF x5 x3, xGn x5 x3, xGn x4 x0, iN (xLr x3 x5 x0 x4), xIF x5 x3, xGn x5 x3, xGn x4 x0, iN ((xJ6 x3 x5) == (xFp x0 x4)), (0 : Int) ≤ x5 ∧ x5 ≤ (Ln x3), 0 + Ln (List.drop (tN x5) x3) ≤ Lim, (0 : Int) ≤ x5 ∧ x5 ≤ (Ln x3), xGn x4 x0, Ln (List.take (tN x5) x3) + Ln [(xFp x0 x4)] ≤ Lim, Ln ((List.take (tN x5) x3) ++ [(xFp x0 x4)]) + Ln ([] ++ (List.drop (tN x5) x3)) ≤ Lim] := by kernel_rfl
def xPV (x0 x3 : List Str) (x4 x5 : Int) : rS 6 I45 (xLe x0 x3 x4 x5) [F, F, F, F] [] = st 3 I45 (xKk x0 (((List.take (tN x5) x3) ++ [(xFp x0 x4)]) ++ ([] ++ (List.drop (tN x5) x3))) (W (x4 + 1))) [xLD x5 x3, iN false, xLD x5 x3, iN false, (0 : Int) ≤ x5 ∧ x5 ≤ (Ln x3), 0 + Ln (List.drop (tN x5) x3) ≤ Lim, (0 : Int) ≤ x5 ∧ x5 ≤ (Ln x3), xGn x4 x0, Ln (List.take (tN x5) x3) + Ln [(xFp x0 x4)] ≤ Lim, Ln ((List.take (tN x5) x3) ++ [(xFp x0 x4)]) + Ln ([] ++ (List.drop (tN x5) x3)) ≤ Lim] := by kernel_rfl
def xPQ (x0 x3 : List Str) (x4 : Int) : rS 3 I45 (xKk x0 x3 x4) [Y] [] = st 6 I45 (xLe x0 x3 x4 0) [xIF x4 x0] := by kernel_rfl
def xPR (x0 x3 : List Str) (x4 : Int) : rS 3 I45 (xKk x0 x3 x4) [F] [] = dn (xCB x3) [xLD x4 x0] := by kernel_rfl
def xPW (a0 : List Str) : rE I45 (xFf a0) [] [] = st 3 I45 (xKk a0 [] 0) [] := by kernel_rfl
theorem xUk {N : Nat} {k3 : (List Str) → (List Str) → Int → Option ((List Str))} (hk3 : ∀ z0 z1 z2 r, k3 z0 z1 z2 = some r → RS Try.f45 I45 3 (xKk z0 z1 z2) (xCB r)) : ∀ n x0 x3 x4 x5 r, xCW N k3 n x0 x3 x4 x5 = some r → RS Try.f45 I45 6 (xLe x0 x3 x4 x5) (xCB r) := by
 intro n
 induction n with
 | zero => exact fun _ _ _ _ _ h => nE h
 | succ n ih =>
  exact fun x0 x3 x4 x5 r h =>
   cE h (fun h0 h => iE h fun h1 h => iE h fun h2 h => cE h (fun h3 h => tS fk45 (xPS x0 x3 x4 x5) (oc4 h0 h1 h2 h3 on) (ih _ _ _ _ _ h)) fun h3 h =>
   cE h (fun h7 h => tS fk45 (xPT x0 x3 x4 x5) (oc8 h0 h1 h2 h3 h0 h1 h2 h7 on) (hk3 _ _ _ _ h)) fun h7 h =>
   iE h fun h8 h => iE h fun h9 h => iE h fun h12 h => iE h fun h13 h => tS fk45 (xPU x0 x3 x4 x5) (oc12 h0 h1 h2 h3 h0 h1 h2 h7 h8 h9 h8 h2 (oc2 h12 h13 on)) (hk3 _ _ _ _ h)) fun h0 h =>
   iE h fun h4 h => iE h fun h5 h => iE h fun h7 h => iE h fun h8 h => iE h fun h9 h => tS fk45 (xPV x0 x3 x4 x5) (oc10 h0 rfl h0 rfl h4 h5 h4 h7 h8 h9 on) (hk3 _ _ _ _ h)
theorem xUj {N : Nat} : ∀ n x0 x3 x4 r, xDE N n x0 x3 x4 = some r → RS Try.f45 I45 3 (xKk x0 x3 x4) (xCB r) := by
 intro n
 induction n with
 | zero => exact fun _ _ _ _ h => nE h
 | succ n ih =>
  exact fun x0 x3 x4 r h =>
   cE h (fun h0 h => tS fk45 (xPQ x0 x3 x4) (oc h0 on) (xUk ih _ _ _ _ _ _ h)) fun h0 h =>
   dS h fk45 (xPR x0 x3 x4) (oc h0 on)
theorem xUl {N : Nat} : ∀ a0 r, xFx N a0 = some r → RE Try.f45 I45 (xFf a0) (xCB r) := fun a0 r h =>
 tE fk45 (xPW a0) on (xUj _ _ _ _ _ h)
theorem xIU {N : Nat} {a0 : List Str} {r : (List Str)} (h : xFx N  a0 = some r) : AbC 45 (xFf a0) (xCB r) :=
 AbsCalls.of_reach fk45 rfl rfl rfl (Nat.le_of_ble_eq_true rfl) (xUl a0 r h)
theorem xJs {N : Nat} {a0 r : List Str} (h : sort_Strings N a0 = some r) : AbC 67 (xHU a0) (xGQ r) :=
 zIH (xIQ Try.lays192) (fun cap p w => Any.sort_Strings_none Try.lays192 p cap w) (fun blk off cap ss w h1 h2 h3 => Any.sort_Strings Try.lays192 blk off cap ss w h1 h2 h3) h
noncomputable def I48 : Info := { body := (Try.f48.body).getD .skip, nt := 27, results := [.tmp 2], keep := [0, 4, 6, 8, 10, 14, 16, 18, 20, 36], live := [(3, [0, 6, 14, 16, 18])], modes := [(5, [(3, .take, false)]), (6, [(0, .take, false)]), (7, [(1, .take, false)]), (8, [(0, .ref, false), (1, .ref, false)]), (9, [(0, .take, false)])] }
theorem fk48 : FnOk Try.prog 48 Try.f48 I48 := ⟨Try.func48, by kernel_rfl, by kernel_rfl, by kernel_rfl, by kernel_rfl⟩
def xLf (x0 x3 x7 : List Str) (x8 x9 : Int) : St := [(0, .v false [.sl .ro .str x0]), (6, .v false [.sl .own .str x3]), (14, .v false [.sl .ro .str x7]), (16, .v false [.int .i64 x8]), (18, .v false [.int .i64 x9])]
def xPX (x0 x3 x7 : List Str) (x8 x9 r1 : Int) : rS 3 I48 (xLf x0 x3 x7 x8 x9) [Y, Y] [xA9 r1] = st 3 I48 (xLf x0 (x3 ++ [(xFp x7 x9)]) x7 x8 (W (x9 + 1))) [xES x9 x8, xGn x9 x7, AbC 34 (xDH x0 (xFp x7 x9)) (xA9 r1), iY (r1 == x9), Ln x3 + Ln [(xFp x7 x9)] ≤ Lim] := by kernel_rfl
def xPY (x0 x3 x7 : List Str) (x8 x9 r1 : Int) : rS 3 I48 (xLf x0 x3 x7 x8 x9) [Y, F] [xA9 r1] = st 3 I48 (xLf x0 x3 x7 x8 (W (x9 + 1))) [xES x9 x8, xGn x9 x7, AbC 34 (xDH x0 (xFp x7 x9)) (xA9 r1), iN (r1 == x9)] := by kernel_rfl
def xPZ (x0 x3 x7 : List Str) (x8 x9 : Int) (r1 : (List Str)) : rS 3 I48 (xLf x0 x3 x7 x8 x9) [F] [xGQ r1] = dn (xCx r1) [xHy x9 x8, AbC 67 (xHU x3) (xGQ r1), Ln r1 = Ln x3] := by kernel_rfl
def xP0 (a0 : List Str) : rE I48 (xEk a0) [] [] = st 3 I48 (xLf a0 [] a0 (Ln a0 : Int) 0) [] := by kernel_rfl
theorem xUm {N : Nat} : ∀ n x0 x3 x7 x8 x9 r, xCw N n x0 x3 x7 x8 x9 = some r → RS Try.f48 I48 3 (xLf x0 x3 x7 x8 x9) (xCx r) := by
 intro n
 induction n with
 | zero => exact fun _ _ _ _ _ _ h => nE h
 | succ n ih =>
  exact fun x0 x3 x7 x8 x9 r h =>
   cE h (fun h0 h => iE h fun h1 h => bE h fun r1 h2 h => cE h (fun h3 h => iE h fun h4 h => tS fk48 (xPX x0 x3 x7 x8 x9 r1) (oc5 h0 h1 (xCE h2) h3 h4 on) (ih _ _ _ _ _ _ h)) fun h3 h =>
   tS fk48 (xPY x0 x3 x7 x8 x9 r1) (oc4 h0 h1 (xCE h2) h3 on) (ih _ _ _ _ _ _ h)) fun h0 h =>
   bE h fun r1 h1 h => iE h fun h2 h => dS h fk48 (xPZ x0 x3 x7 x8 x9 r1) (oc3 h0 (xJs h1) h2 on)
theorem xUn {N : Nat} : ∀ a0 r, xFt N a0 = some r → RE Try.f48 I48 (xEk a0) (xCx r) := fun a0 r h =>
 tE fk48 (xP0 a0) on (xUm _ _ _ _ _ _ _ h)
theorem xHi {N : Nat} {a0 : List Str} {r : (List Str)} (h : xFt N  a0 = some r) : AbC 48 (xEk a0) (xCx r) :=
 AbsCalls.of_reach fk48 rfl rfl rfl (Nat.le_of_ble_eq_true rfl) (xUn a0 r h)
noncomputable def I18 : Info := { body := (Try.f18.body).getD .skip, nt := 14, results := [.tmp 2], keep := [0, 2, 4, 6, 8, 3, 7, 17], live := [], modes := [(3, [(0, .take, false)])] }
theorem fk18 : FnOk Try.prog 18 Try.f18 I18 := ⟨Try.func18, by kernel_rfl, by kernel_rfl, by kernel_rfl, by kernel_rfl⟩
def xOL (a0 : Exp) (r1 : (List Str)) (r2 : (List Str)) : rE I18 (xD6 a0) [] [cl (xAu r1), xCx r2] = dn (xAi r2) [AbC 35 (xAw a0 [] []) (xAu r1), AbC 48 (xEk r1) (xCx r2)] := by kernel_rfl
theorem xTY {N : Nat} : ∀ a0 r, xBS N a0 = some r → RE Try.f18 I18 (xD6 a0) (xAi r) := fun a0 r h =>
 bE h fun r1 h0 h => bE h fun r2 h1 h => dE h fk18 (xOL a0 r1 r2) (oc2 (xFO h0) (xHi h1) on)
theorem xAk {N : Nat} {a0 : Exp} {r : (List Str)} (h : xBS N  a0 = some r) : AbC 18 (xD6 a0) (xAi r) :=
 AbsCalls.of_reach fk18 rfl rfl rfl (Nat.le_of_ble_eq_true rfl) (xTY a0 r h)
def G50 (q : Exp → (List Str) → Option ((List Str))) : Prop := ∀ a0 a1 r, q a0 a1 = some r → AbC 50 (xBK a0 a1) (xA6 r)
noncomputable def I50 : Info := { body := (Try.f50.body).getD .skip, nt := 61, results := [.tmp 4], keep := [0, 2, 4, 8, 10, 12, 14, 36, 56, 86, 5], live := [(5, [2, 4, 10, 12, 5])], modes := [(2, [(3, .take, false)]), (3, [(0, .take, false)]), (8, [(3, .take, false), (8, .take, false)]), (10, [(0, .take, false), (6, .take, false)]), (11, [(0, .take, false)])] }
theorem fk50 : FnOk Try.prog 50 Try.f50 I50 := ⟨Try.func50, by kernel_rfl, by kernel_rfl, by kernel_rfl, by kernel_rfl⟩
def xIy (x1 x5 : List Str) (x6 : Int) (b2 : Exp) : St := [(2, .v false [.sl .ro .str x1]), (4, .v false [.ptr 2 0]), (10, .v false [.sl .own .str x5]), (12, .v false [.int .i64 x6]), (5, .v true [.int .i64 (Exp.kind b2), .int .i64 (Exp.n b2), .str (Exp.text b2), .sl .ro .exp (Exp.args b2)])]
def xP1 (x1 x5 : List Str) (x6 : Int) (b2 : Exp) (r1 : (List Str)) : rS 5 I50 (xIy x1 x5 x6 b2) [Y, Y, Y, Y] [xA6 r1] = st 5 I50 (xIy x1 (x5 ++ r1) (W (x6 + 1)) b2) [xFQ x6 b2, xGA b2, iY true, xJH x6, xKd x1, xKe x1 b2, xFG x6 b2, AbC 50 (xBK (xE2 b2 x6) (([] ++ x1) ++ [(Exp.text b2)])) (xA6 r1), Ln x5 + Ln r1 ≤ Lim] := by kernel_rfl
def xP2 (x1 x5 : List Str) (x6 : Int) (b2 : Exp) (r1 : (List Str)) : rS 5 I50 (xIy x1 x5 x6 b2) [Y, Y, Y, F] [xA6 r1] = st 5 I50 (xIy x1 (x5 ++ r1) (W (x6 + 1)) b2) [xFQ x6 b2, xGA b2, iY true, xIk x6, xFG x6 b2, AbC 50 (xBK (xE2 b2 x6) x1) (xA6 r1), Ln x5 + Ln r1 ≤ Lim] := by kernel_rfl
def xP3 (x1 x5 : List Str) (x6 : Int) (b2 : Exp) (r1 : (List Str)) : rS 5 I50 (xIy x1 x5 x6 b2) [Y, F, Y, Y] [xA6 r1] = st 5 I50 (xIy x1 (x5 ++ r1) (W (x6 + 1)) b2) [xFQ x6 b2, xCz b2, xFW b2, xJH x6, xKd x1, xKe x1 b2, xFG x6 b2, AbC 50 (xBK (xE2 b2 x6) (([] ++ x1) ++ [(Exp.text b2)])) (xA6 r1), Ln x5 + Ln r1 ≤ Lim] := by kernel_rfl
def xP4 (x1 x5 : List Str) (x6 : Int) (b2 : Exp) (r1 : (List Str)) : rS 5 I50 (xIy x1 x5 x6 b2) [Y, F, Y, F] [xA6 r1] = st 5 I50 (xIy x1 (x5 ++ r1) (W (x6 + 1)) b2) [xFQ x6 b2, xCz b2, xFW b2, xIk x6, xFG x6 b2, AbC 50 (xBK (xE2 b2 x6) x1) (xA6 r1), Ln x5 + Ln r1 ≤ Lim] := by kernel_rfl
def xP5 (x1 x5 : List Str) (x6 : Int) (b2 : Exp) (r1 : (List Str)) : rS 5 I50 (xIy x1 x5 x6 b2) [Y, F, F, F] [xA6 r1] = st 5 I50 (xIy x1 (x5 ++ r1) (W (x6 + 1)) b2) [xFQ x6 b2, xCz b2, xFn b2, iN false, xFG x6 b2, AbC 50 (xBK (xE2 b2 x6) x1) (xA6 r1), Ln x5 + Ln r1 ≤ Lim] := by kernel_rfl
def xP6 (x1 x5 : List Str) (x6 : Int) (b2 : Exp) : rS 5 I50 (xIy x1 x5 x6 b2) [F] [] = dn (xA6 x5) [xI0 x6 b2] := by kernel_rfl
def xP7 (a0 : Exp) (a1 : List Str) (r1 : Bool) : rE I50 (xBK a0 a1) [Y, Y] [xBR r1] = dn (xA6 ([] ++ [(Exp.text a0)])) [xFv a0, xKw a1 a0 r1, iY (!r1), 0 + Ln [(Exp.text a0)] ≤ Lim] := by kernel_rfl
def xP8 (a0 : Exp) (a1 : List Str) (r1 : Bool) : rE I50 (xBK a0 a1) [Y, F] [xBR r1] = st 5 I50 (xIy a1 [] 0 a0) [xFv a0, xKw a1 a0 r1, xAW r1] := by kernel_rfl
def xP9 (a0 : Exp) (a1 : List Str) : rE I50 (xBK a0 a1) [F, F] [] = st 5 I50 (xIy a1 [] 0 a0) [xBV a0, iN false] := by kernel_rfl
theorem xTu {N q0} (g0 : G50 q0) : ∀ n x1 x5 x6 b2 r, xBX N q0 n x1 x5 x6 b2 = some r → RS Try.f50 I50 5 (xIy x1 x5 x6 b2) (xA6 r) := by
 intro n
 induction n with
 | zero => exact fun _ _ _ _ _ h => nE h
 | succ n ih =>
  exact fun x1 x5 x6 b2 r h =>
   cE h (fun h0 h => cE h (fun h1 h => cE h (fun h3 h => iE h fun h4 h => iE h fun h5 h => iE h fun h6 h => bE h fun r1 h7 h => iE h fun h8 h => tS fk50 (xP1 x1 x5 x6 b2 r1) (oc9 h0 h1 rfl h3 h4 h5 h6 (g0 _ _ _ h7) h8 on) (ih _ _ _ _ _ h)) fun h3 h =>
   iE h fun h4 h => bE h fun r1 h5 h => iE h fun h6 h => tS fk50 (xP2 x1 x5 x6 b2 r1) (oc7 h0 h1 rfl h3 h4 (g0 _ _ _ h5) h6 on) (ih _ _ _ _ _ h)) fun h1 h =>
   cE h (fun h2 h => cE h (fun h3 h => iE h fun h4 h => iE h fun h5 h => iE h fun h6 h => bE h fun r1 h7 h => iE h fun h8 h => tS fk50 (xP3 x1 x5 x6 b2 r1) (oc9 h0 h1 h2 h3 h4 h5 h6 (g0 _ _ _ h7) h8 on) (ih _ _ _ _ _ h)) fun h3 h =>
   iE h fun h4 h => bE h fun r1 h5 h => iE h fun h6 h => tS fk50 (xP4 x1 x5 x6 b2 r1) (oc7 h0 h1 h2 h3 h4 (g0 _ _ _ h5) h6 on) (ih _ _ _ _ _ h)) fun h2 h =>
   iE h fun h4 h => bE h fun r1 h5 h => iE h fun h6 h => tS fk50 (xP5 x1 x5 x6 b2 r1) (oc7 h0 h1 h2 rfl h4 (g0 _ _ _ h5) h6 on) (ih _ _ _ _ _ h)) fun h0 h =>
   dS h fk50 (xP6 x1 x5 x6 b2) (oc h0 on)
theorem xUo {N q0} (g0 : G50 q0) : ∀ a0 a1 r, xEx N q0 a0 a1 = some r → RE Try.f50 I50 (xBK a0 a1) (xA6 r) := fun a0 a1 r h =>
 cE h (fun h0 h => bE h fun r1 h1 h => cE h (fun h2 h => iE h fun h3 h => dE h fk50 (xP7 a0 a1 r1) (oc4 h0 (xEH h1) h2 h3 on)) fun h2 h =>
 tE fk50 (xP8 a0 a1 r1) (oc3 h0 (xEH h1) h2 on) (xTu g0 _ _ _ _ _ _ h)) fun h0 h =>
 tE fk50 (xP9 a0 a1) (oc2 h0 rfl on) (xTu g0 _ _ _ _ _ _ h)
theorem xIg {N q0} (g0 : G50 q0) {a0} {a1} {r} (h : xEx N q0 a0 a1 = some r) : AbC 50 (xBK a0 a1) (xA6 r) :=
 AbsCalls.of_reach fk50 rfl rfl rfl (Nat.le_of_ble_eq_true rfl) (xUo g0 a0 a1 r h)
theorem xGW {N : Nat} : ∀ d, G50 (xD5 N d)
 | 0 => fun _ _ _ h => nE h
 | d + 1 => fun _ _ _ h => xIg (N := N) (xGW d) h
theorem xJA {N : Nat} {a0 : Exp} {a1 : List Str} {r : (List Str)} (h : xH3 N a0 a1 = some r) : AbC 50 (xBK a0 a1) (xA6 r) := xGW N _ _ r h
end Go.Ab.T
end
section
open Go.Proofs
namespace Go.Ab.T
set_option maxRecDepth 100000
variable [Inhabited Lb]
noncomputable def I22 : Info := { body := (Try.f22.body).getD .skip, nt := 7, results := [.tmp 2], keep := [0, 2, 4, 3], live := [], modes := [] }
theorem fk22 : FnOk Try.prog 22 Try.f22 I22 := ⟨Try.func22, by kernel_rfl, by kernel_rfl, by kernel_rfl, by kernel_rfl⟩
def xOM (a0 : Exp) (r1 : (List Str)) (r2 : (List Str)) : rE I22 (xFe a0) [] [xA6 r1, xCB r2] = dn (xAf r2) [AbC 50 (xBK a0 []) (xA6 r1), AbC 45 (xFf r1) (xCB r2)] := by kernel_rfl
theorem xTZ {N : Nat} : ∀ a0 r, xCC N a0 = some r → RE Try.f22 I22 (xFe a0) (xAf r) := fun a0 r h =>
 bE h fun r1 h0 h => bE h fun r2 h1 h => dE h fk22 (xOM a0 r1 r2) (oc2 (xJA h0) (xIU h1) on)
theorem xAg {N : Nat} {a0 : Exp} {r : (List Str)} (h : xCC N  a0 = some r) : AbC 22 (xFe a0) (xAf r) :=
 AbsCalls.of_reach fk22 rfl rfl rfl (Nat.le_of_ble_eq_true rfl) (xTZ a0 r h)
noncomputable def I23 : Info := { body := (Try.f23.body).getD .skip, nt := 14, results := [.tmp 2], keep := [0, 2, 4, 6, 8, 3, 7, 17], live := [], modes := [(3, [(0, .take, false)])] }
theorem fk23 : FnOk Try.prog 23 Try.f23 I23 := ⟨Try.func23, by kernel_rfl, by kernel_rfl, by kernel_rfl, by kernel_rfl⟩
def xON (a0 : Exp) (r1 : (List Str)) (r2 : (List Str)) : rE I23 (xEj a0) [] [cl (xAs r1), xCx r2] = dn (xAc r2) [AbC 35 (xAA a0 [] []) (xAs r1), AbC 48 (xEk r1) (xCx r2)] := by kernel_rfl
theorem xT0 {N : Nat} : ∀ a0 r, xDv N a0 = some r → RE Try.f23 I23 (xEj a0) (xAc r) := fun a0 r h =>
 bE h fun r1 h0 h => bE h fun r2 h1 h => dE h fk23 (xON a0 r1 r2) (oc2 (xFU h0) (xHi h1) on)
theorem xAe {N : Nat} {a0 : Exp} {r : (List Str)} (h : xDv N  a0 = some r) : AbC 23 (xEj a0) (xAc r) :=
 AbsCalls.of_reach fk23 rfl rfl rfl (Nat.le_of_ble_eq_true rfl) (xT0 a0 r h)
def G55 (q : Exp → Int → Option (Int)) : Prop := ∀ a0 a1 r, q a0 a1 = some r → AbC 55 (xCI a0 a1) (xBu r)
noncomputable def I55 : Info := { body := (Try.f55.body).getD .skip, nt := 27, results := [.tmp 4], keep := [0, 2, 4, 8, 10, 32, 5], live := [(3, [2, 4, 10, 5])], modes := [(3, [(5, .take, false)])] }
theorem fk55 : FnOk Try.prog 55 Try.f55 I55 := ⟨Try.func55, by kernel_rfl, by kernel_rfl, by kernel_rfl, by kernel_rfl⟩
def xMb (x1 x5 : Int) (b2 : Exp) : St := [(2, .v false [.int .i64 x1]), (4, .v false [.ptr 2 0]), (10, .v false [.int .i64 x5]), (5, .v true [.int .i64 (Exp.kind b2), .int .i64 (Exp.n b2), .str (Exp.text b2), .sl .ro .exp (Exp.args b2)])]
def xQk (x1 x5 : Int) (b2 : Exp) (r1 : Int) : rS 3 I55 (xMb x1 x5 b2) [Y, Y] [xBu r1] = st 3 I55 (xMb r1 (W (x5 + 1)) b2) [xFQ x5 b2, iY (dc (x1 ≥ 0)), xFG x5 b2, AbC 55 (xCI (xE2 b2 x5) x1) (xBu r1)] := by kernel_rfl
def xQl (x1 x5 : Int) (b2 : Exp) : rS 3 I55 (xMb x1 x5 b2) [Y, F] [] = dn (xBu x1) [xFQ x5 b2, iN (dc (x1 ≥ 0))] := by kernel_rfl
def xQm (x1 x5 : Int) (b2 : Exp) : rS 3 I55 (xMb x1 x5 b2) [F, F] [] = dn (xBu x1) [xI0 x5 b2, iN false] := by kernel_rfl
def xQn (a0 : Exp) (a1 : Int) : rE I55 (xCI a0 a1) [] [] = st 3 I55 (xMb (W (a1 - 1)) 0 a0) [] := by kernel_rfl
theorem xUu {N q0} (g0 : G55 q0) : ∀ n x1 x5 b2 r, xC7 N q0 n x1 x5 b2 = some r → RS Try.f55 I55 3 (xMb x1 x5 b2) (xBu r) := by
 intro n
 induction n with
 | zero => exact fun _ _ _ _ h => nE h
 | succ n ih =>
  exact fun x1 x5 b2 r h =>
   cE h (fun h0 h => cE h (fun h1 h => iE h fun h2 h => bE h fun r1 h3 h => tS fk55 (xQk x1 x5 b2 r1) (oc4 h0 h1 h2 (g0 _ _ _ h3) on) (ih _ _ _ _ h)) fun h1 h =>
   dS h fk55 (xQl x1 x5 b2) (oc2 h0 h1 on)) fun h0 h =>
   dS h fk55 (xQm x1 x5 b2) (oc2 h0 rfl on)
theorem xUv {N q0} (g0 : G55 q0) : ∀ a0 a1 r, xGf N q0 a0 a1 = some r → RE Try.f55 I55 (xCI a0 a1) (xBu r) := fun a0 a1 r h =>
 tE fk55 (xQn a0 a1) on (xUu g0 _ _ _ _ _ h)
theorem xIe {N q0} (g0 : G55 q0) {a0} {a1} {r} (h : xGf N q0 a0 a1 = some r) : AbC 55 (xCI a0 a1) (xBu r) :=
 AbsCalls.of_reach fk55 rfl rfl rfl (Nat.le_of_ble_eq_true rfl) (xUv g0 a0 a1 r h)
theorem xGT {N : Nat} : ∀ d, G55 (xD2 N d)
 | 0 => fun _ _ _ h => nE h
 | d + 1 => fun _ _ _ h => xIe (N := N) (xGT d) h
theorem xGU {N : Nat} {a0 : Exp} {a1 : Int} {r : Int} (h : xHY N a0 a1 = some r) : AbC 55 (xCI a0 a1) (xBu r) := xGT N _ _ r h
noncomputable def I73 : Info := { body := (Try.f73.body).getD .skip, nt := 10, results := [.tmp 4], keep := [0, 2, 8, 14], live := [], modes := [] }
theorem fk73 : FnOk Try.prog 73 Try.f73 I73 := ⟨Try.func73, by kernel_rfl, by kernel_rfl, by kernel_rfl, by kernel_rfl⟩
def xRs (a0 a1 : Int) : rE I73 (xF2 a0 a1) [Y] [] = dn (xFk a0) [iY (dc (a0 > a1))] := by kernel_rfl
def xRt (a0 a1 : Int) : rE I73 (xF2 a0 a1) [F] [] = dn (xFk a1) [iN (dc (a0 > a1))] := by kernel_rfl
theorem xUW {N : Nat} : ∀ a0 a1 r, xHn N a0 a1 = some r → RE Try.f73 I73 (xF2 a0 a1) (xFk r) := fun a0 a1 r h =>
 cE h (fun h0 h => dE h fk73 (xRs a0 a1) (oc h0 on)) fun h0 h =>
 dE h fk73 (xRt a0 a1) (oc h0 on)
theorem xKj {N : Nat} {a0 : Int} {a1 : Int} {r : Int} (h : xHn N  a0 a1 = some r) : AbC 73 (xF2 a0 a1) (xFk r) :=
 AbsCalls.of_reach fk73 rfl rfl rfl (Nat.le_of_ble_eq_true rfl) (xUW a0 a1 r h)
def G56 (q : Exp → Option (Int)) : Prop := ∀ a0 r, q a0 = some r → AbC 56 (xCA a0) (xBz r)
noncomputable def I56 : Info := { body := (Try.f56.body).getD .skip, nt := 22, results := [.tmp 2], keep := [0, 2, 4, 6, 8, 18, 3], live := [(3, [2, 6, 8, 3])], modes := [] }
theorem fk56 : FnOk Try.prog 56 Try.f56 I56 := ⟨Try.func56, by kernel_rfl, by kernel_rfl, by kernel_rfl, by kernel_rfl⟩
def xMo (x3 x4 : Int) (b1 : Exp) : St := [(2, .v false [.ptr 1 0]), (6, .v false [.int .i64 x3]), (8, .v false [.int .i64 x4]), (3, .v true [.int .i64 (Exp.kind b1), .int .i64 (Exp.n b1), .str (Exp.text b1), .sl .ro .exp (Exp.args b1)])]
def xQo (x3 x4 : Int) (b1 : Exp) (r1 r2 : Int) : rS 3 I56 (xMo x3 x4 b1) [Y] [xBz r1, xFk r2] = st 3 I56 (xMo r2 (W (x4 + 1)) b1) [xFQ x4 b1, xFG x4 b1, AbC 56 (xCA (xE2 b1 x4)) (xBz r1), AbC 73 (xF2 x3 r1) (xFk r2)] := by kernel_rfl
def xQp (x3 x4 : Int) (b1 : Exp) : rS 3 I56 (xMo x3 x4 b1) [F] [] = dn (xBz (W (x3 + 1))) [xI0 x4 b1] := by kernel_rfl
def xQq (a0 : Exp) : rE I56 (xCA a0) [] [] = st 3 I56 (xMo 0 0 a0) [] := by kernel_rfl
theorem xUw {N q0} (g0 : G56 q0) : ∀ n x3 x4 b1 r, xDD N q0 n x3 x4 b1 = some r → RS Try.f56 I56 3 (xMo x3 x4 b1) (xBz r) := by
 intro n
 induction n with
 | zero => exact fun _ _ _ _ h => nE h
 | succ n ih =>
  exact fun x3 x4 b1 r h =>
   cE h (fun h0 h => iE h fun h1 h => bE h fun r1 h2 h => bE h fun r2 h3 h => tS fk56 (xQo x3 x4 b1 r1 r2) (oc4 h0 h1 (g0 _ _ h2) (xKj h3) on) (ih _ _ _ _ h)) fun h0 h =>
   dS h fk56 (xQp x3 x4 b1) (oc h0 on)
theorem xUx {N q0} (g0 : G56 q0) : ∀ a0 r, xFI N q0 a0 = some r → RE Try.f56 I56 (xCA a0) (xBz r) := fun a0 r h =>
 tE fk56 (xQq a0) on (xUw g0 _ _ _ _ _ h)
theorem xHG {N q0} (g0 : G56 q0) {a0} {r} (h : xFI N q0 a0 = some r) : AbC 56 (xCA a0) (xBz r) :=
 AbsCalls.of_reach fk56 rfl rfl rfl (Nat.le_of_ble_eq_true rfl) (xUx g0 a0 r h)
theorem xGr {N : Nat} : ∀ d, G56 (xEb N d)
 | 0 => fun _ _ h => nE h
 | d + 1 => fun _ _ h => xHG (N := N) (xGr d) h
theorem xHk {N : Nat} {a0 : Exp} {r : Int} (h : xHc N a0 = some r) : AbC 56 (xCA a0) (xBz r) := xGr N _ r h
noncomputable def I86 : Info := { body := (Try.f86.body).getD .skip, nt := 15, results := [.tmp 6], keep := [0, 2, 4, 12], live := [], modes := [(1, [(3, .take, false)])] }
theorem fk86 : FnOk Try.prog 86 Try.f86 I86 := ⟨Try.func86, by kernel_rfl, by kernel_rfl, by kernel_rfl, by kernel_rfl⟩
def xSD (a0 a1 a2 : Int) : rE I86 (xFN a0 a1 a2) [Y] [] = dn (xEC (dc (a0 ≤ a2))) [iY (dc (a0 ≥ a1))] := by kernel_rfl
def xSE (a0 a1 a2 : Int) : rE I86 (xFN a0 a1 a2) [F] [] = dn (xEC false) [iN (dc (a0 ≥ a1))] := by kernel_rfl
theorem xU8 {N : Nat} : ∀ a0 a1 a2 r, xHm N a0 a1 a2 = some r → RE Try.f86 I86 (xFN a0 a1 a2) (xEC r) := fun a0 a1 a2 r h =>
 cE h (fun h0 h => dE h fk86 (xSD a0 a1 a2) (oc h0 on)) fun h0 h =>
 dE h fk86 (xSE a0 a1 a2) (oc h0 on)
theorem xI3 {N : Nat} {a0 : Int} {a1 : Int} {a2 : Int} {r : Bool} (h : xHm N  a0 a1 a2 = some r) : AbC 86 (xFN a0 a1 a2) (xEC r) :=
 AbsCalls.of_reach fk86 rfl rfl rfl (Nat.le_of_ble_eq_true rfl) (xU8 a0 a1 a2 r h)
noncomputable def I87 : Info := { body := (Try.f87.body).getD .skip, nt := 29, results := [.tmp 2], keep := [0, 4, 6, 14, 50], live := [(2, [0, 6])], modes := [(4, [(4, .take, false), (10, .take, false)])] }
theorem fk87 : FnOk Try.prog 87 Try.f87 I87 := ⟨Try.func87, by kernel_rfl, by kernel_rfl, by kernel_rfl, by kernel_rfl⟩
def xKm (x0 : Str) (x3 : Int) : St := [(0, .v false [.str x0]), (6, .v false [.int .i64 x3])]
abbrev xD8 (v0 : Int) (v1 : Str) : Prop := iY (dc (v0 < (Ln v1 : Int)))
abbrev xA5 (v0 : Int) (v1 : Str) : Prop := (0 : Int) ≤ v0 ∧ v0 < (Ln v1)
abbrev xLs (v0 : Str) (v1 : Int) := dc ((((gD v0 (tN v1) 0).toNat : Int) : Int) < 32)
def xSF (x0 : Str) (x3 : Int) : rS 2 I87 (xKm x0 x3) [Y, Y, Y, Y] [] = dn (xBQ false) [xD8 x3 x0, xA5 x3 x0, iY (xLs x0 x3), iY true, iY true] := by kernel_rfl
abbrev xJM (v0 : Str) (v1 : Int) : Prop := iN (xLs v0 v1)
abbrev xLt (v0 : Str) (v1 : Int) := dc ((((gD v0 (tN v1) 0).toNat : Int) : Int) > 126)
def xSG (x0 : Str) (x3 : Int) : rS 2 I87 (xKm x0 x3) [Y, F, Y, Y] [] = dn (xBQ false) [xD8 x3 x0, xA5 x3 x0, xJM x0 x3, xA5 x3 x0, iY (xLt x0 x3), iY true] := by kernel_rfl
abbrev xLL (v0 : Str) (v1 : Int) : Prop := iN (xLt v0 v1)
abbrev xJ7 (v0 : Str) (v1 : Int) := (((gD v0 (tN v1) 0).toNat : Int) : Int) == 34
def xSH (x0 : Str) (x3 : Int) : rS 2 I87 (xKm x0 x3) [Y, F, F, Y] [] = dn (xBQ false) [xD8 x3 x0, xA5 x3 x0, xJM x0 x3, xA5 x3 x0, xLL x0 x3, xA5 x3 x0, iY (xJ7 x0 x3)] := by kernel_rfl
def xSI (x0 : Str) (x3 : Int) : rS 2 I87 (xKm x0 x3) [Y, F, F, F] [] = st 2 I87 (xKm x0 (W (x3 + 1))) [xD8 x3 x0, xA5 x3 x0, xJM x0 x3, xA5 x3 x0, xLL x0 x3, xA5 x3 x0, iN (xJ7 x0 x3)] := by kernel_rfl
def xSJ (x0 : Str) (x3 : Int) : rS 2 I87 (xKm x0 x3) [F] [] = dn (xBQ (dc ((Ln x0 : Int) ≤ 20))) [iN (dc (x3 < (Ln x0 : Int)))] := by kernel_rfl
def xSK (a0 : Str) : rE I87 (xEE a0) [] [] = st 2 I87 (xKm a0 0) [] := by kernel_rfl
theorem xU9 {N : Nat} : ∀ n x0 x3 r, xB7 N n x0 x3 = some r → RS Try.f87 I87 2 (xKm x0 x3) (xBQ r) := by
 intro n
 induction n with
 | zero => exact fun _ _ _ h => nE h
 | succ n ih =>
  exact fun x0 x3 r h =>
   cE h (fun h0 h => iE h fun h1 h => cE h (fun h2 h => dS h fk87 (xSF x0 x3) (oc5 h0 h1 h2 rfl rfl on)) fun h2 h =>
   cE h (fun h4 h => dS h fk87 (xSG x0 x3) (oc6 h0 h1 h2 h1 h4 rfl on)) fun h4 h =>
   cE h (fun h6 h => dS h fk87 (xSH x0 x3) (oc7 h0 h1 h2 h1 h4 h1 h6 on)) fun h6 h =>
   tS fk87 (xSI x0 x3) (oc7 h0 h1 h2 h1 h4 h1 h6 on) (ih _ _ _ h)) fun h0 h =>
   dS h fk87 (xSJ x0 x3) (oc h0 on)
theorem xVa {N : Nat} : ∀ a0 r, xFB N a0 = some r → RE Try.f87 I87 (xEE a0) (xBQ r) := fun a0 r h =>
 tE fk87 (xSK a0) on (xU9 _ _ _ _ h)
theorem xIu {N : Nat} {a0 : Str} {r : Bool} (h : xFB N  a0 = some r) : AbC 87 (xEE a0) (xBQ r) :=
 AbsCalls.of_reach fk87 rfl rfl rfl (Nat.le_of_ble_eq_true rfl) (xVa a0 r h)
noncomputable def I58 : Info := { body := (Try.f58.body).getD .skip, nt := 45, results := [.tmp 2], keep := [0, 4, 6, 8, 10, 18, 82], live := [(2, [0, 6])], modes := [(4, [(4, .take, false)]), (5, [(4, .take, false)]), (6, [(0, .take, false), (2, .take, false), (5, .take, false), (6, .take, false)])] }
theorem fk58 : FnOk Try.prog 58 Try.f58 I58 := ⟨Try.func58, by kernel_rfl, by kernel_rfl, by kernel_rfl, by kernel_rfl⟩
def xHq (x0 : Str) (x3 : Int) : St := [(0, .v false [.str x0]), (6, .v false [.int .i64 x3])]
abbrev xIT (v0 : Str) (v1 : Int) := (((gD v0 (tN v1) 0).toNat : Int) : Int)
abbrev xHz (v0 : Str) (v1 : Int) : Prop := iY (dc ((xIT v0 v1) ≥ 97))
abbrev xJm (v0 : Str) (v1 : Int) : Prop := iY (dc ((xIT v0 v1) ≥ 48))
abbrev xIG (v0 : Str) (v1 : Int) : Prop := iY (!(dc ((xIT v0 v1) ≤ 122)))
def xQv (x0 : Str) (x3 : Int) : rS 2 I58 (xHq x0 x3) [Y, Y, Y, Y, Y, Y] [] = dn (xBa false) [xD8 x3 x0, xA5 x3 x0, xHz x0 x3, xA5 x3 x0, xA5 x3 x0, xJm x0 x3, xA5 x3 x0, xIG x0 x3, iY (x3 == 0), iY true] := by kernel_rfl
abbrev xHA (v0 : Int) : Prop := iN (v0 == 0)
abbrev xJ8 (v0 : Str) (v1 : Int) := dc ((((gD v0 (tN v1) 0).toNat : Int) : Int) ≤ 57)
def xQw (x0 : Str) (x3 : Int) : rS 2 I58 (xHq x0 x3) [Y, Y, Y, Y, F, Y] [] = dn (xBa false) [xD8 x3 x0, xA5 x3 x0, xHz x0 x3, xA5 x3 x0, xA5 x3 x0, xJm x0 x3, xA5 x3 x0, xIG x0 x3, xHA x3, iY (!(xJ8 x0 x3))] := by kernel_rfl
def xQx (x0 : Str) (x3 : Int) : rS 2 I58 (xHq x0 x3) [Y, Y, Y, Y, F, F] [] = st 2 I58 (xHq x0 (W (x3 + 1))) [xD8 x3 x0, xA5 x3 x0, xHz x0 x3, xA5 x3 x0, xA5 x3 x0, xJm x0 x3, xA5 x3 x0, xIG x0 x3, xHA x3, iN (!(xJ8 x0 x3))] := by kernel_rfl
abbrev xMN (v0 : Str) (v1 : Int) : Prop := iN (!(dc ((xIT v0 v1) ≤ 122)))
def xQy (x0 : Str) (x3 : Int) : rS 2 I58 (xHq x0 x3) [Y, Y, Y, F, F] [] = st 2 I58 (xHq x0 (W (x3 + 1))) [xD8 x3 x0, xA5 x3 x0, xHz x0 x3, xA5 x3 x0, xA5 x3 x0, xJm x0 x3, xA5 x3 x0, xMN x0 x3, iN false] := by kernel_rfl
abbrev xKz (v0 : Str) (v1 : Int) : Prop := iN (dc ((xIT v0 v1) ≥ 48))
def xQz (x0 : Str) (x3 : Int) : rS 2 I58 (xHq x0 x3) [Y, Y, F, Y, Y, Y] [] = dn (xBa false) [xD8 x3 x0, xA5 x3 x0, xHz x0 x3, xA5 x3 x0, xA5 x3 x0, xKz x0 x3, xIG x0 x3, iY (x3 == 0), iY true] := by kernel_rfl
def xQA (x0 : Str) (x3 : Int) : rS 2 I58 (xHq x0 x3) [Y, Y, F, Y, F, Y] [] = dn (xBa false) [xD8 x3 x0, xA5 x3 x0, xHz x0 x3, xA5 x3 x0, xA5 x3 x0, xKz x0 x3, xIG x0 x3, xHA x3, iY (!false)] := by kernel_rfl
def xQB (x0 : Str) (x3 : Int) : rS 2 I58 (xHq x0 x3) [Y, Y, F, F, F] [] = st 2 I58 (xHq x0 (W (x3 + 1))) [xD8 x3 x0, xA5 x3 x0, xHz x0 x3, xA5 x3 x0, xA5 x3 x0, xKz x0 x3, xMN x0 x3, iN false] := by kernel_rfl
abbrev xIH (v0 : Str) (v1 : Int) : Prop := iN (dc ((xIT v0 v1) ≥ 97))
def xQC (x0 : Str) (x3 : Int) : rS 2 I58 (xHq x0 x3) [Y, F, Y, Y, Y, Y] [] = dn (xBa false) [xD8 x3 x0, xA5 x3 x0, xIH x0 x3, xA5 x3 x0, xJm x0 x3, xA5 x3 x0, iY (!false), iY (x3 == 0), iY true] := by kernel_rfl
def xQD (x0 : Str) (x3 : Int) : rS 2 I58 (xHq x0 x3) [Y, F, Y, Y, F, Y] [] = dn (xBa false) [xD8 x3 x0, xA5 x3 x0, xIH x0 x3, xA5 x3 x0, xJm x0 x3, xA5 x3 x0, iY (!false), xHA x3, iY (!(xJ8 x0 x3))] := by kernel_rfl
def xQE (x0 : Str) (x3 : Int) : rS 2 I58 (xHq x0 x3) [Y, F, Y, Y, F, F] [] = st 2 I58 (xHq x0 (W (x3 + 1))) [xD8 x3 x0, xA5 x3 x0, xIH x0 x3, xA5 x3 x0, xJm x0 x3, xA5 x3 x0, iY (!false), xHA x3, iN (!(xJ8 x0 x3))] := by kernel_rfl
def xNm (x0 : Str) (x3 : Int) : rS 2 I58 (xHq x0 x3) [Y, F, F, Y, Y, Y] [] = dn (xBa false) [xD8 x3 x0, xA5 x3 x0, xIH x0 x3, xA5 x3 x0, xKz x0 x3, iY (!false), iY (x3 == 0), iY true] := by kernel_rfl
def xNn (x0 : Str) (x3 : Int) : rS 2 I58 (xHq x0 x3) [Y, F, F, Y, F, Y] [] = dn (xBa false) [xD8 x3 x0, xA5 x3 x0, xIH x0 x3, xA5 x3 x0, xKz x0 x3, iY (!false), xHA x3, iY (!false)] := by kernel_rfl
def xNo (x0 : Str) (x3 : Int) : rS 2 I58 (xHq x0 x3) [F] [] = dn (xBa (dc ((Ln x0 : Int) > 0))) [iN (dc (x3 < (Ln x0 : Int)))] := by kernel_rfl
def xNp (a0 : Str) : rE I58 (xEz a0) [] [] = st 2 I58 (xHq a0 0) [] := by kernel_rfl
theorem xUA {N : Nat} : ∀ n x0 x3 r, xCn N n x0 x3 = some r → RS Try.f58 I58 2 (xHq x0 x3) (xBa r) := by
 intro n
 induction n with
 | zero => exact fun _ _ _ h => nE h
 | succ n ih =>
  exact fun x0 x3 r h =>
   cE h (fun h0 h => iE h fun h1 h => cE h (fun h2 h => cE h (fun h5 h => cE h (fun h7 h => cE h (fun h8 h => dS h fk58 (xQv x0 x3) (oc10 h0 h1 h2 h1 h1 h5 h1 h7 h8 rfl on)) fun h8 h =>
   cE h (fun h9 h => dS h fk58 (xQw x0 x3) (oc10 h0 h1 h2 h1 h1 h5 h1 h7 h8 h9 on)) fun h9 h =>
   tS fk58 (xQx x0 x3) (oc10 h0 h1 h2 h1 h1 h5 h1 h7 h8 h9 on) (ih _ _ _ h)) fun h7 h =>
   tS fk58 (xQy x0 x3) (oc9 h0 h1 h2 h1 h1 h5 h1 h7 rfl on) (ih _ _ _ h)) fun h5 h =>
   cE h (fun h6 h => cE h (fun h7 h => dS h fk58 (xQz x0 x3) (oc9 h0 h1 h2 h1 h1 h5 h6 h7 rfl on)) fun h7 h =>
   dS h fk58 (xQA x0 x3) (oc9 h0 h1 h2 h1 h1 h5 h6 h7 rfl on)) fun h6 h =>
   tS fk58 (xQB x0 x3) (oc8 h0 h1 h2 h1 h1 h5 h6 rfl on) (ih _ _ _ h)) fun h2 h =>
   cE h (fun h4 h => cE h (fun h7 h => dS h fk58 (xQC x0 x3) (oc9 h0 h1 h2 h1 h4 h1 rfl h7 rfl on)) fun h7 h =>
   cE h (fun h8 h => dS h fk58 (xQD x0 x3) (oc9 h0 h1 h2 h1 h4 h1 rfl h7 h8 on)) fun h8 h =>
   tS fk58 (xQE x0 x3) (oc9 h0 h1 h2 h1 h4 h1 rfl h7 h8 on) (ih _ _ _ h)) fun h4 h =>
   cE h (fun h6 h => dS h fk58 (xNm x0 x3) (oc8 h0 h1 h2 h1 h4 rfl h6 rfl on)) fun h6 h =>
   dS h fk58 (xNn x0 x3) (oc8 h0 h1 h2 h1 h4 rfl h6 rfl on)) fun h0 h =>
   dS h fk58 (xNo x0 x3) (oc h0 on)
theorem xUB {N : Nat} : ∀ a0 r, xG7 N a0 = some r → RE Try.f58 I58 (xEz a0) (xBa r) := fun a0 r h =>
 tE fk58 (xNp a0) on (xUA _ _ _ _ h)
theorem xGX {N : Nat} {a0 : Str} {r : Bool} (h : xG7 N  a0 = some r) : AbC 58 (xEz a0) (xBa r) :=
 AbsCalls.of_reach fk58 rfl rfl rfl (Nat.le_of_ble_eq_true rfl) (xUB a0 r h)
noncomputable def I75 : Info := { body := (Try.f75.body).getD .skip, nt := 2, results := [.tmp 0], keep := [0], live := [], modes := [] }
theorem fk75 : FnOk Try.prog 75 Try.f75 I75 := ⟨Try.func75, by kernel_rfl, by kernel_rfl, by kernel_rfl, by kernel_rfl⟩
def xRE : rE I75 (xEW ) [] [] = dn (xEc [[108, 101, 116], [105, 110], [105, 102], [116, 104, 101, 110], [101, 108, 115, 101], [102, 111, 114], [100, 111], [108, 101, 110], [115, 117, 109], [116, 97, 107, 101], [115, 107, 105, 112], [114, 97, 110, 103, 101], [110, 116, 104], [119, 104, 101, 114, 101], [107, 101, 101, 112], [97, 100, 100], [103, 114, 111, 117, 112], [106, 111, 105, 110], [99, 111, 108, 117, 109, 110], [114, 111, 119, 115], [99, 108, 111, 99, 107], [99, 104, 97, 110, 99, 101], [102, 105, 108, 101], [116, 97, 98, 108, 101]]) [] := by kernel_rfl
theorem xUY {N : Nat} : ∀ r, xF4 N = some r → RE Try.f75 I75 (xEW ) (xEc r) := fun r h =>
 dE h fk75 (xRE) on
theorem xIP {N : Nat} {r : (List Str)} (h : xF4 N   = some r) : AbC 75 (xEW ) (xEc r) :=
 AbsCalls.of_reach fk75 rfl rfl rfl (Nat.le_of_ble_eq_true rfl) (xUY  r h)
noncomputable def I59 : Info := { body := (Try.f59.body).getD .skip, nt := 6, results := [.tmp 2], keep := [0, 4], live := [], modes := [] }
theorem fk59 : FnOk Try.prog 59 Try.f59 I59 := ⟨Try.func59, by kernel_rfl, by kernel_rfl, by kernel_rfl, by kernel_rfl⟩
def xQF (a0 : Str) (r1 : (List Str)) (r2 : Bool) : rE I59 (xEV a0) [] [xEc r1, xBR r2] = dn (xEa r2) [AbC 75 xEW (xEc r1), AbC 54 (xFj r1 a0) (xBR r2)] := by kernel_rfl
theorem xUC {N : Nat} : ∀ a0 r, xE5 N a0 = some r → RE Try.f59 I59 (xEV a0) (xEa r) := fun a0 r h =>
 bE h fun r1 h0 h => bE h fun r2 h1 h => dE h fk59 (xQF a0 r1 r2) (oc2 (xIP h0) (xEH h1) on)
theorem xIM {N : Nat} {a0 : Str} {r : Bool} (h : xE5 N  a0 = some r) : AbC 59 (xEV a0) (xEa r) :=
 AbsCalls.of_reach fk59 rfl rfl rfl (Nat.le_of_ble_eq_true rfl) (xUC a0 r h)
noncomputable def I38 : Info := { body := (Try.f38.body).getD .skip, nt := 15, results := [.tmp 2], keep := [0, 4], live := [], modes := [(1, [(2, .take, false), (7, .take, false)])] }
theorem fk38 : FnOk Try.prog 38 Try.f38 I38 := ⟨Try.func38, by kernel_rfl, by kernel_rfl, by kernel_rfl, by kernel_rfl⟩
def xPp (a0 : Str) (r1 r2 : Bool) : rE I38 (xBP a0) [Y, Y] [xBa r1, xEa r2] = dn (xAT (!r2)) [AbC 58 (xEz a0) (xBa r1), iY r1, iY (dc ((Ln a0 : Int) ≤ 8)), AbC 59 (xEV a0) (xEa r2)] := by kernel_rfl
def xPq (a0 : Str) (r1 : Bool) : rE I38 (xBP a0) [Y, F] [xBa r1] = dn (xAT false) [AbC 58 (xEz a0) (xBa r1), iY r1, iN (dc ((Ln a0 : Int) ≤ 8))] := by kernel_rfl
def xPr (a0 : Str) (r1 : Bool) : rE I38 (xBP a0) [F, F] [xBa r1] = dn (xAT false) [AbC 58 (xEz a0) (xBa r1), iN r1, iN false] := by kernel_rfl
theorem xUe {N : Nat} : ∀ a0 r, xCp N a0 = some r → RE Try.f38 I38 (xBP a0) (xAT r) := fun a0 r h =>
 bE h fun r1 h0 h => cE h (fun h1 h => cE h (fun h2 h => bE h fun r2 h3 h => dE h fk38 (xPp a0 r1 r2) (oc4 (xGX h0) h1 h2 (xIM h3) on)) fun h2 h =>
 dE h fk38 (xPq a0 r1) (oc3 (xGX h0) h1 h2 on)) fun h1 h =>
 dE h fk38 (xPr a0 r1) (oc3 (xGX h0) h1 rfl on)
theorem xBE {N : Nat} {a0 : Str} {r : Bool} (h : xCp N  a0 = some r) : AbC 38 (xBP a0) (xAT r) :=
 AbsCalls.of_reach fk38 rfl rfl rfl (Nat.le_of_ble_eq_true rfl) (xUe a0 r h)
noncomputable def I88 : Info := { body := (Try.f88.body).getD .skip, nt := 26, results := [.tmp 2], keep := [0, 4, 6, 8, 12, 24, 40, 48], live := [], modes := [] }
theorem fk88 : FnOk Try.prog 88 Try.f88 I88 := ⟨Try.func88, by kernel_rfl, by kernel_rfl, by kernel_rfl, by kernel_rfl⟩
abbrev xLu (v0 : Str) := (v0 : Str) == [99, 108, 111, 99, 107]
def xSL (a0 : Str) : rE I88 (xAF a0) [Y] [] = dn (xAE 0) [iY (xLu a0)] := by kernel_rfl
abbrev xDd (v0 : Str) : Prop := iN (xLu v0)
abbrev xLM (v0 : Str) : Prop := iY ((v0 : Str) == [108, 101, 110])
def xSM (a0 : Str) : rE I88 (xAF a0) [F, Y, Y] [] = dn (xAE 1) [xDd a0, xLM a0, xLM a0] := by kernel_rfl
abbrev xDx (v0 : Str) : Prop := iN ((v0 : Str) == [108, 101, 110])
abbrev xLN (v0 : Str) : Prop := iY ((v0 : Str) == [115, 117, 109])
def xSN (a0 : Str) : rE I88 (xAF a0) [F, F, Y, Y] [] = dn (xAE 1) [xDd a0, xDx a0, xLN a0, xLN a0] := by kernel_rfl
abbrev xDX (v0 : Str) : Prop := iN ((v0 : Str) == [115, 117, 109])
abbrev xLO (v0 : Str) : Prop := iY ((v0 : Str) == [114, 111, 119, 115])
def xSO (a0 : Str) : rE I88 (xAF a0) [F, F, F, Y, Y] [] = dn (xAE 1) [xDd a0, xDx a0, xDX a0, xLO a0, xLO a0] := by kernel_rfl
abbrev xEh (v0 : Str) : Prop := iN ((v0 : Str) == [114, 111, 119, 115])
abbrev xLP (v0 : Str) : Prop := iY ((v0 : Str) == [99, 104, 97, 110, 99, 101])
def xSP (a0 : Str) : rE I88 (xAF a0) [F, F, F, F, Y, Y] [] = dn (xAE 1) [xDd a0, xDx a0, xDX a0, xEh a0, xLP a0, xLP a0] := by kernel_rfl
abbrev xEA (v0 : Str) : Prop := iN ((v0 : Str) == [99, 104, 97, 110, 99, 101])
abbrev xLv (v0 : Str) := (v0 : Str) == [102, 105, 108, 101]
def xSQ (a0 : Str) : rE I88 (xAF a0) [F, F, F, F, F, Y] [] = dn (xAE 1) [xDd a0, xDx a0, xDX a0, xEh a0, xEA a0, iY (xLv a0)] := by kernel_rfl
abbrev xET (v0 : Str) : Prop := iN (xLv v0)
abbrev xLQ (v0 : Str) : Prop := iY ((v0 : Str) == [116, 97, 107, 101])
def xSR (a0 : Str) : rE I88 (xAF a0) [F, F, F, F, F, F, Y, Y] [] = dn (xAE 2) [xDd a0, xDx a0, xDX a0, xEh a0, xEA a0, xET a0, xLQ a0, xLQ a0] := by kernel_rfl
abbrev xFo (v0 : Str) : Prop := iN ((v0 : Str) == [116, 97, 107, 101])
abbrev xLR (v0 : Str) : Prop := iY ((v0 : Str) == [115, 107, 105, 112])
def xSS (a0 : Str) : rE I88 (xAF a0) [F, F, F, F, F, F, F, Y, Y] [] = dn (xAE 2) [xDd a0, xDx a0, xDX a0, xEh a0, xEA a0, xET a0, xFo a0, xLR a0, xLR a0] := by kernel_rfl
abbrev xFJ (v0 : Str) : Prop := iN ((v0 : Str) == [115, 107, 105, 112])
abbrev xLS (v0 : Str) : Prop := iY ((v0 : Str) == [114, 97, 110, 103, 101])
def xST (a0 : Str) : rE I88 (xAF a0) [F, F, F, F, F, F, F, F, Y, Y] [] = dn (xAE 2) [xDd a0, xDx a0, xDX a0, xEh a0, xEA a0, xET a0, xFo a0, xFJ a0, xLS a0, xLS a0] := by kernel_rfl
abbrev xF7 (v0 : Str) : Prop := iN ((v0 : Str) == [114, 97, 110, 103, 101])
abbrev xLT (v0 : Str) : Prop := iY ((v0 : Str) == [110, 116, 104])
def xSU (a0 : Str) : rE I88 (xAF a0) [F, F, F, F, F, F, F, F, F, Y, Y] [] = dn (xAE 2) [xDd a0, xDx a0, xDX a0, xEh a0, xEA a0, xET a0, xFo a0, xFJ a0, xF7 a0, xLT a0, xLT a0] := by kernel_rfl
abbrev xGG (v0 : Str) : Prop := iN ((v0 : Str) == [110, 116, 104])
abbrev xLU (v0 : Str) : Prop := iY ((v0 : Str) == [107, 101, 101, 112])
def xOd (a0 : Str) : rE I88 (xAF a0) [F, F, F, F, F, F, F, F, F, F, Y, Y] [] = dn (xAE 2) [xDd a0, xDx a0, xDX a0, xEh a0, xEA a0, xET a0, xFo a0, xFJ a0, xF7 a0, xGG a0, xLU a0, xLU a0] := by kernel_rfl
abbrev xGZ (v0 : Str) : Prop := iN ((v0 : Str) == [107, 101, 101, 112])
abbrev xLV (v0 : Str) : Prop := iY ((v0 : Str) == [99, 111, 108, 117, 109, 110])
def xOe (a0 : Str) : rE I88 (xAF a0) [F, F, F, F, F, F, F, F, F, F, F, Y, Y] [] = dn (xAE 2) [xDd a0, xDx a0, xDX a0, xEh a0, xEA a0, xET a0, xFo a0, xFJ a0, xF7 a0, xGG a0, xGZ a0, xLV a0, xLV a0] := by kernel_rfl
abbrev xHB (v0 : Str) : Prop := iN ((v0 : Str) == [99, 111, 108, 117, 109, 110])
abbrev xLw (v0 : Str) := (v0 : Str) == [116, 97, 98, 108, 101]
def xOf (a0 : Str) : rE I88 (xAF a0) [F, F, F, F, F, F, F, F, F, F, F, F, Y] [] = dn (xAE 2) [xDd a0, xDx a0, xDX a0, xEh a0, xEA a0, xET a0, xFo a0, xFJ a0, xF7 a0, xGG a0, xGZ a0, xHB a0, iY (xLw a0)] := by kernel_rfl
abbrev xIl (v0 : Str) : Prop := iN (xLw v0)
abbrev xLW (v0 : Str) : Prop := iY ((v0 : Str) == [119, 104, 101, 114, 101])
def xOg (a0 : Str) : rE I88 (xAF a0) [F, F, F, F, F, F, F, F, F, F, F, F, F, Y, Y] [] = dn (xAE 3) [xDd a0, xDx a0, xDX a0, xEh a0, xEA a0, xET a0, xFo a0, xFJ a0, xF7 a0, xGG a0, xGZ a0, xHB a0, xIl a0, xLW a0, xLW a0] := by kernel_rfl
abbrev xI1 (v0 : Str) : Prop := iN ((v0 : Str) == [119, 104, 101, 114, 101])
abbrev xLX (v0 : Str) : Prop := iY ((v0 : Str) == [103, 114, 111, 117, 112])
def xOh (a0 : Str) : rE I88 (xAF a0) [F, F, F, F, F, F, F, F, F, F, F, F, F, F, Y, Y] [] = dn (xAE 3) [xDd a0, xDx a0, xDX a0, xEh a0, xEA a0, xET a0, xFo a0, xFJ a0, xF7 a0, xGG a0, xGZ a0, xHB a0, xIl a0, xI1 a0, xLX a0, xLX a0] := by kernel_rfl
abbrev xJN (v0 : Str) : Prop := iN ((v0 : Str) == [103, 114, 111, 117, 112])
abbrev xLx (v0 : Str) := (v0 : Str) == [106, 111, 105, 110]
def xOi (a0 : Str) : rE I88 (xAF a0) [F, F, F, F, F, F, F, F, F, F, F, F, F, F, F, Y] [] = dn (xAE 3) [xDd a0, xDx a0, xDX a0, xEh a0, xEA a0, xET a0, xFo a0, xFJ a0, xF7 a0, xGG a0, xGZ a0, xHB a0, xIl a0, xI1 a0, xJN a0, iY (xLx a0)] := by kernel_rfl
abbrev xLY (v0 : Str) : Prop := iN (xLx v0)
abbrev xJ9 (v0 : Str) := (v0 : Str) == [97, 100, 100]
def xOj (a0 : Str) : rE I88 (xAF a0) [F, F, F, F, F, F, F, F, F, F, F, F, F, F, F, F, Y] [] = dn (xAE 4) [xDd a0, xDx a0, xDX a0, xEh a0, xEA a0, xET a0, xFo a0, xFJ a0, xF7 a0, xGG a0, xGZ a0, xHB a0, xIl a0, xI1 a0, xJN a0, xLY a0, iY (xJ9 a0)] := by kernel_rfl
def xOk (a0 : Str) : rE I88 (xAF a0) [F, F, F, F, F, F, F, F, F, F, F, F, F, F, F, F, F] [] = dn (xAE (-1)) [xDd a0, xDx a0, xDX a0, xEh a0, xEA a0, xET a0, xFo a0, xFJ a0, xF7 a0, xGG a0, xGZ a0, xHB a0, xIl a0, xI1 a0, xJN a0, xLY a0, iN (xJ9 a0)] := by kernel_rfl
theorem xVb {N : Nat} : ∀ a0 r, xB2 N a0 = some r → RE Try.f88 I88 (xAF a0) (xAE r) := fun a0 r h =>
 cE h (fun h0 h => dE h fk88 (xSL a0) (oc h0 on)) fun h0 h =>
 cE h (fun h1 h => dE h fk88 (xSM a0) (oc3 h0 h1 h1 on)) fun h1 h =>
 cE h (fun h2 h => dE h fk88 (xSN a0) (oc4 h0 h1 h2 h2 on)) fun h2 h =>
 cE h (fun h3 h => dE h fk88 (xSO a0) (oc5 h0 h1 h2 h3 h3 on)) fun h3 h =>
 cE h (fun h4 h => dE h fk88 (xSP a0) (oc6 h0 h1 h2 h3 h4 h4 on)) fun h4 h =>
 cE h (fun h5 h => dE h fk88 (xSQ a0) (oc6 h0 h1 h2 h3 h4 h5 on)) fun h5 h =>
 cE h (fun h6 h => dE h fk88 (xSR a0) (oc8 h0 h1 h2 h3 h4 h5 h6 h6 on)) fun h6 h =>
 cE h (fun h7 h => dE h fk88 (xSS a0) (oc9 h0 h1 h2 h3 h4 h5 h6 h7 h7 on)) fun h7 h =>
 cE h (fun h8 h => dE h fk88 (xST a0) (oc10 h0 h1 h2 h3 h4 h5 h6 h7 h8 h8 on)) fun h8 h =>
 cE h (fun h9 h => dE h fk88 (xSU a0) (oc11 h0 h1 h2 h3 h4 h5 h6 h7 h8 h9 h9 on)) fun h9 h =>
 cE h (fun h10 h => dE h fk88 (xOd a0) (oc12 h0 h1 h2 h3 h4 h5 h6 h7 h8 h9 h10 h10 on)) fun h10 h =>
 cE h (fun h11 h => dE h fk88 (xOe a0) (oc12 h0 h1 h2 h3 h4 h5 h6 h7 h8 h9 h10 h11 (oc h11 on))) fun h11 h =>
 cE h (fun h12 h => dE h fk88 (xOf a0) (oc12 h0 h1 h2 h3 h4 h5 h6 h7 h8 h9 h10 h11 (oc h12 on))) fun h12 h =>
 cE h (fun h13 h => dE h fk88 (xOg a0) (oc12 h0 h1 h2 h3 h4 h5 h6 h7 h8 h9 h10 h11 (oc3 h12 h13 h13 on))) fun h13 h =>
 cE h (fun h14 h => dE h fk88 (xOh a0) (oc12 h0 h1 h2 h3 h4 h5 h6 h7 h8 h9 h10 h11 (oc4 h12 h13 h14 h14 on))) fun h14 h =>
 cE h (fun h15 h => dE h fk88 (xOi a0) (oc12 h0 h1 h2 h3 h4 h5 h6 h7 h8 h9 h10 h11 (oc4 h12 h13 h14 h15 on))) fun h15 h =>
 cE h (fun h16 h => dE h fk88 (xOj a0) (oc12 h0 h1 h2 h3 h4 h5 h6 h7 h8 h9 h10 h11 (oc5 h12 h13 h14 h15 h16 on))) fun h16 h =>
 dE h fk88 (xOk a0) (oc12 h0 h1 h2 h3 h4 h5 h6 h7 h8 h9 h10 h11 (oc5 h12 h13 h14 h15 h16 on))
theorem xHV {N : Nat} {a0 : Str} {r : Int} (h : xB2 N  a0 = some r) : AbC 88 (xAF a0) (xAE r) :=
 AbsCalls.of_reach fk88 rfl rfl rfl (Nat.le_of_ble_eq_true rfl) (xVb a0 r h)
noncomputable def I74 : Info := { body := (Try.f74.body).getD .skip, nt := 120, results := [.tmp 2], keep := [0, 2, 4, 6, 16, 18, 46, 74, 102, 130, 154, 182, 212, 3], live := [], modes := [(4, [(2, .take, false), (7, .take, false)]), (6, [(2, .take, false), (7, .take, false)]), (8, [(2, .take, false), (7, .take, false)]), (10, [(3, .take, false), (8, .take, false)]), (12, [(3, .take, false)]), (14, [(3, .take, false), (7, .take, false)]), (17, [(3, .take, false), (7, .take, false)]), (19, [(3, .take, false), (8, .take, false)])] }
theorem fk74 : FnOk Try.prog 74 Try.f74 I74 := ⟨Try.func74, by kernel_rfl, by kernel_rfl, by kernel_rfl, by kernel_rfl⟩
abbrev xJO (v0 : Exp) : Prop := iY ((Exp.kind v0) == 1)
abbrev xMH (v0 : Exp) := (Ln (Exp.args v0) : Int) == 0
abbrev xJP (v0 : Exp) : Prop := iY (xMH v0)
abbrev xII (v0 : Exp) : Prop := iY ((xIt v0) == [])
def xRu (a0 : Exp) (r1 : Bool) : rE I74 (xAJ a0) [Y, Y, Y] [xEC r1] = dn (xAI r1) [xJO a0, xJP a0, xII a0, AbC 86 (xFN (Exp.n a0) 0 1000000000) (xEC r1)] := by kernel_rfl
abbrev xI2 (v0 : Exp) : Prop := iN ((xIt v0) == [])
def xRv (a0 : Exp) : rE I74 (xAJ a0) [Y, Y, F] [] = dn (xAI false) [xJO a0, xJP a0, xI2 a0] := by kernel_rfl
abbrev xMO (v0 : Exp) : Prop := iN (xMH v0)
def xRw (a0 : Exp) : rE I74 (xAJ a0) [Y, F, F] [] = dn (xAI false) [xJO a0, xMO a0, iN false] := by kernel_rfl
abbrev xB4 (v0 : Exp) : Prop := iN ((Exp.kind v0) == 1)
abbrev xJQ (v0 : Exp) : Prop := iY ((Exp.kind v0) == 2)
abbrev xEU (v0 : Exp) : Prop := iY ((Exp.n v0) == 0)
def xRx (a0 : Exp) (r1 : Bool) : rE I74 (xAJ a0) [F, Y, Y, Y] [xBQ r1] = dn (xAI r1) [xB4 a0, xJQ a0, xJP a0, xEU a0, AbC 87 (xEE (Exp.text a0)) (xBQ r1)] := by kernel_rfl
abbrev xG0 (v0 : Exp) : Prop := iN ((Exp.n v0) == 0)
def xRy (a0 : Exp) : rE I74 (xAJ a0) [F, Y, Y, F] [] = dn (xAI false) [xB4 a0, xJQ a0, xJP a0, xG0 a0] := by kernel_rfl
def xRz (a0 : Exp) : rE I74 (xAJ a0) [F, Y, F, F] [] = dn (xAI false) [xB4 a0, xJQ a0, xMO a0, iN false] := by kernel_rfl
abbrev xCs (v0 : Exp) : Prop := iN ((Exp.kind v0) == 2)
def xRA (a0 : Exp) (r1 : Bool) : rE I74 (xAJ a0) [F, F, Y, Y, Y] [xAT r1] = dn (xAI r1) [xB4 a0, xCs a0, xFv a0, xJP a0, xEU a0, AbC 38 (xBP (Exp.text a0)) (xAT r1)] := by kernel_rfl
def xRB (a0 : Exp) : rE I74 (xAJ a0) [F, F, Y, Y, F] [] = dn (xAI false) [xB4 a0, xCs a0, xFv a0, xJP a0, xG0 a0] := by kernel_rfl
def xRC (a0 : Exp) : rE I74 (xAJ a0) [F, F, Y, F, F] [] = dn (xAI false) [xB4 a0, xCs a0, xFv a0, xMO a0, iN false] := by kernel_rfl
abbrev xJR (v0 : Exp) : Prop := iY ((Exp.kind v0) == 4)
def xRD (a0 : Exp) : rE I74 (xAJ a0) [F, F, F, Y, Y, Y] [] = dn (xAI (dc ((xEe a0) ≤ 8))) [xB4 a0, xCs a0, xBV a0, xJR a0, xEU a0, xII a0] := by kernel_rfl
def xNt (a0 : Exp) : rE I74 (xAJ a0) [F, F, F, Y, Y, F] [] = dn (xAI false) [xB4 a0, xCs a0, xBV a0, xJR a0, xEU a0, xI2 a0] := by kernel_rfl
def xNu (a0 : Exp) : rE I74 (xAJ a0) [F, F, F, Y, F, F] [] = dn (xAI false) [xB4 a0, xCs a0, xBV a0, xJR a0, xG0 a0, iN false] := by kernel_rfl
abbrev xDY (v0 : Exp) : Prop := iN ((Exp.kind v0) == 4)
abbrev xLZ (v0 : Exp) : Prop := iY ((Exp.kind v0) == 5)
def xNv (a0 : Exp) (r1 : Int) : rE I74 (xAJ a0) [F, F, F, F, Y, Y] [xAE r1] = dn (xAI ((xEe a0) == r1)) [xB4 a0, xCs a0, xBV a0, xDY a0, xLZ a0, xEU a0, AbC 88 (xAF (Exp.text a0)) (xAE r1)] := by kernel_rfl
def xNw (a0 : Exp) : rE I74 (xAJ a0) [F, F, F, F, Y, F] [] = dn (xAI false) [xB4 a0, xCs a0, xBV a0, xDY a0, xLZ a0, xG0 a0] := by kernel_rfl
abbrev xEB (v0 : Exp) : Prop := iN ((Exp.kind v0) == 5)
abbrev xJS (v0 : Exp) : Prop := iY ((Exp.kind v0) == 6)
abbrev xMI (v0 : Exp) := (Ln (Exp.args v0) : Int) == 2
abbrev xMP (v0 : Exp) : Prop := iY (xMI v0)
def xNx (a0 : Exp) (r1 : Bool) : rE I74 (xAJ a0) [F, F, F, F, F, Y, Y, Y] [xEC r1] = dn (xAI r1) [xB4 a0, xCs a0, xBV a0, xDY a0, xEB a0, xJS a0, xII a0, xMP a0, AbC 86 (xFN (Exp.n a0) 1 5) (xEC r1)] := by kernel_rfl
abbrev xMQ (v0 : Exp) : Prop := iN (xMI v0)
def xNy (a0 : Exp) : rE I74 (xAJ a0) [F, F, F, F, F, Y, Y, F] [] = dn (xAI false) [xB4 a0, xCs a0, xBV a0, xDY a0, xEB a0, xJS a0, xII a0, xMQ a0] := by kernel_rfl
def xNz (a0 : Exp) : rE I74 (xAJ a0) [F, F, F, F, F, Y, F, F] [] = dn (xAI false) [xB4 a0, xCs a0, xBV a0, xDY a0, xEB a0, xJS a0, xI2 a0, iN false] := by kernel_rfl
abbrev xFK (v0 : Exp) : Prop := iN ((Exp.kind v0) == 6)
def xNA (a0 : Exp) (r1 : Bool) : rE I74 (xAJ a0) [F, F, F, F, F, F, Y, Y, Y, Y] [xAT r1] = dn (xAI r1) [xB4 a0, xCs a0, xBV a0, xDY a0, xEB a0, xFK a0, xGA a0, xGA a0, xEU a0, xMP a0, AbC 38 (xBP (Exp.text a0)) (xAT r1)] := by kernel_rfl
def xNB (a0 : Exp) : rE I74 (xAJ a0) [F, F, F, F, F, F, Y, Y, Y, F] [] = dn (xAI false) [xB4 a0, xCs a0, xBV a0, xDY a0, xEB a0, xFK a0, xGA a0, xGA a0, xEU a0, xMQ a0] := by kernel_rfl
def xNC (a0 : Exp) : rE I74 (xAJ a0) [F, F, F, F, F, F, Y, Y, F, F] [] = dn (xAI false) [xB4 a0, xCs a0, xBV a0, xDY a0, xEB a0, xFK a0, xGA a0, xGA a0, xG0 a0, iN false] := by kernel_rfl
def xND (a0 : Exp) (r1 : Bool) : rE I74 (xAJ a0) [F, F, F, F, F, F, F, Y, Y, Y] [xAT r1] = dn (xAI r1) [xB4 a0, xCs a0, xBV a0, xDY a0, xEB a0, xFK a0, xCz a0, xFW a0, xEU a0, xMP a0, AbC 38 (xBP (Exp.text a0)) (xAT r1)] := by kernel_rfl
def xNE (a0 : Exp) : rE I74 (xAJ a0) [F, F, F, F, F, F, F, Y, Y, F] [] = dn (xAI false) [xB4 a0, xCs a0, xBV a0, xDY a0, xEB a0, xFK a0, xCz a0, xFW a0, xEU a0, xMQ a0] := by kernel_rfl
def xNF (a0 : Exp) : rE I74 (xAJ a0) [F, F, F, F, F, F, F, Y, F, F] [] = dn (xAI false) [xB4 a0, xCs a0, xBV a0, xDY a0, xEB a0, xFK a0, xCz a0, xFW a0, xG0 a0, iN false] := by kernel_rfl
abbrev xJT (v0 : Exp) : Prop := iY ((Exp.kind v0) == 8)
def xNG (a0 : Exp) : rE I74 (xAJ a0) [F, F, F, F, F, F, F, F, Y, Y, Y] [] = dn (xAI ((xEe a0) == 3)) [xB4 a0, xCs a0, xBV a0, xDY a0, xEB a0, xFK a0, xCz a0, xFn a0, xJT a0, xEU a0, xII a0] := by kernel_rfl
def xNH (a0 : Exp) : rE I74 (xAJ a0) [F, F, F, F, F, F, F, F, Y, Y, F] [] = dn (xAI false) [xB4 a0, xCs a0, xBV a0, xDY a0, xEB a0, xFK a0, xCz a0, xFn a0, xJT a0, xEU a0, xI2 a0] := by kernel_rfl
def xNI (a0 : Exp) : rE I74 (xAJ a0) [F, F, F, F, F, F, F, F, Y, F, F] [] = dn (xAI false) [xB4 a0, xCs a0, xBV a0, xDY a0, xEB a0, xFK a0, xCz a0, xFn a0, xJT a0, xG0 a0, iN false] := by kernel_rfl
def xNJ (a0 : Exp) : rE I74 (xAJ a0) [F, F, F, F, F, F, F, F, F] [] = dn (xAI false) [xB4 a0, xCs a0, xBV a0, xDY a0, xEB a0, xFK a0, xCz a0, xFn a0, iN ((Exp.kind a0) == 8)] := by kernel_rfl
theorem xUX {N : Nat} : ∀ a0 r, xGu N a0 = some r → RE Try.f74 I74 (xAJ a0) (xAI r) := fun a0 r h =>
 cE h (fun h0 h => cE h (fun h1 h => cE h (fun h2 h => bE h fun r1 h3 h => dE h fk74 (xRu a0 r1) (oc4 h0 h1 h2 (xI3 h3) on)) fun h2 h =>
 dE h fk74 (xRv a0) (oc3 h0 h1 h2 on)) fun h1 h =>
 dE h fk74 (xRw a0) (oc3 h0 h1 rfl on)) fun h0 h =>
 cE h (fun h1 h => cE h (fun h2 h => cE h (fun h3 h => bE h fun r1 h4 h => dE h fk74 (xRx a0 r1) (oc5 h0 h1 h2 h3 (xIu h4) on)) fun h3 h =>
 dE h fk74 (xRy a0) (oc4 h0 h1 h2 h3 on)) fun h2 h =>
 dE h fk74 (xRz a0) (oc4 h0 h1 h2 rfl on)) fun h1 h =>
 cE h (fun h2 h => cE h (fun h3 h => cE h (fun h4 h => bE h fun r1 h5 h => dE h fk74 (xRA a0 r1) (oc6 h0 h1 h2 h3 h4 (xBE h5) on)) fun h4 h =>
 dE h fk74 (xRB a0) (oc5 h0 h1 h2 h3 h4 on)) fun h3 h =>
 dE h fk74 (xRC a0) (oc5 h0 h1 h2 h3 rfl on)) fun h2 h =>
 cE h (fun h3 h => cE h (fun h4 h => cE h (fun h5 h => dE h fk74 (xRD a0) (oc6 h0 h1 h2 h3 h4 h5 on)) fun h5 h =>
 dE h fk74 (xNt a0) (oc6 h0 h1 h2 h3 h4 h5 on)) fun h4 h =>
 dE h fk74 (xNu a0) (oc6 h0 h1 h2 h3 h4 rfl on)) fun h3 h =>
 cE h (fun h4 h => cE h (fun h5 h => bE h fun r1 h6 h => dE h fk74 (xNv a0 r1) (oc7 h0 h1 h2 h3 h4 h5 (xHV h6) on)) fun h5 h =>
 dE h fk74 (xNw a0) (oc6 h0 h1 h2 h3 h4 h5 on)) fun h4 h =>
 cE h (fun h5 h => cE h (fun h6 h => cE h (fun h7 h => bE h fun r1 h8 h => dE h fk74 (xNx a0 r1) (oc9 h0 h1 h2 h3 h4 h5 h6 h7 (xI3 h8) on)) fun h7 h =>
 dE h fk74 (xNy a0) (oc8 h0 h1 h2 h3 h4 h5 h6 h7 on)) fun h6 h =>
 dE h fk74 (xNz a0) (oc8 h0 h1 h2 h3 h4 h5 h6 rfl on)) fun h5 h =>
 cE h (fun h6 h => cE h (fun h8 h => cE h (fun h9 h => bE h fun r1 h10 h => dE h fk74 (xNA a0 r1) (oc11 h0 h1 h2 h3 h4 h5 h6 h6 h8 h9 (xBE h10) on)) fun h9 h =>
 dE h fk74 (xNB a0) (oc10 h0 h1 h2 h3 h4 h5 h6 h6 h8 h9 on)) fun h8 h =>
 dE h fk74 (xNC a0) (oc10 h0 h1 h2 h3 h4 h5 h6 h6 h8 rfl on)) fun h6 h =>
 cE h (fun h7 h => cE h (fun h8 h => cE h (fun h9 h => bE h fun r1 h10 h => dE h fk74 (xND a0 r1) (oc11 h0 h1 h2 h3 h4 h5 h6 h7 h8 h9 (xBE h10) on)) fun h9 h =>
 dE h fk74 (xNE a0) (oc10 h0 h1 h2 h3 h4 h5 h6 h7 h8 h9 on)) fun h8 h =>
 dE h fk74 (xNF a0) (oc10 h0 h1 h2 h3 h4 h5 h6 h7 h8 rfl on)) fun h7 h =>
 cE h (fun h8 h => cE h (fun h9 h => cE h (fun h10 h => dE h fk74 (xNG a0) (oc11 h0 h1 h2 h3 h4 h5 h6 h7 h8 h9 h10 on)) fun h10 h =>
 dE h fk74 (xNH a0) (oc11 h0 h1 h2 h3 h4 h5 h6 h7 h8 h9 h10 on)) fun h9 h =>
 dE h fk74 (xNI a0) (oc11 h0 h1 h2 h3 h4 h5 h6 h7 h8 h9 rfl on)) fun h8 h =>
 dE h fk74 (xNJ a0) (oc9 h0 h1 h2 h3 h4 h5 h6 h7 h8 on)
theorem xJy {N : Nat} {a0 : Exp} {r : Bool} (h : xGu N  a0 = some r) : AbC 74 (xAJ a0) (xAI r) :=
 AbsCalls.of_reach fk74 rfl rfl rfl (Nat.le_of_ble_eq_true rfl) (xUX a0 r h)
def G57 (q : Exp → Option (Bool)) : Prop := ∀ a0 r, q a0 = some r → AbC 57 (xDy a0) (xBY r)
noncomputable def I57 : Info := { body := (Try.f57.body).getD .skip, nt := 20, results := [.tmp 2], keep := [0, 2, 4, 6, 16, 34, 3], live := [(2, [2, 6, 3])], modes := [] }
theorem fk57 : FnOk Try.prog 57 Try.f57 I57 := ⟨Try.func57, by kernel_rfl, by kernel_rfl, by kernel_rfl, by kernel_rfl⟩
def xMc (x3 : Int) (b1 : Exp) : St := [(2, .v false [.ptr 1 0]), (6, .v false [.int .i64 x3]), (3, .v true [.int .i64 (Exp.kind b1), .int .i64 (Exp.n b1), .str (Exp.text b1), .sl .ro .exp (Exp.args b1)])]
def xQr (x3 : Int) (b1 : Exp) (r1 : Bool) : rS 2 I57 (xMc x3 b1) [Y, Y] [xBY r1] = dn (xBY false) [xFQ x3 b1, xFG x3 b1, AbC 57 (xDy (xE2 b1 x3)) (xBY r1), iY (!r1)] := by kernel_rfl
def xQs (x3 : Int) (b1 : Exp) (r1 : Bool) : rS 2 I57 (xMc x3 b1) [Y, F] [xBY r1] = st 2 I57 (xMc (W (x3 + 1)) b1) [xFQ x3 b1, xFG x3 b1, AbC 57 (xDy (xE2 b1 x3)) (xBY r1), xAW r1] := by kernel_rfl
def xQt (x3 : Int) (b1 : Exp) (r1 : Bool) : rS 2 I57 (xMc x3 b1) [F] [xAI r1] = dn (xBY r1) [xI0 x3 b1, AbC 74 (xAJ b1) (xAI r1)] := by kernel_rfl
def xQu (a0 : Exp) : rE I57 (xDy a0) [] [] = st 2 I57 (xMc 0 a0) [] := by kernel_rfl
theorem xUy {N q0} (g0 : G57 q0) : ∀ n x3 b1 r, xEf N q0 n x3 b1 = some r → RS Try.f57 I57 2 (xMc x3 b1) (xBY r) := by
 intro n
 induction n with
 | zero => exact fun _ _ _ h => nE h
 | succ n ih =>
  exact fun x3 b1 r h =>
   cE h (fun h0 h => iE h fun h1 h => bE h fun r1 h2 h => cE h (fun h3 h => dS h fk57 (xQr x3 b1 r1) (oc4 h0 h1 (g0 _ _ h2) h3 on)) fun h3 h =>
   tS fk57 (xQs x3 b1 r1) (oc4 h0 h1 (g0 _ _ h2) h3 on) (ih _ _ _ h)) fun h0 h =>
   bE h fun r1 h1 h => dS h fk57 (xQt x3 b1 r1) (oc2 h0 (xJy h1) on)
theorem xUz {N q0} (g0 : G57 q0) : ∀ a0 r, xGB N q0 a0 = some r → RE Try.f57 I57 (xDy a0) (xBY r) := fun a0 r h =>
 tE fk57 (xQu a0) on (xUy g0 _ _ _ _ h)
theorem xIw {N q0} (g0 : G57 q0) {a0} {r} (h : xGB N q0 a0 = some r) : AbC 57 (xDy a0) (xBY r) :=
 AbsCalls.of_reach fk57 rfl rfl rfl (Nat.le_of_ble_eq_true rfl) (xUz g0 a0 r h)
theorem xG5 {N : Nat} : ∀ d, G57 (xE6 N d)
 | 0 => fun _ _ h => nE h
 | d + 1 => fun _ _ h => xIw (N := N) (xG5 d) h
theorem xJJ {N : Nat} {a0 : Exp} {r : Bool} (h : xIv N a0 = some r) : AbC 57 (xDy a0) (xBY r) := xG5 N _ r h
noncomputable def I37 : Info := { body := (Try.f37.body).getD .skip, nt := 15, results := [.tmp 2], keep := [0, 2, 4, 3], live := [], modes := [(1, [(3, .take, false), (8, .take, false)])] }
theorem fk37 : FnOk Try.prog 37 Try.f37 I37 := ⟨Try.func37, by kernel_rfl, by kernel_rfl, by kernel_rfl, by kernel_rfl⟩
def xPm (a0 : Exp) (r1 r2 : Int) (r3 : Bool) : rE I37 (xBo a0) [Y, Y] [xBu r1, xBz r2, xBY r3] = dn (xAS r3) [AbC 55 (xCI a0 40) (xBu r1), iY (dc (r1 ≥ 0)), AbC 56 (xCA a0) (xBz r2), iY (dc (r2 ≤ 8)), AbC 57 (xDy a0) (xBY r3)] := by kernel_rfl
def xPn (a0 : Exp) (r1 r2 : Int) : rE I37 (xBo a0) [Y, F] [xBu r1, xBz r2] = dn (xAS false) [AbC 55 (xCI a0 40) (xBu r1), iY (dc (r1 ≥ 0)), AbC 56 (xCA a0) (xBz r2), iN (dc (r2 ≤ 8))] := by kernel_rfl
def xPo (a0 : Exp) (r1 : Int) : rE I37 (xBo a0) [F, F] [xBu r1] = dn (xAS false) [AbC 55 (xCI a0 40) (xBu r1), iN (dc (r1 ≥ 0)), iN false] := by kernel_rfl
theorem xUd {N : Nat} : ∀ a0 r, xD1 N a0 = some r → RE Try.f37 I37 (xBo a0) (xAS r) := fun a0 r h =>
 bE h fun r1 h0 h => cE h (fun h1 h => bE h fun r2 h2 h => cE h (fun h3 h => bE h fun r3 h4 h => dE h fk37 (xPm a0 r1 r2 r3) (oc5 (xGU h0) h1 (xHk h2) h3 (xJJ h4) on)) fun h3 h =>
 dE h fk37 (xPn a0 r1 r2) (oc4 (xGU h0) h1 (xHk h2) h3 on)) fun h1 h =>
 dE h fk37 (xPo a0 r1) (oc3 (xGU h0) h1 rfl on)
theorem xCu {N : Nat} {a0 : Exp} {r : Bool} (h : xD1 N  a0 = some r) : AbC 37 (xBo a0) (xAS r) :=
 AbsCalls.of_reach fk37 rfl rfl rfl (Nat.le_of_ble_eq_true rfl) (xUd a0 r h)
def G60 (q : Exp → Option (Exp)) : Prop := ∀ a0 r, q a0 = some r → AbC 60 (xEt a0) (xCl r)
noncomputable def I60 : Info := { body := (Try.f60.body).getD .skip, nt := 31, results := [.cell 2 29], keep := [0, 2, 4, 6, 8, 32, 3, 5, 7], live := [(3, [2, 4, 6, 8, 3, 5, 7])], modes := [(5, [(1, .take, false), (9, .take, false)]), (6, [(0, .take, false)])] }
theorem fk60 : FnOk Try.prog 60 Try.f60 I60 := ⟨Try.func60, by kernel_rfl, by kernel_rfl, by kernel_rfl, by kernel_rfl⟩
def xMp (x4 : Int) (b1 b2 b3 : Exp) : St := [(2, .v false [.ptr 1 0]), (4, .v false [.ptr 2 0]), (6, .v false [.ptr 3 0]), (8, .v false [.int .i64 x4]), (3, .v true [.int .i64 (Exp.kind b1), .int .i64 (Exp.n b1), .str (Exp.text b1), .sl .ro .exp (Exp.args b1)]), (5, .v true [.int .i64 (Exp.kind b2), .int .i64 (Exp.n b2), .str (Exp.text b2), .sl .own .exp (Exp.args b2)]), (7, .v true [.int .i64 (Exp.kind b3), .int .i64 (Exp.n b3), .str (Exp.text b3), .sl .own .exp (Exp.args b3)])]
abbrev xMR (v0 : Exp) (v1 : Int) (v2 : Exp) : Prop := AbC 60 (xEt (xE2 v0 v1)) (xCl v2)
abbrev xG1 (v0 v1 : Exp) : Prop := Ln (Exp.args v0) + Ln [(Exp.re v1)] ≤ Lim
def xQG (x4 : Int) (b1 b2 b3 r1 : Exp) : rS 3 I60 (xMp x4 b1 b2 b3) [Y] [xCl r1] = st 3 I60 (xMp (W (x4 + 1)) b1 b2 (Exp.mk (Exp.kind b3) (Exp.n b3) (Exp.text b3) ((Exp.args b3) ++ [(Exp.re r1)]))) [xFQ x4 b1, xFG x4 b1, xMR b1 x4 r1, xG1 b3 r1] := by kernel_rfl
def xQH (x4 : Int) (b1 b2 b3 : Exp) : rS 3 I60 (xMp x4 b1 b2 b3) [F] [] = dn (xCl b3) [xI0 x4 b1] := by kernel_rfl
abbrev xKa (v0 : Exp) := Exp.mk (Exp.kind v0) (Exp.n v0) (Exp.text v0) []
def xQI (a0 : Exp) : rE I60 (xEt a0) [] [] = st 3 I60 (xMp 0 a0 (Exp.mk 0 0 [] []) (xKa a0)) [] := by kernel_rfl
theorem xUD {N q0} (g0 : G60 q0) : ∀ n x4 b1 b2 b3 r, xEu N q0 n x4 b1 b2 b3 = some r → RS Try.f60 I60 3 (xMp x4 b1 b2 b3) (xCl r) := by
 intro n
 induction n with
 | zero => exact fun _ _ _ _ _ h => nE h
 | succ n ih =>
  exact fun x4 b1 b2 b3 r h =>
   cE h (fun h0 h => iE h fun h1 h => bE h fun r1 h2 h => iE h fun h3 h => tS fk60 (xQG x4 b1 b2 b3 r1) (oc4 h0 h1 (g0 _ _ h2) h3 on) (ih _ _ _ _ _ h)) fun h0 h =>
   dS h fk60 (xQH x4 b1 b2 b3) (oc h0 on)
theorem xUE {N q0} (g0 : G60 q0) : ∀ a0 r, xGe N q0 a0 = some r → RE Try.f60 I60 (xEt a0) (xCl r) := fun a0 r h =>
 tE fk60 (xQI a0) on (xUD g0 _ _ _ _ _ _ h)
theorem xId {N q0} (g0 : G60 q0) {a0} {r} (h : xGe N q0 a0 = some r) : AbC 60 (xEt a0) (xCl r) :=
 AbsCalls.of_reach fk60 rfl rfl rfl (Nat.le_of_ble_eq_true rfl) (xUE g0 a0 r h)
theorem xGS {N : Nat} : ∀ d, G60 (xEK N d)
 | 0 => fun _ _ h => nE h
 | d + 1 => fun _ _ h => xId (N := N) (xGS d) h
theorem xHX {N : Nat} {a0 : Exp} {r : Exp} (h : xGs N a0 = some r) : AbC 60 (xEt a0) (xCl r) := xGS N _ r h
def G39 (q : Exp → Str → Str → Option (Exp)) : Prop := ∀ a0 a1 a2 r, q a0 a1 a2 = some r → AbC 39 (xCe a0 a1 a2) (xBk r)
noncomputable def I39 : Info := { body := (Try.f39.body).getD .skip, nt := 77, results := [.cell 6 29], keep := [0, 2, 4, 6, 12, 14, 16, 48, 62, 102, 7, 13, 15], live := [(5, [2, 4, 6, 12, 14, 16, 7, 13, 15])], modes := [(2, [(3, .take, false)]), (7, [(3, .take, false), (8, .take, false), (12, .take, false)]), (8, [(1, .take, false), (9, .take, false)]), (9, [(1, .take, false), (11, .take, false)]), (10, [(0, .take, false)])] }
theorem fk39 : FnOk Try.prog 39 Try.f39 I39 := ⟨Try.func39, by kernel_rfl, by kernel_rfl, by kernel_rfl, by kernel_rfl⟩
def xHp (x1 x2 : Str) (x8 : Int) (b3 b6 b7 : Exp) : St := [(2, .v false [.str x1]), (4, .v false [.str x2]), (6, .v false [.ptr 3 0]), (12, .v false [.ptr 6 0]), (14, .v false [.ptr 7 0]), (16, .v false [.int .i64 x8]), (7, .v true [.int .i64 (Exp.kind b3), .int .i64 (Exp.n b3), .str (Exp.text b3), .sl .ro .exp (Exp.args b3)]), (13, .v true [.int .i64 (Exp.kind b6), .int .i64 (Exp.n b6), .str (Exp.text b6), .sl .own .exp (Exp.args b6)]), (15, .v true [.int .i64 (Exp.kind b7), .int .i64 (Exp.n b7), .str (Exp.text b7), .sl .own .exp (Exp.args b7)])]
def xPs (x1 x2 : Str) (x8 : Int) (b3 b6 b7 r1 : Exp) : rS 5 I39 (xHp x1 x2 x8 b3 b6 b7) [Y, Y, Y, Y, Y] [xCl r1] = st 5 I39 (xHp x1 x2 (W (x8 + 1)) b3 b6 (Exp.mk (Exp.kind b7) (Exp.n b7) (Exp.text b7) ((Exp.args b7) ++ [(Exp.re r1)]))) [xFQ x8 b3, xGA b3, iY true, iY (x8 == 1), xKx b3 x1, xFG x8 b3, xMR b3 x8 r1, xG1 b7 r1] := by kernel_rfl
abbrev xKA (v0 : Exp) (v1 : Int) (v2 v3 : Str) (v4 : Exp) : Prop := AbC 39 (xCe (xE2 v0 v1) v2 v3) (xBk v4)
def xPt (x1 x2 : Str) (x8 : Int) (b3 b6 b7 r1 : Exp) : rS 5 I39 (xHp x1 x2 x8 b3 b6 b7) [Y, Y, Y, Y, F] [xBk r1] = st 5 I39 (xHp x1 x2 (W (x8 + 1)) b3 b6 (Exp.mk (Exp.kind b7) (Exp.n b7) (Exp.text b7) ((Exp.args b7) ++ [(Exp.re r1)]))) [xFQ x8 b3, xGA b3, iY true, iY (x8 == 1), xKy b3 x1, xFG x8 b3, xKA b3 x8 x1 x2 r1, xG1 b7 r1] := by kernel_rfl
def xPu (x1 x2 : Str) (x8 : Int) (b3 b6 b7 r1 : Exp) : rS 5 I39 (xHp x1 x2 x8 b3 b6 b7) [Y, Y, Y, F, F] [xBk r1] = st 5 I39 (xHp x1 x2 (W (x8 + 1)) b3 b6 (Exp.mk (Exp.kind b7) (Exp.n b7) (Exp.text b7) ((Exp.args b7) ++ [(Exp.re r1)]))) [xFQ x8 b3, xGA b3, iY true, iN (x8 == 1), iN false, xFG x8 b3, xKA b3 x8 x1 x2 r1, xG1 b7 r1] := by kernel_rfl
def xPv (x1 x2 : Str) (x8 : Int) (b3 b6 b7 r1 : Exp) : rS 5 I39 (xHp x1 x2 x8 b3 b6 b7) [Y, F, Y, Y, Y] [xCl r1] = st 5 I39 (xHp x1 x2 (W (x8 + 1)) b3 b6 (Exp.mk (Exp.kind b7) (Exp.n b7) (Exp.text b7) ((Exp.args b7) ++ [(Exp.re r1)]))) [xFQ x8 b3, xCz b3, xFW b3, iY (x8 == 1), xKx b3 x1, xFG x8 b3, xMR b3 x8 r1, xG1 b7 r1] := by kernel_rfl
def xPw (x1 x2 : Str) (x8 : Int) (b3 b6 b7 r1 : Exp) : rS 5 I39 (xHp x1 x2 x8 b3 b6 b7) [Y, F, Y, Y, F] [xBk r1] = st 5 I39 (xHp x1 x2 (W (x8 + 1)) b3 b6 (Exp.mk (Exp.kind b7) (Exp.n b7) (Exp.text b7) ((Exp.args b7) ++ [(Exp.re r1)]))) [xFQ x8 b3, xCz b3, xFW b3, iY (x8 == 1), xKy b3 x1, xFG x8 b3, xKA b3 x8 x1 x2 r1, xG1 b7 r1] := by kernel_rfl
def xPx (x1 x2 : Str) (x8 : Int) (b3 b6 b7 r1 : Exp) : rS 5 I39 (xHp x1 x2 x8 b3 b6 b7) [Y, F, Y, F, F] [xBk r1] = st 5 I39 (xHp x1 x2 (W (x8 + 1)) b3 b6 (Exp.mk (Exp.kind b7) (Exp.n b7) (Exp.text b7) ((Exp.args b7) ++ [(Exp.re r1)]))) [xFQ x8 b3, xCz b3, xFW b3, iN (x8 == 1), iN false, xFG x8 b3, xKA b3 x8 x1 x2 r1, xG1 b7 r1] := by kernel_rfl
def xPy (x1 x2 : Str) (x8 : Int) (b3 b6 b7 r1 : Exp) : rS 5 I39 (xHp x1 x2 x8 b3 b6 b7) [Y, F, F, F, F] [xBk r1] = st 5 I39 (xHp x1 x2 (W (x8 + 1)) b3 b6 (Exp.mk (Exp.kind b7) (Exp.n b7) (Exp.text b7) ((Exp.args b7) ++ [(Exp.re r1)]))) [xFQ x8 b3, xCz b3, xFn b3, iN false, iN false, xFG x8 b3, xKA b3 x8 x1 x2 r1, xG1 b7 r1] := by kernel_rfl
def xPz (x1 x2 : Str) (x8 : Int) (b3 b6 b7 : Exp) : rS 5 I39 (xHp x1 x2 x8 b3 b6 b7) [F] [] = dn (xBk b7) [xI0 x8 b3] := by kernel_rfl
def xPA (a0 : Exp) (a1 a2 : Str) : rE I39 (xCe a0 a1 a2) [Y, Y] [] = st 5 I39 (xHp a1 a2 0 a0 (Exp.mk 0 0 [] []) (Exp.mk (Exp.kind a0) (Exp.n a0) a2 [])) [xFv a0, xKx a0 a1] := by kernel_rfl
def xPB (a0 : Exp) (a1 a2 : Str) : rE I39 (xCe a0 a1 a2) [Y, F] [] = st 5 I39 (xHp a1 a2 0 a0 (Exp.mk 0 0 [] []) (xKa a0)) [xFv a0, xKy a0 a1] := by kernel_rfl
def xNl (a0 : Exp) (a1 a2 : Str) : rE I39 (xCe a0 a1 a2) [F, F] [] = st 5 I39 (xHp a1 a2 0 a0 (Exp.mk 0 0 [] []) (xKa a0)) [xBV a0, iN false] := by kernel_rfl
theorem xOw {N q0} (g0 : G39 q0) : ∀ n x1 x2 x8 b3 b6 b7 r, xA1 N q0 n x1 x2 x8 b3 b6 b7 = some r → RS Try.f39 I39 5 (xHp x1 x2 x8 b3 b6 b7) (xBk r) := by
 intro n
 induction n with
 | zero => exact fun _ _ _ _ _ _ _ h => nE h
 | succ n ih =>
  exact fun x1 x2 x8 b3 b6 b7 r h =>
   cE h (fun h0 h => cE h (fun h1 h => cE h (fun h3 h => cE h (fun h4 h => iE h fun h5 h => bE h fun r1 h6 h => iE h fun h7 h => tS fk39 (xPs x1 x2 x8 b3 b6 b7 r1) (oc8 h0 h1 rfl h3 h4 h5 (xHX h6) h7 on) (ih _ _ _ _ _ _ _ h)) fun h4 h =>
   iE h fun h5 h => bE h fun r1 h6 h => iE h fun h7 h => tS fk39 (xPt x1 x2 x8 b3 b6 b7 r1) (oc8 h0 h1 rfl h3 h4 h5 (g0 _ _ _ _ h6) h7 on) (ih _ _ _ _ _ _ _ h)) fun h3 h =>
   iE h fun h5 h => bE h fun r1 h6 h => iE h fun h7 h => tS fk39 (xPu x1 x2 x8 b3 b6 b7 r1) (oc8 h0 h1 rfl h3 rfl h5 (g0 _ _ _ _ h6) h7 on) (ih _ _ _ _ _ _ _ h)) fun h1 h =>
   cE h (fun h2 h => cE h (fun h3 h => cE h (fun h4 h => iE h fun h5 h => bE h fun r1 h6 h => iE h fun h7 h => tS fk39 (xPv x1 x2 x8 b3 b6 b7 r1) (oc8 h0 h1 h2 h3 h4 h5 (xHX h6) h7 on) (ih _ _ _ _ _ _ _ h)) fun h4 h =>
   iE h fun h5 h => bE h fun r1 h6 h => iE h fun h7 h => tS fk39 (xPw x1 x2 x8 b3 b6 b7 r1) (oc8 h0 h1 h2 h3 h4 h5 (g0 _ _ _ _ h6) h7 on) (ih _ _ _ _ _ _ _ h)) fun h3 h =>
   iE h fun h5 h => bE h fun r1 h6 h => iE h fun h7 h => tS fk39 (xPx x1 x2 x8 b3 b6 b7 r1) (oc8 h0 h1 h2 h3 rfl h5 (g0 _ _ _ _ h6) h7 on) (ih _ _ _ _ _ _ _ h)) fun h2 h =>
   iE h fun h5 h => bE h fun r1 h6 h => iE h fun h7 h => tS fk39 (xPy x1 x2 x8 b3 b6 b7 r1) (oc8 h0 h1 h2 rfl rfl h5 (g0 _ _ _ _ h6) h7 on) (ih _ _ _ _ _ _ _ h)) fun h0 h =>
   dS h fk39 (xPz x1 x2 x8 b3 b6 b7) (oc h0 on)
theorem xUf {N q0} (g0 : G39 q0) : ∀ a0 a1 a2 r, xDU N q0 a0 a1 a2 = some r → RE Try.f39 I39 (xCe a0 a1 a2) (xBk r) := fun a0 a1 a2 r h =>
 cE h (fun h0 h => cE h (fun h1 h => tE fk39 (xPA a0 a1 a2) (oc2 h0 h1 on) (xOw g0 _ _ _ _ _ _ _ _ h)) fun h1 h =>
 tE fk39 (xPB a0 a1 a2) (oc2 h0 h1 on) (xOw g0 _ _ _ _ _ _ _ _ h)) fun h0 h =>
 tE fk39 (xNl a0 a1 a2) (oc2 h0 rfl on) (xOw g0 _ _ _ _ _ _ _ _ h)
theorem xHI {N q0} (g0 : G39 q0) {a0} {a1} {a2} {r} (h : xDU N q0 a0 a1 a2 = some r) : AbC 39 (xCe a0 a1 a2) (xBk r) :=
 AbsCalls.of_reach fk39 rfl rfl rfl (Nat.le_of_ble_eq_true rfl) (xUf g0 a0 a1 a2 r h)
theorem xGw {N : Nat} : ∀ d, G39 (xDg N d)
 | 0 => fun _ _ _ _ h => nE h
 | d + 1 => fun _ _ _ _ h => xHI (N := N) (xGw d) h
theorem xIW {N : Nat} {a0 : Exp} {a1 : Str} {a2 : Str} {r : Exp} (h : xHe N a0 a1 a2 = some r) : AbC 39 (xCe a0 a1 a2) (xBk r) := xGw N _ _ _ r h
noncomputable def I13 : Info := { body := (Try.f13.body).getD .skip, nt := 32, results := [.cell 6 29, .tmp 7], keep := [0, 2, 4, 6, 12, 14, 52, 7, 13], live := [], modes := [(1, [(3, .take, false), (8, .take, false), (13, .take, false)])] }
theorem fk13 : FnOk Try.prog 13 Try.f13 I13 := ⟨Try.func13, by kernel_rfl, by kernel_rfl, by kernel_rfl, by kernel_rfl⟩
def xOB (a0 : Exp) (a1 a2 : Str) (r1 : Bool) : rE I13 (xCh a0 a1 a2) [Y, Y, Y, Y] [xAS r1] = dn (xAn ((Exp.mk 0 0 [] []), false)) [AbC 37 (xBo a0) (xAS r1), iY (!r1), iY true, iY true, iY true] := by kernel_rfl
abbrev xJn (v0 : Str) (v1 : Bool) : Prop := AbC 38 (xBP v0) (xAT v1)
def xOC (a0 : Exp) (a1 a2 : Str) (r1 r2 : Bool) : rE I13 (xCh a0 a1 a2) [F, Y, Y, Y] [xAS r1, xAT r2] = dn (xAn ((Exp.mk 0 0 [] []), false)) [AbC 37 (xBo a0) (xAS r1), xAW r1, xJn a1 r2, iY (!r2), iY true, iY true] := by kernel_rfl
def xOD (a0 : Exp) (a1 a2 : Str) (r1 r2 r3 : Bool) : rE I13 (xCh a0 a1 a2) [F, F, Y, Y] [xAS r1, xAT r2, xAT r3] = dn (xAn ((Exp.mk 0 0 [] []), false)) [AbC 37 (xBo a0) (xAS r1), xAW r1, xJn a1 r2, xAW r2, xJn a2 r3, iY (!r3), iY true] := by kernel_rfl
def xOE (a0 : Exp) (a1 a2 : Str) (r1 r2 r3 r4 : Bool) : rE I13 (xCh a0 a1 a2) [F, F, F, Y] [xAS r1, xAT r2, xAT r3, xCG r4] = dn (xAn ((Exp.mk 0 0 [] []), false)) [AbC 37 (xBo a0) (xAS r1), xAW r1, xJn a1 r2, xAW r2, xJn a2 r3, xAW r3, AbC 9 (xD9 a0 a1 a2) (xCG r4), iY r4] := by kernel_rfl
def xOF (a0 : Exp) (a1 a2 : Str) (r1 r2 r3 r4 : Bool) (r5 : Exp) : rE I13 (xCh a0 a1 a2) [F, F, F, F] [xAS r1, xAT r2, xAT r3, xCG r4, xBk r5] = dn (xAn (r5, true)) [AbC 37 (xBo a0) (xAS r1), xAW r1, xJn a1 r2, xAW r2, xJn a2 r3, xAW r3, AbC 9 (xD9 a0 a1 a2) (xCG r4), iN r4, AbC 39 (xCe a0 a1 a2) (xBk r5)] := by kernel_rfl
theorem xTW {N : Nat} : ∀ a0 a1 a2 r, xEs N a0 a1 a2 = some r → RE Try.f13 I13 (xCh a0 a1 a2) (xAn r) := fun a0 a1 a2 r h =>
 bE h fun r1 h0 h => cE h (fun h1 h => dE h fk13 (xOB a0 a1 a2 r1) (oc5 (xCu h0) h1 rfl rfl rfl on)) fun h1 h =>
 bE h fun r2 h2 h => cE h (fun h3 h => dE h fk13 (xOC a0 a1 a2 r1 r2) (oc6 (xCu h0) h1 (xBE h2) h3 rfl rfl on)) fun h3 h =>
 bE h fun r3 h4 h => cE h (fun h5 h => dE h fk13 (xOD a0 a1 a2 r1 r2 r3) (oc7 (xCu h0) h1 (xBE h2) h3 (xBE h4) h5 rfl on)) fun h5 h =>
 bE h fun r4 h6 h => cE h (fun h7 h => dE h fk13 (xOE a0 a1 a2 r1 r2 r3 r4) (oc8 (xCu h0) h1 (xBE h2) h3 (xBE h4) h5 (xG4 h6) h7 on)) fun h7 h =>
 bE h fun r5 h8 h => dE h fk13 (xOF a0 a1 a2 r1 r2 r3 r4 r5) (oc9 (xCu h0) h1 (xBE h2) h3 (xBE h4) h5 (xG4 h6) h7 (xIW h8) on)
theorem xAC {N : Nat} {a0 : Exp} {a1 : Str} {a2 : Str} {r : Exp × Bool} (h : xEs N  a0 a1 a2 = some r) : AbC 13 (xCh a0 a1 a2) (xAn r) :=
 AbsCalls.of_reach fk13 rfl rfl rfl (Nat.le_of_ble_eq_true rfl) (xTW a0 a1 a2 r h)
def G61 (q : Exp → Option (Int)) : Prop := ∀ a0 r, q a0 = some r → AbC 61 (xCc a0) (xBi r)
noncomputable def I61 : Info := { body := (Try.f61.body).getD .skip, nt := 19, results := [.tmp 2], keep := [0, 2, 4, 6, 10, 14, 16, 18, 20, 3, 11], live := [(3, [6, 14, 16, 18])], modes := [(6, [(1, .take, false)])] }
theorem fk61 : FnOk Try.prog 61 Try.f61 I61 := ⟨Try.func61, by kernel_rfl, by kernel_rfl, by kernel_rfl, by kernel_rfl⟩
def xMq (x3 : Int) (x7 : List Exp) (x8 x9 : Int) : St := [(6, .v false [.int .i64 x3]), (14, .v false [.sl .ro .exp x7]), (16, .v false [.int .i64 x8]), (18, .v false [.int .i64 x9])]
def xQJ (x3 : Int) (x7 : List Exp) (x8 x9 r1 : Int) : rS 3 I61 (xMq x3 x7 x8 x9) [Y] [xBi r1] = st 3 I61 (xMq (W (x3 + r1)) x7 x8 (W (x9 + 1))) [xES x9 x8, xGo x9 x7, AbC 61 (xCc (xE3 x7 x9)) (xBi r1)] := by kernel_rfl
def xQK (x3 : Int) (x7 : List Exp) (x8 x9 : Int) : rS 3 I61 (xMq x3 x7 x8 x9) [F] [] = dn (xBi x3) [xHy x9 x8] := by kernel_rfl
def xQL (a0 : Exp) : rE I61 (xCc a0) [] [] = st 3 I61 (xMq 1 (Exp.args a0) (xEe a0) 0) [] := by kernel_rfl
theorem xUF {N q0} (g0 : G61 q0) : ∀ n x3 x7 x8 x9 r, xCQ N q0 n x3 x7 x8 x9 = some r → RS Try.f61 I61 3 (xMq x3 x7 x8 x9) (xBi r) := by
 intro n
 induction n with
 | zero => exact fun _ _ _ _ _ h => nE h
 | succ n ih =>
  exact fun x3 x7 x8 x9 r h =>
   cE h (fun h0 h => iE h fun h1 h => bE h fun r1 h2 h => tS fk61 (xQJ x3 x7 x8 x9 r1) (oc3 h0 h1 (g0 _ _ h2) on) (ih _ _ _ _ _ h)) fun h0 h =>
   dS h fk61 (xQK x3 x7 x8 x9) (oc h0 on)
theorem xUG {N q0} (g0 : G61 q0) : ∀ a0 r, xFE N q0 a0 = some r → RE Try.f61 I61 (xCc a0) (xBi r) := fun a0 r h =>
 tE fk61 (xQL a0) on (xUF g0 _ _ _ _ _ _ h)
theorem xHE {N q0} (g0 : G61 q0) {a0} {r} (h : xFE N q0 a0 = some r) : AbC 61 (xCc a0) (xBi r) :=
 AbsCalls.of_reach fk61 rfl rfl rfl (Nat.le_of_ble_eq_true rfl) (xUG g0 a0 r h)
theorem xGm {N : Nat} : ∀ d, G61 (xDa N d)
 | 0 => fun _ _ h => nE h
 | d + 1 => fun _ _ h => xHE (N := N) (xGm d) h
theorem xF9 {N : Nat} {a0 : Exp} {r : Int} (h : xG9 N a0 = some r) : AbC 61 (xCc a0) (xBi r) := xGm N _ r h
def G62 (q : Exp → Option (Int)) : Prop := ∀ a0 r, q a0 = some r → AbC 62 (xCv a0) (xBx r)
noncomputable def I62 : Info := { body := (Try.f62.body).getD .skip, nt := 20, results := [.tmp 2], keep := [0, 2, 4, 6, 10, 14, 16, 18, 20, 3, 11], live := [(3, [6, 14, 16, 18])], modes := [(6, [(1, .take, false)])] }
theorem fk62 : FnOk Try.prog 62 Try.f62 I62 := ⟨Try.func62, by kernel_rfl, by kernel_rfl, by kernel_rfl, by kernel_rfl⟩
def xMr (x3 : Int) (x7 : List Exp) (x8 x9 : Int) : St := [(6, .v false [.int .i64 x3]), (14, .v false [.sl .ro .exp x7]), (16, .v false [.int .i64 x8]), (18, .v false [.int .i64 x9])]
def xQM (x3 : Int) (x7 : List Exp) (x8 x9 r1 : Int) : rS 3 I62 (xMr x3 x7 x8 x9) [Y] [xBx r1] = st 3 I62 (xMr (if r1 > x3 then r1 else x3) x7 x8 (W (x9 + 1))) [xES x9 x8, xGo x9 x7, AbC 62 (xCv (xE3 x7 x9)) (xBx r1)] := by kernel_rfl
def xQN (x3 : Int) (x7 : List Exp) (x8 x9 : Int) : rS 3 I62 (xMr x3 x7 x8 x9) [F] [] = dn (xBx (W (x3 + 1))) [xHy x9 x8] := by kernel_rfl
def xQO (a0 : Exp) : rE I62 (xCv a0) [] [] = st 3 I62 (xMr 0 (Exp.args a0) (xEe a0) 0) [] := by kernel_rfl
theorem xUH {N q0} (g0 : G62 q0) : ∀ n x3 x7 x8 x9 r, xDA N q0 n x3 x7 x8 x9 = some r → RS Try.f62 I62 3 (xMr x3 x7 x8 x9) (xBx r) := by
 intro n
 induction n with
 | zero => exact fun _ _ _ _ _ h => nE h
 | succ n ih =>
  exact fun x3 x7 x8 x9 r h =>
   cE h (fun h0 h => iE h fun h1 h => bE h fun r1 h2 h => tS fk62 (xQM x3 x7 x8 x9 r1) (oc3 h0 h1 (g0 _ _ h2) on) (ih _ _ _ _ _ h)) fun h0 h =>
   dS h fk62 (xQN x3 x7 x8 x9) (oc h0 on)
theorem xUI {N q0} (g0 : G62 q0) : ∀ a0 r, xFD N q0 a0 = some r → RE Try.f62 I62 (xCv a0) (xBx r) := fun a0 r h =>
 tE fk62 (xQO a0) on (xUH g0 _ _ _ _ _ _ h)
theorem xHD {N q0} (g0 : G62 q0) {a0} {r} (h : xFD N q0 a0 = some r) : AbC 62 (xCv a0) (xBx r) :=
 AbsCalls.of_reach fk62 rfl rfl rfl (Nat.le_of_ble_eq_true rfl) (xUI g0 a0 r h)
theorem xGl {N : Nat} : ∀ d, G62 (xD7 N d)
 | 0 => fun _ _ h => nE h
 | d + 1 => fun _ _ h => xHD (N := N) (xGl d) h
theorem xHg {N : Nat} {a0 : Exp} {r : Int} (h : xG8 N a0 = some r) : AbC 62 (xCv a0) (xBx r) := xGl N _ r h
noncomputable def I77 : Info := { body := (Try.f77.body).getD .skip, nt := 15, results := [.tmp 6], keep := [0, 2, 4, 12], live := [], modes := [(1, [(3, .take, false)])] }
theorem fk77 : FnOk Try.prog 77 Try.f77 I77 := ⟨Try.func77, by kernel_rfl, by kernel_rfl, by kernel_rfl, by kernel_rfl⟩
def xRP (a0 a1 a2 : Int) : rE I77 (xCZ a0 a1 a2) [Y] [] = dn (xBv (dc (a0 ≤ a2))) [iY (dc (a1 ≤ a0))] := by kernel_rfl
def xRQ (a0 a1 a2 : Int) : rE I77 (xCZ a0 a1 a2) [F] [] = dn (xBv false) [iN (dc (a1 ≤ a0))] := by kernel_rfl
theorem xU0 {N : Nat} : ∀ a0 a1 a2 r, xFF N a0 a1 a2 = some r → RE Try.f77 I77 (xCZ a0 a1 a2) (xBv r) := fun a0 a1 a2 r h =>
 cE h (fun h0 h => dE h fk77 (xRP a0 a1 a2) (oc h0 on)) fun h0 h =>
 dE h fk77 (xRQ a0 a1 a2) (oc h0 on)
theorem xEd {N : Nat} {a0 : Int} {a1 : Int} {a2 : Int} {r : Bool} (h : xFF N  a0 a1 a2 = some r) : AbC 77 (xCZ a0 a1 a2) (xBv r) :=
 AbsCalls.of_reach fk77 rfl rfl rfl (Nat.le_of_ble_eq_true rfl) (xU0 a0 a1 a2 r h)
noncomputable def I89 : Info := { body := (Try.f89.body).getD .skip, nt := 29, results := [.tmp 2], keep := [0, 4, 6, 14, 50], live := [(2, [0, 6])], modes := [(4, [(4, .take, false), (10, .take, false)])] }
theorem fk89 : FnOk Try.prog 89 Try.f89 I89 := ⟨Try.func89, by kernel_rfl, by kernel_rfl, by kernel_rfl, by kernel_rfl⟩
def xKn (x0 : Str) (x3 : Int) : St := [(0, .v false [.str x0]), (6, .v false [.int .i64 x3])]
def xSV (x0 : Str) (x3 : Int) : rS 2 I89 (xKn x0 x3) [Y, Y, Y, Y] [] = dn (xBs false) [xD8 x3 x0, xA5 x3 x0, iY (xLs x0 x3), iY true, iY true] := by kernel_rfl
def xSW (x0 : Str) (x3 : Int) : rS 2 I89 (xKn x0 x3) [Y, F, Y, Y] [] = dn (xBs false) [xD8 x3 x0, xA5 x3 x0, xJM x0 x3, xA5 x3 x0, iY (xLt x0 x3), iY true] := by kernel_rfl
def xSX (x0 : Str) (x3 : Int) : rS 2 I89 (xKn x0 x3) [Y, F, F, Y] [] = dn (xBs false) [xD8 x3 x0, xA5 x3 x0, xJM x0 x3, xA5 x3 x0, xLL x0 x3, xA5 x3 x0, iY (xJ7 x0 x3)] := by kernel_rfl
def xSY (x0 : Str) (x3 : Int) : rS 2 I89 (xKn x0 x3) [Y, F, F, F] [] = st 2 I89 (xKn x0 (W (x3 + 1))) [xD8 x3 x0, xA5 x3 x0, xJM x0 x3, xA5 x3 x0, xLL x0 x3, xA5 x3 x0, iN (xJ7 x0 x3)] := by kernel_rfl
def xSZ (x0 : Str) (x3 : Int) : rS 2 I89 (xKn x0 x3) [F] [] = dn (xBs (dc ((Ln x0 : Int) ≤ 20))) [iN (dc (x3 < (Ln x0 : Int)))] := by kernel_rfl
def xS0 (a0 : Str) : rE I89 (xDK a0) [] [] = st 2 I89 (xKn a0 0) [] := by kernel_rfl
theorem xVc {N : Nat} : ∀ n x0 x3 r, xDL N n x0 x3 = some r → RS Try.f89 I89 2 (xKn x0 x3) (xBs r) := by
 intro n
 induction n with
 | zero => exact fun _ _ _ h => nE h
 | succ n ih =>
  exact fun x0 x3 r h =>
   cE h (fun h0 h => iE h fun h1 h => cE h (fun h2 h => dS h fk89 (xSV x0 x3) (oc5 h0 h1 h2 rfl rfl on)) fun h2 h =>
   cE h (fun h4 h => dS h fk89 (xSW x0 x3) (oc6 h0 h1 h2 h1 h4 rfl on)) fun h4 h =>
   cE h (fun h6 h => dS h fk89 (xSX x0 x3) (oc7 h0 h1 h2 h1 h4 h1 h6 on)) fun h6 h =>
   tS fk89 (xSY x0 x3) (oc7 h0 h1 h2 h1 h4 h1 h6 on) (ih _ _ _ h)) fun h0 h =>
   dS h fk89 (xSZ x0 x3) (oc h0 on)
theorem xVd {N : Nat} : ∀ a0 r, xFA N a0 = some r → RE Try.f89 I89 (xDK a0) (xBs r) := fun a0 r h =>
 tE fk89 (xS0 a0) on (xVc _ _ _ _ h)
theorem xGK {N : Nat} {a0 : Str} {r : Bool} (h : xFA N  a0 = some r) : AbC 89 (xDK a0) (xBs r) :=
 AbsCalls.of_reach fk89 rfl rfl rfl (Nat.le_of_ble_eq_true rfl) (xVd a0 r h)
noncomputable def I64 : Info := { body := (Try.f64.body).getD .skip, nt := 42, results := [.tmp 2], keep := [0, 4, 6, 8, 16, 76], live := [(2, [0, 6])], modes := [(4, [(4, .take, false)]), (5, [(0, .take, false), (2, .take, false), (5, .take, false), (11, .take, false)])] }
theorem fk64 : FnOk Try.prog 64 Try.f64 I64 := ⟨Try.func64, by kernel_rfl, by kernel_rfl, by kernel_rfl, by kernel_rfl⟩
def xIo (x0 : Str) (x3 : Int) : St := [(0, .v false [.str x0]), (6, .v false [.int .i64 x3])]
def xQT (x0 : Str) (x3 : Int) : rS 2 I64 (xIo x0 x3) [Y, Y, Y, Y, Y, Y] [] = dn (xBL false) [xD8 x3 x0, xA5 x3 x0, xHz x0 x3, xA5 x3 x0, xIG x0 x3, iY (x3 == 0), iY true, iY true] := by kernel_rfl
abbrev xLy (v0 : Str) (v1 : Int) := dc ((((gD v0 (tN v1) 0).toNat : Int) : Int) < 48)
def xQU (x0 : Str) (x3 : Int) : rS 2 I64 (xIo x0 x3) [Y, Y, Y, F, Y, Y] [] = dn (xBL false) [xD8 x3 x0, xA5 x3 x0, xHz x0 x3, xA5 x3 x0, xIG x0 x3, xHA x3, xA5 x3 x0, iY (xLy x0 x3), iY true] := by kernel_rfl
abbrev xL0 (v0 : Str) (v1 : Int) : Prop := iN (xLy v0 v1)
abbrev xKb (v0 : Str) (v1 : Int) := dc ((((gD v0 (tN v1) 0).toNat : Int) : Int) > 57)
def xQV (x0 : Str) (x3 : Int) : rS 2 I64 (xIo x0 x3) [Y, Y, Y, F, F, Y] [] = dn (xBL false) [xD8 x3 x0, xA5 x3 x0, xHz x0 x3, xA5 x3 x0, xIG x0 x3, xHA x3, xA5 x3 x0, xL0 x0 x3, xA5 x3 x0, iY (xKb x0 x3)] := by kernel_rfl
def xQW (x0 : Str) (x3 : Int) : rS 2 I64 (xIo x0 x3) [Y, Y, Y, F, F, F] [] = st 2 I64 (xIo x0 (W (x3 + 1))) [xD8 x3 x0, xA5 x3 x0, xHz x0 x3, xA5 x3 x0, xIG x0 x3, xHA x3, xA5 x3 x0, xL0 x0 x3, xA5 x3 x0, iN (xKb x0 x3)] := by kernel_rfl
def xQX (x0 : Str) (x3 : Int) : rS 2 I64 (xIo x0 x3) [Y, Y, F, F] [] = st 2 I64 (xIo x0 (W (x3 + 1))) [xD8 x3 x0, xA5 x3 x0, xHz x0 x3, xA5 x3 x0, xMN x0 x3, iN false] := by kernel_rfl
def xQY (x0 : Str) (x3 : Int) : rS 2 I64 (xIo x0 x3) [Y, F, Y, Y, Y, Y] [] = dn (xBL false) [xD8 x3 x0, xA5 x3 x0, xIH x0 x3, iY (!false), iY (x3 == 0), iY true, iY true] := by kernel_rfl
def xQZ (x0 : Str) (x3 : Int) : rS 2 I64 (xIo x0 x3) [Y, F, Y, F, Y, Y] [] = dn (xBL false) [xD8 x3 x0, xA5 x3 x0, xIH x0 x3, iY (!false), xHA x3, xA5 x3 x0, iY (xLy x0 x3), iY true] := by kernel_rfl
def xQ0 (x0 : Str) (x3 : Int) : rS 2 I64 (xIo x0 x3) [Y, F, Y, F, F, Y] [] = dn (xBL false) [xD8 x3 x0, xA5 x3 x0, xIH x0 x3, iY (!false), xHA x3, xA5 x3 x0, xL0 x0 x3, xA5 x3 x0, iY (xKb x0 x3)] := by kernel_rfl
def xQ1 (x0 : Str) (x3 : Int) : rS 2 I64 (xIo x0 x3) [Y, F, Y, F, F, F] [] = st 2 I64 (xIo x0 (W (x3 + 1))) [xD8 x3 x0, xA5 x3 x0, xIH x0 x3, iY (!false), xHA x3, xA5 x3 x0, xL0 x0 x3, xA5 x3 x0, iN (xKb x0 x3)] := by kernel_rfl
def xQ2 (x0 : Str) (x3 : Int) (r1 : Bool) : rS 2 I64 (xIo x0 x3) [F] [xBv r1] = dn (xBL r1) [iN (dc (x3 < (Ln x0 : Int))), AbC 77 (xCZ (Ln x0 : Int) 1 8) (xBv r1)] := by kernel_rfl
def xNq (a0 : Str) : rE I64 (xFu a0) [] [] = st 2 I64 (xIo a0 0) [] := by kernel_rfl
theorem xUL {N : Nat} : ∀ n x0 x3 r, xCY N n x0 x3 = some r → RS Try.f64 I64 2 (xIo x0 x3) (xBL r) := by
 intro n
 induction n with
 | zero => exact fun _ _ _ h => nE h
 | succ n ih =>
  exact fun x0 x3 r h =>
   cE h (fun h0 h => iE h fun h1 h => cE h (fun h2 h => cE h (fun h4 h => cE h (fun h5 h => dS h fk64 (xQT x0 x3) (oc8 h0 h1 h2 h1 h4 h5 rfl rfl on)) fun h5 h =>
   cE h (fun h7 h => dS h fk64 (xQU x0 x3) (oc9 h0 h1 h2 h1 h4 h5 h1 h7 rfl on)) fun h7 h =>
   cE h (fun h9 h => dS h fk64 (xQV x0 x3) (oc10 h0 h1 h2 h1 h4 h5 h1 h7 h1 h9 on)) fun h9 h =>
   tS fk64 (xQW x0 x3) (oc10 h0 h1 h2 h1 h4 h5 h1 h7 h1 h9 on) (ih _ _ _ h)) fun h4 h =>
   tS fk64 (xQX x0 x3) (oc6 h0 h1 h2 h1 h4 rfl on) (ih _ _ _ h)) fun h2 h =>
   cE h (fun h4 h => dS h fk64 (xQY x0 x3) (oc7 h0 h1 h2 rfl h4 rfl rfl on)) fun h4 h =>
   cE h (fun h6 h => dS h fk64 (xQZ x0 x3) (oc8 h0 h1 h2 rfl h4 h1 h6 rfl on)) fun h6 h =>
   cE h (fun h8 h => dS h fk64 (xQ0 x0 x3) (oc9 h0 h1 h2 rfl h4 h1 h6 h1 h8 on)) fun h8 h =>
   tS fk64 (xQ1 x0 x3) (oc9 h0 h1 h2 rfl h4 h1 h6 h1 h8 on) (ih _ _ _ h)) fun h0 h =>
   bE h fun r1 h1 h => dS h fk64 (xQ2 x0 x3 r1) (oc2 h0 (xEd h1) on)
theorem xUM {N : Nat} : ∀ a0 r, xHt N a0 = some r → RE Try.f64 I64 (xFu a0) (xBL r) := fun a0 r h =>
 tE fk64 (xNq a0) on (xUL _ _ _ _ h)
theorem xIh {N : Nat} {a0 : Str} {r : Bool} (h : xHt N  a0 = some r) : AbC 64 (xFu a0) (xBL r) :=
 AbsCalls.of_reach fk64 rfl rfl rfl (Nat.le_of_ble_eq_true rfl) (xUM a0 r h)
noncomputable def I78 : Info := { body := (Try.f78.body).getD .skip, nt := 26, results := [.tmp 2], keep := [0, 4, 6, 8, 12, 24, 40, 48], live := [], modes := [] }
theorem fk78 : FnOk Try.prog 78 Try.f78 I78 := ⟨Try.func78, by kernel_rfl, by kernel_rfl, by kernel_rfl, by kernel_rfl⟩
def xRR (a0 : Str) : rE I78 (xAD a0) [Y] [] = dn (xAv 0) [iY (xLu a0)] := by kernel_rfl
def xRS (a0 : Str) : rE I78 (xAD a0) [F, Y, Y] [] = dn (xAv 1) [xDd a0, xLM a0, xLM a0] := by kernel_rfl
def xRT (a0 : Str) : rE I78 (xAD a0) [F, F, Y, Y] [] = dn (xAv 1) [xDd a0, xDx a0, xLN a0, xLN a0] := by kernel_rfl
def xRU (a0 : Str) : rE I78 (xAD a0) [F, F, F, Y, Y] [] = dn (xAv 1) [xDd a0, xDx a0, xDX a0, xLO a0, xLO a0] := by kernel_rfl
def xRV (a0 : Str) : rE I78 (xAD a0) [F, F, F, F, Y, Y] [] = dn (xAv 1) [xDd a0, xDx a0, xDX a0, xEh a0, xLP a0, xLP a0] := by kernel_rfl
def xRW (a0 : Str) : rE I78 (xAD a0) [F, F, F, F, F, Y] [] = dn (xAv 1) [xDd a0, xDx a0, xDX a0, xEh a0, xEA a0, iY (xLv a0)] := by kernel_rfl
def xRX (a0 : Str) : rE I78 (xAD a0) [F, F, F, F, F, F, Y, Y] [] = dn (xAv 2) [xDd a0, xDx a0, xDX a0, xEh a0, xEA a0, xET a0, xLQ a0, xLQ a0] := by kernel_rfl
def xRY (a0 : Str) : rE I78 (xAD a0) [F, F, F, F, F, F, F, Y, Y] [] = dn (xAv 2) [xDd a0, xDx a0, xDX a0, xEh a0, xEA a0, xET a0, xFo a0, xLR a0, xLR a0] := by kernel_rfl
def xRZ (a0 : Str) : rE I78 (xAD a0) [F, F, F, F, F, F, F, F, Y, Y] [] = dn (xAv 2) [xDd a0, xDx a0, xDX a0, xEh a0, xEA a0, xET a0, xFo a0, xFJ a0, xLS a0, xLS a0] := by kernel_rfl
def xR0 (a0 : Str) : rE I78 (xAD a0) [F, F, F, F, F, F, F, F, F, Y, Y] [] = dn (xAv 2) [xDd a0, xDx a0, xDX a0, xEh a0, xEA a0, xET a0, xFo a0, xFJ a0, xF7 a0, xLT a0, xLT a0] := by kernel_rfl
def xN1 (a0 : Str) : rE I78 (xAD a0) [F, F, F, F, F, F, F, F, F, F, Y, Y] [] = dn (xAv 2) [xDd a0, xDx a0, xDX a0, xEh a0, xEA a0, xET a0, xFo a0, xFJ a0, xF7 a0, xGG a0, xLU a0, xLU a0] := by kernel_rfl
def xN2 (a0 : Str) : rE I78 (xAD a0) [F, F, F, F, F, F, F, F, F, F, F, Y, Y] [] = dn (xAv 2) [xDd a0, xDx a0, xDX a0, xEh a0, xEA a0, xET a0, xFo a0, xFJ a0, xF7 a0, xGG a0, xGZ a0, xLV a0, xLV a0] := by kernel_rfl
def xN3 (a0 : Str) : rE I78 (xAD a0) [F, F, F, F, F, F, F, F, F, F, F, F, Y] [] = dn (xAv 2) [xDd a0, xDx a0, xDX a0, xEh a0, xEA a0, xET a0, xFo a0, xFJ a0, xF7 a0, xGG a0, xGZ a0, xHB a0, iY (xLw a0)] := by kernel_rfl
def xN4 (a0 : Str) : rE I78 (xAD a0) [F, F, F, F, F, F, F, F, F, F, F, F, F, Y, Y] [] = dn (xAv 3) [xDd a0, xDx a0, xDX a0, xEh a0, xEA a0, xET a0, xFo a0, xFJ a0, xF7 a0, xGG a0, xGZ a0, xHB a0, xIl a0, xLW a0, xLW a0] := by kernel_rfl
def xN5 (a0 : Str) : rE I78 (xAD a0) [F, F, F, F, F, F, F, F, F, F, F, F, F, F, Y, Y] [] = dn (xAv 3) [xDd a0, xDx a0, xDX a0, xEh a0, xEA a0, xET a0, xFo a0, xFJ a0, xF7 a0, xGG a0, xGZ a0, xHB a0, xIl a0, xI1 a0, xLX a0, xLX a0] := by kernel_rfl
def xN6 (a0 : Str) : rE I78 (xAD a0) [F, F, F, F, F, F, F, F, F, F, F, F, F, F, F, Y] [] = dn (xAv 3) [xDd a0, xDx a0, xDX a0, xEh a0, xEA a0, xET a0, xFo a0, xFJ a0, xF7 a0, xGG a0, xGZ a0, xHB a0, xIl a0, xI1 a0, xJN a0, iY (xLx a0)] := by kernel_rfl
def xN7 (a0 : Str) : rE I78 (xAD a0) [F, F, F, F, F, F, F, F, F, F, F, F, F, F, F, F, Y] [] = dn (xAv 4) [xDd a0, xDx a0, xDX a0, xEh a0, xEA a0, xET a0, xFo a0, xFJ a0, xF7 a0, xGG a0, xGZ a0, xHB a0, xIl a0, xI1 a0, xJN a0, xLY a0, iY (xJ9 a0)] := by kernel_rfl
def xN8 (a0 : Str) : rE I78 (xAD a0) [F, F, F, F, F, F, F, F, F, F, F, F, F, F, F, F, F] [] = dn (xAv (-1)) [xDd a0, xDx a0, xDX a0, xEh a0, xEA a0, xET a0, xFo a0, xFJ a0, xF7 a0, xGG a0, xGZ a0, xHB a0, xIl a0, xI1 a0, xJN a0, xLY a0, iN (xJ9 a0)] := by kernel_rfl
theorem xU1 {N : Nat} : ∀ a0 r, xCD N a0 = some r → RE Try.f78 I78 (xAD a0) (xAv r) := fun a0 r h =>
 cE h (fun h0 h => dE h fk78 (xRR a0) (oc h0 on)) fun h0 h =>
 cE h (fun h1 h => dE h fk78 (xRS a0) (oc3 h0 h1 h1 on)) fun h1 h =>
 cE h (fun h2 h => dE h fk78 (xRT a0) (oc4 h0 h1 h2 h2 on)) fun h2 h =>
 cE h (fun h3 h => dE h fk78 (xRU a0) (oc5 h0 h1 h2 h3 h3 on)) fun h3 h =>
 cE h (fun h4 h => dE h fk78 (xRV a0) (oc6 h0 h1 h2 h3 h4 h4 on)) fun h4 h =>
 cE h (fun h5 h => dE h fk78 (xRW a0) (oc6 h0 h1 h2 h3 h4 h5 on)) fun h5 h =>
 cE h (fun h6 h => dE h fk78 (xRX a0) (oc8 h0 h1 h2 h3 h4 h5 h6 h6 on)) fun h6 h =>
 cE h (fun h7 h => dE h fk78 (xRY a0) (oc9 h0 h1 h2 h3 h4 h5 h6 h7 h7 on)) fun h7 h =>
 cE h (fun h8 h => dE h fk78 (xRZ a0) (oc10 h0 h1 h2 h3 h4 h5 h6 h7 h8 h8 on)) fun h8 h =>
 cE h (fun h9 h => dE h fk78 (xR0 a0) (oc11 h0 h1 h2 h3 h4 h5 h6 h7 h8 h9 h9 on)) fun h9 h =>
 cE h (fun h10 h => dE h fk78 (xN1 a0) (oc12 h0 h1 h2 h3 h4 h5 h6 h7 h8 h9 h10 h10 on)) fun h10 h =>
 cE h (fun h11 h => dE h fk78 (xN2 a0) (oc12 h0 h1 h2 h3 h4 h5 h6 h7 h8 h9 h10 h11 (oc h11 on))) fun h11 h =>
 cE h (fun h12 h => dE h fk78 (xN3 a0) (oc12 h0 h1 h2 h3 h4 h5 h6 h7 h8 h9 h10 h11 (oc h12 on))) fun h12 h =>
 cE h (fun h13 h => dE h fk78 (xN4 a0) (oc12 h0 h1 h2 h3 h4 h5 h6 h7 h8 h9 h10 h11 (oc3 h12 h13 h13 on))) fun h13 h =>
 cE h (fun h14 h => dE h fk78 (xN5 a0) (oc12 h0 h1 h2 h3 h4 h5 h6 h7 h8 h9 h10 h11 (oc4 h12 h13 h14 h14 on))) fun h14 h =>
 cE h (fun h15 h => dE h fk78 (xN6 a0) (oc12 h0 h1 h2 h3 h4 h5 h6 h7 h8 h9 h10 h11 (oc4 h12 h13 h14 h15 on))) fun h15 h =>
 cE h (fun h16 h => dE h fk78 (xN7 a0) (oc12 h0 h1 h2 h3 h4 h5 h6 h7 h8 h9 h10 h11 (oc5 h12 h13 h14 h15 h16 on))) fun h16 h =>
 dE h fk78 (xN8 a0) (oc12 h0 h1 h2 h3 h4 h5 h6 h7 h8 h9 h10 h11 (oc5 h12 h13 h14 h15 h16 on))
theorem xGk {N : Nat} {a0 : Str} {r : Int} (h : xCD N  a0 = some r) : AbC 78 (xAD a0) (xAv r) :=
 AbsCalls.of_reach fk78 rfl rfl rfl (Nat.le_of_ble_eq_true rfl) (xU1 a0 r h)
noncomputable def I65 : Info := { body := (Try.f65.body).getD .skip, nt := 15, results := [.tmp 2], keep := [0, 4, 6, 8], live := [], modes := [] }
theorem fk65 : FnOk Try.prog 65 Try.f65 I65 := ⟨Try.func65, by kernel_rfl, by kernel_rfl, by kernel_rfl, by kernel_rfl⟩
def xQ3 (a0 : Str) : rE I65 (xBA a0) [Y, Y] [] = dn (xBr true) [iY ((a0 : Str) == [108, 101, 116]), iY ((a0 : Str) == [108, 101, 116])] := by kernel_rfl
abbrev xJo (v0 : Str) : Prop := iN ((v0 : Str) == [108, 101, 116])
def xQ4 (a0 : Str) : rE I65 (xBA a0) [F, Y, Y] [] = dn (xBr true) [xJo a0, iY ((a0 : Str) == [105, 110]), iY ((a0 : Str) == [105, 110])] := by kernel_rfl
abbrev xJU (v0 : Str) : Prop := iN ((v0 : Str) == [105, 110])
def xQ5 (a0 : Str) : rE I65 (xBA a0) [F, F, Y, Y] [] = dn (xBr true) [xJo a0, xJU a0, iY ((a0 : Str) == [105, 102]), iY ((a0 : Str) == [105, 102])] := by kernel_rfl
abbrev xKB (v0 : Str) : Prop := iN ((v0 : Str) == [105, 102])
abbrev xLz (v0 : Str) := (v0 : Str) == [116, 104, 101, 110]
def xQ6 (a0 : Str) : rE I65 (xBA a0) [F, F, F, Y, Y] [] = dn (xBr true) [xJo a0, xJU a0, xKB a0, iY (xLz a0), iY (xLz a0)] := by kernel_rfl
abbrev xL1 (v0 : Str) : Prop := iN (xLz v0)
abbrev xLA (v0 : Str) := (v0 : Str) == [101, 108, 115, 101]
def xQ7 (a0 : Str) : rE I65 (xBA a0) [F, F, F, F, Y, Y] [] = dn (xBr true) [xJo a0, xJU a0, xKB a0, xL1 a0, iY (xLA a0), iY (xLA a0)] := by kernel_rfl
abbrev xMS (v0 : Str) : Prop := iN (xLA v0)
abbrev xKc (v0 : Str) := (v0 : Str) == [102, 111, 114]
def xQ8 (a0 : Str) : rE I65 (xBA a0) [F, F, F, F, F, Y, Y] [] = dn (xBr true) [xJo a0, xJU a0, xKB a0, xL1 a0, xMS a0, iY (xKc a0), iY (xKc a0)] := by kernel_rfl
def xQ9 (a0 : Str) : rE I65 (xBA a0) [F, F, F, F, F, F, Y] [] = dn (xBr true) [xJo a0, xJU a0, xKB a0, xL1 a0, xMS a0, iN (xKc a0), iY ((a0 : Str) == [100, 111])] := by kernel_rfl
def xRa (a0 : Str) (r1 : Int) : rE I65 (xBA a0) [F, F, F, F, F, F, F] [xAv r1] = dn (xBr (dc (r1 ≥ 0))) [xJo a0, xJU a0, xKB a0, xL1 a0, xMS a0, iN (xKc a0), iN ((a0 : Str) == [100, 111]), AbC 78 (xAD a0) (xAv r1)] := by kernel_rfl
theorem xUN {N : Nat} : ∀ a0 r, xEX N a0 = some r → RE Try.f65 I65 (xBA a0) (xBr r) := fun a0 r h =>
 cE h (fun h0 h => dE h fk65 (xQ3 a0) (oc2 h0 h0 on)) fun h0 h =>
 cE h (fun h1 h => dE h fk65 (xQ4 a0) (oc3 h0 h1 h1 on)) fun h1 h =>
 cE h (fun h2 h => dE h fk65 (xQ5 a0) (oc4 h0 h1 h2 h2 on)) fun h2 h =>
 cE h (fun h3 h => dE h fk65 (xQ6 a0) (oc5 h0 h1 h2 h3 h3 on)) fun h3 h =>
 cE h (fun h4 h => dE h fk65 (xQ7 a0) (oc6 h0 h1 h2 h3 h4 h4 on)) fun h4 h =>
 cE h (fun h5 h => dE h fk65 (xQ8 a0) (oc7 h0 h1 h2 h3 h4 h5 h5 on)) fun h5 h =>
 cE h (fun h6 h => dE h fk65 (xQ9 a0) (oc7 h0 h1 h2 h3 h4 h5 h6 on)) fun h6 h =>
 bE h fun r1 h7 h => dE h fk65 (xRa a0 r1) (oc8 h0 h1 h2 h3 h4 h5 h6 (xGk h7) on)
theorem xIE {N : Nat} {a0 : Str} {r : Bool} (h : xEX N  a0 = some r) : AbC 65 (xBA a0) (xBr r) :=
 AbsCalls.of_reach fk65 rfl rfl rfl (Nat.le_of_ble_eq_true rfl) (xUN a0 r h)
noncomputable def I41 : Info := { body := (Try.f41.body).getD .skip, nt := 10, results := [.tmp 2], keep := [0, 4], live := [], modes := [(1, [(2, .take, false)])] }
theorem fk41 : FnOk Try.prog 41 Try.f41 I41 := ⟨Try.func41, by kernel_rfl, by kernel_rfl, by kernel_rfl, by kernel_rfl⟩
def xPF (a0 : Str) (r1 r2 : Bool) : rE I41 (xCP a0) [Y] [xBL r1, xBr r2] = dn (xAR (!r2)) [AbC 64 (xFu a0) (xBL r1), iY r1, AbC 65 (xBA a0) (xBr r2)] := by kernel_rfl
def xPG (a0 : Str) (r1 : Bool) : rE I41 (xCP a0) [F] [xBL r1] = dn (xAR false) [AbC 64 (xFu a0) (xBL r1), iN r1] := by kernel_rfl
theorem xUh {N : Nat} : ∀ a0 r, xCo N a0 = some r → RE Try.f41 I41 (xCP a0) (xAR r) := fun a0 r h =>
 bE h fun r1 h0 h => cE h (fun h1 h => bE h fun r2 h2 h => dE h fk41 (xPF a0 r1 r2) (oc3 (xIh h0) h1 (xIE h2) on)) fun h1 h =>
 dE h fk41 (xPG a0 r1) (oc2 (xIh h0) h1 on)
theorem xBc {N : Nat} {a0 : Str} {r : Bool} (h : xCo N  a0 = some r) : AbC 41 (xCP a0) (xAR r) :=
 AbsCalls.of_reach fk41 rfl rfl rfl (Nat.le_of_ble_eq_true rfl) (xUh a0 r h)
end Go.Ab.T
end
