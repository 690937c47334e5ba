/- The statement FnExactBoundNames holds: plain functions, certificates, laws. Conditions: none. -/
import Derived.Shelf.Slices.In.SortNone2
import Derived.Shelf.Sort.Plain
import Derived.Test.YtkfoneofdidhkaaChecked
import Derived.Test.YtkfoneofdidhkaaProg
import Derived.Test.YtkfoneofdidhkaaRows
import Derived.Test.YtkfoneofdidhkaaL2
set_option linter.all false
section
namespace Go.Ab
abbrev Ex (f : Fl) (e : Exp) : List CV := [.int .i64 (Exp.kind e), .int .i64 (Exp.n e), .str (Exp.text e), .sl f .exp (Exp.args e)]
end Go.Ab
end
section
namespace Go.Ab
def xCD (N : Nat) (a0 : Str) (a1 : List Str) (a2 : List Str) : Option ((List Str)) := if List.length a2 + List.length [a0] ≤ Lim then some (a2 ++ [a0]) else none
def xBb (a0 : Str) (a1 : List Str) : List Arg := [.val (.v false [.str a0]), .box [.sl .own .str a1]]
def xAO (r : (List Str)) : CallO := ⟨.tup [], [[.sl .own .str r]], []⟩
def xBd (N : Nat) (a0 : Str) (a1 : List Str) : Option ((List Str)) := if List.length a1 + List.length [a0] ≤ Lim then some (a1 ++ [a0]) else none
def xAV (a0 : Exp) (a1 : Int) : List Arg := [.val (.v true (Ex .ro a0)), .val (.v false [.int .i64 a1])]
def xAo (r : Int) : CallO := ⟨.v false [.int .i64 r], [], []⟩
def xCd (N : Nat) (q0 : Exp → Int → Option (Int)) (q1 : (List Exp) → Int → Option (Int)) (a0 : Exp) (a1 : Int) : Option (Int) := bif (decide (((IntKind.i64.wrap (a1 - (List.length (Exp.text a0) : Int))) : Int) < 0)) then (some (-1)) else ((q1 (Exp.args a0) (IntKind.i64.wrap (a1 - (List.length (Exp.text a0) : Int)))).bind fun r1 => bif (decide (r1 < 0)) then (some (-1)) else (some r1))
def xBm (a0 : List Exp) (a1 : Int) : List Arg := [.val (.v false [.sl .ro .exp a0]), .val (.v false [.int .i64 a1])]
def xAF (r : Int) : CallO := ⟨.v false [.int .i64 r], [], []⟩
def xB6 (N : Nat) (q0 : Exp → Int → Option (Int)) (q1 : (List Exp) → Int → Option (Int)) : Nat → (List Exp) → Int → Int → Option (Int)
 | 0, _, _, _ => none
 | n + 1, x0, x1, x5 => bif (decide (x5 < (List.length x0 : Int))) then (if (0 : Int) ≤ x5 ∧ x5 < (List.length x0) then (q0 (List.getD x0 (Int.toNat x5) Ty.exp.dflt) x1).bind fun r1 => bif (decide (r1 < 0)) then (some (-1)) else ((xB6 N q0 q1 n x0 r1 (IntKind.i64.wrap (x5 + 1)))) else none) else (some x1)
def xB8 (N : Nat) (q0 : Exp → Int → Option (Int)) (q1 : (List Exp) → Int → Option (Int)) (a0 : List Exp) (a1 : Int) : Option (Int) := bif (decide (((IntKind.i64.wrap (a1 - (List.length a0 : Int))) : Int) < 0)) then (some (-1)) else ((xB6 N q0 q1 N a0 (IntKind.i64.wrap (a1 - (List.length a0 : Int))) 0))
structure laws_szExpr_rec where
 c_laws_szExpr : Exp → Int → Option (Int)
 c_laws_szExprS : (List Exp) → Int → Option (Int)
def xAG (N : Nat) : Nat → laws_szExpr_rec
 | 0 => ⟨fun _ _ => none, fun _ _ => none⟩
 | d + 1 => ⟨xCd N (xAG N d).c_laws_szExpr (xAG N d).c_laws_szExprS, xB8 N (xAG N d).c_laws_szExpr (xAG N d).c_laws_szExprS⟩
def xCB (N : Nat) (a0 : Exp) (a1 : Int) : Option (Int) := (xAG N N).c_laws_szExpr a0 a1
def xBv (a0 : Exp) : List Arg := [.val (.v true (Ex .ro a0))]
def xAc (r : Exp) : CallO := ⟨.v true (Ex .own r), [], []⟩
def xBJ (N : Nat) (q0 : Exp → Option (Exp)) (q1 : (List Exp) → Option ((List Exp))) (a0 : Exp) : Option (Exp) := (q1 (Exp.args a0)).bind fun r1 => some (Exp.mk (Exp.kind a0) (Exp.n a0) (Exp.text a0) r1)
def xBR (a0 : List Exp) : List Arg := [.val (.v false [.sl .ro .exp a0])]
def xBn (r : (List Exp)) : CallO := ⟨.v false [.sl .own .exp r], [], []⟩
def xB7 (N : Nat) (q0 : Exp → Option (Exp)) (q1 : (List Exp) → Option ((List Exp))) : Nat → (List Exp) → (List Exp) → Int → Option ((List Exp))
 | 0, _, _, _ => none
 | n + 1, x0, x3, x4 => bif (decide (x4 < (List.length x0 : Int))) then (if (0 : Int) ≤ x4 ∧ x4 < (List.length x0) then (q0 (List.getD x0 (Int.toNat x4) Ty.exp.dflt)).bind fun r1 => if (0 : Int) ≤ x4 ∧ x4 < (List.length x3) then (xB7 N q0 q1 n x0 (List.set x3 (Int.toNat x4) (Exp.re r1)) (IntKind.i64.wrap (x4 + 1))) else none else none) else (some x3)
def xBC (N : Nat) (q0 : Exp → Option (Exp)) (q1 : (List Exp) → Option ((List Exp))) (a0 : List Exp) : Option ((List Exp)) := if (0 : Int) ≤ (List.length a0 : Int) ∧ (List.length a0 : Int) = (List.length a0 : Int) ∧ (List.length a0 : Int) ≤ Lim then (xB7 N q0 q1 N a0 (List.replicate (Int.toNat (List.length a0 : Int)) Ty.exp.dflt) 0) else none
structure laws_toExpr_rec where
 c_laws_toExpr : Exp → Option (Exp)
 c_laws_toExprS : (List Exp) → Option ((List Exp))
def xAu (N : Nat) : Nat → laws_toExpr_rec
 | 0 => ⟨fun _ => none, fun _ => none⟩
 | d + 1 => ⟨xBJ N (xAu N d).c_laws_toExpr (xAu N d).c_laws_toExprS, xBC N (xAu N d).c_laws_toExpr (xAu N d).c_laws_toExprS⟩
def xBu (N : Nat) (a0 : Exp) : Option (Exp) := (xAu N N).c_laws_toExpr a0
def xBF (a0 : List Str) (a1 : Str) : List Arg := [.val (.v false [.sl .ro .str a0]), .val (.v false [.str a1])]
def xAN (r : Bool) : CallO := ⟨.v false [.bool r], [], []⟩
def xBG (N : Nat) : Nat → (List Str) → Str → Int → Option (Bool)
 | 0, _, _, _ => none
 | n + 1, x0, x1, x5 => bif (decide (x5 < (List.length x0 : Int))) then (if (0 : Int) ≤ x5 ∧ x5 < (List.length x0) then bif (((List.getD x0 (Int.toNat x5) Ty.str.dflt) : Str) == x1) then (some true) else ((xBG N n x0 x1 (IntKind.i64.wrap (x5 + 1)))) else none) else (some false)
def xCa (N : Nat) (a0 : List Str) (a1 : Str) : Option (Bool) := (xBG N N a0 a1 0)
def xAM (a0 : Exp) (a1 : Str) (a2 : Str) (a3 : List Str) : List Arg := [.val (.v true (Ex .ro a0)), .val (.v false [.str a1]), .val (.v false [.str a2]), .val (.v false [.sl .ro .str a3])]
def xAh (r : Bool) : CallO := ⟨.v false [.bool r], [], []⟩
def xAU (N : Nat) (q0 : Exp → Str → Str → (List Str) → Option (Bool)) : Nat → Str → Str → (List Str) → Int → Exp → Option (Bool)
 | 0, _, _, _, _, _ => none
 | n + 1, x1, x2, x3, x9, b4 => bif (decide (x9 < (List.length (Exp.args b4) : Int))) then (bif ((Exp.kind b4) == 7) then (bif (decide (x9 > 0)) then (if 0 + List.length x3 ≤ Lim then if List.length ([] ++ x3) + List.length [(Exp.text b4)] ≤ Lim then if (0 : Int) ≤ x9 ∧ x9 < (List.length (Exp.args b4)) then (q0 (List.getD (Exp.args b4) (Int.toNat x9) Ty.exp.dflt) x1 x2 (([] ++ x3) ++ [(Exp.text b4)])).bind fun r1 => bif r1 then (some true) else ((xAU N q0 n x1 x2 x3 (IntKind.i64.wrap (x9 + 1)) b4)) else none else none else none) else (if (0 : Int) ≤ x9 ∧ x9 < (List.length (Exp.args b4)) then (q0 (List.getD (Exp.args b4) (Int.toNat x9) Ty.exp.dflt) x1 x2 x3).bind fun r1 => bif r1 then (some true) else ((xAU N q0 n x1 x2 x3 (IntKind.i64.wrap (x9 + 1)) b4)) else none)) else (bif ((Exp.kind b4) == 9) then (bif (decide (x9 > 0)) then (if 0 + List.length x3 ≤ Lim then if List.length ([] ++ x3) + List.length [(Exp.text b4)] ≤ Lim then if (0 : Int) ≤ x9 ∧ x9 < (List.length (Exp.args b4)) then (q0 (List.getD (Exp.args b4) (Int.toNat x9) Ty.exp.dflt) x1 x2 (([] ++ x3) ++ [(Exp.text b4)])).bind fun r1 => bif r1 then (some true) else ((xAU N q0 n x1 x2 x3 (IntKind.i64.wrap (x9 + 1)) b4)) else none else none else none) else (if (0 : Int) ≤ x9 ∧ x9 < (List.length (Exp.args b4)) then (q0 (List.getD (Exp.args b4) (Int.toNat x9) Ty.exp.dflt) x1 x2 x3).bind fun r1 => bif r1 then (some true) else ((xAU N q0 n x1 x2 x3 (IntKind.i64.wrap (x9 + 1)) b4)) else none)) else (if (0 : Int) ≤ x9 ∧ x9 < (List.length (Exp.args b4)) then (q0 (List.getD (Exp.args b4) (Int.toNat x9) Ty.exp.dflt) x1 x2 x3).bind fun r1 => bif r1 then (some true) else ((xAU N q0 n x1 x2 x3 (IntKind.i64.wrap (x9 + 1)) b4)) else none))) else (some false)
def xB3 (N : Nat) (q0 : Exp → Str → Str → (List Str) → Option (Bool)) (a0 : Exp) (a1 : Str) (a2 : Str) (a3 : List Str) : Option (Bool) := bif ((Exp.kind a0) == 3) then ((xCa N a3 (Exp.text a0)).bind fun r1 => bif (!r1) then (bif (((Exp.text a0) : Str) == a1) then ((xCa N a3 a2).bind fun r2 => some r2) else (some false)) else ((xAU N q0 N a1 a2 a3 0 a0))) else ((xAU N q0 N a1 a2 a3 0 a0))
def xCs (N : Nat) : Nat → Exp → Str → Str → (List Str) → Option (Bool)
 | 0, _, _, _, _ => none
 | d + 1, a0, a1, a2, a3 => xB3 N (xCs N d) a0 a1 a2 a3
def xBj (a0 : List Str) (a1 : Str) : List Arg := [.val (.v false [.sl .ro .str a0]), .val (.v false [.str a1])]
def xAy (r : Int) : CallO := ⟨.v false [.int .i64 r], [], []⟩
def xBk (N : Nat) : Nat → Str → (List Str) → Int → Int → Option (Int)
 | 0, _, _, _, _ => none
 | n + 1, x1, x7, x8, x9 => bif (decide (x9 < x8)) then (if (0 : Int) ≤ x9 ∧ x9 < (List.length x7) then bif (((List.getD x7 (Int.toNat x9) Ty.str.dflt) : Str) == x1) then (some x9) else ((xBk N n x1 x7 x8 (IntKind.i64.wrap (x9 + 1)))) else none) else (some (-1))
def xBp (N : Nat) (a0 : List Str) (a1 : Str) : Option (Int) := (xBk N N a1 a0 (List.length a0 : Int) 0)
def xAf (N : Nat) (q0 : Exp → (List Str) → (List Str) → Option ((List Str))) : Nat → (List Str) → Bool → (List Exp) → Int → Int → Exp → (List Str) → Option ((List Str))
 | 0, _, _, _, _, _, _, _ => none
 | n + 1, x2, x6, x57, x58, x59, b4, b1000003 => bif (decide (x59 < x58)) then (if (0 : Int) ≤ x59 ∧ x59 < (List.length x57) then bif x6 then (bif (decide (x59 > 0)) then (if 0 + List.length x2 ≤ Lim then if List.length ([] ++ x2) + List.length [(Exp.text b4)] ≤ Lim then (q0 (List.getD x57 (Int.toNat x59) Ty.exp.dflt) (([] ++ x2) ++ [(Exp.text b4)]) b1000003).bind fun r1 => (xAf N q0 n x2 x6 x57 x58 (IntKind.i64.wrap (x59 + 1)) b4 r1) else none else none) else ((q0 (List.getD x57 (Int.toNat x59) Ty.exp.dflt) x2 b1000003).bind fun r1 => (xAf N q0 n x2 x6 x57 x58 (IntKind.i64.wrap (x59 + 1)) b4 r1))) else ((q0 (List.getD x57 (Int.toNat x59) Ty.exp.dflt) x2 b1000003).bind fun r1 => (xAf N q0 n x2 x6 x57 x58 (IntKind.i64.wrap (x59 + 1)) b4 r1)) else none) else (some b1000003)
def xAR (N : Nat) (q0 : Exp → (List Str) → (List Str) → Option ((List Str))) (a0 : Exp) (a1 : List Str) (a2 : List Str) : Option ((List Str)) := bif ((Exp.kind a0) == 3) then ((xBp N a1 (Exp.text a0)).bind fun r1 => bif (decide (r1 < 0)) then ((xCD N (Exp.text a0) a1 a2).bind fun r2 => some r2) else ((xAf N q0 N a1 ((Exp.kind a0) == 9) (Exp.args a0) (List.length (Exp.args a0) : Int) 0 a0 a2))) else (bif ((Exp.kind a0) == 7) then ((xAf N q0 N a1 true (Exp.args a0) (List.length (Exp.args a0) : Int) 0 a0 a2)) else (bif ((Exp.kind a0) == 9) then ((xAf N q0 N a1 ((Exp.kind a0) == 9) (Exp.args a0) (List.length (Exp.args a0) : Int) 0 a0 a2)) else ((xAf N q0 N a1 ((Exp.kind a0) == 9) (Exp.args a0) (List.length (Exp.args a0) : Int) 0 a0 a2))))
def xAv (N : Nat) : Nat → Exp → (List Str) → (List Str) → Option ((List Str))
 | 0, _, _, _ => none
 | d + 1, a0, a1, a2 => xAR N (xAv N d) a0 a1 a2
def xBD (N : Nat) (a0 : Exp) (a1 : List Str) (a2 : List Str) : Option ((List Str)) := xAv N N a0 a1 a2
def xAd (a0 : Exp) (a1 : List Str) (a2 : List Str) : List Arg := [.box [.val .nilFunc, .clo 47 [1000003]], .val (.v true (Ex .ro a0)), .val (.v false [.sl .ro .str a1]), .gbox [.sl .own .str a2]]
def xAb (r : (List Str)) : CallO := ⟨.tup [], [[.val .nilFunc, .clo 47 [1000003]], [.sl .own .str r]], []⟩
def xAa (N : Nat) (q0 : Exp → (List Str) → (List Str) → Option ((List Str))) : Nat → (List Str) → Bool → (List Exp) → Int → Int → Exp → (List Str) → Option ((List Str))
 | 0, _, _, _, _, _, _, _ => none
 | n + 1, x2, x6, x57, x58, x59, b4, b1000003 => bif (decide (x59 < x58)) then (if (0 : Int) ≤ x59 ∧ x59 < (List.length x57) then bif x6 then (bif (decide (x59 > 0)) then (if 0 + List.length x2 ≤ Lim then if List.length ([] ++ x2) + List.length [(Exp.text b4)] ≤ Lim then (q0 (List.getD x57 (Int.toNat x59) Ty.exp.dflt) (([] ++ x2) ++ [(Exp.text b4)]) b1000003).bind fun r1 => (xAa N q0 n x2 x6 x57 x58 (IntKind.i64.wrap (x59 + 1)) b4 r1) else none else none) else ((q0 (List.getD x57 (Int.toNat x59) Ty.exp.dflt) x2 b1000003).bind fun r1 => (xAa N q0 n x2 x6 x57 x58 (IntKind.i64.wrap (x59 + 1)) b4 r1))) else ((q0 (List.getD x57 (Int.toNat x59) Ty.exp.dflt) x2 b1000003).bind fun r1 => (xAa N q0 n x2 x6 x57 x58 (IntKind.i64.wrap (x59 + 1)) b4 r1)) else none) else (some b1000003)
def xAt (N : Nat) (q0 : Exp → (List Str) → (List Str) → Option ((List Str))) (a0 : Exp) (a1 : List Str) (a2 : List Str) : Option ((List Str)) := bif ((Exp.kind a0) == 3) then ((xBp N a1 (Exp.text a0)).bind fun r1 => bif (decide (r1 < 0)) then ((xAa N q0 N a1 ((Exp.kind a0) == 9) (Exp.args a0) (List.length (Exp.args a0) : Int) 0 a0 a2)) else ((xAa N q0 N a1 ((Exp.kind a0) == 9) (Exp.args a0) (List.length (Exp.args a0) : Int) 0 a0 a2))) else (bif ((Exp.kind a0) == 7) then ((xBd N (Exp.text a0) a2).bind fun r1 => (xAa N q0 N a1 true (Exp.args a0) (List.length (Exp.args a0) : Int) 0 a0 r1)) else (bif ((Exp.kind a0) == 9) then ((xBd N (Exp.text a0) a2).bind fun r1 => (xAa N q0 N a1 ((Exp.kind a0) == 9) (Exp.args a0) (List.length (Exp.args a0) : Int) 0 a0 r1)) else ((xAa N q0 N a1 ((Exp.kind a0) == 9) (Exp.args a0) (List.length (Exp.args a0) : Int) 0 a0 a2))))
def xAs (N : Nat) : Nat → Exp → (List Str) → (List Str) → Option ((List Str))
 | 0, _, _, _ => none
 | d + 1, a0, a1, a2 => xAt N (xAs N d) a0 a1 a2
def xA0 (N : Nat) (a0 : Exp) (a1 : List Str) (a2 : List Str) : Option ((List Str)) := xAs N N a0 a1 a2
def xAI (a0 : Exp) (a1 : Exp) : List Arg := [.val (.v true (Ex .ro a0)), .val (.v true (Ex .ro a1))]
def xAn (r : Bool) : CallO := ⟨.v false [.bool r], [], []⟩
def xBH (N : Nat) (q0 : Exp → Exp → Option (Bool)) (q1 : (List Exp) → (List Exp) → Option (Bool)) (a0 : Exp) (a1 : Exp) : Option (Bool) := bif ((Exp.kind a0) != (Exp.kind a1)) then (some false) else (bif ((Exp.n a0) != (Exp.n a1)) then (some false) else (bif (!(((Exp.text a0) : Str) == (Exp.text a1))) then (some false) else ((q1 (Exp.args a0) (Exp.args a1)).bind fun r1 => bif (!r1) then (some false) else (some true))))
def xBl (a0 : List Exp) (a1 : List Exp) : List Arg := [.val (.v false [.sl .ro .exp a0]), .val (.v false [.sl .ro .exp a1])]
def xAE (r : Bool) : CallO := ⟨.v false [.bool r], [], []⟩
def xBy (N : Nat) (q0 : Exp → Exp → Option (Bool)) (q1 : (List Exp) → (List Exp) → Option (Bool)) : Nat → (List Exp) → (List Exp) → Int → Option (Bool)
 | 0, _, _, _ => none
 | n + 1, x0, x1, x5 => bif (decide (x5 < (List.length x0 : Int))) then (if (0 : Int) ≤ x5 ∧ x5 < (List.length x0) then if (0 : Int) ≤ x5 ∧ x5 < (List.length x1) then (q0 (List.getD x0 (Int.toNat x5) Ty.exp.dflt) (List.getD x1 (Int.toNat x5) Ty.exp.dflt)).bind fun r1 => bif (!r1) then (some false) else ((xBy N q0 q1 n x0 x1 (IntKind.i64.wrap (x5 + 1)))) else none else none) else (some true)
def xBz (N : Nat) (q0 : Exp → Exp → Option (Bool)) (q1 : (List Exp) → (List Exp) → Option (Bool)) (a0 : List Exp) (a1 : List Exp) : Option (Bool) := bif ((List.length a0 : Int) != (List.length a1 : Int)) then (some false) else ((xBy N q0 q1 N a0 a1 0))
structure laws_eqExpr_rec where
 c_laws_eqExpr : Exp → Exp → Option (Bool)
 c_laws_eqExprS : (List Exp) → (List Exp) → Option (Bool)
def xAz (N : Nat) : Nat → laws_eqExpr_rec
 | 0 => ⟨fun _ _ => none, fun _ _ => none⟩
 | d + 1 => ⟨xBH N (xAz N d).c_laws_eqExpr (xAz N d).c_laws_eqExprS, xBz N (xAz N d).c_laws_eqExpr (xAz N d).c_laws_eqExprS⟩
def xCA (N : Nat) (a0 : Exp) (a1 : Exp) : Option (Bool) := (xAz N N).c_laws_eqExpr a0 a1
def xAQ (a0 : Exp) : List Arg := [.val (.v true (Ex .ro a0))]
def xAL (r : (List Str)) : CallO := ⟨.v false [.sl .own .str r], [], []⟩
def xAK (N : Nat) (q0 : Exp → Option ((List Str))) : Nat → (List Str) → Int → Exp → Option ((List Str))
 | 0, _, _, _ => none
 | n + 1, x3, x4, b1 => bif (decide (x4 < (List.length (Exp.args b1) : Int))) then (if (0 : Int) ≤ x4 ∧ x4 < (List.length (Exp.args b1)) then (q0 (List.getD (Exp.args b1) (Int.toNat x4) Ty.exp.dflt)).bind fun r1 => if List.length x3 + List.length r1 ≤ Lim then (xAK N q0 n (x3 ++ r1) (IntKind.i64.wrap (x4 + 1)) b1) else none else none) else (some x3)
def xBs (N : Nat) (q0 : Exp → Option ((List Str))) (a0 : Exp) : Option ((List Str)) := bif ((Exp.kind a0) == 7) then (if 0 + List.length [(Exp.text a0)] ≤ Lim then (xAK N q0 N ([] ++ [(Exp.text a0)]) 0 a0) else none) else (bif ((Exp.kind a0) == 9) then (if 0 + List.length [(Exp.text a0)] ≤ Lim then (xAK N q0 N ([] ++ [(Exp.text a0)]) 0 a0) else none) else ((xAK N q0 N [] 0 a0)))
def xBi (N : Nat) : Nat → Exp → Option ((List Str))
 | 0, _ => none
 | d + 1, a0 => xBs N (xBi N d) a0
def xCC (N : Nat) (a0 : Exp) : Option ((List Str)) := xBi N N a0
def xBV (a0 : List Str) : List Arg := [.val (.v false [.sl .ro .str a0])]
def xAT (r : (List Str)) : CallO := ⟨.v false [.sl .own .str r], [], []⟩
def xA5 (N : Nat) (k3 : (List Str) → (List Str) → Int → Option ((List Str))) : Nat → (List Str) → (List Str) → Int → Int → Option ((List Str))
 | 0, _, _, _, _ => none
 | n + 1, x0, x3, x4, x5 => bif (decide (x5 < (List.length x3 : Int))) then (if (0 : Int) ≤ x5 ∧ x5 < (List.length x3) then if (0 : Int) ≤ x4 ∧ x4 < (List.length x0) then bif (Op.bytesLess (List.getD x3 (Int.toNat x5) Ty.str.dflt) (List.getD x0 (Int.toNat x4) Ty.str.dflt)) then ((xA5 N k3 n x0 x3 x4 (IntKind.i64.wrap (x5 + 1)))) else (bif (((List.getD x3 (Int.toNat x5) Ty.str.dflt) : Str) == (List.getD x0 (Int.toNat x4) Ty.str.dflt)) then ((k3 x0 x3 (IntKind.i64.wrap (x4 + 1)))) else (if (0 : Int) ≤ x5 ∧ x5 ≤ (List.length x3) then if 0 + List.length (List.drop (Int.toNat x5) x3) ≤ Lim then if List.length (List.take (Int.toNat x5) x3) + List.length [(List.getD x0 (Int.toNat x4) Ty.str.dflt)] ≤ Lim then if List.length ((List.take (Int.toNat x5) x3) ++ [(List.getD x0 (Int.toNat x4) Ty.str.dflt)]) + List.length ([] ++ (List.drop (Int.toNat x5) x3)) ≤ Lim then (k3 x0 (((List.take (Int.toNat x5) x3) ++ [(List.getD x0 (Int.toNat x4) Ty.str.dflt)]) ++ ([] ++ (List.drop (Int.toNat x5) x3))) (IntKind.i64.wrap (x4 + 1))) else none else none else none else none)) else none else none) else (if (0 : Int) ≤ x5 ∧ x5 ≤ (List.length x3) then if 0 + List.length (List.drop (Int.toNat x5) x3) ≤ Lim then if (0 : Int) ≤ x4 ∧ x4 < (List.length x0) then if List.length (List.take (Int.toNat x5) x3) + List.length [(List.getD x0 (Int.toNat x4) Ty.str.dflt)] ≤ Lim then if List.length ((List.take (Int.toNat x5) x3) ++ [(List.getD x0 (Int.toNat x4) Ty.str.dflt)]) + List.length ([] ++ (List.drop (Int.toNat x5) x3)) ≤ Lim then (k3 x0 (((List.take (Int.toNat x5) x3) ++ [(List.getD x0 (Int.toNat x4) Ty.str.dflt)]) ++ ([] ++ (List.drop (Int.toNat x5) x3))) (IntKind.i64.wrap (x4 + 1))) else none else none else none else none else none)
def xBh (N : Nat) : Nat → (List Str) → (List Str) → Int → Option ((List Str))
 | 0, _, _, _ => none
 | n + 1, x0, x3, x4 => bif (decide (x4 < (List.length x0 : Int))) then ((xA5 N (fun z0 z1 z2 => (xBh N n z0 z1 z2)) N x0 x3 x4 0)) else (some x3)
def xBZ (N : Nat) (a0 : List Str) : Option ((List Str)) := (xBh N N a0 [] 0)
def xBN (a0 : Exp) : List Arg := [.val (.v true (Ex .ro a0))]
def xAr (r : (List Str)) : CallO := ⟨.v false [.sl .own .str r], [], []⟩
def xBS (N : Nat) (a0 : Exp) : Option ((List Str)) := (xCC N a0).bind fun r1 => (xBZ N r1).bind fun r2 => some r2
def xCK (a0 : List Str) : List Arg := [.val (.v false [.sl (.lnt 0) .str a0])]
def xCp (r : (List Str)) : CallO := ⟨.tup [], [], [.sl (.lnt 0) .str r]⟩
def sort_Strings (N : Nat) (a0 : List Str) : Option (List Str) := zF0 a0
def xBT (a0 : List Str) : List Arg := [.val (.v false [.sl .ro .str a0])]
def xBe (r : (List Str)) : CallO := ⟨.v false [.sl .own .str r], [], []⟩
def xAS (N : Nat) : Nat → (List Str) → (List Str) → (List Str) → Int → Int → Option ((List Str))
 | 0, _, _, _, _, _ => none
 | n + 1, x0, x3, x7, x8, x9 => bif (decide (x9 < x8)) then (if (0 : Int) ≤ x9 ∧ x9 < (List.length x7) then (xBp N x0 (List.getD x7 (Int.toNat x9) Ty.str.dflt)).bind fun r1 => bif (r1 == x9) then (if List.length x3 + List.length [(List.getD x7 (Int.toNat x9) Ty.str.dflt)] ≤ Lim then (xAS N n x0 (x3 ++ [(List.getD x7 (Int.toNat x9) Ty.str.dflt)]) x7 x8 (IntKind.i64.wrap (x9 + 1))) else none) else ((xAS N n x0 x3 x7 x8 (IntKind.i64.wrap (x9 + 1)))) else none) else ((sort_Strings N x3).bind fun r1 => if List.length r1 = List.length x3 then some r1 else none)
def xBX (N : Nat) (a0 : List Str) : Option ((List Str)) := (xAS N N a0 [] a0 (List.length a0 : Int) 0)
def xBL (a0 : Exp) : List Arg := [.val (.v true (Ex .ro a0))]
def xAl (r : (List Str)) : CallO := ⟨.v false [.sl .own .str r], [], []⟩
def xBx (N : Nat) (a0 : Exp) : Option ((List Str)) := (xA0 N a0 [] []).bind fun r1 => (xBX N r1).bind fun r2 => some r2
def xBA (a0 : List Str) (a1 : List Str) : List Arg := [.val (.v false [.sl .ro .str a0]), .val (.v false [.sl .ro .str a1])]
def xAe (r : Bool) : CallO := ⟨.v false [.bool r], [], []⟩
def xBf (N : Nat) : Nat → (List Str) → (List Str) → Int → Option (Bool)
 | 0, _, _, _ => none
 | n + 1, x0, x1, x5 => bif (decide (x5 < (List.length x0 : Int))) then (if (0 : Int) ≤ x5 ∧ x5 < (List.length x0) then if (0 : Int) ≤ x5 ∧ x5 < (List.length x1) then bif (!(((List.getD x0 (Int.toNat x5) Ty.str.dflt) : Str) == (List.getD x1 (Int.toNat x5) Ty.str.dflt))) then (some false) else ((xBf N n x0 x1 (IntKind.i64.wrap (x5 + 1)))) else none else none) else (some true)
def xAJ (N : Nat) (a0 : List Str) (a1 : List Str) : Option (Bool) := bif ((List.length a0 : Int) != (List.length a1 : Int)) then (some false) else ((xBf N N a0 a1 0))
def xAY (a0 : Int) : List Arg := [.val (.v false [.int .i64 a0])]
def xAw (r : Str) : CallO := ⟨.v false [.str r], [], []⟩
def xBo (N : Nat) : Nat → Int → Str → Option (Str)
 | 0, _, _ => none
 | n + 1, x0, x3 => bif (decide (x0 > 0)) then (if List.length (List.map (fun n => UInt8.ofNat (Int.toNat n)) [(IntKind.u8.wrap ((IntKind.i64.wrap (48 + (Int.tmod x0 10)))))]) + List.length x3 ≤ Lim then (xBo N n (IntKind.i64.wrap (Int.tdiv x0 10)) ((List.map (fun n => UInt8.ofNat (Int.toNat n)) [(IntKind.u8.wrap ((IntKind.i64.wrap (48 + (Int.tmod x0 10)))))]) ++ x3)) else none) else (if List.length [109] + List.length x3 ≤ Lim then some ([109] ++ x3) else none)
def xBr (N : Nat) (a0 : Int) : Option (Str) := bif (decide (a0 ≤ 0)) then (some [109, 48]) else ((xBo N N a0 []))
def xA2 (a0 : List Exp) (a1 : Int) : List Arg := [.val (.v false [.sl (.lnt 0) .exp a0]), .val (.v false [.int .i64 a1])]
def xAD (r : Int × (List Exp)) : CallO := ⟨.v false [.int .i64 r.1], [], [.sl (.lnt 0) .exp r.2]⟩
def xBg (N : Nat) (q0 : (List Exp) → Int → Option (Int × (List Exp))) : Nat → (List Exp) → Int → Int → Option (Int × (List Exp))
 | 0, _, _, _ => none
 | n + 1, x0, x1, x5 => bif (decide (x5 < (List.length x0 : Int))) then (if (0 : Int) ≤ x5 ∧ x5 < (List.length x0) then if (0 : Int) ≤ x5 ∧ x5 < (List.length (List.set x0 (Int.toNat x5) (Exp.mk x1 (Exp.n (List.getD x0 (Int.toNat x5) Ty.exp.dflt)) (Exp.text (List.getD x0 (Int.toNat x5) Ty.exp.dflt)) (Exp.args (List.getD x0 (Int.toNat x5) Ty.exp.dflt))))) then (xBr N (IntKind.i64.wrap ((IntKind.i64.wrap (x1 + 1)) + 1))).bind fun r1 => if (0 : Int) ≤ x5 ∧ x5 < (List.length ((fun (z8 : List Exp) => List.set z8 (Int.toNat x5) (Exp.mk (Exp.kind (List.getD z8 (Int.toNat x5) Ty.exp.dflt)) (IntKind.i64.wrap (x1 + 1)) (Exp.text (List.getD z8 (Int.toNat x5) Ty.exp.dflt)) (Exp.args (List.getD z8 (Int.toNat x5) Ty.exp.dflt)))) (List.set x0 (Int.toNat x5) (Exp.mk x1 (Exp.n (List.getD x0 (Int.toNat x5) Ty.exp.dflt)) (Exp.text (List.getD x0 (Int.toNat x5) Ty.exp.dflt)) (Exp.args (List.getD x0 (Int.toNat x5) Ty.exp.dflt)))))) then if (0 : Int) ≤ x5 ∧ x5 < (List.length ((fun (z9 : List Exp) => List.set z9 (Int.toNat x5) (Exp.mk (Exp.kind (List.getD z9 (Int.toNat x5) Ty.exp.dflt)) (Exp.n (List.getD z9 (Int.toNat x5) Ty.exp.dflt)) r1 (Exp.args (List.getD z9 (Int.toNat x5) Ty.exp.dflt)))) ((fun (z8 : List Exp) => List.set z8 (Int.toNat x5) (Exp.mk (Exp.kind (List.getD z8 (Int.toNat x5) Ty.exp.dflt)) (IntKind.i64.wrap (x1 + 1)) (Exp.text (List.getD z8 (Int.toNat x5) Ty.exp.dflt)) (Exp.args (List.getD z8 (Int.toNat x5) Ty.exp.dflt)))) (List.set x0 (Int.toNat x5) (Exp.mk x1 (Exp.n (List.getD x0 (Int.toNat x5) Ty.exp.dflt)) (Exp.text (List.getD x0 (Int.toNat x5) Ty.exp.dflt)) (Exp.args (List.getD x0 (Int.toNat x5) Ty.exp.dflt))))))) then (q0 (Exp.args (List.getD ((fun (z9 : List Exp) => List.set z9 (Int.toNat x5) (Exp.mk (Exp.kind (List.getD z9 (Int.toNat x5) Ty.exp.dflt)) (Exp.n (List.getD z9 (Int.toNat x5) Ty.exp.dflt)) r1 (Exp.args (List.getD z9 (Int.toNat x5) Ty.exp.dflt)))) ((fun (z8 : List Exp) => List.set z8 (Int.toNat x5) (Exp.mk (Exp.kind (List.getD z8 (Int.toNat x5) Ty.exp.dflt)) (IntKind.i64.wrap (x1 + 1)) (Exp.text (List.getD z8 (Int.toNat x5) Ty.exp.dflt)) (Exp.args (List.getD z8 (Int.toNat x5) Ty.exp.dflt)))) (List.set x0 (Int.toNat x5) (Exp.mk x1 (Exp.n (List.getD x0 (Int.toNat x5) Ty.exp.dflt)) (Exp.text (List.getD x0 (Int.toNat x5) Ty.exp.dflt)) (Exp.args (List.getD x0 (Int.toNat x5) Ty.exp.dflt)))))) (Int.toNat x5) Ty.exp.dflt)) (IntKind.i64.wrap ((IntKind.i64.wrap ((IntKind.i64.wrap (x1 + 1)) + 1)) + 1))).bind fun r2 =>
     if List.length r2.2 = List.length (Exp.args (List.getD ((fun (z9 : List Exp) => List.set z9 (Int.toNat x5) (Exp.mk (Exp.kind (List.getD z9 (Int.toNat x5) Ty.exp.dflt)) (Exp.n (List.getD z9 (Int.toNat x5) Ty.exp.dflt)) r1 (Exp.args (List.getD z9 (Int.toNat x5) Ty.exp.dflt)))) ((fun (z8 : List Exp) => List.set z8 (Int.toNat x5) (Exp.mk (Exp.kind (List.getD z8 (Int.toNat x5) Ty.exp.dflt)) (IntKind.i64.wrap (x1 + 1)) (Exp.text (List.getD z8 (Int.toNat x5) Ty.exp.dflt)) (Exp.args (List.getD z8 (Int.toNat x5) Ty.exp.dflt)))) (List.set x0 (Int.toNat x5) (Exp.mk x1 (Exp.n (List.getD x0 (Int.toNat x5) Ty.exp.dflt)) (Exp.text (List.getD x0 (Int.toNat x5) Ty.exp.dflt)) (Exp.args (List.getD x0 (Int.toNat x5) Ty.exp.dflt)))))) (Int.toNat x5) Ty.exp.dflt)) then (xBg N q0 n ((fun (z10 : List Exp) => List.set z10 (Int.toNat x5) (Exp.mk (Exp.kind (List.getD z10 (Int.toNat x5) Ty.exp.dflt)) (Exp.n (List.getD z10 (Int.toNat x5) Ty.exp.dflt)) (Exp.text (List.getD z10 (Int.toNat x5) Ty.exp.dflt)) r2.2)) ((fun (z9 : List Exp) => List.set z9 (Int.toNat x5) (Exp.mk (Exp.kind (List.getD z9 (Int.toNat x5) Ty.exp.dflt)) (Exp.n (List.getD z9 (Int.toNat x5) Ty.exp.dflt)) r1 (Exp.args (List.getD z9 (Int.toNat x5) Ty.exp.dflt)))) ((fun (z8 : List Exp) => List.set z8 (Int.toNat x5) (Exp.mk (Exp.kind (List.getD z8 (Int.toNat x5) Ty.exp.dflt)) (IntKind.i64.wrap (x1 + 1)) (Exp.text (List.getD z8 (Int.toNat x5) Ty.exp.dflt)) (Exp.args (List.getD z8 (Int.toNat x5) Ty.exp.dflt)))) (List.set x0 (Int.toNat x5) (Exp.mk x1 (Exp.n (List.getD x0 (Int.toNat x5) Ty.exp.dflt)) (Exp.text (List.getD x0 (Int.toNat x5) Ty.exp.dflt)) (Exp.args (List.getD x0 (Int.toNat x5) Ty.exp.dflt))))))) r2.1 (IntKind.i64.wrap (x5 + 1))) else none else none else none else none else none) else (some (x1, x0))
def xB2 (N : Nat) (q0 : (List Exp) → Int → Option (Int × (List Exp))) (a0 : List Exp) (a1 : Int) : Option (Int × (List Exp)) := (xBg N q0 N a0 a1 0)
def xBq (N : Nat) : Nat → (List Exp) → Int → Option (Int × (List Exp))
 | 0, _, _ => none
 | d + 1, a0, a1 => xB2 N (xBq N d) a0 a1
def xCt (N : Nat) (a0 : List Exp) (a1 : Int) : Option (Int × (List Exp)) := xBq N N a0 a1
def xB0 (a0 : Exp) (a1 : Int) : List Arg := [.val (.v true [.int .i64 (Exp.kind a0), .int .i64 (Exp.n a0), .str (Exp.text a0), .sl (.lnt 0) .exp (Exp.args a0)]), .val (.v false [.int .i64 a1])]
def xAx (r : Int × (List Exp)) : CallO := ⟨.v false [.int .i64 r.1], [], [.sl (.lnt 0) .exp r.2]⟩
def xBU (N : Nat) (a0 : Exp) (a1 : Int) : Option (Int × (List Exp)) := (xCt N (Exp.args a0) a1).bind fun r1 => if List.length r1.2 = List.length (Exp.args a0) then some (r1.1, r1.2) else none
def xAC (a0 : List Str) (a1 : Int) : List Arg := [.val (.v false [.sl (.lnt 0) .str a0]), .val (.v false [.int .i64 a1])]
def xAm (r : Int × (List Str)) : CallO := ⟨.v false [.int .i64 r.1], [], [.sl (.lnt 0) .str r.2]⟩
def xA3 (N : Nat) : Nat → (List Str) → Int → Int → Option (Int × (List Str))
 | 0, _, _, _ => none
 | n + 1, x0, x1, x5 => bif (decide (x5 < (List.length x0 : Int))) then ((xBr N x1).bind fun r1 => if (0 : Int) ≤ x5 ∧ x5 < (List.length x0) then (xA3 N n (List.set x0 (Int.toNat x5) r1) (IntKind.i64.wrap (x1 + 1)) (IntKind.i64.wrap (x5 + 1))) else none) else (some (x1, x0))
def xBI (N : Nat) (a0 : List Str) (a1 : Int) : Option (Int × (List Str)) := (xA3 N N a0 a1 0)
def xBE (a0 : List Str) (a1 : Int) : List Arg := [.val (.v false [.sl .ro .str a0]), .val (.v false [.int .i64 a1])]
def xAp (r : Int) : CallO := ⟨.v false [.int .i64 r], [], []⟩
def xA1 (N : Nat) : Nat → (List Str) → Int → Int → Option (Int)
 | 0, _, _, _ => none
 | n + 1, x0, x1, x5 => bif (decide (x5 < (List.length x0 : Int))) then (if (0 : Int) ≤ x5 ∧ x5 < (List.length x0) then (xBr N x1).bind fun r1 => bif (!(((List.getD x0 (Int.toNat x5) Ty.str.dflt) : Str) == r1)) then (some (-1)) else ((xA1 N n x0 (IntKind.i64.wrap (x1 + 1)) (IntKind.i64.wrap (x5 + 1)))) else none) else (some x1)
def xBa (N : Nat) (a0 : List Str) (a1 : Int) : Option (Int) := (xA1 N N a0 a1 0)
def xAi (a0 : Exp) : List Arg := [.val (.v true (Ex .ro a0))]
def xAj (r : Bool) : CallO := ⟨.v false [.bool r], [], []⟩
def xAZ (N : Nat) (a0 : Exp) : Option (Bool) := (xCB N a0 1048576).bind fun r1 => bif (decide (r1 < 0)) then (some true) else ((xBu N a0).bind fun r2 => (xBS N r2).bind fun r3 => (xBu N a0).bind fun r4 => (xBx N r4).bind fun r5 => (xAJ N r5 r3).bind fun r6 => bif (!r6) then (some false) else ((xBu N a0).bind fun r7 => (xCA N r4 r7).bind fun r8 => bif (!r8) then (some false) else ((xBU N r4 1).bind fun r9 => if List.length r9.2 = List.length (Exp.args r4) then bif (decide (r9.1 < 0)) then (some false) else ((xAJ N r5 r3).bind fun r10 => bif (!r10) then (some false) else ((xBI N r5 1).bind fun r11 => if List.length r11.2 = List.length r5 then (xBa N r11.2 1).bind fun r12 => bif (decide (r12 < 0)) then (some false) else (bif (r12 != r11.1) then (some false) else ((xBu N a0).bind fun r13 => (xBx N r13).bind fun r14 => (xAJ N r14 r3).bind fun r15 => bif (!r15) then (some false) else ((xBa N r11.2 1).bind fun r16 => bif (decide (r16 < 0)) then (some false) else (bif (r16 != r11.1) then (some false) else (some true))))) else none)) else none)))
def xAH (N : Nat) (q0 : Exp → (List Str) → Option ((List Str))) : Nat → (List Str) → (List Str) → Int → Exp → Option ((List Str))
 | 0, _, _, _, _ => none
 | n + 1, x1, x5, x6, b2 => bif (decide (x6 < (List.length (Exp.args b2) : Int))) then (bif ((Exp.kind b2) == 7) then (bif (decide (x6 > 0)) then (if 0 + List.length x1 ≤ Lim then if List.length ([] ++ x1) + List.length [(Exp.text b2)] ≤ Lim then if (0 : Int) ≤ x6 ∧ x6 < (List.length (Exp.args b2)) then (q0 (List.getD (Exp.args b2) (Int.toNat x6) Ty.exp.dflt) (([] ++ x1) ++ [(Exp.text b2)])).bind fun r1 => if List.length x5 + List.length r1 ≤ Lim then (xAH N q0 n x1 (x5 ++ r1) (IntKind.i64.wrap (x6 + 1)) b2) else none else none else none else none) else (if (0 : Int) ≤ x6 ∧ x6 < (List.length (Exp.args b2)) then (q0 (List.getD (Exp.args b2) (Int.toNat x6) Ty.exp.dflt) x1).bind fun r1 => if List.length x5 + List.length r1 ≤ Lim then (xAH N q0 n x1 (x5 ++ r1) (IntKind.i64.wrap (x6 + 1)) b2) else none else none)) else (bif ((Exp.kind b2) == 9) then (bif (decide (x6 > 0)) then (if 0 + List.length x1 ≤ Lim then if List.length ([] ++ x1) + List.length [(Exp.text b2)] ≤ Lim then if (0 : Int) ≤ x6 ∧ x6 < (List.length (Exp.args b2)) then (q0 (List.getD (Exp.args b2) (Int.toNat x6) Ty.exp.dflt) (([] ++ x1) ++ [(Exp.text b2)])).bind fun r1 => if List.length x5 + List.length r1 ≤ Lim then (xAH N q0 n x1 (x5 ++ r1) (IntKind.i64.wrap (x6 + 1)) b2) else none else none else none else none) else (if (0 : Int) ≤ x6 ∧ x6 < (List.length (Exp.args b2)) then (q0 (List.getD (Exp.args b2) (Int.toNat x6) Ty.exp.dflt) x1).bind fun r1 => if List.length x5 + List.length r1 ≤ Lim then (xAH N q0 n x1 (x5 ++ r1) (IntKind.i64.wrap (x6 + 1)) b2) else none else none)) else (if (0 : Int) ≤ x6 ∧ x6 < (List.length (Exp.args b2)) then (q0 (List.getD (Exp.args b2) (Int.toNat x6) Ty.exp.dflt) x1).bind fun r1 => if List.length x5 + List.length r1 ≤ Lim then (xAH N q0 n x1 (x5 ++ r1) (IntKind.i64.wrap (x6 + 1)) b2) else none else none))) else (some x5)
def xB9 (N : Nat) (q0 : Exp → (List Str) → Option ((List Str))) (a0 : Exp) (a1 : List Str) : Option ((List Str)) := bif ((Exp.kind a0) == 3) then ((xCa N a1 (Exp.text a0)).bind fun r1 => bif (!r1) then (if 0 + List.length [(Exp.text a0)] ≤ Lim then some ([] ++ [(Exp.text a0)]) else none) else ((xAH N q0 N a1 [] 0 a0))) else ((xAH N q0 N a1 [] 0 a0))
def xBK (N : Nat) : Nat → Exp → (List Str) → Option ((List Str))
 | 0, _, _ => none
 | d + 1, a0, a1 => xB9 N (xBK N d) a0 a1
def xDj (N : Nat) (a0 : Exp) (a1 : List Str) : Option ((List Str)) := xBK N N a0 a1
def xCu (N : Nat) (a0 : Exp) : Option ((List Str)) := (xDj N a0 []).bind fun r1 => (xBZ N r1).bind fun r2 => some r2
def xCb (N : Nat) (a0 : Exp) : Option ((List Str)) := (xBD N a0 [] []).bind fun r1 => (xBX N r1).bind fun r2 => some r2
def xBQ (N : Nat) (a0 : Exp) : Option (Bool) := (xCB N a0 1048576).bind fun r1 => bif (decide (r1 < 0)) then (some true) else ((xBu N a0).bind fun r2 => (xCu N r2).bind fun r3 => (xBu N a0).bind fun r4 => (xCb N r4).bind fun r5 => (xAJ N r5 r3).bind fun r6 => bif (!r6) then (some false) else ((xBu N a0).bind fun r7 => (xCA N r4 r7).bind fun r8 => bif (!r8) then (some false) else ((xBU N r4 1).bind fun r9 => if List.length r9.2 = List.length (Exp.args r4) then bif (decide (r9.1 < 0)) then (some false) else ((xAJ N r5 r3).bind fun r10 => bif (!r10) then (some false) else ((xBI N r5 1).bind fun r11 => if List.length r11.2 = List.length r5 then (xBa N r11.2 1).bind fun r12 => bif (decide (r12 < 0)) then (some false) else (bif (r12 != r11.1) then (some false) else ((xBu N a0).bind fun r13 => (xCb N r13).bind fun r14 => (xAJ N r14 r3).bind fun r15 => bif (!r15) then (some false) else ((xBa N r11.2 1).bind fun r16 => bif (decide (r16 < 0)) then (some false) else (bif (r16 != r11.1) then (some false) else (some true))))) else none)) else none)))
def xBB (N : Nat) (q0 : (List Exp) → Int → Option (Int)) : Nat → (List Exp) → Int → Int → Option (Int)
 | 0, _, _, _ => none
 | n + 1, x0, x1, x5 => bif (decide (x5 < (List.length x0 : Int))) then (if (0 : Int) ≤ x5 ∧ x5 < (List.length x0) then bif (((Exp.kind (List.getD x0 (Int.toNat x5) Ty.exp.dflt)) : Int) != x1) then (some (-1)) else (bif (((Exp.n (List.getD x0 (Int.toNat x5) Ty.exp.dflt)) : Int) != (IntKind.i64.wrap (x1 + 1))) then (some (-1)) else ((xBr N (IntKind.i64.wrap ((IntKind.i64.wrap (x1 + 1)) + 1))).bind fun r1 => bif (!(((Exp.text (List.getD x0 (Int.toNat x5) Ty.exp.dflt)) : Str) == r1)) then (some (-1)) else ((q0 (Exp.args (List.getD x0 (Int.toNat x5) Ty.exp.dflt)) (IntKind.i64.wrap ((IntKind.i64.wrap ((IntKind.i64.wrap (x1 + 1)) + 1)) + 1))).bind fun r2 => bif (decide (r2 < 0)) then (some (-1)) else ((xBB N q0 n x0 r2 (IntKind.i64.wrap (x5 + 1))))))) else none) else (some x1)
def xCX (N : Nat) (q0 : (List Exp) → Int → Option (Int)) (a0 : List Exp) (a1 : Int) : Option (Int) := (xBB N q0 N a0 a1 0)
def xBM (N : Nat) : Nat → (List Exp) → Int → Option (Int)
 | 0, _, _ => none
 | d + 1, a0, a1 => xCX N (xBM N d) a0 a1
def xCT (N : Nat) (a0 : List Exp) (a1 : Int) : Option (Int) := xBM N N a0 a1
def xC3 (N : Nat) (a0 : Exp) (a1 : Int) : Option (Int) := (xCT N (Exp.args a0) a1).bind fun r1 => bif (decide (r1 < 0)) then (some (-1)) else (some r1)
end Go.Ab
end
section
namespace Go.Ab
open Go.Proofs Go.Shelf
variable {P : Program} {ρ : Ren}
theorem xDc (L : Lays.n192 P ρ) : ∀ args w, (callFunc (ρ.f 192) args).run P w = .ok (.enter (ρ.f 192) args) w := enters_of L.f192 (by kernel_rfl) rfl
end Go.Ab
end
section
namespace Go.Proofs
open Go.Shelf
def Try.lays192_ren : Go.Shelf.Ren := ⟨fun | 192 => 67 | 190 => 79 | 125 => 91 | 258 => 90 | 128 => 108 | 129 => 109 | 302 => 99 | 303 => 100 | 304 => 101 | 305 => 102 | 306 => 103 | 307 => 104 | 308 => 105 | 309 => 106 | 310 => 107 | 333 => 110 | 329 => 111 | 330 => 112 | 334 => 113 | 335 => 114 | 336 => 115 | 344 => 116 | n => n, fun | 31 => 36 | 0 => 0 | 9 => 9 | 3 => 3 | 46 => 88 | 51 => 103 | 53 => 105 | 4 => 4 | 183 => 95 | 182 => 94 | 131 => 100 | 5 => 5 | 218 => 106 | 222 => 110 | 228 => 112 | 229 => 113 | n => n, fun | n => n⟩
theorem Try.lays192 : Go.Proofs.Lays.n192 Try.prog Try.lays192_ren := {
 mixed := by kernel_rfl
 f125 := Try.func91.trans (congrArg some (by kernel_rfl))
 f128 := Try.func108.trans (congrArg some (by kernel_rfl))
 f129 := Try.func109.trans (congrArg some (by kernel_rfl))
 f190 := Try.func79.trans (congrArg some (by kernel_rfl))
 f192 := Try.func67.trans (congrArg some (by kernel_rfl))
 f258 := Try.func90.trans (congrArg some (by kernel_rfl))
 f302 := Try.func99.trans (congrArg some (by kernel_rfl))
 f303 := Try.func100.trans (congrArg some (by kernel_rfl))
 f304 := Try.func101.trans (congrArg some (by kernel_rfl))
 f305 := Try.func102.trans (congrArg some (by kernel_rfl))
 f306 := Try.func103.trans (congrArg some (by kernel_rfl))
 f307 := Try.func104.trans (congrArg some (by kernel_rfl))
 f308 := Try.func105.trans (congrArg some (by kernel_rfl))
 f309 := Try.func106.trans (congrArg some (by kernel_rfl))
 f310 := Try.func107.trans (congrArg some (by kernel_rfl))
 f329 := Try.func111.trans (congrArg some (by kernel_rfl))
 f330 := Try.func112.trans (congrArg some (by kernel_rfl))
 f333 := Try.func110.trans (congrArg some (by kernel_rfl))
 f334 := Try.func113.trans (congrArg some (by kernel_rfl))
 f335 := Try.func114.trans (congrArg some (by kernel_rfl))
 f336 := Try.func115.trans (congrArg some (by kernel_rfl))
 f344 := Try.func116.trans (congrArg some (by kernel_rfl))
 t0 := Try.underlying0
 a0 := Try.isAgg0
 z0 := Try.sizeOf0
 v0 := Try.zeroValue0
 t3 := Try.underlying3
 a3 := Try.isAgg3
 z3 := Try.sizeOf3
 v3 := Try.zeroValue3
 t4 := Try.underlying4
 a4 := Try.isAgg4
 z4 := Try.sizeOf4
 v4 := Try.zeroValue4
 t5 := Try.underlying5
 a5 := Try.isAgg5
 z5 := Try.sizeOf5
 v5 := Try.zeroValue5
 t9 := Try.underlying9
 a9 := Try.isAgg9
 z9 := Try.sizeOf9
 v9 := Try.zeroValue9
 t31 := Try.underlying36
 a31 := Try.isAgg36
 z31 := Try.sizeOf36
 v31 := Try.zeroValue36
 t46 := Try.underlying88
 a46 := Try.isAgg88
 z46 := Try.sizeOf88
 v46 := Try.zeroValue88
 t51 := Try.underlying103
 a51 := Try.isAgg103
 z51 := Try.sizeOf103
 v51 := Try.zeroValue103
 t53 := Try.underlying105
 a53 := Try.isAgg105
 z53 := Try.sizeOf105
 v53 := Try.zeroValue105
 t131 := Try.underlying100
 a131 := Try.isAgg100
 z131 := Try.sizeOf100
 v131 := Try.zeroValue100
 t182 := Try.underlying94
 a182 := Try.isAgg94
 z182 := Try.sizeOf94
 v182 := Try.zeroValue94
 t183 := Try.underlying95
 a183 := Try.isAgg95
 z183 := Try.sizeOf95
 v183 := Try.zeroValue95
 t218 := Try.underlying106
 a218 := Try.isAgg106
 z218 := Try.sizeOf106
 v218 := Try.zeroValue106
 t222 := Try.underlying110
 a222 := Try.isAgg110
 z222 := Try.sizeOf110
 v222 := Try.zeroValue110
 t228 := Try.underlying112
 a228 := Try.isAgg112
 z228 := Try.sizeOf112
 v228 := Try.zeroValue112
 t229 := Try.underlying113
 a229 := Try.isAgg113
 z229 := Try.sizeOf113
 v229 := Try.zeroValue113 }
end Go.Proofs
end
section
open Go.Proofs
namespace Go.Ab.T
variable [Inhabited Lb]
abbrev AbC (f : FuncId) (a : List Arg) (r : CallO) : Prop := AbsCalls Try.prog f a r
abbrev W (x : Int) : Int := IntKind.i64.wrap x
abbrev Ln {α : Type} (l : List α) : Nat := List.length l
abbrev tN (x : Int) : Nat := Int.toNat x
abbrev gD {α : Type} (l : List α) (i : Nat) (d : α) : α := List.getD l i d
abbrev iY (b : Bool) : Prop := b = true
abbrev iN (b : Bool) : Prop := b = false
abbrev dc (p : Prop) [Decidable p] : Bool := decide p
abbrev vd : Val := Ty.val.dflt
abbrev rd : Rowd := Ty.row.dflt
end Go.Ab.T
end
section
open Go.Proofs
namespace Go.Ab.T
set_option maxRecDepth 100000
variable [Inhabited Lb]
def tt : TT := [(3, { zero := some [.int .i64 0], ik := some .i64 }),
 (4, { zero := some [.bool false], isBool := true }),
 (5, { zero := some [.int .u8 0], ik := some .u8 }),
 (9, { zero := some [.str []], isStr := true }),
 (22, { zero := some [.sl .own .exp []], elem := some (24, .exp) }),
 (24, { sz := 4, agg := true, zero := some [.int .i64 0, .int .i64 0, .str [], .sl .own .exp []], offs := [0, 1, 2, 3], fsz := [1, 1, 1, 1] }),
 (27, { zero := some [.sl .own .exp []], elem := some (29, .exp) }),
 (29, { sz := 4, agg := true, zero := some [.int .i64 0, .int .i64 0, .str [], .sl .own .exp []], offs := [0, 1, 2, 3], fsz := [1, 1, 1, 1] }),
 (36, { zero := some [.sl .own .str []], elem := some (9, .str) }),
 (41, { zero := some [.sl .own .byte []], elem := some (5, .byte) }),
 (52, { zero := some [.val .nilFunc], isFn := true }),
 (53, { zero := some [.val .nilFunc], isFn := true }),
 (55, { sz := 2, agg := true, zero := some [.val .nilFunc, .val .nilFunc], offs := [0, 1], fsz := [1, 1] }),
 (78, { sz := 3, agg := true, zero := some [.sl .own .byte [], .int .i64 0, .int .i64 0], offs := [0, 1, 2], fsz := [1, 1, 1] }),
 (83, { zero := some [.sl .own .int []], elem := some (3, .int) })]
theorem ttok : TTok Try.prog tt := zJe (by kernel_rfl)
theorem mix : Try.prog.follows .mixedOrders = true := by kernel_rfl
def F : Bool := false
def cl (r : CallO) : CallO := ⟨r.res, r.outs, [.clo 0 []]⟩
def Y : Bool := true
noncomputable def rE (I : Info) (ag : List Arg) (bs : List Bool) (cs : List CallO) : Option Res := run tt (AbsCalls Try.prog) I 3000 false [.code I.body] ⟨zA8 0 ag, bs, cs, []⟩
noncomputable def rS (k : Nat) (I : Info) (σ : St) (bs : List Bool) (cs : List CallO) : Option Res := run tt (AbsCalls Try.prog) I 3000 true (stkAt k I.body) ⟨σ, bs, cs, []⟩
noncomputable def dn (r : CallO) (ob : List Prop) : Option Res := some (.done r ob)
noncomputable def st (k : Nat) (I : Info) (σ : St) (ob : List Prop) : Option Res := some (.stop (stkAt k I.body) σ ob)
def RE (fn : Func) (I : Info) (ag : List Arg) (r : CallO) : Prop := Reach Try.prog fn I [.code I.body] (zA8 0 ag) r
def RS (fn : Func) (I : Info) (k : Nat) (σ : St) (r : CallO) : Prop := Reach Try.prog fn I (stkAt k I.body) σ r
section
variable {ρ : Type} {f : FuncId} {fn : Func} {I : Info} {ag : List Arg} {bs : List Bool} {cs : List CallO} {k j : Nat} {σ σ' : St} {ob : List Prop} {ro : ρ → CallO} {x r : ρ} {q : CallO}
theorem dE (e : some x = some r) (hf : FnOk Try.prog f fn I) (h : rE I ag bs cs = dn (ro x) ob) (o : ∀ p ∈ ob, p) : RE fn I ag (ro r) := by
 cases e; exact Reach.done ttok mix hf h o
theorem dS (e : some x = some r) (hf : FnOk Try.prog f fn I) (h : rS k I σ bs cs = dn (ro x) ob) (o : ∀ p ∈ ob, p) : RS fn I k σ (ro r) := by
 cases e; exact Reach.done ttok mix hf h o
theorem tE (hf : FnOk Try.prog f fn I) (h : rE I ag bs cs = st k I σ ob) (o : ∀ p ∈ ob, p) (t : RS fn I k σ q) : RE fn I ag q := Reach.stop ttok mix hf h o t
theorem tS (hf : FnOk Try.prog f fn I) (h : rS j I σ' bs cs = st k I σ ob) (o : ∀ p ∈ ob, p) (t : RS fn I k σ q) : RS fn I j σ' q := Reach.stop ttok mix hf h o t
end
theorem oc {p : Prop} {l : List Prop} (h : p) (t : ∀ q ∈ l, q) : ∀ q ∈ p :: l, q := zJd h t
theorem on : ∀ q ∈ ([] : List Prop), q := zJg
theorem oc2 {p0 p1 : Prop} {l : List Prop} (h0 : p0) (h1 : p1) (t : ∀ q ∈ l, q) : ∀ q ∈ p0 :: p1 :: l, q := oc h0 (oc h1 t)
theorem oc3 {p0 p1 p2 : Prop} {l : List Prop} (h0 : p0) (h1 : p1) (h2 : p2) (t : ∀ q ∈ l, q) : ∀ q ∈ p0 :: p1 :: p2 :: l, q := oc h0 (oc2 h1 h2 t)
theorem oc4 {p0 p1 p2 p3 : Prop} {l : List Prop} (h0 : p0) (h1 : p1) (h2 : p2) (h3 : p3) (t : ∀ q ∈ l, q) : ∀ q ∈ p0 :: p1 :: p2 :: p3 :: l, q := oc h0 (oc3 h1 h2 h3 t)
theorem oc5 {p0 p1 p2 p3 p4 : Prop} {l : List Prop} (h0 : p0) (h1 : p1) (h2 : p2) (h3 : p3) (h4 : p4) (t : ∀ q ∈ l, q) : ∀ q ∈ p0 :: p1 :: p2 :: p3 :: p4 :: l, q := oc h0 (oc4 h1 h2 h3 h4 t)
theorem oc6 {p0 p1 p2 p3 p4 p5 : Prop} {l : List Prop} (h0 : p0) (h1 : p1) (h2 : p2) (h3 : p3) (h4 : p4) (h5 : p5) (t : ∀ q ∈ l, q) : ∀ q ∈ p0 :: p1 :: p2 :: p3 :: p4 :: p5 :: l, q := oc h0 (oc5 h1 h2 h3 h4 h5 t)
theorem oc7 {p0 p1 p2 p3 p4 p5 p6 : Prop} {l : List Prop} (h0 : p0) (h1 : p1) (h2 : p2) (h3 : p3) (h4 : p4) (h5 : p5) (h6 : p6) (t : ∀ q ∈ l, q) : ∀ q ∈ p0 :: p1 :: p2 :: p3 :: p4 :: p5 :: p6 :: l, q := oc h0 (oc6 h1 h2 h3 h4 h5 h6 t)
theorem oc8 {p0 p1 p2 p3 p4 p5 p6 p7 : Prop} {l : List Prop} (h0 : p0) (h1 : p1) (h2 : p2) (h3 : p3) (h4 : p4) (h5 : p5) (h6 : p6) (h7 : p7) (t : ∀ q ∈ l, q) : ∀ q ∈ p0 :: p1 :: p2 :: p3 :: p4 :: p5 :: p6 :: p7 :: l, q := oc h0 (oc7 h1 h2 h3 h4 h5 h6 h7 t)
theorem oc9 {p0 p1 p2 p3 p4 p5 p6 p7 p8 : Prop} {l : List Prop} (h0 : p0) (h1 : p1) (h2 : p2) (h3 : p3) (h4 : p4) (h5 : p5) (h6 : p6) (h7 : p7) (h8 : p8) (t : ∀ q ∈ l, q) : ∀ q ∈ p0 :: p1 :: p2 :: p3 :: p4 :: p5 :: p6 :: p7 :: p8 :: l, q := oc h0 (oc8 h1 h2 h3 h4 h5 h6 h7 h8 t)
theorem oc10 {p0 p1 p2 p3 p4 p5 p6 p7 p8 p9 : Prop} {l : List Prop} (h0 : p0) (h1 : p1) (h2 : p2) (h3 : p3) (h4 : p4) (h5 : p5) (h6 : p6) (h7 : p7) (h8 : p8) (h9 : p9) (t : ∀ q ∈ l, q) : ∀ q ∈ p0 :: p1 :: p2 :: p3 :: p4 :: p5 :: p6 :: p7 :: p8 :: p9 :: l, q := oc h0 (oc9 h1 h2 h3 h4 h5 h6 h7 h8 h9 t)
theorem oc11 {p0 p1 p2 p3 p4 p5 p6 p7 p8 p9 p10 : Prop} {l : List Prop} (h0 : p0) (h1 : p1) (h2 : p2) (h3 : p3) (h4 : p4) (h5 : p5) (h6 : p6) (h7 : p7) (h8 : p8) (h9 : p9) (h10 : p10) (t : ∀ q ∈ l, q) : ∀ q ∈ p0 :: p1 :: p2 :: p3 :: p4 :: p5 :: p6 :: p7 :: p8 :: p9 :: p10 :: l, q := oc h0 (oc10 h1 h2 h3 h4 h5 h6 h7 h8 h9 h10 t)
theorem oc12 {p0 p1 p2 p3 p4 p5 p6 p7 p8 p9 p10 p11 : Prop} {l : List Prop} (h0 : p0) (h1 : p1) (h2 : p2) (h3 : p3) (h4 : p4) (h5 : p5) (h6 : p6) (h7 : p7) (h8 : p8) (h9 : p9) (h10 : p10) (h11 : p11) (t : ∀ q ∈ l, q) : ∀ q ∈ p0 :: p1 :: p2 :: p3 :: p4 :: p5 :: p6 :: p7 :: p8 :: p9 :: p10 :: p11 :: l, q := oc h0 (oc11 h1 h2 h3 h4 h5 h6 h7 h8 h9 h10 h11 t)
theorem cE {α : Type} {C : Prop} {b : Bool} {x y : Option α} {r : α} (h : cond b x y = some r) (f : b = true → x = some r → C) (g : b = false → y = some r → C) : C := (zJc h).elim (fun h => f h.1 h.2) fun h => g h.1 h.2
theorem bE {α β : Type} {C : Prop} {o : Option α} {f : α → Option β} {r : β} (h : Option.bind o f = some r) (g : ∀ a, o = some a → f a = some r → C) : C := (zJa h).elim fun a h => g a h.1 h.2
theorem iE {α : Type} {C p : Prop} [Decidable p] {x : Option α} {r : α} (h : (if p then x else none) = some r) (g : p → x = some r → C) : C := (zJf h).elim g
theorem nE {α : Type} {C : Prop} {r : α} (h : none = some r) : C := nomatch h
noncomputable def xDF : Info := { body := (Try.f47.body).getD .skip, nt := 7, results := [], keep := [0, 2, 3], live := [], modes := [(0, [(0, .take, false)])], ext := [1] }
theorem xDM : FnOk Try.prog 47 Try.f47 xDF := ⟨Try.func47, by kernel_rfl, by kernel_rfl, by kernel_rfl, by kernel_rfl⟩
def xDY (a0 : Str) (a1 : List Str) : rE xDF (xBb a0 a1) [] [] = dn (xAO (a1 ++ [a0])) [Ln a1 + Ln [a0] ≤ Lim] := by kernel_rfl
theorem xEt {N : Nat} : ∀ a0 a1 r, xBd N a0 a1 = some r → RE Try.f47 xDF (xBb a0 a1) (xAO r) := fun a0 a1 r h =>
 iE h fun h0 h => dE h xDM (xDY a0 a1) (oc h0 on)
theorem xCf {N : Nat} {a0 : Str} {a1 : List Str} {r : (List Str)} (h : xBd N  a0 a1 = some r) : AbC 47 (xBb a0 a1) (xAO r) :=
 AbsCalls.of_reach xDM rfl rfl rfl (Nat.le_of_ble_eq_true rfl) (xEt a0 a1 r h)
def G8 (q : Exp → Int → Option (Int)) : Prop := ∀ a0 a1 r, q a0 a1 = some r → AbC 8 (xAV a0 a1) (xAo r)
def G30 (q : (List Exp) → Int → Option (Int)) : Prop := ∀ a0 a1 r, q a0 a1 = some r → AbC 30 (xBm a0 a1) (xAF r)
noncomputable def I8 : Info := { body := (Try.f8.body).getD .skip, nt := 19, results := [.tmp 4], keep := [0, 2, 4, 8, 22, 34, 5], live := [], modes := [] }
theorem fk8 : FnOk Try.prog 8 Try.f8 I8 := ⟨Try.func8, by kernel_rfl, by kernel_rfl, by kernel_rfl, by kernel_rfl⟩
abbrev xEO (v0 : Int) (v1 : Exp) := dc (((W (v0 - (Ln (Exp.text v1) : Int))) : Int) < 0)
def xGW (a0 : Exp) (a1 : Int) : rE I8 (xAV a0 a1) [Y] [] = dn (xAo (-1)) [iY (xEO a1 a0)] := by kernel_rfl
abbrev xFc (v0 : Int) (v1 : Exp) := W (v0 - (Ln (Exp.text v1) : Int))
def xGX (a0 : Exp) (a1 r1 : Int) : rE I8 (xAV a0 a1) [F, Y] [xAF r1] = dn (xAo (-1)) [iN (xEO a1 a0), AbC 30 (xBm (Exp.args a0) (xFc a1 a0)) (xAF r1), iY (dc (r1 < 0))] := by kernel_rfl
abbrev xCx (v0 : Int) : Prop := iN (dc (v0 < 0))
def xGY (a0 : Exp) (a1 r1 : Int) : rE I8 (xAV a0 a1) [F, F] [xAF r1] = dn (xAo r1) [iN (xEO a1 a0), AbC 30 (xBm (Exp.args a0) (xFc a1 a0)) (xAF r1), xCx r1] := by kernel_rfl
theorem c8_e {N q0 q1} (g0 : G8 q0) (g1 : G30 q1) : ∀ a0 a1 r, xCd N q0 q1 a0 a1 = some r → RE Try.f8 I8 (xAV a0 a1) (xAo r) := fun a0 a1 r h =>
 cE h (fun h0 h => dE h fk8 (xGW a0 a1) (oc h0 on)) fun h0 h =>
 bE h fun r1 h1 h => cE h (fun h2 h => dE h fk8 (xGX a0 a1 r1) (oc3 h0 (g1 _ _ _ h1) h2 on)) fun h2 h =>
 dE h fk8 (xGY a0 a1 r1) (oc3 h0 (g1 _ _ _ h1) h2 on)
theorem xCY {N q0 q1} (g0 : G8 q0) (g1 : G30 q1) {a0} {a1} {r} (h : xCd N q0 q1 a0 a1 = some r) : AbC 8 (xAV a0 a1) (xAo r) :=
 AbsCalls.of_reach fk8 rfl rfl rfl (Nat.le_of_ble_eq_true rfl) (c8_e g0 g1 a0 a1 r h)
noncomputable def I30 : Info := { body := (Try.f30.body).getD .skip, nt := 27, results := [.tmp 4], keep := [0, 2, 8, 10, 22, 30, 50], live := [(5, [0, 2, 10])], modes := [] }
theorem fk30 : FnOk Try.prog 30 Try.f30 I30 := ⟨Try.func30, by kernel_rfl, by kernel_rfl, by kernel_rfl, by kernel_rfl⟩
def xEn (x0 : List Exp) (x1 x5 : Int) : St := [(0, .v false [.sl .ro .exp x0]), (2, .v false [.int .i64 x1]), (10, .v false [.int .i64 x5])]
abbrev xEw (v0 : Int) (v1 : List Exp) : Prop := iY (dc (v0 < (Ln v1 : Int)))
abbrev xDk (v0 : Int) (v1 : List Exp) : Prop := (0 : Int) ≤ v0 ∧ v0 < (Ln v1)
abbrev xCV (v0 : List Exp) (v1 : Int) := gD v0 (tN v1) Ty.exp.dflt
def xFI (x0 : List Exp) (x1 x5 r1 : Int) : rS 5 I30 (xEn x0 x1 x5) [Y, Y] [xAo r1] = dn (xAF (-1)) [xEw x5 x0, xDk x5 x0, AbC 8 (xAV (xCV x0 x5) x1) (xAo r1), iY (dc (r1 < 0))] := by kernel_rfl
def xFJ (x0 : List Exp) (x1 x5 r1 : Int) : rS 5 I30 (xEn x0 x1 x5) [Y, F] [xAo r1] = st 5 I30 (xEn x0 r1 (W (x5 + 1))) [xEw x5 x0, xDk x5 x0, AbC 8 (xAV (xCV x0 x5) x1) (xAo r1), xCx r1] := by kernel_rfl
def xFK (x0 : List Exp) (x1 x5 : Int) : rS 5 I30 (xEn x0 x1 x5) [F] [] = dn (xAF x1) [iN (dc (x5 < (Ln x0 : Int)))] := by kernel_rfl
def xFL (a0 : List Exp) (a1 : Int) : rE I30 (xBm a0 a1) [Y] [] = dn (xAF (-1)) [iY (dc (((W (a1 - (Ln a0 : Int))) : Int) < 0))] := by kernel_rfl
def xFM (a0 : List Exp) (a1 : Int) : rE I30 (xBm a0 a1) [F] [] = st 5 I30 (xEn a0 (W (a1 - (Ln a0 : Int))) 0) [iN (dc (((W (a1 - (Ln a0 : Int))) : Int) < 0))] := by kernel_rfl
theorem xHe {N q0 q1} (g0 : G8 q0) (g1 : G30 q1) : ∀ n x0 x1 x5 r, xB6 N q0 q1 n x0 x1 x5 = some r → RS Try.f30 I30 5 (xEn x0 x1 x5) (xAF r) := by
 intro n
 induction n with
 | zero => exact fun _ _ _ _ h => nE h
 | succ n ih =>
  exact fun x0 x1 x5 r h =>
   cE h (fun h0 h => iE h fun h1 h => bE h fun r1 h2 h => cE h (fun h3 h => dS h fk30 (xFI x0 x1 x5 r1) (oc4 h0 h1 (g0 _ _ _ h2) h3 on)) fun h3 h =>
   tS fk30 (xFJ x0 x1 x5 r1) (oc4 h0 h1 (g0 _ _ _ h2) h3 on) (ih _ _ _ _ h)) fun h0 h =>
   dS h fk30 (xFK x0 x1 x5) (oc h0 on)
theorem xHf {N q0 q1} (g0 : G8 q0) (g1 : G30 q1) : ∀ a0 a1 r, xB8 N q0 q1 a0 a1 = some r → RE Try.f30 I30 (xBm a0 a1) (xAF r) := fun a0 a1 r h =>
 cE h (fun h0 h => dE h fk30 (xFL a0 a1) (oc h0 on)) fun h0 h =>
 tE fk30 (xFM a0 a1) (oc h0 on) (xHe g0 g1 _ _ _ _ _ h)
theorem xCP {N q0 q1} (g0 : G8 q0) (g1 : G30 q1) {a0} {a1} {r} (h : xB8 N q0 q1 a0 a1 = some r) : AbC 30 (xBm a0 a1) (xAF r) :=
 AbsCalls.of_reach fk30 rfl rfl rfl (Nat.le_of_ble_eq_true rfl) (xHf g0 g1 a0 a1 r h)
theorem xC4 {N : Nat} : ∀ d, G8 (xAG N d).c_laws_szExpr ∧ G30 (xAG N d).c_laws_szExprS := by
 intro d
 induction d with
 | zero => exact ⟨fun _ _ _ h => nE h, fun _ _ _ h => nE h⟩
 | succ d ih =>
  obtain ⟨ih0, ih1⟩ := ih
  exact ⟨fun _ _ _ h => xCY (N := N) ih0 ih1 h, fun _ _ _ h => xCP (N := N) ih0 ih1 h⟩
theorem xAP {N : Nat} {a0 : Exp} {a1 : Int} {r : Int} (h : xCB N a0 a1 = some r) : AbC 8 (xAV a0 a1) (xAo r) := (xC4 N).1 _ _ r h
def G10 (q : Exp → Option (Exp)) : Prop := ∀ a0 r, q a0 = some r → AbC 10 (xBv a0) (xAc r)
def G32 (q : (List Exp) → Option ((List Exp))) : Prop := ∀ a0 r, q a0 = some r → AbC 32 (xBR a0) (xBn r)
noncomputable def I10 : Info := { body := (Try.f10.body).getD .skip, nt := 18, results := [.cell 2 29], keep := [0, 2, 4, 6, 3, 5, 7], live := [], modes := [(6, [(0, .take, false)])] }
theorem fk10 : FnOk Try.prog 10 Try.f10 I10 := ⟨Try.func10, by kernel_rfl, by kernel_rfl, by kernel_rfl, by kernel_rfl⟩
def xFn (a0 : Exp) (r1 : (List Exp)) : rE I10 (xBv a0) [] [xBn r1] = dn (xAc (Exp.mk (Exp.kind a0) (Exp.n a0) (Exp.text a0) r1)) [AbC 32 (xBR (Exp.args a0)) (xBn r1)] := by kernel_rfl
theorem xG3 {N q0 q1} (g0 : G10 q0) (g1 : G32 q1) : ∀ a0 r, xBJ N q0 q1 a0 = some r → RE Try.f10 I10 (xBv a0) (xAc r) := fun a0 r h =>
 bE h fun r1 h0 h => dE h fk10 (xFn a0 r1) (oc (g1 _ _ h0) on)
theorem xCZ {N q0 q1} (g0 : G10 q0) (g1 : G32 q1) {a0} {r} (h : xBJ N q0 q1 a0 = some r) : AbC 10 (xBv a0) (xAc r) :=
 AbsCalls.of_reach fk10 rfl rfl rfl (Nat.le_of_ble_eq_true rfl) (xG3 g0 g1 a0 r h)
noncomputable def I32 : Info := { body := (Try.f32.body).getD .skip, nt := 23, results := [.tmp 2], keep := [0, 4, 6, 8, 22], live := [(3, [0, 6, 8])], modes := [(5, [(0, .ref, false)]), (6, [(0, .take, false)])] }
theorem fk32 : FnOk Try.prog 32 Try.f32 I32 := ⟨Try.func32, by kernel_rfl, by kernel_rfl, by kernel_rfl, by kernel_rfl⟩
def xEB (x0 x3 : List Exp) (x4 : Int) : St := [(0, .v false [.sl .ro .exp x0]), (6, .v false [.sl .own .exp x3]), (8, .v false [.int .i64 x4])]
def xFX (x0 x3 : List Exp) (x4 : Int) (r1 : Exp) : rS 3 I32 (xEB x0 x3 x4) [Y] [xAc r1] = st 3 I32 (xEB x0 (List.set x3 (tN x4) (Exp.re r1)) (W (x4 + 1))) [xEw x4 x0, xDk x4 x0, AbC 10 (xBv (xCV x0 x4)) (xAc r1), xDk x4 x3] := by kernel_rfl
def xFY (x0 x3 : List Exp) (x4 : Int) : rS 3 I32 (xEB x0 x3 x4) [F] [] = dn (xBn x3) [iN (dc (x4 < (Ln x0 : Int)))] := by kernel_rfl
def xFZ (a0 : List Exp) : rE I32 (xBR a0) [] [] = st 3 I32 (xEB a0 (List.replicate (tN (Ln a0 : Int)) Ty.exp.dflt) 0) [(0 : Int) ≤ (Ln a0 : Int) ∧ (Ln a0 : Int) = (Ln a0 : Int) ∧ (Ln a0 : Int) ≤ Lim] := by kernel_rfl
theorem xHh {N q0 q1} (g0 : G10 q0) (g1 : G32 q1) : ∀ n x0 x3 x4 r, xB7 N q0 q1 n x0 x3 x4 = some r → RS Try.f32 I32 3 (xEB x0 x3 x4) (xBn r) := by
 intro n
 induction n with
 | zero => exact fun _ _ _ _ h => nE h
 | succ n ih =>
  exact fun x0 x3 x4 r h =>
   cE h (fun h0 h => iE h fun h1 h => bE h fun r1 h2 h => iE h fun h3 h => tS fk32 (xFX x0 x3 x4 r1) (oc4 h0 h1 (g0 _ _ h2) h3 on) (ih _ _ _ _ h)) fun h0 h =>
   dS h fk32 (xFY x0 x3 x4) (oc h0 on)
theorem xHi {N q0 q1} (g0 : G10 q0) (g1 : G32 q1) : ∀ a0 r, xBC N q0 q1 a0 = some r → RE Try.f32 I32 (xBR a0) (xBn r) := fun a0 r h =>
 iE h fun h0 h => tE fk32 (xFZ a0) (oc h0 on) (xHh g0 g1 _ _ _ _ _ h)
theorem xCQ {N q0 q1} (g0 : G10 q0) (g1 : G32 q1) {a0} {r} (h : xBC N q0 q1 a0 = some r) : AbC 32 (xBR a0) (xBn r) :=
 AbsCalls.of_reach fk32 rfl rfl rfl (Nat.le_of_ble_eq_true rfl) (xHi g0 g1 a0 r h)
theorem xC5 {N : Nat} : ∀ d, G10 (xAu N d).c_laws_toExpr ∧ G32 (xAu N d).c_laws_toExprS := by
 intro d
 induction d with
 | zero => exact ⟨fun _ _ h => nE h, fun _ _ h => nE h⟩
 | succ d ih =>
  obtain ⟨ih0, ih1⟩ := ih
  exact ⟨fun _ _ h => xCZ (N := N) ih0 ih1 h, fun _ _ h => xCQ (N := N) ih0 ih1 h⟩
theorem xAg {N : Nat} {a0 : Exp} {r : Exp} (h : xBu N a0 = some r) : AbC 10 (xBv a0) (xAc r) := (xC5 N).1 _ r h
noncomputable def I54 : Info := { body := (Try.f54.body).getD .skip, nt := 18, results := [.tmp 4], keep := [0, 2, 8, 10, 18, 34], live := [(2, [0, 2, 10])], modes := [] }
theorem fk54 : FnOk Try.prog 54 Try.f54 I54 := ⟨Try.func54, by kernel_rfl, by kernel_rfl, by kernel_rfl, by kernel_rfl⟩
def xEq (x0 : List Str) (x1 : Str) (x5 : Int) : St := [(0, .v false [.sl .ro .str x0]), (2, .v false [.str x1]), (10, .v false [.int .i64 x5])]
abbrev xDf (v0 : Int) (v1 : List Str) : Prop := iY (dc (v0 < (Ln v1 : Int)))
abbrev xCe (v0 : Int) (v1 : List Str) : Prop := (0 : Int) ≤ v0 ∧ v0 < (Ln v1)
abbrev xDE (v0 : List Str) (v1 : Int) (v2 : Str) := ((gD v0 (tN v1) Ty.str.dflt) : Str) == v2
def xGw (x0 : List Str) (x1 : Str) (x5 : Int) : rS 2 I54 (xEq x0 x1 x5) [Y, Y] [] = dn (xAN true) [xDf x5 x0, xCe x5 x0, iY (xDE x0 x5 x1)] := by kernel_rfl
def xGx (x0 : List Str) (x1 : Str) (x5 : Int) : rS 2 I54 (xEq x0 x1 x5) [Y, F] [] = st 2 I54 (xEq x0 x1 (W (x5 + 1))) [xDf x5 x0, xCe x5 x0, iN (xDE x0 x5 x1)] := by kernel_rfl
abbrev xD8 (v0 : Int) (v1 : List Str) : Prop := iN (dc (v0 < (Ln v1 : Int)))
def xGy (x0 : List Str) (x1 : Str) (x5 : Int) : rS 2 I54 (xEq x0 x1 x5) [F] [] = dn (xAN false) [xD8 x5 x0] := by kernel_rfl
def xGz (a0 : List Str) (a1 : Str) : rE I54 (xBF a0 a1) [] [] = st 2 I54 (xEq a0 a1 0) [] := by kernel_rfl
theorem xHx {N : Nat} : ∀ n x0 x1 x5 r, xBG N n x0 x1 x5 = some r → RS Try.f54 I54 2 (xEq x0 x1 x5) (xAN r) := by
 intro n
 induction n with
 | zero => exact fun _ _ _ _ h => nE h
 | succ n ih =>
  exact fun x0 x1 x5 r h =>
   cE h (fun h0 h => iE h fun h1 h => cE h (fun h2 h => dS h fk54 (xGw x0 x1 x5) (oc3 h0 h1 h2 on)) fun h2 h =>
   tS fk54 (xGx x0 x1 x5) (oc3 h0 h1 h2 on) (ih _ _ _ _ h)) fun h0 h =>
   dS h fk54 (xGy x0 x1 x5) (oc h0 on)
theorem xHy {N : Nat} : ∀ a0 a1 r, xCa N a0 a1 = some r → RE Try.f54 I54 (xBF a0 a1) (xAN r) := fun a0 a1 r h =>
 tE fk54 (xGz a0 a1) on (xHx _ _ _ _ _ h)
theorem xCh {N : Nat} {a0 : List Str} {a1 : Str} {r : Bool} (h : xCa N  a0 a1 = some r) : AbC 54 (xBF a0 a1) (xAN r) :=
 AbsCalls.of_reach fk54 rfl rfl rfl (Nat.le_of_ble_eq_true rfl) (xHy a0 a1 r h)
def G31 (q : Exp → Str → Str → (List Str) → Option (Bool)) : Prop := ∀ a0 a1 a2 a3 r, q a0 a1 a2 a3 = some r → AbC 31 (xAM a0 a1 a2 a3) (xAh r)
noncomputable def I31 : Info := { body := (Try.f31.body).getD .skip, nt := 66, results := [.tmp 8], keep := [0, 2, 4, 6, 8, 16, 18, 20, 40, 68, 98, 130, 9], live := [(4, [2, 4, 6, 8, 18, 9])], modes := [(1, [(3, .take, false)]), (2, [(4, .take, false)]), (7, [(3, .take, false), (8, .take, false)]), (9, [(7, .take, false)])] }
theorem fk31 : FnOk Try.prog 31 Try.f31 I31 := ⟨Try.func31, by kernel_rfl, by kernel_rfl, by kernel_rfl, by kernel_rfl⟩
def xCz (x1 x2 : Str) (x3 : List Str) (x9 : Int) (b4 : Exp) : St := [(2, .v false [.str x1]), (4, .v false [.str x2]), (6, .v false [.sl .ro .str x3]), (8, .v false [.ptr 4 0]), (18, .v false [.int .i64 x9]), (9, .v true [.int .i64 (Exp.kind b4), .int .i64 (Exp.n b4), .str (Exp.text b4), .sl .ro .exp (Exp.args b4)])]
abbrev xDO (v0 : Exp) := (Ln (Exp.args v0) : Int)
abbrev xDv (v0 : Int) (v1 : Exp) : Prop := iY (dc (v0 < (xDO v1)))
abbrev xEx (v0 : Exp) : Prop := iY ((Exp.kind v0) == 7)
abbrev xES (v0 : List Str) (v1 : Exp) : Prop := Ln ([] ++ v0) + Ln [(Exp.text v1)] ≤ Lim
abbrev xDw (v0 : Int) (v1 : Exp) : Prop := (0 : Int) ≤ v0 ∧ v0 < (Ln (Exp.args v1))
abbrev xEf (v0 : Exp) (v1 : Int) (v2 v3 : Str) (v4 : List Str) (v5 : Bool) : Prop := AbC 31 (xAM (gD (Exp.args v0) (tN v1) Ty.exp.dflt) v2 v3 (([] ++ v4) ++ [(Exp.text v0)])) (xAh v5)
def xFN (x1 x2 : Str) (x3 : List Str) (x9 : Int) (b4 : Exp) (r1 : Bool) : rS 4 I31 (xCz x1 x2 x3 x9 b4) [Y, Y, Y, Y, Y] [xAh r1] = dn (xAh true) [xDv x9 b4, xEx b4, iY true, iY (dc (x9 > 0)), 0 + Ln x3 ≤ Lim, xES x3 b4, xDw x9 b4, xEf b4 x9 x1 x2 x3 r1, iY r1] := by kernel_rfl
def xFO (x1 x2 : Str) (x3 : List Str) (x9 : Int) (b4 : Exp) (r1 : Bool) : rS 4 I31 (xCz x1 x2 x3 x9 b4) [Y, Y, Y, Y, F] [xAh r1] = st 4 I31 (xCz x1 x2 x3 (W (x9 + 1)) b4) [xDv x9 b4, xEx b4, iY true, iY (dc (x9 > 0)), 0 + Ln x3 ≤ Lim, xES x3 b4, xDw x9 b4, xEf b4 x9 x1 x2 x3 r1, iN r1] := by kernel_rfl
abbrev xDB (v0 : Exp) (v1 : Int) (v2 v3 : Str) (v4 : List Str) (v5 : Bool) : Prop := AbC 31 (xAM (gD (Exp.args v0) (tN v1) Ty.exp.dflt) v2 v3 v4) (xAh v5)
def xFP (x1 x2 : Str) (x3 : List Str) (x9 : Int) (b4 : Exp) (r1 : Bool) : rS 4 I31 (xCz x1 x2 x3 x9 b4) [Y, Y, Y, F, Y] [xAh r1] = dn (xAh true) [xDv x9 b4, xEx b4, iY true, iN (dc (x9 > 0)), xDw x9 b4, xDB b4 x9 x1 x2 x3 r1, iY r1] := by kernel_rfl
def xFQ (x1 x2 : Str) (x3 : List Str) (x9 : Int) (b4 : Exp) (r1 : Bool) : rS 4 I31 (xCz x1 x2 x3 x9 b4) [Y, Y, Y, F, F] [xAh r1] = st 4 I31 (xCz x1 x2 x3 (W (x9 + 1)) b4) [xDv x9 b4, xEx b4, iY true, iN (dc (x9 > 0)), xDw x9 b4, xDB b4 x9 x1 x2 x3 r1, iN r1] := by kernel_rfl
abbrev xCF (v0 : Exp) : Prop := iN ((Exp.kind v0) == 7)
abbrev xEP (v0 : Exp) := (Exp.kind v0) == 9
abbrev xDC (v0 : Exp) : Prop := iY (xEP v0)
def xFR (x1 x2 : Str) (x3 : List Str) (x9 : Int) (b4 : Exp) (r1 : Bool) : rS 4 I31 (xCz x1 x2 x3 x9 b4) [Y, F, Y, Y, Y] [xAh r1] = dn (xAh true) [xDv x9 b4, xCF b4, xDC b4, iY (dc (x9 > 0)), 0 + Ln x3 ≤ Lim, xES x3 b4, xDw x9 b4, xEf b4 x9 x1 x2 x3 r1, iY r1] := by kernel_rfl
def xFS (x1 x2 : Str) (x3 : List Str) (x9 : Int) (b4 : Exp) (r1 : Bool) : rS 4 I31 (xCz x1 x2 x3 x9 b4) [Y, F, Y, Y, F] [xAh r1] = st 4 I31 (xCz x1 x2 x3 (W (x9 + 1)) b4) [xDv x9 b4, xCF b4, xDC b4, iY (dc (x9 > 0)), 0 + Ln x3 ≤ Lim, xES x3 b4, xDw x9 b4, xEf b4 x9 x1 x2 x3 r1, iN r1] := by kernel_rfl
def xFT (x1 x2 : Str) (x3 : List Str) (x9 : Int) (b4 : Exp) (r1 : Bool) : rS 4 I31 (xCz x1 x2 x3 x9 b4) [Y, F, Y, F, Y] [xAh r1] = dn (xAh true) [xDv x9 b4, xCF b4, xDC b4, iN (dc (x9 > 0)), xDw x9 b4, xDB b4 x9 x1 x2 x3 r1, iY r1] := by kernel_rfl
def xFU (x1 x2 : Str) (x3 : List Str) (x9 : Int) (b4 : Exp) (r1 : Bool) : rS 4 I31 (xCz x1 x2 x3 x9 b4) [Y, F, Y, F, F] [xAh r1] = st 4 I31 (xCz x1 x2 x3 (W (x9 + 1)) b4) [xDv x9 b4, xCF b4, xDC b4, iN (dc (x9 > 0)), xDw x9 b4, xDB b4 x9 x1 x2 x3 r1, iN r1] := by kernel_rfl
abbrev xDD (v0 : Exp) : Prop := iN (xEP v0)
def xFV (x1 x2 : Str) (x3 : List Str) (x9 : Int) (b4 : Exp) (r1 : Bool) : rS 4 I31 (xCz x1 x2 x3 x9 b4) [Y, F, F, F, Y] [xAh r1] = dn (xAh true) [xDv x9 b4, xCF b4, xDD b4, iN false, xDw x9 b4, xDB b4 x9 x1 x2 x3 r1, iY r1] := by kernel_rfl
def xFW (x1 x2 : Str) (x3 : List Str) (x9 : Int) (b4 : Exp) (r1 : Bool) : rS 4 I31 (xCz x1 x2 x3 x9 b4) [Y, F, F, F, F] [xAh r1] = st 4 I31 (xCz x1 x2 x3 (W (x9 + 1)) b4) [xDv x9 b4, xCF b4, xDD b4, iN false, xDw x9 b4, xDB b4 x9 x1 x2 x3 r1, iN r1] := by kernel_rfl
def xE6 (x1 x2 : Str) (x3 : List Str) (x9 : Int) (b4 : Exp) : rS 4 I31 (xCz x1 x2 x3 x9 b4) [F] [] = dn (xAh false) [iN (dc (x9 < (xDO b4)))] := by kernel_rfl
abbrev xDN (v0 : Exp) : Prop := iY ((Exp.kind v0) == 3)
def xE7 (a0 : Exp) (a1 a2 : Str) (a3 : List Str) (r1 r2 : Bool) : rE I31 (xAM a0 a1 a2 a3) [Y, Y, Y] [xAN r1, xAN r2] = dn (xAh r2) [xDN a0, AbC 54 (xBF a3 (Exp.text a0)) (xAN r1), iY (!r1), iY (((Exp.text a0) : Str) == a1), AbC 54 (xBF a3 a2) (xAN r2)] := by kernel_rfl
def xE8 (a0 : Exp) (a1 a2 : Str) (a3 : List Str) (r1 : Bool) : rE I31 (xAM a0 a1 a2 a3) [Y, Y, F] [xAN r1] = dn (xAh false) [xDN a0, AbC 54 (xBF a3 (Exp.text a0)) (xAN r1), iY (!r1), iN (((Exp.text a0) : Str) == a1)] := by kernel_rfl
def xE9 (a0 : Exp) (a1 a2 : Str) (a3 : List Str) (r1 : Bool) : rE I31 (xAM a0 a1 a2 a3) [Y, F] [xAN r1] = st 4 I31 (xCz a1 a2 a3 0 a0) [xDN a0, AbC 54 (xBF a3 (Exp.text a0)) (xAN r1), iN (!r1)] := by kernel_rfl
abbrev xEg (v0 : Exp) : Prop := iN ((Exp.kind v0) == 3)
def xFa (a0 : Exp) (a1 a2 : Str) (a3 : List Str) : rE I31 (xAM a0 a1 a2 a3) [F, F] [] = st 4 I31 (xCz a1 a2 a3 0 a0) [xEg a0, iN false] := by kernel_rfl
theorem xGH {N q0} (g0 : G31 q0) : ∀ n x1 x2 x3 x9 b4 r, xAU N q0 n x1 x2 x3 x9 b4 = some r → RS Try.f31 I31 4 (xCz x1 x2 x3 x9 b4) (xAh r) := by
 intro n
 induction n with
 | zero => exact fun _ _ _ _ _ _ h => nE h
 | succ n ih =>
  exact fun x1 x2 x3 x9 b4 r h =>
   cE h (fun h0 h => cE h (fun h1 h => cE h (fun h3 h => iE h fun h4 h => iE h fun h5 h => iE h fun h6 h => bE h fun r1 h7 h => cE h (fun h8 h => dS h fk31 (xFN x1 x2 x3 x9 b4 r1) (oc9 h0 h1 rfl h3 h4 h5 h6 (g0 _ _ _ _ _ h7) h8 on)) fun h8 h =>
   tS fk31 (xFO x1 x2 x3 x9 b4 r1) (oc9 h0 h1 rfl h3 h4 h5 h6 (g0 _ _ _ _ _ h7) h8 on) (ih _ _ _ _ _ _ h)) fun h3 h =>
   iE h fun h4 h => bE h fun r1 h5 h => cE h (fun h6 h => dS h fk31 (xFP x1 x2 x3 x9 b4 r1) (oc7 h0 h1 rfl h3 h4 (g0 _ _ _ _ _ h5) h6 on)) fun h6 h =>
   tS fk31 (xFQ x1 x2 x3 x9 b4 r1) (oc7 h0 h1 rfl h3 h4 (g0 _ _ _ _ _ h5) h6 on) (ih _ _ _ _ _ _ h)) fun h1 h =>
   cE h (fun h2 h => cE h (fun h3 h => iE h fun h4 h => iE h fun h5 h => iE h fun h6 h => bE h fun r1 h7 h => cE h (fun h8 h => dS h fk31 (xFR x1 x2 x3 x9 b4 r1) (oc9 h0 h1 h2 h3 h4 h5 h6 (g0 _ _ _ _ _ h7) h8 on)) fun h8 h =>
   tS fk31 (xFS x1 x2 x3 x9 b4 r1) (oc9 h0 h1 h2 h3 h4 h5 h6 (g0 _ _ _ _ _ h7) h8 on) (ih _ _ _ _ _ _ h)) fun h3 h =>
   iE h fun h4 h => bE h fun r1 h5 h => cE h (fun h6 h => dS h fk31 (xFT x1 x2 x3 x9 b4 r1) (oc7 h0 h1 h2 h3 h4 (g0 _ _ _ _ _ h5) h6 on)) fun h6 h =>
   tS fk31 (xFU x1 x2 x3 x9 b4 r1) (oc7 h0 h1 h2 h3 h4 (g0 _ _ _ _ _ h5) h6 on) (ih _ _ _ _ _ _ h)) fun h2 h =>
   iE h fun h4 h => bE h fun r1 h5 h => cE h (fun h6 h => dS h fk31 (xFV x1 x2 x3 x9 b4 r1) (oc7 h0 h1 h2 rfl h4 (g0 _ _ _ _ _ h5) h6 on)) fun h6 h =>
   tS fk31 (xFW x1 x2 x3 x9 b4 r1) (oc7 h0 h1 h2 rfl h4 (g0 _ _ _ _ _ h5) h6 on) (ih _ _ _ _ _ _ h)) fun h0 h =>
   dS h fk31 (xE6 x1 x2 x3 x9 b4) (oc h0 on)
theorem xHg {N q0} (g0 : G31 q0) : ∀ a0 a1 a2 a3 r, xB3 N q0 a0 a1 a2 a3 = some r → RE Try.f31 I31 (xAM a0 a1 a2 a3) (xAh r) := fun a0 a1 a2 a3 r h =>
 cE h (fun h0 h => bE h fun r1 h1 h => cE h (fun h2 h => cE h (fun h3 h => bE h fun r2 h4 h => dE h fk31 (xE7 a0 a1 a2 a3 r1 r2) (oc5 h0 (xCh h1) h2 h3 (xCh h4) on)) fun h3 h =>
 dE h fk31 (xE8 a0 a1 a2 a3 r1) (oc4 h0 (xCh h1) h2 h3 on)) fun h2 h =>
 tE fk31 (xE9 a0 a1 a2 a3 r1) (oc3 h0 (xCh h1) h2 on) (xGH g0 _ _ _ _ _ _ _ h)) fun h0 h =>
 tE fk31 (xFa a0 a1 a2 a3) (oc2 h0 rfl on) (xGH g0 _ _ _ _ _ _ _ h)
theorem xCI {N q0} (g0 : G31 q0) {a0} {a1} {a2} {a3} {r} (h : xB3 N q0 a0 a1 a2 a3 = some r) : AbC 31 (xAM a0 a1 a2 a3) (xAh r) :=
 AbsCalls.of_reach fk31 rfl rfl rfl (Nat.le_of_ble_eq_true rfl) (xHg g0 a0 a1 a2 a3 r h)
theorem xCM {N : Nat} : ∀ d, G31 (xCs N d)
 | 0 => fun _ _ _ _ _ h => nE h
 | d + 1 => fun _ _ _ _ _ h => xCI (N := N) (xCM d) h
noncomputable def I34 : Info := { body := (Try.f34.body).getD .skip, nt := 19, results := [.tmp 4], keep := [0, 2, 8, 10, 12, 14, 16, 18, 20, 32], live := [(2, [2, 14, 16, 18])], modes := [(4, [(0, .take, false)]), (5, [(0, .take, false)]), (6, [(1, .take, false)])] }
theorem fk34 : FnOk Try.prog 34 Try.f34 I34 := ⟨Try.func34, by kernel_rfl, by kernel_rfl, by kernel_rfl, by kernel_rfl⟩
def xEo (x1 : Str) (x7 : List Str) (x8 x9 : Int) : St := [(2, .v false [.str x1]), (14, .v false [.sl .ro .str x7]), (16, .v false [.int .i64 x8]), (18, .v false [.int .i64 x9])]
def xF0 (x1 : Str) (x7 : List Str) (x8 x9 : Int) : rS 2 I34 (xEo x1 x7 x8 x9) [Y, Y] [] = dn (xAy x9) [iY (dc (x9 < x8)), xCe x9 x7, iY (xDE x7 x9 x1)] := by kernel_rfl
def xF1 (x1 : Str) (x7 : List Str) (x8 x9 : Int) : rS 2 I34 (xEo x1 x7 x8 x9) [Y, F] [] = st 2 I34 (xEo x1 x7 x8 (W (x9 + 1))) [iY (dc (x9 < x8)), xCe x9 x7, iN (xDE x7 x9 x1)] := by kernel_rfl
def xF2 (x1 : Str) (x7 : List Str) (x8 x9 : Int) : rS 2 I34 (xEo x1 x7 x8 x9) [F] [] = dn (xAy (-1)) [iN (dc (x9 < x8))] := by kernel_rfl
def xF3 (a0 : List Str) (a1 : Str) : rE I34 (xBj a0 a1) [] [] = st 2 I34 (xEo a1 a0 (Ln a0 : Int) 0) [] := by kernel_rfl
theorem xHj {N : Nat} : ∀ n x1 x7 x8 x9 r, xBk N n x1 x7 x8 x9 = some r → RS Try.f34 I34 2 (xEo x1 x7 x8 x9) (xAy r) := by
 intro n
 induction n with
 | zero => exact fun _ _ _ _ _ h => nE h
 | succ n ih =>
  exact fun x1 x7 x8 x9 r h =>
   cE h (fun h0 h => iE h fun h1 h => cE h (fun h2 h => dS h fk34 (xF0 x1 x7 x8 x9) (oc3 h0 h1 h2 on)) fun h2 h =>
   tS fk34 (xF1 x1 x7 x8 x9) (oc3 h0 h1 h2 on) (ih _ _ _ _ _ h)) fun h0 h =>
   dS h fk34 (xF2 x1 x7 x8 x9) (oc h0 on)
theorem xHk {N : Nat} : ∀ a0 a1 r, xBp N a0 a1 = some r → RE Try.f34 I34 (xBj a0 a1) (xAy r) := fun a0 a1 r h =>
 tE fk34 (xF3 a0 a1) on (xHj _ _ _ _ _ _ h)
theorem xB5 {N : Nat} {a0 : List Str} {a1 : Str} {r : Int} (h : xBp N  a0 a1 = some r) : AbC 34 (xBj a0 a1) (xAy r) :=
 AbsCalls.of_reach fk34 rfl rfl rfl (Nat.le_of_ble_eq_true rfl) (xHk a0 a1 r h)
def xDm (q : Exp → (List Str) → (List Str) → Option ((List Str))) : Prop := ∀ a0 a1 a2 r, q a0 a1 a2 = some r → AbC 35 (xAd a0 a1 a2) (xAb r)
noncomputable def xA7 : Info := { body := (Try.f35.body).getD .skip, nt := 82, results := [], keep := [0, 2, 4, 8, 12, 14, 16, 18, 38, 48, 96, 114, 116, 118, 120, 138, 2000006, 1, 9, 17, 2000007], live := [(8, [0, 4, 8, 12, 114, 116, 118, 2000006, 1, 9, 2000007])], modes := [(1, [(3, .take, false)]), (4, [(3, .take, false)]), (5, [(1, .take, false)]), (11, [(1, .take, false), (2, .take, false)]), (12, [(6, .cp, true)]), (13, [(2, .take, false), (3, .take, false)]), (14, [(1, .take, false)])], ext := [0, 1000003] }
theorem xBW : FnOk Try.prog 35 Try.f35 xA7 := ⟨Try.func35, by kernel_rfl, by kernel_rfl, by kernel_rfl, by kernel_rfl⟩
def xBw (x2 : List Str) (x6 : Bool) (x57 : List Exp) (x58 x59 : Int) (b4 : Exp) (b1000003 : List Str) : St := [(0, .v false [.ptr 0 0]), (4, .v false [.sl .ro .str x2]), (8, .v false [.ptr 4 0]), (12, .v false [.bool x6]), (114, .v false [.sl .ro .exp x57]), (116, .v false [.int .i64 x58]), (118, .v false [.int .i64 x59]), (1, .v true [.val .nilFunc, .clo 47 [1000003]]), (9, .v true [.int .i64 (Exp.kind b4), .int .i64 (Exp.n b4), .str (Exp.text b4), .sl .ro .exp (Exp.args b4)]), (2000007, .v true [.sl .own .str b1000003])]
def xDP (x2 : List Str) (x6 : Bool) (x57 : List Exp) (x58 x59 : Int) (b4 : Exp) (b1000003 : List Str) (r1 : (List Str)) : rS 8 xA7 (xBw x2 x6 x57 x58 x59 b4 b1000003) [Y, Y, Y] [cl (xAb r1)] = st 8 xA7 (xBw x2 x6 x57 x58 (W (x59 + 1)) b4 r1) [iY (dc (x59 < x58)), xDk x59 x57, iY x6, iY (dc (x59 > 0)), 0 + Ln x2 ≤ Lim, xES x2 b4, AbC 35 (xAd (xCV x57 x59) (([] ++ x2) ++ [(Exp.text b4)]) b1000003) (xAb r1)] := by kernel_rfl
def xDQ (x2 : List Str) (x6 : Bool) (x57 : List Exp) (x58 x59 : Int) (b4 : Exp) (b1000003 : List Str) (r1 : (List Str)) : rS 8 xA7 (xBw x2 x6 x57 x58 x59 b4 b1000003) [Y, Y, F] [cl (xAb r1)] = st 8 xA7 (xBw x2 x6 x57 x58 (W (x59 + 1)) b4 r1) [iY (dc (x59 < x58)), xDk x59 x57, iY x6, iN (dc (x59 > 0)), AbC 35 (xAd (xCV x57 x59) x2 b1000003) (xAb r1)] := by kernel_rfl
def xDR (x2 : List Str) (x6 : Bool) (x57 : List Exp) (x58 x59 : Int) (b4 : Exp) (b1000003 : List Str) (r1 : (List Str)) : rS 8 xA7 (xBw x2 x6 x57 x58 x59 b4 b1000003) [Y, F, F] [cl (xAb r1)] = st 8 xA7 (xBw x2 x6 x57 x58 (W (x59 + 1)) b4 r1) [iY (dc (x59 < x58)), xDk x59 x57, iN x6, iN false, AbC 35 (xAd (xCV x57 x59) x2 b1000003) (xAb r1)] := by kernel_rfl
def xDS (x2 : List Str) (x6 : Bool) (x57 : List Exp) (x58 x59 : Int) (b4 : Exp) (b1000003 : List Str) : rS 8 xA7 (xBw x2 x6 x57 x58 x59 b4 b1000003) [F] [] = dn (xAb b1000003) [iN (dc (x59 < x58))] := by kernel_rfl
abbrev xEQ (v0 : List Str) (v1 : Exp) (v2 : List Str) := xBw v0 ((Exp.kind v1) == 9) (Exp.args v1) (Ln (Exp.args v1) : Int) 0 v1 v2
def xDT (a0 : Exp) (a1 a2 : List Str) (r1 : Int) : rE xA7 (xAd a0 a1 a2) [Y, Y, F, F, F, F] [xAy r1] = st 8 xA7 (xEQ a1 a0 a2) [xDN a0, AbC 34 (xBj a1 (Exp.text a0)) (xAy r1), iY (dc (r1 < 0)), iN false, xCF a0, xDD a0, iN false] := by kernel_rfl
def xDU (a0 : Exp) (a1 a2 : List Str) (r1 : Int) : rE xA7 (xAd a0 a1 a2) [Y, F, F, F, F] [xAy r1] = st 8 xA7 (xEQ a1 a0 a2) [xDN a0, AbC 34 (xBj a1 (Exp.text a0)) (xAy r1), xCx r1, xCF a0, xDD a0, iN false] := by kernel_rfl
def xDV (a0 : Exp) (a1 a2 : List Str) (r1 : (List Str)) : rE xA7 (xAd a0 a1 a2) [F, F, Y, Y, Y] [xAO r1] = st 8 xA7 (xBw a1 true (Exp.args a0) (xDO a0) 0 a0 r1) [xEg a0, iN false, xEx a0, iY true, iY true, AbC 47 (xBb (Exp.text a0) a2) (xAO r1)] := by kernel_rfl
def xDW (a0 : Exp) (a1 a2 : List Str) (r1 : (List Str)) : rE xA7 (xAd a0 a1 a2) [F, F, F, Y, Y] [xAO r1] = st 8 xA7 (xBw a1 (xEP a0) (Exp.args a0) (xDO a0) 0 a0 r1) [xEg a0, iN false, xCF a0, xDC a0, iY true, AbC 47 (xBb (Exp.text a0) a2) (xAO r1)] := by kernel_rfl
def xDX (a0 : Exp) (a1 a2 : List Str) : rE xA7 (xAd a0 a1 a2) [F, F, F, F, F] [] = st 8 xA7 (xEQ a1 a0 a2) [xEg a0, iN false, xCF a0, xDD a0, iN false] := by kernel_rfl
theorem xCv {N q0} (g0 : xDm q0) : ∀ n x2 x6 x57 x58 x59 b4 b1000003 r, xAa N q0 n x2 x6 x57 x58 x59 b4 b1000003 = some r → RS Try.f35 xA7 8 (xBw x2 x6 x57 x58 x59 b4 b1000003) (xAb r) := by
 intro n
 induction n with
 | zero => exact fun _ _ _ _ _ _ _ _ h => nE h
 | succ n ih =>
  exact fun x2 x6 x57 x58 x59 b4 b1000003 r h =>
   cE h (fun h0 h => iE h fun h1 h => cE h (fun h2 h => cE h (fun h3 h => iE h fun h4 h => iE h fun h5 h => bE h fun r1 h6 h => tS xBW (xDP x2 x6 x57 x58 x59 b4 b1000003 r1) (oc7 h0 h1 h2 h3 h4 h5 (g0 _ _ _ _ h6) on) (ih _ _ _ _ _ _ _ _ h)) fun h3 h =>
   bE h fun r1 h4 h => tS xBW (xDQ x2 x6 x57 x58 x59 b4 b1000003 r1) (oc5 h0 h1 h2 h3 (g0 _ _ _ _ h4) on) (ih _ _ _ _ _ _ _ _ h)) fun h2 h =>
   bE h fun r1 h4 h => tS xBW (xDR x2 x6 x57 x58 x59 b4 b1000003 r1) (oc5 h0 h1 h2 rfl (g0 _ _ _ _ h4) on) (ih _ _ _ _ _ _ _ _ h)) fun h0 h =>
   dS h xBW (xDS x2 x6 x57 x58 x59 b4 b1000003) (oc h0 on)
theorem xEs {N q0} (g0 : xDm q0) : ∀ a0 a1 a2 r, xAt N q0 a0 a1 a2 = some r → RE Try.f35 xA7 (xAd a0 a1 a2) (xAb r) := fun a0 a1 a2 r h =>
 cE h (fun h0 h => bE h fun r1 h1 h => cE h (fun h2 h => tE xBW (xDT a0 a1 a2 r1) (oc7 h0 (xB5 h1) h2 rfl (eq_ne h0 rfl) (eq_ne h0 rfl) rfl on) (xCv g0 _ _ _ _ _ _ _ _ _ h)) fun h2 h =>
 tE xBW (xDU a0 a1 a2 r1) (oc6 h0 (xB5 h1) h2 (eq_ne h0 rfl) (eq_ne h0 rfl) rfl on) (xCv g0 _ _ _ _ _ _ _ _ _ h)) fun h0 h =>
 cE h (fun h2 h => bE h fun r1 h5 h => tE xBW (xDV a0 a1 a2 r1) (oc6 h0 rfl h2 rfl rfl (xCf h5) on) (xCv g0 _ _ _ _ _ _ _ _ _ h)) fun h2 h =>
 cE h (fun h3 h => bE h fun r1 h5 h => tE xBW (xDW a0 a1 a2 r1) (oc6 h0 rfl h2 h3 rfl (xCf h5) on) (xCv g0 _ _ _ _ _ _ _ _ _ h)) fun h3 h =>
 tE xBW (xDX a0 a1 a2) (oc5 h0 rfl h2 h3 rfl on) (xCv g0 _ _ _ _ _ _ _ _ _ h)
theorem xBP {N q0} (g0 : xDm q0) {a0} {a1} {a2} {r} (h : xAt N q0 a0 a1 a2 = some r) : AbC 35 (xAd a0 a1 a2) (xAb r) :=
 AbsCalls.of_reach xBW rfl rfl rfl (Nat.le_of_ble_eq_true rfl) (xEs g0 a0 a1 a2 r h)
theorem xA9 {N : Nat} : ∀ d, xDm (xAs N d)
 | 0 => fun _ _ _ _ h => nE h
 | d + 1 => fun _ _ _ _ h => xBP (N := N) (xA9 d) h
theorem xB4 {N : Nat} {a0 : Exp} {a1 : List Str} {a2 : List Str} {r : (List Str)} (h : xA0 N a0 a1 a2 = some r) : AbC 35 (xAd a0 a1 a2) (xAb r) := xA9 N _ _ _ r h
def G12 (q : Exp → Exp → Option (Bool)) : Prop := ∀ a0 a1 r, q a0 a1 = some r → AbC 12 (xAI a0 a1) (xAn r)
def G36 (q : (List Exp) → (List Exp) → Option (Bool)) : Prop := ∀ a0 a1 r, q a0 a1 = some r → AbC 36 (xBl a0 a1) (xAE r)
noncomputable def I12 : Info := { body := (Try.f12.body).getD .skip, nt := 26, results := [.tmp 4], keep := [0, 2, 4, 6, 8, 18, 28, 38, 50, 5, 7], live := [], modes := [] }
theorem fk12 : FnOk Try.prog 12 Try.f12 I12 := ⟨Try.func12, by kernel_rfl, by kernel_rfl, by kernel_rfl, by kernel_rfl⟩
def xFo (a0 a1 : Exp) : rE I12 (xAI a0 a1) [Y] [] = dn (xAn false) [iY ((Exp.kind a0) != (Exp.kind a1))] := by kernel_rfl
abbrev xEh (v0 v1 : Exp) : Prop := iN ((Exp.kind v0) != (Exp.kind v1))
def xFp (a0 a1 : Exp) : rE I12 (xAI a0 a1) [F, Y] [] = dn (xAn false) [xEh a0 a1, iY ((Exp.n a0) != (Exp.n a1))] := by kernel_rfl
def xFq (a0 a1 : Exp) : rE I12 (xAI a0 a1) [F, F, Y] [] = dn (xAn false) [xEh a0 a1, iN ((Exp.n a0) != (Exp.n a1)), iY (!(((Exp.text a0) : Str) == (Exp.text a1)))] := by kernel_rfl
def xFr (a0 a1 : Exp) (r1 : Bool) : rE I12 (xAI a0 a1) [F, F, F, Y] [xAE r1] = dn (xAn false) [xEh a0 a1, iN ((Exp.n a0) != (Exp.n a1)), iN (!(((Exp.text a0) : Str) == (Exp.text a1))), AbC 36 (xBl (Exp.args a0) (Exp.args a1)) (xAE r1), iY (!r1)] := by kernel_rfl
def xFs (a0 a1 : Exp) (r1 : Bool) : rE I12 (xAI a0 a1) [F, F, F, F] [xAE r1] = dn (xAn true) [xEh a0 a1, iN ((Exp.n a0) != (Exp.n a1)), iN (!(((Exp.text a0) : Str) == (Exp.text a1))), AbC 36 (xBl (Exp.args a0) (Exp.args a1)) (xAE r1), iN (!r1)] := by kernel_rfl
theorem xG4 {N q0 q1} (g0 : G12 q0) (g1 : G36 q1) : ∀ a0 a1 r, xBH N q0 q1 a0 a1 = some r → RE Try.f12 I12 (xAI a0 a1) (xAn r) := fun a0 a1 r h =>
 cE h (fun h0 h => dE h fk12 (xFo a0 a1) (oc h0 on)) fun h0 h =>
 cE h (fun h1 h => dE h fk12 (xFp a0 a1) (oc2 h0 h1 on)) fun h1 h =>
 cE h (fun h2 h => dE h fk12 (xFq a0 a1) (oc3 h0 h1 h2 on)) fun h2 h =>
 bE h fun r1 h3 h => cE h (fun h4 h => dE h fk12 (xFr a0 a1 r1) (oc5 h0 h1 h2 (g1 _ _ _ h3) h4 on)) fun h4 h =>
 dE h fk12 (xFs a0 a1 r1) (oc5 h0 h1 h2 (g1 _ _ _ h3) h4 on)
theorem xCW {N q0 q1} (g0 : G12 q0) (g1 : G36 q1) {a0} {a1} {r} (h : xBH N q0 q1 a0 a1 = some r) : AbC 12 (xAI a0 a1) (xAn r) :=
 AbsCalls.of_reach fk12 rfl rfl rfl (Nat.le_of_ble_eq_true rfl) (xG4 g0 g1 a0 a1 r h)
noncomputable def I36 : Info := { body := (Try.f36.body).getD .skip, nt := 27, results := [.tmp 4], keep := [0, 2, 8, 10, 20, 28, 52], live := [(4, [0, 2, 10])], modes := [] }
theorem fk36 : FnOk Try.prog 36 Try.f36 I36 := ⟨Try.func36, by kernel_rfl, by kernel_rfl, by kernel_rfl, by kernel_rfl⟩
def xEp (x0 x1 : List Exp) (x5 : Int) : St := [(0, .v false [.sl .ro .exp x0]), (2, .v false [.sl .ro .exp x1]), (10, .v false [.int .i64 x5])]
def xF4 (x0 x1 : List Exp) (x5 : Int) (r1 : Bool) : rS 4 I36 (xEp x0 x1 x5) [Y, Y] [xAn r1] = dn (xAE false) [xEw x5 x0, xDk x5 x0, xDk x5 x1, AbC 12 (xAI (xCV x0 x5) (xCV x1 x5)) (xAn r1), iY (!r1)] := by kernel_rfl
def xF5 (x0 x1 : List Exp) (x5 : Int) (r1 : Bool) : rS 4 I36 (xEp x0 x1 x5) [Y, F] [xAn r1] = st 4 I36 (xEp x0 x1 (W (x5 + 1))) [xEw x5 x0, xDk x5 x0, xDk x5 x1, AbC 12 (xAI (xCV x0 x5) (xCV x1 x5)) (xAn r1), iN (!r1)] := by kernel_rfl
def xF6 (x0 x1 : List Exp) (x5 : Int) : rS 4 I36 (xEp x0 x1 x5) [F] [] = dn (xAE true) [iN (dc (x5 < (Ln x0 : Int)))] := by kernel_rfl
def xF7 (a0 a1 : List Exp) : rE I36 (xBl a0 a1) [Y] [] = dn (xAE false) [iY ((Ln a0 : Int) != (Ln a1 : Int))] := by kernel_rfl
def xF8 (a0 a1 : List Exp) : rE I36 (xBl a0 a1) [F] [] = st 4 I36 (xEp a0 a1 0) [iN ((Ln a0 : Int) != (Ln a1 : Int))] := by kernel_rfl
theorem xHl {N q0 q1} (g0 : G12 q0) (g1 : G36 q1) : ∀ n x0 x1 x5 r, xBy N q0 q1 n x0 x1 x5 = some r → RS Try.f36 I36 4 (xEp x0 x1 x5) (xAE r) := by
 intro n
 induction n with
 | zero => exact fun _ _ _ _ h => nE h
 | succ n ih =>
  exact fun x0 x1 x5 r h =>
   cE h (fun h0 h => iE h fun h1 h => iE h fun h2 h => bE h fun r1 h3 h => cE h (fun h4 h => dS h fk36 (xF4 x0 x1 x5 r1) (oc5 h0 h1 h2 (g0 _ _ _ h3) h4 on)) fun h4 h =>
   tS fk36 (xF5 x0 x1 x5 r1) (oc5 h0 h1 h2 (g0 _ _ _ h3) h4 on) (ih _ _ _ _ h)) fun h0 h =>
   dS h fk36 (xF6 x0 x1 x5) (oc h0 on)
theorem xHm {N q0 q1} (g0 : G12 q0) (g1 : G36 q1) : ∀ a0 a1 r, xBz N q0 q1 a0 a1 = some r → RE Try.f36 I36 (xBl a0 a1) (xAE r) := fun a0 a1 r h =>
 cE h (fun h0 h => dE h fk36 (xF7 a0 a1) (oc h0 on)) fun h0 h =>
 tE fk36 (xF8 a0 a1) (oc h0 on) (xHl g0 g1 _ _ _ _ _ h)
theorem xCO {N q0 q1} (g0 : G12 q0) (g1 : G36 q1) {a0} {a1} {r} (h : xBz N q0 q1 a0 a1 = some r) : AbC 36 (xBl a0 a1) (xAE r) :=
 AbsCalls.of_reach fk36 rfl rfl rfl (Nat.le_of_ble_eq_true rfl) (xHm g0 g1 a0 a1 r h)
theorem xC2 {N : Nat} : ∀ d, G12 (xAz N d).c_laws_eqExpr ∧ G36 (xAz N d).c_laws_eqExprS := by
 intro d
 induction d with
 | zero => exact ⟨fun _ _ _ h => nE h, fun _ _ _ h => nE h⟩
 | succ d ih =>
  obtain ⟨ih0, ih1⟩ := ih
  exact ⟨fun _ _ _ h => xCW (N := N) ih0 ih1 h, fun _ _ _ h => xCO (N := N) ih0 ih1 h⟩
theorem xA6 {N : Nat} {a0 : Exp} {a1 : Exp} {r : Bool} (h : xCA N a0 a1 = some r) : AbC 12 (xAI a0 a1) (xAn r) := (xC2 N).1 _ _ r h
def G46 (q : Exp → Option ((List Str))) : Prop := ∀ a0 r, q a0 = some r → AbC 46 (xAQ a0) (xAL r)
noncomputable def I46 : Info := { body := (Try.f46.body).getD .skip, nt := 35, results := [.tmp 2], keep := [0, 2, 4, 6, 8, 26, 46, 3], live := [(5, [2, 6, 8, 3])], modes := [(2, [(3, .take, false)]), (3, [(0, .take, false)]), (7, [(0, .take, false)]), (8, [(0, .take, false)])] }
theorem fk46 : FnOk Try.prog 46 Try.f46 I46 := ⟨Try.func46, by kernel_rfl, by kernel_rfl, by kernel_rfl, by kernel_rfl⟩
def xD4 (x3 : List Str) (x4 : Int) (b1 : Exp) : St := [(2, .v false [.ptr 1 0]), (6, .v false [.sl .own .str x3]), (8, .v false [.int .i64 x4]), (3, .v true [.int .i64 (Exp.kind b1), .int .i64 (Exp.n b1), .str (Exp.text b1), .sl .ro .exp (Exp.args b1)])]
def xGj (x3 : List Str) (x4 : Int) (b1 : Exp) (r1 : (List Str)) : rS 5 I46 (xD4 x3 x4 b1) [Y] [xAL r1] = st 5 I46 (xD4 (x3 ++ r1) (W (x4 + 1)) b1) [xDv x4 b1, xDw x4 b1, AbC 46 (xAQ (gD (Exp.args b1) (tN x4) Ty.exp.dflt)) (xAL r1), Ln x3 + Ln r1 ≤ Lim] := by kernel_rfl
def xGk (x3 : List Str) (x4 : Int) (b1 : Exp) : rS 5 I46 (xD4 x3 x4 b1) [F] [] = dn (xAL x3) [iN (dc (x4 < (xDO b1)))] := by kernel_rfl
def xGl (a0 : Exp) : rE I46 (xAQ a0) [Y, Y] [] = st 5 I46 (xD4 ([] ++ [(Exp.text a0)]) 0 a0) [xEx a0, iY true, 0 + Ln [(Exp.text a0)] ≤ Lim] := by kernel_rfl
def xGm (a0 : Exp) : rE I46 (xAQ a0) [F, Y] [] = st 5 I46 (xD4 ([] ++ [(Exp.text a0)]) 0 a0) [xCF a0, xDC a0, 0 + Ln [(Exp.text a0)] ≤ Lim] := by kernel_rfl
def xGn (a0 : Exp) : rE I46 (xAQ a0) [F, F] [] = st 5 I46 (xD4 [] 0 a0) [xCF a0, xDD a0] := by kernel_rfl
theorem xFj {N q0} (g0 : G46 q0) : ∀ n x3 x4 b1 r, xAK N q0 n x3 x4 b1 = some r → RS Try.f46 I46 5 (xD4 x3 x4 b1) (xAL r) := by
 intro n
 induction n with
 | zero => exact fun _ _ _ _ h => nE h
 | succ n ih =>
  exact fun x3 x4 b1 r h =>
   cE h (fun h0 h => iE h fun h1 h => bE h fun r1 h2 h => iE h fun h3 h => tS fk46 (xGj x3 x4 b1 r1) (oc4 h0 h1 (g0 _ _ h2) h3 on) (ih _ _ _ _ h)) fun h0 h =>
   dS h fk46 (xGk x3 x4 b1) (oc h0 on)
theorem xHs {N q0} (g0 : G46 q0) : ∀ a0 r, xBs N q0 a0 = some r → RE Try.f46 I46 (xAQ a0) (xAL r) := fun a0 r h =>
 cE h (fun h0 h => iE h fun h2 h => tE fk46 (xGl a0) (oc3 h0 rfl h2 on) (xFj g0 _ _ _ _ _ h)) fun h0 h =>
 cE h (fun h1 h => iE h fun h2 h => tE fk46 (xGm a0) (oc3 h0 h1 h2 on) (xFj g0 _ _ _ _ _ h)) fun h1 h =>
 tE fk46 (xGn a0) (oc2 h0 h1 on) (xFj g0 _ _ _ _ _ h)
theorem xCL {N q0} (g0 : G46 q0) {a0} {r} (h : xBs N q0 a0 = some r) : AbC 46 (xAQ a0) (xAL r) :=
 AbsCalls.of_reach fk46 rfl rfl rfl (Nat.le_of_ble_eq_true rfl) (xHs g0 a0 r h)
theorem xCg {N : Nat} : ∀ d, G46 (xBi N d)
 | 0 => fun _ _ h => nE h
 | d + 1 => fun _ _ h => xCL (N := N) (xCg d) h
theorem xDl {N : Nat} {a0 : Exp} {r : (List Str)} (h : xCC N a0 = some r) : AbC 46 (xAQ a0) (xAL r) := xCg N _ r h
noncomputable def I45 : Info := { body := (Try.f45.body).getD .skip, nt := 63, results := [.tmp 2], keep := [0, 4, 6, 8, 10, 12, 22, 56, 90], live := [(3, [0, 6, 8]), (6, [0, 6, 8, 10])], modes := [(6, [(4, .take, false)]), (8, [(4, .take, false)]), (10, [(0, .take, false), (2, .take, false), (9, .take, false)]), (11, [(0, .take, false)])] }
theorem fk45 : FnOk Try.prog 45 Try.f45 I45 := ⟨Try.func45, by kernel_rfl, by kernel_rfl, by kernel_rfl, by kernel_rfl⟩
def xDL (x0 x3 : List Str) (x4 : Int) : St := [(0, .v false [.sl .ro .str x0]), (6, .v false [.sl .own .str x3]), (8, .v false [.int .i64 x4])]
def xD3 (x0 x3 : List Str) (x4 x5 : Int) : St := [(0, .v false [.sl .ro .str x0]), (6, .v false [.sl .own .str x3]), (8, .v false [.int .i64 x4]), (10, .v false [.int .i64 x5])]
abbrev xER (v0 : List Str) (v1 : Int) (v2 : List Str) (v3 : Int) := Op.bytesLess (gD v0 (tN v1) Ty.str.dflt) (gD v2 (tN v3) Ty.str.dflt)
def xGe (x0 x3 : List Str) (x4 x5 : Int) : rS 6 I45 (xD3 x0 x3 x4 x5) [Y, Y] [] = st 6 I45 (xD3 x0 x3 x4 (W (x5 + 1))) [xDf x5 x3, xCe x5 x3, xCe x4 x0, iY (xER x3 x5 x0 x4)] := by kernel_rfl
abbrev xEi (v0 : List Str) (v1 : Int) := ((gD v0 (tN v1) Ty.str.dflt) : Str)
abbrev xCr (v0 : List Str) (v1 : Int) := gD v0 (tN v1) Ty.str.dflt
def xGf (x0 x3 : List Str) (x4 x5 : Int) : rS 6 I45 (xD3 x0 x3 x4 x5) [Y, F, Y, Y] [] = st 3 I45 (xDL x0 x3 (W (x4 + 1))) [xDf x5 x3, xCe x5 x3, xCe x4 x0, iN (xER x3 x5 x0 x4), xDf x5 x3, xCe x5 x3, xCe x4 x0, iY ((xEi x3 x5) == (xCr x0 x4))] := by kernel_rfl
def xGg (x0 x3 : List Str) (x4 x5 : Int) : rS 6 I45 (xD3 x0 x3 x4 x5) [Y, F, Y, F] [] = st 3 I45 (xDL x0 (((List.take (tN x5) x3) ++ [(xCr x0 x4)]) ++ ([] ++ (List.drop (tN x5) x3))) (W (x4 + 1))) [xDf x5 x3, xCe x5 x3, xCe x4 x0, iN (xER x3 x5 x0 x4), xDf x5 x3, xCe x5 x3, xCe x4 x0, iN ((xEi x3 x5) == (xCr x0 x4)), (0 : Int) ≤ x5 ∧ x5 ≤ (Ln x3), 0 + Ln (List.drop (tN x5) x3) ≤ Lim, (0 : Int) ≤ x5 ∧ x5 ≤ (Ln x3), xCe x4 x0, Ln (List.take (tN x5) x3) + Ln [(xCr x0 x4)] ≤ Lim, Ln ((List.take (tN x5) x3) ++ [(xCr x0 x4)]) + Ln ([] ++ (List.drop (tN x5) x3)) ≤ Lim] := by kernel_rfl
def xGh (x0 x3 : List Str) (x4 x5 : Int) : rS 6 I45 (xD3 x0 x3 x4 x5) [F, F, F, F] [] = st 3 I45 (xDL x0 (((List.take (tN x5) x3) ++ [(xCr x0 x4)]) ++ ([] ++ (List.drop (tN x5) x3))) (W (x4 + 1))) [xD8 x5 x3, iN false, xD8 x5 x3, iN false, (0 : Int) ≤ x5 ∧ x5 ≤ (Ln x3), 0 + Ln (List.drop (tN x5) x3) ≤ Lim, (0 : Int) ≤ x5 ∧ x5 ≤ (Ln x3), xCe x4 x0, Ln (List.take (tN x5) x3) + Ln [(xCr x0 x4)] ≤ Lim, Ln ((List.take (tN x5) x3) ++ [(xCr x0 x4)]) + Ln ([] ++ (List.drop (tN x5) x3)) ≤ Lim] := by kernel_rfl
def xGc (x0 x3 : List Str) (x4 : Int) : rS 3 I45 (xDL x0 x3 x4) [Y] [] = st 6 I45 (xD3 x0 x3 x4 0) [xDf x4 x0] := by kernel_rfl
def xGd (x0 x3 : List Str) (x4 : Int) : rS 3 I45 (xDL x0 x3 x4) [F] [] = dn (xAT x3) [xD8 x4 x0] := by kernel_rfl
def xGi (a0 : List Str) : rE I45 (xBV a0) [] [] = st 3 I45 (xDL a0 [] 0) [] := by kernel_rfl
theorem xHq {N : Nat} {k3 : (List Str) → (List Str) → Int → Option ((List Str))} (hk3 : ∀ z0 z1 z2 r, k3 z0 z1 z2 = some r → RS Try.f45 I45 3 (xDL z0 z1 z2) (xAT r)) : ∀ n x0 x3 x4 x5 r, xA5 N k3 n x0 x3 x4 x5 = some r → RS Try.f45 I45 6 (xD3 x0 x3 x4 x5) (xAT r) := by
 intro n
 induction n with
 | zero => exact fun _ _ _ _ _ h => nE h
 | succ n ih =>
  exact fun x0 x3 x4 x5 r h =>
   cE h (fun h0 h => iE h fun h1 h => iE h fun h2 h => cE h (fun h3 h => tS fk45 (xGe x0 x3 x4 x5) (oc4 h0 h1 h2 h3 on) (ih _ _ _ _ _ h)) fun h3 h =>
   cE h (fun h7 h => tS fk45 (xGf x0 x3 x4 x5) (oc8 h0 h1 h2 h3 h0 h1 h2 h7 on) (hk3 _ _ _ _ h)) fun h7 h =>
   iE h fun h8 h => iE h fun h9 h => iE h fun h12 h => iE h fun h13 h => tS fk45 (xGg x0 x3 x4 x5) (oc12 h0 h1 h2 h3 h0 h1 h2 h7 h8 h9 h8 h2 (oc2 h12 h13 on)) (hk3 _ _ _ _ h)) fun h0 h =>
   iE h fun h4 h => iE h fun h5 h => iE h fun h7 h => iE h fun h8 h => iE h fun h9 h => tS fk45 (xGh x0 x3 x4 x5) (oc10 h0 rfl h0 rfl h4 h5 h4 h7 h8 h9 on) (hk3 _ _ _ _ h)
theorem xHp {N : Nat} : ∀ n x0 x3 x4 r, xBh N n x0 x3 x4 = some r → RS Try.f45 I45 3 (xDL x0 x3 x4) (xAT r) := by
 intro n
 induction n with
 | zero => exact fun _ _ _ _ h => nE h
 | succ n ih =>
  exact fun x0 x3 x4 r h =>
   cE h (fun h0 h => tS fk45 (xGc x0 x3 x4) (oc h0 on) (xHq ih _ _ _ _ _ _ h)) fun h0 h =>
   dS h fk45 (xGd x0 x3 x4) (oc h0 on)
theorem xHr {N : Nat} : ∀ a0 r, xBZ N a0 = some r → RE Try.f45 I45 (xBV a0) (xAT r) := fun a0 r h =>
 tE fk45 (xGi a0) on (xHp _ _ _ _ _ h)
theorem xDg {N : Nat} {a0 : List Str} {r : (List Str)} (h : xBZ N  a0 = some r) : AbC 45 (xBV a0) (xAT r) :=
 AbsCalls.of_reach fk45 rfl rfl rfl (Nat.le_of_ble_eq_true rfl) (xHr a0 r h)
noncomputable def I17 : Info := { body := (Try.f17.body).getD .skip, nt := 6, results := [.tmp 2], keep := [0, 2, 4, 3], live := [], modes := [] }
theorem fk17 : FnOk Try.prog 17 Try.f17 I17 := ⟨Try.func17, by kernel_rfl, by kernel_rfl, by kernel_rfl, by kernel_rfl⟩
def xFu (a0 : Exp) (r1 : (List Str)) (r2 : (List Str)) : rE I17 (xBN a0) [] [xAL r1, xAT r2] = dn (xAr r2) [AbC 46 (xAQ a0) (xAL r1), AbC 45 (xBV r1) (xAT r2)] := by kernel_rfl
theorem xG6 {N : Nat} : ∀ a0 r, xBS N a0 = some r → RE Try.f17 I17 (xBN a0) (xAr r) := fun a0 r h =>
 bE h fun r1 h0 h => bE h fun r2 h1 h => dE h fk17 (xFu a0 r1 r2) (oc2 (xDl h0) (xDg h1) on)
theorem xAA {N : Nat} {a0 : Exp} {r : (List Str)} (h : xBS N  a0 = some r) : AbC 17 (xBN a0) (xAr r) :=
 AbsCalls.of_reach fk17 rfl rfl rfl (Nat.le_of_ble_eq_true rfl) (xG6 a0 r h)
theorem xDz {N : Nat} {a0 r : List Str} (h : sort_Strings N a0 = some r) : AbC 67 (xCK a0) (xCp r) :=
 zIH (xDc Try.lays192) (fun cap p w => Any.sort_Strings_none Try.lays192 p cap w) (fun blk off cap ss w h1 h2 h3 => Any.sort_Strings Try.lays192 blk off cap ss w h1 h2 h3) h
noncomputable def I48 : Info := { body := (Try.f48.body).getD .skip, nt := 27, results := [.tmp 2], keep := [0, 4, 6, 8, 10, 14, 16, 18, 20, 36], live := [(3, [0, 6, 14, 16, 18])], modes := [(5, [(3, .take, false)]), (6, [(0, .take, false)]), (7, [(1, .take, false)]), (8, [(0, .ref, false), (1, .ref, false)]), (9, [(0, .take, false)])] }
theorem fk48 : FnOk Try.prog 48 Try.f48 I48 := ⟨Try.func48, by kernel_rfl, by kernel_rfl, by kernel_rfl, by kernel_rfl⟩
def xD5 (x0 x3 x7 : List Str) (x8 x9 : Int) : St := [(0, .v false [.sl .ro .str x0]), (6, .v false [.sl .own .str x3]), (14, .v false [.sl .ro .str x7]), (16, .v false [.int .i64 x8]), (18, .v false [.int .i64 x9])]
def xGo (x0 x3 x7 : List Str) (x8 x9 r1 : Int) : rS 3 I48 (xD5 x0 x3 x7 x8 x9) [Y, Y] [xAy r1] = st 3 I48 (xD5 x0 (x3 ++ [(xCr x7 x9)]) x7 x8 (W (x9 + 1))) [iY (dc (x9 < x8)), xCe x9 x7, AbC 34 (xBj x0 (xCr x7 x9)) (xAy r1), iY (r1 == x9), Ln x3 + Ln [(xCr x7 x9)] ≤ Lim] := by kernel_rfl
def xGp (x0 x3 x7 : List Str) (x8 x9 r1 : Int) : rS 3 I48 (xD5 x0 x3 x7 x8 x9) [Y, F] [xAy r1] = st 3 I48 (xD5 x0 x3 x7 x8 (W (x9 + 1))) [iY (dc (x9 < x8)), xCe x9 x7, AbC 34 (xBj x0 (xCr x7 x9)) (xAy r1), iN (r1 == x9)] := by kernel_rfl
def xGq (x0 x3 x7 : List Str) (x8 x9 : Int) (r1 : (List Str)) : rS 3 I48 (xD5 x0 x3 x7 x8 x9) [F] [xCp r1] = dn (xBe r1) [iN (dc (x9 < x8)), AbC 67 (xCK x3) (xCp r1), Ln r1 = Ln x3] := by kernel_rfl
def xGr (a0 : List Str) : rE I48 (xBT a0) [] [] = st 3 I48 (xD5 a0 [] a0 (Ln a0 : Int) 0) [] := by kernel_rfl
theorem xHt {N : Nat} : ∀ n x0 x3 x7 x8 x9 r, xAS N n x0 x3 x7 x8 x9 = some r → RS Try.f48 I48 3 (xD5 x0 x3 x7 x8 x9) (xBe r) := by
 intro n
 induction n with
 | zero => exact fun _ _ _ _ _ _ h => nE h
 | succ n ih =>
  exact fun x0 x3 x7 x8 x9 r h =>
   cE h (fun h0 h => iE h fun h1 h => bE h fun r1 h2 h => cE h (fun h3 h => iE h fun h4 h => tS fk48 (xGo x0 x3 x7 x8 x9 r1) (oc5 h0 h1 (xB5 h2) h3 h4 on) (ih _ _ _ _ _ _ h)) fun h3 h =>
   tS fk48 (xGp x0 x3 x7 x8 x9 r1) (oc4 h0 h1 (xB5 h2) h3 on) (ih _ _ _ _ _ _ h)) fun h0 h =>
   bE h fun r1 h1 h => iE h fun h2 h => dS h fk48 (xGq x0 x3 x7 x8 x9 r1) (oc3 h0 (xDz h1) h2 on)
theorem xHu {N : Nat} : ∀ a0 r, xBX N a0 = some r → RE Try.f48 I48 (xBT a0) (xBe r) := fun a0 r h =>
 tE fk48 (xGr a0) on (xHt _ _ _ _ _ _ _ h)
theorem xDd {N : Nat} {a0 : List Str} {r : (List Str)} (h : xBX N  a0 = some r) : AbC 48 (xBT a0) (xBe r) :=
 AbsCalls.of_reach fk48 rfl rfl rfl (Nat.le_of_ble_eq_true rfl) (xHu a0 r h)
noncomputable def I18 : Info := { body := (Try.f18.body).getD .skip, nt := 14, results := [.tmp 2], keep := [0, 2, 4, 6, 8, 3, 7, 17], live := [], modes := [(3, [(0, .take, false)])] }
theorem fk18 : FnOk Try.prog 18 Try.f18 I18 := ⟨Try.func18, by kernel_rfl, by kernel_rfl, by kernel_rfl, by kernel_rfl⟩
def xFv (a0 : Exp) (r1 : (List Str)) (r2 : (List Str)) : rE I18 (xBL a0) [] [cl (xAb r1), xBe r2] = dn (xAl r2) [AbC 35 (xAd a0 [] []) (xAb r1), AbC 48 (xBT r1) (xBe r2)] := by kernel_rfl
theorem xG7 {N : Nat} : ∀ a0 r, xBx N a0 = some r → RE Try.f18 I18 (xBL a0) (xAl r) := fun a0 r h =>
 bE h fun r1 h0 h => bE h fun r2 h1 h => dE h fk18 (xFv a0 r1 r2) (oc2 (xB4 h0) (xDd h1) on)
theorem xAq {N : Nat} {a0 : Exp} {r : (List Str)} (h : xBx N  a0 = some r) : AbC 18 (xBL a0) (xAl r) :=
 AbsCalls.of_reach fk18 rfl rfl rfl (Nat.le_of_ble_eq_true rfl) (xG7 a0 r h)
noncomputable def I19 : Info := { body := (Try.f19.body).getD .skip, nt := 26, results := [.tmp 4], keep := [0, 2, 8, 10, 20, 28, 50], live := [(4, [0, 2, 10])], modes := [] }
theorem fk19 : FnOk Try.prog 19 Try.f19 I19 := ⟨Try.func19, by kernel_rfl, by kernel_rfl, by kernel_rfl, by kernel_rfl⟩
def xEl (x0 x1 : List Str) (x5 : Int) : St := [(0, .v false [.sl .ro .str x0]), (2, .v false [.sl .ro .str x1]), (10, .v false [.int .i64 x5])]
def xFw (x0 x1 : List Str) (x5 : Int) : rS 4 I19 (xEl x0 x1 x5) [Y, Y] [] = dn (xAe false) [xDf x5 x0, xCe x5 x0, xCe x5 x1, iY (!((xEi x0 x5) == (xCr x1 x5)))] := by kernel_rfl
def xFx (x0 x1 : List Str) (x5 : Int) : rS 4 I19 (xEl x0 x1 x5) [Y, F] [] = st 4 I19 (xEl x0 x1 (W (x5 + 1))) [xDf x5 x0, xCe x5 x0, xCe x5 x1, iN (!((xEi x0 x5) == (xCr x1 x5)))] := by kernel_rfl
def xFy (x0 x1 : List Str) (x5 : Int) : rS 4 I19 (xEl x0 x1 x5) [F] [] = dn (xAe true) [xD8 x5 x0] := by kernel_rfl
def xFz (a0 a1 : List Str) : rE I19 (xBA a0 a1) [Y] [] = dn (xAe false) [iY ((Ln a0 : Int) != (Ln a1 : Int))] := by kernel_rfl
def xFA (a0 a1 : List Str) : rE I19 (xBA a0 a1) [F] [] = st 4 I19 (xEl a0 a1 0) [iN ((Ln a0 : Int) != (Ln a1 : Int))] := by kernel_rfl
theorem xG8 {N : Nat} : ∀ n x0 x1 x5 r, xBf N n x0 x1 x5 = some r → RS Try.f19 I19 4 (xEl x0 x1 x5) (xAe r) := by
 intro n
 induction n with
 | zero => exact fun _ _ _ _ h => nE h
 | succ n ih =>
  exact fun x0 x1 x5 r h =>
   cE h (fun h0 h => iE h fun h1 h => iE h fun h2 h => cE h (fun h3 h => dS h fk19 (xFw x0 x1 x5) (oc4 h0 h1 h2 h3 on)) fun h3 h =>
   tS fk19 (xFx x0 x1 x5) (oc4 h0 h1 h2 h3 on) (ih _ _ _ _ h)) fun h0 h =>
   dS h fk19 (xFy x0 x1 x5) (oc h0 on)
theorem xG9 {N : Nat} : ∀ a0 a1 r, xAJ N a0 a1 = some r → RE Try.f19 I19 (xBA a0 a1) (xAe r) := fun a0 a1 r h =>
 cE h (fun h0 h => dE h fk19 (xFz a0 a1) (oc h0 on)) fun h0 h =>
 tE fk19 (xFA a0 a1) (oc h0 on) (xG8 _ _ _ _ _ h)
theorem xAk {N : Nat} {a0 : List Str} {a1 : List Str} {r : Bool} (h : xAJ N  a0 a1 = some r) : AbC 19 (xBA a0 a1) (xAe r) :=
 AbsCalls.of_reach fk19 rfl rfl rfl (Nat.le_of_ble_eq_true rfl) (xG9 a0 a1 r h)
noncomputable def I49 : Info := { body := (Try.f49.body).getD .skip, nt := 20, results := [.tmp 2], keep := [0, 4, 6, 10, 14], live := [(4, [0, 6])], modes := [] }
theorem fk49 : FnOk Try.prog 49 Try.f49 I49 := ⟨Try.func49, by kernel_rfl, by kernel_rfl, by kernel_rfl, by kernel_rfl⟩
def xED (x0 : Int) (x3 : Str) : St := [(0, .v false [.int .i64 x0]), (6, .v false [.str x3])]
abbrev xFd (v0 : Int) := List.map (fun n => UInt8.ofNat (tN n)) [(IntKind.u8.wrap ((W (48 + (Int.tmod v0 10)))))]
def xGs (x0 : Int) (x3 : Str) : rS 4 I49 (xED x0 x3) [Y] [] = st 4 I49 (xED (W (Int.tdiv x0 10)) ((xFd x0) ++ x3)) [iY (dc (x0 > 0)), 10 ≠ (0 : Int), Ln (xFd x0) + Ln x3 ≤ Lim, 10 ≠ (0 : Int)] := by kernel_rfl
def xGt (x0 : Int) (x3 : Str) : rS 4 I49 (xED x0 x3) [F] [] = dn (xAw ([109] ++ x3)) [iN (dc (x0 > 0)), Ln [109] + Ln x3 ≤ Lim] := by kernel_rfl
def xGu (a0 : Int) : rE I49 (xAY a0) [Y] [] = dn (xAw [109, 48]) [iY (dc (a0 ≤ 0))] := by kernel_rfl
def xGv (a0 : Int) : rE I49 (xAY a0) [F] [] = st 4 I49 (xED a0 []) [iN (dc (a0 ≤ 0))] := by kernel_rfl
theorem xHv {N : Nat} : ∀ n x0 x3 r, xBo N n x0 x3 = some r → RS Try.f49 I49 4 (xED x0 x3) (xAw r) := by
 intro n
 induction n with
 | zero => exact fun _ _ _ h => nE h
 | succ n ih =>
  exact fun x0 x3 r h =>
   cE h (fun h0 h => iE h fun h2 h => tS fk49 (xGs x0 x3) (oc4 h0 (by decide) h2 (by decide) on) (ih _ _ _ h)) fun h0 h =>
   iE h fun h1 h => dS h fk49 (xGt x0 x3) (oc2 h0 h1 on)
theorem xHw {N : Nat} : ∀ a0 r, xBr N a0 = some r → RE Try.f49 I49 (xAY a0) (xAw r) := fun a0 r h =>
 cE h (fun h0 h => dE h fk49 (xGu a0) (oc h0 on)) fun h0 h =>
 tE fk49 (xGv a0) (oc h0 on) (xHv _ _ _ _ h)
theorem xB1 {N : Nat} {a0 : Int} {r : Str} (h : xBr N  a0 = some r) : AbC 49 (xAY a0) (xAw r) :=
 AbsCalls.of_reach fk49 rfl rfl rfl (Nat.le_of_ble_eq_true rfl) (xHw a0 r h)
def G43 (q : (List Exp) → Int → Option (Int × (List Exp))) : Prop := ∀ a0 a1 r, q a0 a1 = some r → AbC 43 (xA2 a0 a1) (xAD r)
noncomputable def I43 : Info := { body := (Try.f43.body).getD .skip, nt := 42, results := [.tmp 4], keep := [0, 2, 8, 10, 18], live := [(2, [0, 2, 10])], modes := [(4, [(0, .ref, false)]), (6, [(0, .ref, false)]), (8, [(0, .ref, false)]), (10, [(0, .ref, false), (4, .ref, false), (6, .ref, false)])], lnt := [(0, 0)] }
theorem fk43 : FnOk Try.prog 43 Try.f43 I43 := ⟨Try.func43, by kernel_rfl, by kernel_rfl, by kernel_rfl, by kernel_rfl⟩
def xEC (x0 : List Exp) (x1 x5 : Int) : St := [(0, .v false [.sl (.lnt 0) .exp x0]), (2, .v false [.int .i64 x1]), (10, .v false [.int .i64 x5])]
abbrev xFf (v0 : Int) (v1 : Str) (v2 : Int) (v3 : List Exp) := Exp.args (gD ((fun (z9 : List Exp) => List.set z9 (tN v0) (Exp.mk (Exp.kind (gD z9 (tN v0) Ty.exp.dflt)) (Exp.n (gD z9 (tN v0) Ty.exp.dflt)) v1 (Exp.args (gD z9 (tN v0) Ty.exp.dflt)))) ((fun (z8 : List Exp) => List.set z8 (tN v0) (Exp.mk (Exp.kind (gD z8 (tN v0) Ty.exp.dflt)) (W (v2 + 1)) (Exp.text (gD z8 (tN v0) Ty.exp.dflt)) (Exp.args (gD z8 (tN v0) Ty.exp.dflt)))) (List.set v3 (tN v0) (Exp.mk v2 (Exp.n (gD v3 (tN v0) Ty.exp.dflt)) (Exp.text (gD v3 (tN v0) Ty.exp.dflt)) (Exp.args (gD v3 (tN v0) Ty.exp.dflt)))))) (tN v0) Ty.exp.dflt)
abbrev xFe (v0 : Int) (v1 : Str) (v2 : Int) (v3 : List Exp) := (fun (z9 : List Exp) => List.set z9 (tN v0) (Exp.mk (Exp.kind (gD z9 (tN v0) Ty.exp.dflt)) (Exp.n (gD z9 (tN v0) Ty.exp.dflt)) v1 (Exp.args (gD z9 (tN v0) Ty.exp.dflt)))) ((fun (z8 : List Exp) => List.set z8 (tN v0) (Exp.mk (Exp.kind (gD z8 (tN v0) Ty.exp.dflt)) (W (v2 + 1)) (Exp.text (gD z8 (tN v0) Ty.exp.dflt)) (Exp.args (gD z8 (tN v0) Ty.exp.dflt)))) (List.set v3 (tN v0) (Exp.mk v2 (Exp.n (gD v3 (tN v0) Ty.exp.dflt)) (Exp.text (gD v3 (tN v0) Ty.exp.dflt)) (Exp.args (gD v3 (tN v0) Ty.exp.dflt)))))
abbrev xGL (v0 v1 : Int) (v2 : List Exp) := (fun (z8 : List Exp) => List.set z8 (tN v0) (Exp.mk (Exp.kind (gD z8 (tN v0) Ty.exp.dflt)) (W (v1 + 1)) (Exp.text (gD z8 (tN v0) Ty.exp.dflt)) (Exp.args (gD z8 (tN v0) Ty.exp.dflt)))) (List.set v2 (tN v0) (Exp.mk v1 (Exp.n (gD v2 (tN v0) Ty.exp.dflt)) (Exp.text (gD v2 (tN v0) Ty.exp.dflt)) (Exp.args (gD v2 (tN v0) Ty.exp.dflt))))
abbrev xGK (v0 : List Exp) (v1 v2 : Int) := List.set v0 (tN v1) (Exp.mk v2 (Exp.n (gD v0 (tN v1) Ty.exp.dflt)) (Exp.text (gD v0 (tN v1) Ty.exp.dflt)) (Exp.args (gD v0 (tN v1) Ty.exp.dflt)))
def xF9 (x0 : List Exp) (x1 x5 : Int) (r1 : Str) (r2 : Int × (List Exp)) : rS 2 I43 (xEC x0 x1 x5) [Y] [xAw r1, xAD r2] = st 2 I43 (xEC ((fun (z10 : List Exp) => List.set z10 (tN x5) (Exp.mk (Exp.kind (gD z10 (tN x5) Ty.exp.dflt)) (Exp.n (gD z10 (tN x5) Ty.exp.dflt)) (Exp.text (gD z10 (tN x5) Ty.exp.dflt)) r2.2)) (xFe x5 r1 x1 x0)) r2.1 (W (x5 + 1))) [xEw x5 x0, xDk x5 x0, (0 : Int) ≤ x5 ∧ x5 < (Ln (xGK x0 x5 x1)), AbC 49 (xAY (W ((W (x1 + 1)) + 1))) (xAw r1), (0 : Int) ≤ x5 ∧ x5 < (Ln (xGL x5 x1 x0)), (0 : Int) ≤ x5 ∧ x5 < (Ln (xFe x5 r1 x1 x0)), AbC 43 (xA2 (xFf x5 r1 x1 x0) (W ((W ((W (x1 + 1)) + 1)) + 1))) (xAD r2), (tN x5) = (tN x5), Ln r2.2 = Ln (xFf x5 r1 x1 x0)] := by kernel_rfl
def xGa (x0 : List Exp) (x1 x5 : Int) : rS 2 I43 (xEC x0 x1 x5) [F] [] = dn (xAD (x1, x0)) [iN (dc (x5 < (Ln x0 : Int)))] := by kernel_rfl
def xGb (a0 : List Exp) (a1 : Int) : rE I43 (xA2 a0 a1) [] [] = st 2 I43 (xEC a0 a1 0) [] := by kernel_rfl
theorem xHn {N q0} (g0 : G43 q0) : ∀ n x0 x1 x5 r, xBg N q0 n x0 x1 x5 = some r → RS Try.f43 I43 2 (xEC x0 x1 x5) (xAD r) := by
 intro n
 induction n with
 | zero => exact fun _ _ _ _ h => nE h
 | succ n ih =>
  exact fun x0 x1 x5 r h =>
   cE h (fun h0 h => iE h fun h1 h => iE h fun h2 h => bE h fun r1 h3 h => iE h fun h4 h => iE h fun h5 h => bE h fun r2 h6 h => iE h fun h8 h => tS fk43 (xF9 x0 x1 x5 r1 r2) (oc9 h0 h1 h2 (xB1 h3) h4 h5 (g0 _ _ _ h6) rfl h8 on) (ih _ _ _ _ h)) fun h0 h =>
   dS h fk43 (xGa x0 x1 x5) (oc h0 on)
theorem xHo {N q0} (g0 : G43 q0) : ∀ a0 a1 r, xB2 N q0 a0 a1 = some r → RE Try.f43 I43 (xA2 a0 a1) (xAD r) := fun a0 a1 r h =>
 tE fk43 (xGb a0 a1) on (xHn g0 _ _ _ _ _ h)
theorem xCH {N q0} (g0 : G43 q0) {a0} {a1} {r} (h : xB2 N q0 a0 a1 = some r) : AbC 43 (xA2 a0 a1) (xAD r) :=
 AbsCalls.of_reach fk43 rfl rfl rfl (Nat.le_of_ble_eq_true rfl) (xHo g0 a0 a1 r h)
theorem xCc {N : Nat} : ∀ d, G43 (xBq N d)
 | 0 => fun _ _ _ h => nE h
 | d + 1 => fun _ _ _ h => xCH (N := N) (xCc d) h
theorem xDe {N : Nat} {a0 : List Exp} {a1 : Int} {r : Int × (List Exp)} (h : xCt N a0 a1 = some r) : AbC 43 (xA2 a0 a1) (xAD r) := xCc N _ _ r h
noncomputable def I15 : Info := { body := (Try.f15.body).getD .skip, nt := 10, results := [.tmp 4], keep := [0, 2, 4, 8, 5], live := [], modes := [(1, [(1, .ref, false), (3, .ref, false)])], lnt := [(5, 3)] }
theorem fk15 : FnOk Try.prog 15 Try.f15 I15 := ⟨Try.func15, by kernel_rfl, by kernel_rfl, by kernel_rfl, by kernel_rfl⟩
abbrev xC8 (v0 : Int × (List Exp)) (v1 : Exp) : Prop := Ln v0.2 = Ln (Exp.args v1)
def xFt (a0 : Exp) (a1 : Int) (r1 : Int × (List Exp)) : rE I15 (xB0 a0 a1) [] [xAD r1] = dn (xAx (r1.1, r1.2)) [AbC 43 (xA2 (Exp.args a0) a1) (xAD r1), xC8 r1 a0] := by kernel_rfl
theorem xG5 {N : Nat} : ∀ a0 a1 r, xBU N a0 a1 = some r → RE Try.f15 I15 (xB0 a0 a1) (xAx r) := fun a0 a1 r h =>
 bE h fun r1 h0 h => iE h fun h1 h => dE h fk15 (xFt a0 a1 r1) (oc2 (xDe h0) h1 on)
theorem xAX {N : Nat} {a0 : Exp} {a1 : Int} {r : Int × (List Exp)} (h : xBU N  a0 a1 = some r) : AbC 15 (xB0 a0 a1) (xAx r) :=
 AbsCalls.of_reach fk15 rfl rfl rfl (Nat.le_of_ble_eq_true rfl) (xG5 a0 a1 r h)
noncomputable def I20 : Info := { body := (Try.f20.body).getD .skip, nt := 20, results := [.tmp 4], keep := [0, 2, 8, 10, 18], live := [(2, [0, 2, 10])], modes := [(4, [(0, .ref, false)])], lnt := [(0, 0)] }
theorem fk20 : FnOk Try.prog 20 Try.f20 I20 := ⟨Try.func20, by kernel_rfl, by kernel_rfl, by kernel_rfl, by kernel_rfl⟩
def xEA (x0 : List Str) (x1 x5 : Int) : St := [(0, .v false [.sl (.lnt 0) .str x0]), (2, .v false [.int .i64 x1]), (10, .v false [.int .i64 x5])]
def xFB (x0 : List Str) (x1 x5 : Int) (r1 : Str) : rS 2 I20 (xEA x0 x1 x5) [Y] [xAw r1] = st 2 I20 (xEA (List.set x0 (tN x5) r1) (W (x1 + 1)) (W (x5 + 1))) [xDf x5 x0, AbC 49 (xAY x1) (xAw r1), xCe x5 x0] := by kernel_rfl
def xFC (x0 : List Str) (x1 x5 : Int) : rS 2 I20 (xEA x0 x1 x5) [F] [] = dn (xAm (x1, x0)) [xD8 x5 x0] := by kernel_rfl
def xFD (a0 : List Str) (a1 : Int) : rE I20 (xAC a0 a1) [] [] = st 2 I20 (xEA a0 a1 0) [] := by kernel_rfl
theorem xHa {N : Nat} : ∀ n x0 x1 x5 r, xA3 N n x0 x1 x5 = some r → RS Try.f20 I20 2 (xEA x0 x1 x5) (xAm r) := by
 intro n
 induction n with
 | zero => exact fun _ _ _ _ h => nE h
 | succ n ih =>
  exact fun x0 x1 x5 r h =>
   cE h (fun h0 h => bE h fun r1 h1 h => iE h fun h2 h => tS fk20 (xFB x0 x1 x5 r1) (oc3 h0 (xB1 h1) h2 on) (ih _ _ _ _ h)) fun h0 h =>
   dS h fk20 (xFC x0 x1 x5) (oc h0 on)
theorem xHb {N : Nat} : ∀ a0 a1 r, xBI N a0 a1 = some r → RE Try.f20 I20 (xAC a0 a1) (xAm r) := fun a0 a1 r h =>
 tE fk20 (xFD a0 a1) on (xHa _ _ _ _ _ h)
theorem xA4 {N : Nat} {a0 : List Str} {a1 : Int} {r : Int × (List Str)} (h : xBI N  a0 a1 = some r) : AbC 20 (xAC a0 a1) (xAm r) :=
 AbsCalls.of_reach fk20 rfl rfl rfl (Nat.le_of_ble_eq_true rfl) (xHb a0 a1 r h)
noncomputable def I21 : Info := { body := (Try.f21.body).getD .skip, nt := 22, results := [.tmp 4], keep := [0, 2, 8, 10, 18, 36], live := [(2, [0, 2, 10])], modes := [] }
theorem fk21 : FnOk Try.prog 21 Try.f21 I21 := ⟨Try.func21, by kernel_rfl, by kernel_rfl, by kernel_rfl, by kernel_rfl⟩
def xEm (x0 : List Str) (x1 x5 : Int) : St := [(0, .v false [.sl .ro .str x0]), (2, .v false [.int .i64 x1]), (10, .v false [.int .i64 x5])]
def xFE (x0 : List Str) (x1 x5 : Int) (r1 : Str) : rS 2 I21 (xEm x0 x1 x5) [Y, Y] [xAw r1] = dn (xAp (-1)) [xDf x5 x0, xCe x5 x0, AbC 49 (xAY x1) (xAw r1), iY (!(xDE x0 x5 r1))] := by kernel_rfl
def xFF (x0 : List Str) (x1 x5 : Int) (r1 : Str) : rS 2 I21 (xEm x0 x1 x5) [Y, F] [xAw r1] = st 2 I21 (xEm x0 (W (x1 + 1)) (W (x5 + 1))) [xDf x5 x0, xCe x5 x0, AbC 49 (xAY x1) (xAw r1), iN (!(xDE x0 x5 r1))] := by kernel_rfl
def xFG (x0 : List Str) (x1 x5 : Int) : rS 2 I21 (xEm x0 x1 x5) [F] [] = dn (xAp x1) [xD8 x5 x0] := by kernel_rfl
def xFH (a0 : List Str) (a1 : Int) : rE I21 (xBE a0 a1) [] [] = st 2 I21 (xEm a0 a1 0) [] := by kernel_rfl
theorem xHc {N : Nat} : ∀ n x0 x1 x5 r, xA1 N n x0 x1 x5 = some r → RS Try.f21 I21 2 (xEm x0 x1 x5) (xAp r) := by
 intro n
 induction n with
 | zero => exact fun _ _ _ _ h => nE h
 | succ n ih =>
  exact fun x0 x1 x5 r h =>
   cE h (fun h0 h => iE h fun h1 h => bE h fun r1 h2 h => cE h (fun h3 h => dS h fk21 (xFE x0 x1 x5 r1) (oc4 h0 h1 (xB1 h2) h3 on)) fun h3 h =>
   tS fk21 (xFF x0 x1 x5 r1) (oc4 h0 h1 (xB1 h2) h3 on) (ih _ _ _ _ h)) fun h0 h =>
   dS h fk21 (xFG x0 x1 x5) (oc h0 on)
theorem xHd {N : Nat} : ∀ a0 a1 r, xBa N a0 a1 = some r → RE Try.f21 I21 (xBE a0 a1) (xAp r) := fun a0 a1 r h =>
 tE fk21 (xFH a0 a1) on (xHc _ _ _ _ _ h)
theorem xAB {N : Nat} {a0 : List Str} {a1 : Int} {r : Int} (h : xBa N  a0 a1 = some r) : AbC 21 (xBE a0 a1) (xAp r) :=
 AbsCalls.of_reach fk21 rfl rfl rfl (Nat.le_of_ble_eq_true rfl) (xHd a0 a1 r h)
noncomputable def I5 : Info := { body := (Try.f5.body).getD .skip, nt := 69, results := [.tmp 2], keep := [0, 2, 4, 6, 8, 10, 12, 14, 16, 18, 20, 30, 52, 62, 84, 100, 106, 120, 130, 136, 3, 11], live := [], modes := [(13, [(0, .ref, false), (2, .ref, false)]), (14, [(2, .take, false)]), (17, [(0, .ref, false), (2, .ref, false)]), (25, [(0, .take, false)])] }
theorem fk5 : FnOk Try.prog 5 Try.f5 I5 := ⟨Try.func5, by kernel_rfl, by kernel_rfl, by kernel_rfl, by kernel_rfl⟩
abbrev xCJ (v0 : Exp) (v1 : Int) : Prop := AbC 8 (xAV v0 1048576) (xAo v1)
def xGM (a0 : Exp) (r1 : Int) : rE I5 (xAi a0) [Y] [xAo r1] = dn (xAj true) [xCJ a0 r1, iY (dc (r1 < 0))] := by kernel_rfl
abbrev xBc (v0 v1 : Exp) : Prop := AbC 10 (xBv v0) (xAc v1)
abbrev xCU (v0 : Exp) (v1 : (List Str)) : Prop := AbC 17 (xBN v0) (xAr v1)
abbrev xCq (v0 : Exp) (v1 : (List Str)) : Prop := AbC 18 (xBL v0) (xAl v1)
abbrev xBY (v0 v1 : (List Str)) (v2 : Bool) : Prop := AbC 19 (xBA v0 v1) (xAe v2)
def xGN (a0 : Exp) (r1 : Int) (r2 : Exp) (r3 : (List Str)) (r4 : Exp) (r5 : (List Str)) (r6 : Bool) : rE I5 (xAi a0) [F, Y] [xAo r1, xAc r2, xAr r3, xAc r4, xAl r5, xAe r6] = dn (xAj false) [xCJ a0 r1, xCx r1, xBc a0 r2, xCU r2 r3, xBc a0 r4, xCq r4 r5, xBY r5 r3 r6, iY (!r6)] := by kernel_rfl
abbrev xC9 (v0 v1 : Exp) (v2 : Bool) : Prop := AbC 12 (xAI v0 v1) (xAn v2)
def xGO (a0 : Exp) (r1 : Int) (r2 : Exp) (r3 : (List Str)) (r4 : Exp) (r5 : (List Str)) (r6 : Bool) (r7 : Exp) (r8 : Bool) : rE I5 (xAi a0) [F, F, Y] [xAo r1, xAc r2, xAr r3, xAc r4, xAl r5, xAe r6, xAc r7, xAn r8] = dn (xAj false) [xCJ a0 r1, xCx r1, xBc a0 r2, xCU r2 r3, xBc a0 r4, xCq r4 r5, xBY r5 r3 r6, iN (!r6), xBc a0 r7, xC9 r4 r7 r8, iY (!r8)] := by kernel_rfl
abbrev xDi (v0 : Exp) (v1 : Int × (List Exp)) : Prop := AbC 15 (xB0 v0 1) (xAx v1)
def xGP (a0 : Exp) (r1 : Int) (r2 : Exp) (r3 : (List Str)) (r4 : Exp) (r5 : (List Str)) (r6 : Bool) (r7 : Exp) (r8 : Bool) (r9 : Int × (List Exp)) : rE I5 (xAi a0) [F, F, F, Y, Y] [xAo r1, xAc r2, xAr r3, xAc r4, xAl r5, xAe r6, xAc r7, xAn r8, xAx r9] = dn (xAj false) [xCJ a0 r1, xCx r1, xBc a0 r2, xCU r2 r3, xBc a0 r4, xCq r4 r5, xBY r5 r3 r6, iN (!r6), xBc a0 r7, xC9 r4 r7 r8, iN (!r8), xDi r4 r9, xC8 r9 r4, iY (dc (r9.1 < 0)), iY true] := by kernel_rfl
abbrev xDu (v0 : Int × (List Exp)) : Prop := iN (dc (v0.1 < 0))
def xGQ (a0 : Exp) (r1 : Int) (r2 : Exp) (r3 : (List Str)) (r4 : Exp) (r5 : (List Str)) (r6 : Bool) (r7 : Exp) (r8 : Bool) (r9 : Int × (List Exp)) (r10 : Bool) : rE I5 (xAi a0) [F, F, F, F, Y] [xAo r1, xAc r2, xAr r3, xAc r4, xAl r5, xAe r6, xAc r7, xAn r8, xAx r9, xAe r10] = dn (xAj false) [xCJ a0 r1, xCx r1, xBc a0 r2, xCU r2 r3, xBc a0 r4, xCq r4 r5, xBY r5 r3 r6, iN (!r6), xBc a0 r7, xC9 r4 r7 r8, iN (!r8), xDi r4 r9, xC8 r9 r4, xDu r9, xBY r5 r3 r10, iY (!r10)] := by kernel_rfl
abbrev xDa (v0 : Int × (List Str)) (v1 : Int) : Prop := AbC 21 (xBE v0.2 1) (xAp v1)
def xGR (a0 : Exp) (r1 : Int) (r2 : Exp) (r3 : (List Str)) (r4 : Exp) (r5 : (List Str)) (r6 : Bool) (r7 : Exp) (r8 : Bool) (r9 : Int × (List Exp)) (r10 : Bool) (r11 : Int × (List Str)) (r12 : Int) : rE I5 (xAi a0) [F, F, F, F, F, Y] [xAo r1, xAc r2, xAr r3, xAc r4, xAl r5, xAe r6, xAc r7, xAn r8, xAx r9, xAe r10, xAm r11, xAp r12] = dn (xAj false) [xCJ a0 r1, xCx r1, xBc a0 r2, xCU r2 r3, xBc a0 r4, xCq r4 r5, xBY r5 r3 r6, iN (!r6), xBc a0 r7, xC9 r4 r7 r8, iN (!r8), xDi r4 r9, xC8 r9 r4, xDu r9, xBY r5 r3 r10, iN (!r10), AbC 20 (xAC r5 1) (xAm r11), Ln r11.2 = Ln r5, xDa r11 r12, iY (dc (r12 < 0))] := by kernel_rfl
def xGS (a0 : Exp) (r1 : Int) (r2 : Exp) (r3 : (List Str)) (r4 : Exp) (r5 : (List Str)) (r6 : Bool) (r7 : Exp) (r8 : Bool) (r9 : Int × (List Exp)) (r10 : Bool) (r11 : Int × (List Str)) (r12 : Int) : rE I5 (xAi a0) [F, F, F, F, F, F, Y] [xAo r1, xAc r2, xAr r3, xAc r4, xAl r5, xAe r6, xAc r7, xAn r8, xAx r9, xAe r10, xAm r11, xAp r12] = dn (xAj false) [xCJ a0 r1, xCx r1, xBc a0 r2, xCU r2 r3, xBc a0 r4, xCq r4 r5, xBY r5 r3 r6, iN (!r6), xBc a0 r7, xC9 r4 r7 r8, iN (!r8), xDi r4 r9, xC8 r9 r4, xDu r9, xBY r5 r3 r10, iN (!r10), AbC 20 (xAC r5 1) (xAm r11), Ln r11.2 = Ln r5, xDa r11 r12, xCx r12, iY (r12 != r11.1)] := by kernel_rfl
def xGT (a0 : Exp) (r1 : Int) (r2 : Exp) (r3 : (List Str)) (r4 : Exp) (r5 : (List Str)) (r6 : Bool) (r7 : Exp) (r8 : Bool) (r9 : Int × (List Exp)) (r10 : Bool) (r11 : Int × (List Str)) (r12 : Int) (r13 : Exp) (r14 : (List Str)) (r15 : Bool) : rE I5 (xAi a0) [F, F, F, F, F, F, F, Y] [xAo r1, xAc r2, xAr r3, xAc r4, xAl r5, xAe r6, xAc r7, xAn r8, xAx r9, xAe r10, xAm r11, xAp r12, xAc r13, xAl r14, xAe r15] = dn (xAj false) [xCJ a0 r1, xCx r1, xBc a0 r2, xCU r2 r3, xBc a0 r4, xCq r4 r5, xBY r5 r3 r6, iN (!r6), xBc a0 r7, xC9 r4 r7 r8, iN (!r8), xDi r4 r9, xC8 r9 r4, xDu r9, xBY r5 r3 r10, iN (!r10), AbC 20 (xAC r5 1) (xAm r11), Ln r11.2 = Ln r5, xDa r11 r12, xCx r12, iN (r12 != r11.1), xBc a0 r13, xCq r13 r14, xBY r14 r3 r15, iY (!r15)] := by kernel_rfl
def xGU (a0 : Exp) (r1 : Int) (r2 : Exp) (r3 : (List Str)) (r4 : Exp) (r5 : (List Str)) (r6 : Bool) (r7 : Exp) (r8 : Bool) (r9 : Int × (List Exp)) (r10 : Bool) (r11 : Int × (List Str)) (r12 : Int) (r13 : Exp) (r14 : (List Str)) (r15 : Bool) (r16 : Int) : rE I5 (xAi a0) [F, F, F, F, F, F, F, F, Y] [xAo r1, xAc r2, xAr r3, xAc r4, xAl r5, xAe r6, xAc r7, xAn r8, xAx r9, xAe r10, xAm r11, xAp r12, xAc r13, xAl r14, xAe r15, xAp r16] = dn (xAj false) [xCJ a0 r1, xCx r1, xBc a0 r2, xCU r2 r3, xBc a0 r4, xCq r4 r5, xBY r5 r3 r6, iN (!r6), xBc a0 r7, xC9 r4 r7 r8, iN (!r8), xDi r4 r9, xC8 r9 r4, xDu r9, xBY r5 r3 r10, iN (!r10), AbC 20 (xAC r5 1) (xAm r11), Ln r11.2 = Ln r5, xDa r11 r12, xCx r12, iN (r12 != r11.1), xBc a0 r13, xCq r13 r14, xBY r14 r3 r15, iN (!r15), xDa r11 r16, iY (dc (r16 < 0))] := by kernel_rfl
def xGV (a0 : Exp) (r1 : Int) (r2 : Exp) (r3 : (List Str)) (r4 : Exp) (r5 : (List Str)) (r6 : Bool) (r7 : Exp) (r8 : Bool) (r9 : Int × (List Exp)) (r10 : Bool) (r11 : Int × (List Str)) (r12 : Int) (r13 : Exp) (r14 : (List Str)) (r15 : Bool) (r16 : Int) : rE I5 (xAi a0) [F, F, F, F, F, F, F, F, F, Y] [xAo r1, xAc r2, xAr r3, xAc r4, xAl r5, xAe r6, xAc r7, xAn r8, xAx r9, xAe r10, xAm r11, xAp r12, xAc r13, xAl r14, xAe r15, xAp r16] = dn (xAj false) [xCJ a0 r1, xCx r1, xBc a0 r2, xCU r2 r3, xBc a0 r4, xCq r4 r5, xBY r5 r3 r6, iN (!r6), xBc a0 r7, xC9 r4 r7 r8, iN (!r8), xDi r4 r9, xC8 r9 r4, xDu r9, xBY r5 r3 r10, iN (!r10), AbC 20 (xAC r5 1) (xAm r11), Ln r11.2 = Ln r5, xDa r11 r12, xCx r12, iN (r12 != r11.1), xBc a0 r13, xCq r13 r14, xBY r14 r3 r15, iN (!r15), xDa r11 r16, xCx r16, iY (r16 != r11.1)] := by kernel_rfl
def xGA (a0 : Exp) (r1 : Int) (r2 : Exp) (r3 : (List Str)) (r4 : Exp) (r5 : (List Str)) (r6 : Bool) (r7 : Exp) (r8 : Bool) (r9 : Int × (List Exp)) (r10 : Bool) (r11 : Int × (List Str)) (r12 : Int) (r13 : Exp) (r14 : (List Str)) (r15 : Bool) (r16 : Int) : rE I5 (xAi a0) [F, F, F, F, F, F, F, F, F, F] [xAo r1, xAc r2, xAr r3, xAc r4, xAl r5, xAe r6, xAc r7, xAn r8, xAx r9, xAe r10, xAm r11, xAp r12, xAc r13, xAl r14, xAe r15, xAp r16] = dn (xAj true) [xCJ a0 r1, xCx r1, xBc a0 r2, xCU r2 r3, xBc a0 r4, xCq r4 r5, xBY r5 r3 r6, iN (!r6), xBc a0 r7, xC9 r4 r7 r8, iN (!r8), xDi r4 r9, xC8 r9 r4, xDu r9, xBY r5 r3 r10, iN (!r10), AbC 20 (xAC r5 1) (xAm r11), Ln r11.2 = Ln r5, xDa r11 r12, xCx r12, iN (r12 != r11.1), xBc a0 r13, xCq r13 r14, xBY r14 r3 r15, iN (!r15), xDa r11 r16, xCx r16, iN (r16 != r11.1)] := by kernel_rfl
theorem c5_e {N : Nat} : ∀ a0 r, xAZ N a0 = some r → RE Try.f5 I5 (xAi a0) (xAj r) := fun a0 r h =>
 bE h fun r1 h0 h => cE h (fun h1 h => dE h fk5 (xGM a0 r1) (oc2 (xAP h0) h1 on)) fun h1 h =>
 bE h fun r2 h2 h => bE h fun r3 h3 h => bE h fun r4 h4 h => bE h fun r5 h5 h => bE h fun r6 h6 h => cE h (fun h7 h => dE h fk5 (xGN a0 r1 r2 r3 r4 r5 r6) (oc8 (xAP h0) h1 (xAg h2) (xAA h3) (xAg h4) (xAq h5) (xAk h6) h7 on)) fun h7 h =>
 bE h fun r7 h8 h => bE h fun r8 h9 h => cE h (fun h10 h => dE h fk5 (xGO a0 r1 r2 r3 r4 r5 r6 r7 r8) (oc11 (xAP h0) h1 (xAg h2) (xAA h3) (xAg h4) (xAq h5) (xAk h6) h7 (xAg h8) (xA6 h9) h10 on)) fun h10 h =>
 bE h fun r9 h11 h => iE h fun h12 h => cE h (fun h13 h => dE h fk5 (xGP a0 r1 r2 r3 r4 r5 r6 r7 r8 r9) (oc12 (xAP h0) h1 (xAg h2) (xAA h3) (xAg h4) (xAq h5) (xAk h6) h7 (xAg h8) (xA6 h9) h10 (xAX h11) (oc3 h12 h13 rfl on))) fun h13 h =>
 bE h fun r10 h14 h => cE h (fun h15 h => dE h fk5 (xGQ a0 r1 r2 r3 r4 r5 r6 r7 r8 r9 r10) (oc12 (xAP h0) h1 (xAg h2) (xAA h3) (xAg h4) (xAq h5) (xAk h6) h7 (xAg h8) (xA6 h9) h10 (xAX h11) (oc4 h12 h13 (xAk h14) h15 on))) fun h15 h =>
 bE h fun r11 h16 h => iE h fun h17 h => bE h fun r12 h18 h => cE h (fun h19 h => dE h fk5 (xGR a0 r1 r2 r3 r4 r5 r6 r7 r8 r9 r10 r11 r12) (oc12 (xAP h0) h1 (xAg h2) (xAA h3) (xAg h4) (xAq h5) (xAk h6) h7 (xAg h8) (xA6 h9) h10 (xAX h11) (oc8 h12 h13 (xAk h14) h15 (xA4 h16) h17 (xAB h18) h19 on))) fun h19 h =>
 cE h (fun h20 h => dE h fk5 (xGS a0 r1 r2 r3 r4 r5 r6 r7 r8 r9 r10 r11 r12) (oc12 (xAP h0) h1 (xAg h2) (xAA h3) (xAg h4) (xAq h5) (xAk h6) h7 (xAg h8) (xA6 h9) h10 (xAX h11) (oc9 h12 h13 (xAk h14) h15 (xA4 h16) h17 (xAB h18) h19 h20 on))) fun h20 h =>
 bE h fun r13 h21 h => bE h fun r14 h22 h => bE h fun r15 h23 h => cE h (fun h24 h => dE h fk5 (xGT a0 r1 r2 r3 r4 r5 r6 r7 r8 r9 r10 r11 r12 r13 r14 r15) (oc12 (xAP h0) h1 (xAg h2) (xAA h3) (xAg h4) (xAq h5) (xAk h6) h7 (xAg h8) (xA6 h9) h10 (xAX h11) (oc12 h12 h13 (xAk h14) h15 (xA4 h16) h17 (xAB h18) h19 h20 (xAg h21) (xAq h22) (xAk h23) (oc h24 on)))) fun h24 h =>
 bE h fun r16 h25 h => cE h (fun h26 h => dE h fk5 (xGU a0 r1 r2 r3 r4 r5 r6 r7 r8 r9 r10 r11 r12 r13 r14 r15 r16) (oc12 (xAP h0) h1 (xAg h2) (xAA h3) (xAg h4) (xAq h5) (xAk h6) h7 (xAg h8) (xA6 h9) h10 (xAX h11) (oc12 h12 h13 (xAk h14) h15 (xA4 h16) h17 (xAB h18) h19 h20 (xAg h21) (xAq h22) (xAk h23) (oc3 h24 (xAB h25) h26 on)))) fun h26 h =>
 cE h (fun h27 h => dE h fk5 (xGV a0 r1 r2 r3 r4 r5 r6 r7 r8 r9 r10 r11 r12 r13 r14 r15 r16) (oc12 (xAP h0) h1 (xAg h2) (xAA h3) (xAg h4) (xAq h5) (xAk h6) h7 (xAg h8) (xA6 h9) h10 (xAX h11) (oc12 h12 h13 (xAk h14) h15 (xA4 h16) h17 (xAB h18) h19 h20 (xAg h21) (xAq h22) (xAk h23) (oc4 h24 (xAB h25) h26 h27 on)))) fun h27 h =>
 dE h fk5 (xGA a0 r1 r2 r3 r4 r5 r6 r7 r8 r9 r10 r11 r12 r13 r14 r15 r16) (oc12 (xAP h0) h1 (xAg h2) (xAA h3) (xAg h4) (xAq h5) (xAk h6) h7 (xAg h8) (xA6 h9) h10 (xAX h11) (oc12 h12 h13 (xAk h14) h15 (xA4 h16) h17 (xAB h18) h19 h20 (xAg h21) (xAq h22) (xAk h23) (oc4 h24 (xAB h25) h26 h27 on)))
theorem laws_FnExactBoundNames_ok {N : Nat} {a0 : Exp} {r : Bool} (h : xAZ N  a0 = some r) : AbC 5 (xAi a0) (xAj r) :=
 AbsCalls.of_reach fk5 rfl rfl rfl (Nat.le_of_ble_eq_true rfl) (c5_e a0 r h)
end Go.Ab.T
end
section
open Go.Proofs
namespace Go.Ab.T
set_option maxRecDepth 100000
variable [Inhabited Lb]
noncomputable def I64 : Info := { body := (Try.f64.body).getD .skip, nt := 42, results := [.tmp 2], keep := [0, 4, 6, 8, 16, 76], live := [(2, [0, 6])], modes := [(4, [(4, .take, false)]), (5, [(0, .take, false), (2, .take, false), (5, .take, false), (11, .take, false)])] }
end Go.Ab.T
end
section
namespace Go.Ab
def Big (p : Nat → Prop) : Prop := ∃ k, ∀ N, k ≤ N → p N
def Big2 (p : Nat → Nat → Prop) : Prop := ∃ k, ∀ N n, k ≤ N → k ≤ n → p N n
theorem Big.imp {p q : Nat → Prop} (h : Big p) (f : ∀ N, p N → q N) : Big q := h.elim fun k hk => ⟨k, fun N hN => f N (hk N hN)⟩
theorem Big2.imp {p q : Nat → Nat → Prop} (h : Big2 p) (f : ∀ N n, p N n → q N n) : Big2 q := h.elim fun k hk => ⟨k, fun N n h1 h2 => f N n (hk N n h1 h2)⟩
theorem Big2.of {p : Nat → Nat → Prop} (h : ∀ N n, p N n) : Big2 p := ⟨0, fun N n _ _ => h N n⟩
theorem Big.and {p q : Nat → Prop} (h : Big p) (h' : Big q) : Big fun N => p N ∧ q N := by
 obtain ⟨a, ha⟩ := h; obtain ⟨b, hb⟩ := h'
 exact ⟨max a b, fun N hN => ⟨ha N (by omega), hb N (by omega)⟩⟩
theorem Big2.and {p q : Nat → Nat → Prop} (h : Big2 p) (h' : Big2 q) : Big2 fun N n => p N n ∧ q N n := by
 obtain ⟨a, ha⟩ := h; obtain ⟨b, hb⟩ := h'
 exact ⟨max a b, fun N n h1 h2 => ⟨ha N n (by omega) (by omega), hb N n (by omega) (by omega)⟩⟩
theorem Big.two {p : Nat → Prop} (h : Big p) : Big2 fun N _ => p N := h.elim fun k hk => ⟨k, fun N _ h _ => hk N h⟩
theorem Big2.diag {p : Nat → Nat → Prop} (h : Big2 p) : Big fun N => p N N := h.elim fun k hk => ⟨k, fun N h => hk N N h h⟩
theorem Big2.succ {p : Nat → Nat → Prop} (h : Big2 fun N n => p N (n + 1)) : Big2 p := by
 obtain ⟨k, hk⟩ := h
 refine ⟨k + 1, fun N n h1 h2 => ?_⟩
 obtain ⟨m, rfl⟩ : ∃ m, n = m + 1 := ⟨n - 1, by omega⟩
 exact hk N m (by omega) (by omega)
theorem Big2.list {α : Type} {p : α → Nat → Nat → Prop} {l : List α} (h : ∀ x ∈ l, Big2 (p x)) : Big2 fun N n => ∀ x ∈ l, p x N n := by
 induction l with
 | nil => exact .of fun N n x hx => by cases hx
 | cons a l ih =>
   refine ((h a List.mem_cons_self).and (ih fun x hx => h x (List.mem_cons_of_mem _ hx))).imp fun N n ⟨h1, h2⟩ x hx => ?_
   rcases List.mem_cons.1 hx with rfl | hx
   · exact h1
   · exact h2 x hx
theorem Big.get {p : Nat → Prop} (h : Big p) : ∃ N, p N := h.elim fun k hk => ⟨k, hk k (Nat.le_refl k)⟩
def I64 (x : Int) : Prop := -9223372036854775808 ≤ x ∧ x ≤ 9223372036854775807
theorem xD2 (x : Int) : IntKind.i64.wrap x = if x % 18446744073709551616 ≥ 9223372036854775808 then x % 18446744073709551616 - 18446744073709551616 else x % 18446744073709551616 := by
 show (if (true && decide (x % 18446744073709551616 ≥ 9223372036854775808)) = true then x % 18446744073709551616 - 18446744073709551616 else x % 18446744073709551616) = _
 simp only [Bool.true_and, decide_eq_true_eq]
theorem xCi {x : Int} (h1 : -9223372036854775808 ≤ x) (h2 : x ≤ 9223372036854775807) : IntKind.i64.wrap x = x := by
 rw [xD2]
 split <;> omega
theorem xDs {α : Type} {xs : List α} {i : Nat} {x : α} {l : List α} (h : xs.drop i = x :: l) : i < xs.length ∧ xs[i]? = some x ∧ xs.drop (i + 1) = l := by
 have h1 : i < xs.length := by
  rcases Nat.lt_or_ge i xs.length with h1 | h1
  · exact h1
  · rw [List.drop_eq_nil_of_le h1] at h; cases h
 rw [List.drop_eq_getElem_cons h1] at h
 cases h
 exact ⟨h1, by simp [h1], rfl⟩
theorem xE0 {α : Type} {xs : List α} {i : Nat} (h : xs.drop i = []) : xs.length ≤ i := by simpa using h
end Go.Ab
end
section
namespace Go.Ab
inductive DK (K : Nat) : D → Prop where
 | int {k n} (h : (Lit.int k n).wf = true) : DK K (.int k n)
 | bool (b) : DK K (.bool b)
 | str {s : Str} (h : s.length ≤ K) : DK K (.str s)
 | sl {sz rows} (h : rows.length ≤ K) (hr : ∀ r ∈ rows, ∀ x ∈ r, DK K x) : DK K (.sl sz rows)
theorem DFit.dk {d : D} (h : DFit d) : DK maxLen d := by
 induction h with
 | int h => exact .int h
 | bool b => exact .bool b
 | str h => exact .str h
 | sl h _ ih => exact .sl h ih
theorem xFh {n : Int} : (Lit.int .i64 n).wf = true ↔ I64 n := by
 show (decide (_ ≤ n) && decide (n ≤ _)) = true ↔ _
 rw [Bool.and_eq_true, decide_eq_true_eq, decide_eq_true_eq]
 exact Iff.rfl
theorem DK.i64 {K : Nat} {n : Int} : DK K (.int .i64 n) ↔ I64 n := ⟨fun h => by cases h with | int h => exact xFh.1 h, fun h => .int (xFh.2 h)⟩
theorem DK.str_iff {K : Nat} {s : Str} : DK K (.str s) ↔ s.length ≤ K := ⟨fun h => by cases h; assumption, .str⟩
theorem DK.sl_iff {K sz : Nat} {α : Type} {f : α → List D} {xs : List α} : DK K (.sl sz (xs.map f)) ↔ xs.length ≤ K ∧ ∀ x ∈ xs, ∀ d ∈ f x, DK K d := by
 constructor
 · intro h
   cases h with
   | sl h hr => exact ⟨by simpa using h, fun x hx => hr _ (List.mem_map_of_mem hx)⟩
 · rintro ⟨h, hr⟩
   refine .sl (by simpa using h) fun r hr' => ?_
   obtain ⟨x, hx, rfl⟩ := List.mem_map.1 hr'
   exact hr x hx
def LFit {α : Type} (K : Nat) (p : α → Prop) (l : List α) : Prop := l.length ≤ K ∧ ∀ x ∈ l, p x
def Ty.Fit (K : Nat) (T : Ty) (x : T.den) : Prop := ∀ d ∈ T.toD x, DK K d
def Org.Fit (o : Org) : Prop := I64 o.cell ∧ I64 o.row
def Rowd.Fit (K : Nat) (r : Rowd) : Prop := LFit K I64 r.cells ∧ LFit K Org.Fit r.frm
def Str.Fit (K : Nat) (s : Str) : Prop := s.length ≤ K
def Exp.Fit (K : Nat) (v : Exp) : Prop := ∀ d ∈ Exp.toD v, DK K d
def Fil.Fit (K : Nat) (v : Fil) : Prop := Str.Fit K v.name ∧ I64 v.n
theorem xG2 {K : Nat} {r : Rowd} : (∀ d ∈ Rowd.toD r, DK K d) ↔ r.Fit K := by
 simp only [Rowd.toD, List.mem_cons, List.not_mem_nil, or_false, forall_eq_or_imp, forall_eq, DK.sl_iff, DK.i64, Rowd.Fit, LFit, Org.Fit]
theorem xHz {K : Nat} {r : Fil} : Ty.Fit K .fil r ↔ r.Fit K := by
 simp only [Ty.Fit, Ty.toD, List.mem_cons, List.not_mem_nil, or_false, forall_eq_or_imp, forall_eq, DK.str_iff, DK.i64, Fil.Fit, Str.Fit]
theorem Exp.fit_iff {K : Nat} {v : Exp} : v.Fit K ↔ I64 v.kind ∧ I64 v.n ∧ Str.Fit K v.text ∧ LFit K (Exp.Fit K) v.args := by
 cases v
 simp only [Exp.Fit, Exp.toD, Exp.toDs_eq, List.mem_cons, List.not_mem_nil, or_false, forall_eq_or_imp, forall_eq, DK.sl_iff, DK.i64, DK.str_iff, Str.Fit, LFit, Exp.kind, Exp.n, Exp.text, Exp.args]
theorem xDx {l : List Exp} {x : Exp} (h : x ∈ l) (k n : Int) (t : Str) : SizeOf.sizeOf x < SizeOf.sizeOf (Exp.mk k n t l) := by
 have := List.sizeOf_lt_of_mem h
 simp only [Exp.mk.sizeOf_spec]
 omega
theorem Exp.ind {p : Exp → Prop} (h : ∀ k n t l, (∀ x ∈ l, p x) → p (.mk k n t l)) : ∀ v, p v
 | .mk k n t l => h k n t l fun x hx => Exp.ind h x
termination_by v => SizeOf.sizeOf v
decreasing_by exact xDx hx k n t
theorem xEb {n : Int} (h : DK maxLen (CV.int .i64 n).toD) : I64 n := DK.i64.1 h
theorem xEZ {s : Str} (h : DK maxLen (CV.str s).toD) : Str.Fit maxLen s := DK.str_iff.1 h
theorem xFk {T : Ty} {f : Fl} {xs : List T.den} (h : DK maxLen (CV.sl f T xs).toD) : LFit maxLen (T.Fit maxLen) xs := DK.sl_iff.1 h
end Go.Ab
end
section
namespace Go.Ab
theorem xEX {σ ρ : Type} {L : Nat → σ → Option ρ} (m : σ → Nat) (Inv : σ → Prop) (Post : ρ → Prop)
 (hstep : ∀ s, Inv s → (∃ s', Inv s' ∧ m s' < m s ∧ ∀ n, L (n + 1) s = L n s') ∨ (∃ r, Post r ∧ ∀ n, L (n + 1) s = some r)) :
 ∀ n s, Inv s → m s < n → ∃ r, Post r ∧ L n s = some r := by
 intro n
 induction n with
 | zero => intro s _ h; omega
 | succ n ih =>
   intro s hs hn
   rcases hstep s hs with ⟨s', h1, h2, h3⟩ | ⟨r, h1, h2⟩
   · obtain ⟨r, h4, h5⟩ := ih s' h1 (by omega)
     exact ⟨r, h4, by rw [h3]; exact h5⟩
   · exact ⟨r, h1, h2 n⟩
theorem xCk {α σ ρ : Type} {L : Nat → Int → σ → Option ρ} (x0 : List α) (g : List α → σ → ρ) (Inv : Nat → σ → Prop)
 (hnil : ∀ n s, Inv x0.length s → L (n + 1) (x0.length : Nat) s = some (g [] s))
 (hcons : ∀ i x l s, x0.drop i = x :: l → i < x0.length → x0[i]? = some x → Inv i s →
   (∃ s', Inv (i + 1) s' ∧ g (x :: l) s = g l s' ∧ ∀ n, L (n + 1) (i : Nat) s = L n ((i + 1 : Nat) : Int) s') ∨ (∀ n, L (n + 1) (i : Nat) s = some (g (x :: l) s))) :
 ∀ n i s, Inv i s → i ≤ x0.length → x0.length < n + i → L n (i : Nat) s = some (g (x0.drop i) s) := by
 intro n
 induction n with
 | zero => intro i s _ h1 h2; omega
 | succ n ih =>
   intro i s hs hi hn
   cases hd : x0.drop i with
   | nil =>
     have := xE0 hd
     obtain rfl : i = x0.length := by omega
     exact hnil n s hs
   | cons x l =>
     obtain ⟨h1, h2, h3⟩ := xDs hd
     rcases hcons i x l s hd h1 h2 hs with ⟨s', h4, h5, h6⟩ | h
     · rw [h6, ih (i + 1) s' h4 (by omega) (by omega), h3, h5]
     · exact h n
theorem xBt {α : Type} {xs : List α} {i : Nat} {x : α} (h : xs[i]? = some x) (d : α) : xs.getD i d = x := by simp [List.getD, h]
theorem xAW {i : Nat} {len : Nat} (h : i < len) (hl : len ≤ 9223372036854775807) : IntKind.i64.wrap ((i : Int) + 1) = ((i + 1 : Nat) : Int) := by
 rw [xCi (by omega) (by omega)]; omega
def left (s : Nat) (l : Int) : Int := if (s : Int) ≤ l then l - s else -1
theorem xFm {s : Nat} {l : Int} (h : (s : Int) ≤ l) : left s l = l - s := by unfold left; rw [if_pos h]
theorem xEd {s : Nat} {l : Int} (h : ¬ (s : Int) ≤ l) : left s l = -1 := by unfold left; rw [if_neg h]
theorem xFg {s b : Nat} {F : Option Int} {R : Int → Option Int} {l : Int} (hl : s ≤ 9223372036854775807) (h0 : 0 ≤ l) (h1 : l ≤ 1048576)
 (hF : F = bif decide (IntKind.i64.wrap (l - (s : Int)) < 0) then some (-1) else R (IntKind.i64.wrap (l - (s : Int))))
 (hR : ∀ m, 0 ≤ m → m ≤ 1048576 → R m = some (left b m)) : F = some (left (s + b) l) := by
 rw [hF, xCi (by omega) (by omega)]
 by_cases h : (s : Int) ≤ l
 · rw [decide_eq_false (by omega), jF, hR _ (by omega) (by omega)]
   unfold left
   split <;> split <;> first | rfl | omega | (congr 1; omega)
 · rw [decide_eq_true (by omega), jT, xEd (by omega)]
theorem xE4 {a : Nat} {l : Int} {x : Option Int} (h : x = some (left a l)) : (x.bind fun r1 => bif decide (r1 < 0) then (some (-1) : Option Int) else some r1) = some (left a l) := by
 rw [h, jS]
 unfold left
 split
 · rw [decide_eq_false (by omega)]; rfl
 · rfl
section
variable {α : Type} {d : α}
theorem xG0 {L : Nat → List α → Int → Int → Option Int} {sz : α → Int → Option Int} {size : α → Nat} {x0 : List α}
 (hL : ∀ n x1 x5, L (n + 1) x0 x1 x5 = bif decide (x5 < (x0.length : Int)) then (if (0 : Int) ≤ x5 ∧ x5 < (x0.length : Int) then Option.bind (sz (x0.getD x5.toNat d) x1) fun r1 => bif decide (r1 < 0) then some (-1) else L n x0 r1 (IntKind.i64.wrap (x5 + 1)) else none) else some x1)
 (hlen : x0.length ≤ 9223372036854775807) (hsz : ∀ x ∈ x0, ∀ l, 0 ≤ l → l ≤ 1048576 → sz x l = some (left (size x) l)) {n : Nat} (hn : x0.length < n) {l : Int} (h0 : 0 ≤ l) (h1 : l ≤ 1048576) :
 L n x0 l 0 = some (left (x0.map size).sum l) := by
 have key := xCk (L := fun n i s => L n x0 s i) x0 (fun l s => left (l.map size).sum s) (fun _ s => 0 ≤ s ∧ s ≤ 1048576) (fun n s hs => by
  have hs : 0 ≤ s ∧ s ≤ 1048576 := hs
  simp only [hL]; simp [left]; omega)
  (fun i x r s hd hi hx hs => by
    have hs : 0 ≤ s ∧ s ≤ 1048576 := hs
    have hi' : (i : Int) < (x0.length : Int) := by omega
    have hm : x ∈ x0 := List.mem_of_getElem? hx
    by_cases hle : (size x : Int) ≤ s
    · refine .inl ⟨s - size x, by omega, ?_, fun n => ?_⟩
      · simp only [List.map_cons, List.sum_cons, left]
        split <;> split <;> omega
      · simp only [hL, decide_eq_true hi', jT, Int.toNat_natCast, xBt hx, hsz x hm s hs.1 hs.2, xFm hle, jS, xAW hi hlen]
        rw [if_pos (by omega), decide_eq_false (by omega), jF]
    · refine .inr fun n => ?_
      simp only [hL, decide_eq_true hi', jT, Int.toNat_natCast, xBt hx, hsz x hm s hs.1 hs.2, xEd hle, jS]
      rw [if_pos (by omega), decide_eq_true (by omega), jT]
      simp only [List.map_cons, List.sum_cons, left]
      rw [if_neg (by omega)])
  n 0 l ⟨h0, h1⟩ (by omega) (by omega)
 simpa using key
theorem xG1 {L : Nat → List α → List α → Int → Option (List α)} {to : α → Option α} {re : α → α} {x0 : List α}
 (hL : ∀ n x3 x4, L (n + 1) x0 x3 x4 = bif decide (x4 < (x0.length : Int)) then (if (0 : Int) ≤ x4 ∧ x4 < (x0.length : Int) then Option.bind (to (x0.getD x4.toNat d)) fun r1 => (if (0 : Int) ≤ x4 ∧ x4 < (x3.length : Int) then L n x0 (x3.set x4.toNat (re r1)) (IntKind.i64.wrap (x4 + 1)) else none) else none) else some x3)
 (hlen : x0.length ≤ 9223372036854775807) (hto : ∀ x ∈ x0, ∃ y, to x = some y ∧ re y = x) {n : Nat} (hn : x0.length < n) :
 L n x0 (List.replicate x0.length d) 0 = some x0 := by
 have key := xCk (L := fun n i s => L n x0 s i) x0 (fun _ _ => x0) (fun i s => s = x0.take i ++ List.replicate (x0.length - i) d) (fun n s hs => by
  have hs : s = x0.take x0.length ++ List.replicate (x0.length - x0.length) d := hs
  simp only [hL]; simp [hs])
  (fun i x r s hd hi hx hs => by
    have hs : s = x0.take i ++ List.replicate (x0.length - i) d := hs
    have hi' : (i : Int) < (x0.length : Int) := by omega
    have hm : x ∈ x0 := List.mem_of_getElem? hx
    obtain ⟨y, h1, h2⟩ := hto x hm
    have hsl : s.length = x0.length := by rw [hs]; simp; omega
    refine .inl ⟨s.set i x, ?_, rfl, fun n => ?_⟩
    · show s.set i x = x0.take (i + 1) ++ List.replicate (x0.length - (i + 1)) d
      rw [hs, List.set_append]
      have : (x0.take i).length = i := by simp; omega
      rw [this, if_neg (by omega), List.take_add_one, hx, Option.toList_some, List.append_assoc, Nat.sub_self]
      rw [show x0.length - i = (x0.length - (i + 1)) + 1 from by omega, List.replicate_succ, List.set_cons_zero]
      rfl
    · simp only [hL, decide_eq_true hi', jT, Int.toNat_natCast, xBt hx, h1, h2, jS, xAW hi hlen, hsl]
      rw [if_pos (by omega), if_pos (by omega)])
  n 0 (List.replicate x0.length d) (by simp) (by omega) (by omega)
 exact key
theorem xFb {L : Nat → Int → Option Bool} {x0 : List α} (hend : ∀ n, L (n + 1) (x0.length : Nat) = some true)
 (hcons : ∀ (i : Nat) x n, i < x0.length → x0[i]? = some x → x ∈ x0 → L (n + 1) (i : Nat) = L n ((i + 1 : Nat) : Int)) {n : Nat} (hn : x0.length < n) : L n 0 = some true := by
 have key := xCk (σ := Unit) (L := fun n i _ => L n i) x0 (fun _ _ => true) (fun _ _ => True) (fun n _ _ => hend n)
  (fun i x r s hd hi hx _ => .inl ⟨(), trivial, rfl, fun n => hcons i x n hi hx (List.mem_of_getElem? hx)⟩) n 0 () trivial (by omega) (by omega)
 exact key
end
end Go.Ab
end
section
namespace Go.Ab
theorem vk (a b c : Int) (t : Str) (l : List Val) (k : List Str) (r : List Rowd) : (Val.mk a b c t l k r).kind = a := rfl
theorem vs (a b c : Int) (t : Str) (l : List Val) (k : List Str) (r : List Rowd) : (Val.mk a b c t l k r).step = c := rfl
theorem vl (a b c : Int) (t : Str) (l : List Val) (k : List Str) (r : List Rowd) : (Val.mk a b c t l k r).list = l := rfl
theorem vr (a b c : Int) (t : Str) (l : List Val) (k : List Str) (r : List Rowd) : (Val.mk a b c t l k r).rows = r := rfl
theorem ek (a b : Int) (t : Str) (l : List Exp) : (Exp.mk a b t l).kind = a := rfl
theorem en (a b : Int) (t : Str) (l : List Exp) : (Exp.mk a b t l).n = b := rfl
theorem et (a b : Int) (t : Str) (l : List Exp) : (Exp.mk a b t l).text = t := rfl
theorem ea (a b : Int) (t : Str) (l : List Exp) : (Exp.mk a b t l).args = l := rfl
mutual
def Exp.size : Exp → Nat
 | .mk _ _ t a => t.length + (a.length + Exp.sizes a)
def Exp.sizes : List Exp → Nat
 | [] => 0
 | x :: r => Exp.size x + Exp.sizes r
end
theorem Exp.sizes_eq (l : List Exp) : Exp.sizes l = (l.map Exp.size).sum := by
 induction l with
 | nil => rfl
 | cons x l ih => simp [Exp.sizes, ih]
theorem xDq {α : Type} {f : α → Nat} {l : List α} {x : α} (h : x ∈ l) : f x ≤ (l.map f).sum := by
 induction l with
 | nil => cases h
 | cons a l ih =>
   simp only [List.map_cons, List.sum_cons]
   rcases List.mem_cons.1 h with rfl | h
   · omega
   · have := ih h; omega
theorem Exp.size_eq (e : Exp) : e.size = e.text.length + (e.args.length + (e.args.map Exp.size).sum) := by
 cases e; simp [Exp.size, Exp.sizes_eq, Exp.text, Exp.args]
theorem xEM {α : Type} {K M : Nat} {p q : α → Prop} {f : α → Nat} {l : List α} (h : LFit M p l) (hs : l.length + (l.map f).sum ≤ K) (hpq : ∀ x ∈ l, p x → f x ≤ K → q x) : LFit K q l :=
 ⟨by omega, fun x hx => hpq x hx (h.2 x hx) (by have := xDq (f := f) hx; omega)⟩
theorem Exp.fit_size {K M : Nat} : ∀ e : Exp, e.Fit M → e.size ≤ K → e.Fit K := by
 refine Exp.ind fun k n t l ih h hs => ?_
 rw [Exp.fit_iff] at h ⊢
 obtain ⟨h1, h2, h3, h4⟩ := h
 have hs := hs
 rw [Exp.size_eq] at hs
 exact ⟨h1, h2, show List.length _ ≤ K from by omega, xEM h4 (by omega) fun x hx => ih x hx⟩
theorem xCR (n : Nat) : Big fun N => n < N := ⟨n + 1, fun N h => by omega⟩
end Go.Ab
end
section
namespace Go.Ab
theorem xEe {α : Type} {Lm : Nat → List α → Int → Int → Option (Int × List α)} {Lh : Nat → List α → Int → Int → Option Int} {c : α → Nat} {x0 : List α} {k0 B : Int} {n : Nat}
 (hm : ∀ n xs k, xs.length = x0.length → Lm (n + 1) xs k (xs.length : Nat) = some (k, xs)) (hh : ∀ n ys k, ys.length = x0.length → Lh (n + 1) ys k (ys.length : Nat) = some k)
 (hx : ∀ x ∈ x0, ∀ k, k0 ≤ k → k + c x ≤ B → ∃ y, (∀ n xs (i : Nat), xs.length = x0.length → xs[i]? = some x → Lm (n + 1) xs k i = Lm n (xs.set i y) (k + c x) ((i + 1 : Nat) : Int)) ∧
   (∀ n ys (i : Nat), ys.length = x0.length → ys[i]? = some y → Lh (n + 1) ys k i = Lh n ys (k + c x) ((i + 1 : Nat) : Int)))
 (hk : k0 + (x0.map c).sum ≤ B) (hn : x0.length < n) : ∃ ys, ys.length = x0.length ∧ Lm n x0 k0 0 = some (k0 + (x0.map c).sum, ys) ∧ Lh n ys k0 0 = some (k0 + (x0.map c).sum) := by
 have key : ∀ (l pre : List α) (k : Int) (n : Nat), pre.length + l.length = x0.length → (∀ x ∈ l, x ∈ x0) → k0 ≤ k → k + (l.map c).sum ≤ B → l.length < n →
  ∃ ys, ys.length = l.length ∧ Lm n (pre ++ l) k (pre.length : Nat) = some (k + (l.map c).sum, pre ++ ys) ∧ ∀ pre' : List α, pre'.length = pre.length → Lh n (pre' ++ ys) k (pre.length : Nat) = some (k + (l.map c).sum) := by
  intro l
  induction l with
  | nil =>
    intro pre k n hl hmem h0 hB hn
    obtain ⟨n, rfl⟩ : ∃ m, n = m + 1 := ⟨n - 1, by simp at hn; omega⟩
    refine ⟨[], rfl, ?_, fun pre' hp => ?_⟩
    · have := hm n (pre ++ []) k (by simpa using hl)
      simpa using this
    · have := hh n (pre' ++ []) k (by simp [hp]; simpa using hl)
      simp only [List.append_nil, hp] at this
      simpa using this
  | cons x l ih =>
    intro pre k n hl hmem h0 hB hn
    obtain ⟨n, rfl⟩ : ∃ m, n = m + 1 := ⟨n - 1, by simp at hn; omega⟩
    simp only [List.map_cons, List.sum_cons, jC] at hB hl hn
    obtain ⟨y, h1, h2⟩ := hx x (hmem x List.mem_cons_self) k h0 (by omega)
    obtain ⟨ys, g1, g2, g3⟩ := ih (pre ++ [y]) (k + c x) n (by simp; omega) (fun z hz => hmem z (List.mem_cons_of_mem _ hz)) (by omega) (by omega) (by omega)
    refine ⟨y :: ys, by simp [g1], ?_, fun pre' hp => ?_⟩
    · rw [h1 n (pre ++ x :: l) pre.length (by simp; omega) (by simp)]
      rw [List.set_append, if_neg (by omega), Nat.sub_self, List.set_cons_zero]
      have e : ((pre.length + 1 : Nat) : Int) = ((pre ++ [y]).length : Nat) := by simp
      rw [e, show pre ++ y :: l = (pre ++ [y]) ++ l from by simp, g2]
      simp only [List.map_cons, List.sum_cons, List.append_assoc, List.cons_append, List.nil_append]
      congr 2
      omega
    · rw [h2 n (pre' ++ y :: ys) pre.length (by simp [hp, g1]; omega) (by rw [← hp]; simp)]
      have e : ((pre.length + 1 : Nat) : Int) = ((pre ++ [y]).length : Nat) := by simp
      rw [e, show pre' ++ y :: ys = (pre' ++ [y]) ++ ys from by simp, g3 (pre' ++ [y]) (by simp [hp])]
      simp only [List.map_cons, List.sum_cons]
      congr 1
      omega
 obtain ⟨ys, h1, h2, h3⟩ := key x0 [] k0 n (by simp) (fun x h => h) (Int.le_refl _) hk hn
 exact ⟨ys, h1, h2, by simpa using h3 [] rfl⟩
theorem xDH {α : Type} {xs : List α} {i : Nat} (h : i < xs.length) (y d : α) : (xs.set i y).getD i d = y := by simp [List.getD, h]
end Go.Ab
end
section
namespace Go.Ab
theorem xEy : ∀ e : Exp, e.Fit maxLen → Big2 fun N d => ∀ l, 0 ≤ l → l ≤ 1048576 → (xAG N d).c_laws_szExpr e l = some (left e.size l) := by
 refine Exp.ind fun k n t a ih h => ?_
 obtain ⟨h1, h2, h3, h4⟩ := Exp.fit_iff.1 h
 refine Big2.succ (Big2.succ ?_)
 refine ((Big2.list fun x hx => ih x hx (h4.2 x hx)).and (xCR a.length).two).imp fun N d ⟨hx, hn⟩ l h0 l1 => ?_
 rw [Exp.size_eq]
 exact xFg h3 h0 l1 rfl fun m m0 m1 => xE4 (xFg h4.1 m0 m1 rfl fun m m0 m1 =>
  xG0 (L := fun n x0 x1 x5 => xB6 N (xAG N d).c_laws_szExpr (xAG N d).c_laws_szExprS n x0 x1 x5) (d := Ty.exp.dflt) (sz := (xAG N d).c_laws_szExpr)
   (fun _ _ _ => rfl) h4.1 (fun x hxm l h0 h1 => hx x hxm l h0 h1) hn m0 m1)
theorem xEz {K : Nat} (hK : K ≤ 1048576) : ∀ e : Exp, e.Fit K → Big2 fun N d => (xAu N d).c_laws_toExpr e = some e := by
 refine Exp.ind fun k n t a ih h => ?_
 obtain ⟨h1, h2, h3, h4⟩ := Exp.fit_iff.1 h
 refine Big2.succ (Big2.succ ?_)
 refine ((Big2.list fun x hx => ih x hx (h4.2 x hx)).and (xCR a.length).two).imp fun N d ⟨hx, hn⟩ => ?_
 have hl : a.length ≤ K := h4.1
 have key : (xAu N (d + 1)).c_laws_toExprS a = some a := by
  show xBC _ _ _ a = _
  unfold xBC
  rw [if_pos ⟨by omega, rfl, by unfold Lim; omega⟩]
  exact xG1 (L := fun n x0 x3 x4 => xB7 N (xAu N d).c_laws_toExpr (xAu N d).c_laws_toExprS n x0 x3 x4) (to := (xAu N d).c_laws_toExpr) (re := Exp.re) (fun _ _ _ => rfl) (by omega) (fun x hxm => ⟨x, hx x hxm, Exp.re_eq x⟩) hn
 show xBJ N (xAu N (d + 1)).c_laws_toExpr (xAu N (d + 1)).c_laws_toExprS _ = _
 unfold xBJ
 show Option.bind ((xAu N (d + 1)).c_laws_toExprS a) _ = _
 rw [key]; rfl
theorem xEu {K : Nat} (hK : K ≤ 9223372036854775807) : ∀ e : Exp, e.Fit K → Big2 fun N d => (xAz N d).c_laws_eqExpr e e = some true := by
 refine Exp.ind fun k n t a ih h => ?_
 obtain ⟨h1, h2, h3, h4⟩ := Exp.fit_iff.1 h
 refine Big2.succ (Big2.succ ?_)
 refine ((Big2.list fun x hx => ih x hx (h4.2 x hx)).and (xCR a.length).two).imp fun N d ⟨hx, hn⟩ => ?_
 have hl : a.length ≤ K := h4.1
 have key : (xAz N (d + 1)).c_laws_eqExprS a a = some true := by
  show xBz _ _ _ a a = _
  unfold xBz
  rw [bne_self_eq_false, jF]
  exact xFb (L := fun n i => xBy N (xAz N d).c_laws_eqExpr (xAz N d).c_laws_eqExprS n a a i) (fun n => by simp [xBy]) (fun i x n hi hxi hm => by
   have hi' : (i : Int) < (a.length : Int) := by omega
   simp only [xBy, decide_eq_true hi', jT, Int.toNat_natCast, xBt hxi, hx x hm, jS, xAW hi (by omega), Bool.not_true, jF]
   rw [if_pos (by omega), if_pos (by omega)]) hn
 show xBH N (xAz N (d + 1)).c_laws_eqExpr (xAz N (d + 1)).c_laws_eqExprS _ _ = _
 unfold xBH
 simp [Exp.args, key]
theorem xDb {e : Exp} (h : e.Fit maxLen) : Big fun N => xCB N e 1048576 = some (left e.size 1048576) := (xEy e h).diag.imp fun N h => h _ (by omega) (by omega)
theorem xD1 {e : Exp} (h : e.Fit 1048576) : Big fun N => xBu N e = some e := (xEz (by omega) e h).diag
theorem xDt {e : Exp} {K : Nat} (h : e.Fit K) (hK : K ≤ 9223372036854775807) : Big fun N => xCA N e e = some true := (xEu hK e h).diag
end Go.Ab
end
section
namespace Go.Ab
theorem xDK {N : Nat} {xs : List Str} {s : Str} (hl : xs.length ≤ 9223372036854775807) (hn : xs.length < N) : xCa N xs s = some (xs.any (· == s)) :=
 xCk (σ := Unit) (L := fun n i _ => xBG N n xs s i) xs (fun l _ => l.any (· == s)) (fun _ _ => True) (fun n _ _ => by simp [xBG])
  (fun i x l _ hd hi hx _ => by
    have hi' : (i : Int) < (xs.length : Int) := by omega
    cases h1 : x == s
    · refine .inl ⟨(), trivial, by simp [h1], fun n => ?_⟩
      simp only [xBG, decide_eq_true hi', jT, Int.toNat_natCast, xBt hx, h1, jF, xAW hi hl]
      rw [if_pos (by omega)]
    · refine .inr fun n => ?_
      simp only [xBG, decide_eq_true hi', jT, Int.toNat_natCast, xBt hx, h1]
      rw [if_pos (by omega)]
      simp [h1]) N 0 () trivial (by omega) (by omega)
end Go.Ab
end
section
namespace Go.Ab
theorem guard {s : Nat} (h : ¬ left s 1048576 < 0) : s ≤ 1048576 := by unfold left at h; split at h <;> omega
theorem xDh {a0 : Exp} (f0 : ∀ z ∈ [CV.int .i64 (Exp.kind a0), .int .i64 (Exp.n a0), .str (Exp.text a0), .sl .ro .exp (Exp.args a0)], DFit z.toD) : a0.Fit maxLen := by
 have f := fun z hz => (f0 z hz).dk
 simp only [List.mem_cons, List.not_mem_nil, or_false, forall_eq_or_imp, forall_eq] at f
 obtain ⟨h1, h2, h3, h4⟩ := f
 exact Exp.fit_iff.2 ⟨xEb h1, xEb h2, xEZ h3, xFk h4⟩
end Go.Ab
end
section
namespace Go.Ab
theorem xC7 {N : Nat} (hN : 274877906944 < N) {k : Int} (h0 : 0 ≤ k) (h1 : k ≤ 137438953472) : ∃ t, xBr N k = some t := by
 unfold xBr
 cases decide (k ≤ 0)
 · rw [jF]
   obtain ⟨r, _, hr⟩ := xEX (L := fun n (s : Int × Str) => xBo N n s.1 s.2) (fun s => s.1.toNat) (fun s => 0 ≤ s.1 ∧ (s.2.length : Int) + s.1 ≤ 137438953472) (fun _ => True) (fun s hs => by
    obtain ⟨x, t⟩ := s
    obtain ⟨g0, g1⟩ := hs
    have g0 : 0 ≤ x := g0
    have g1 : (t.length : Int) + x ≤ 137438953472 := g1
    by_cases hx : x > 0
    · have hq : Int.tdiv x 10 = x / 10 := Int.tdiv_eq_ediv_of_nonneg g0
      refine .inl ⟨(IntKind.i64.wrap (Int.tdiv x 10), (List.map (fun n => UInt8.ofNat (Int.toNat n)) [(IntKind.u8.wrap ((IntKind.i64.wrap (48 + (Int.tmod x 10)))))]) ++ t), ?_, ?_, fun n => ?_⟩
      · show 0 ≤ IntKind.i64.wrap (Int.tdiv x 10) ∧ _
        rw [hq, xCi (by omega) (by omega)]
        simp only [List.map_cons, List.map_nil, List.cons_append, List.nil_append, jC]
        omega
      · show (IntKind.i64.wrap (Int.tdiv x 10)).toNat < x.toNat
        rw [hq, xCi (by omega) (by omega)]
        omega
      · simp only [xBo, decide_eq_true hx, jT]
        rw [if_pos (by simp only [List.map_cons, List.map_nil, jC, jN]; unfold Lim; omega)]
    · refine .inr ⟨[109] ++ t, trivial, fun n => ?_⟩
      simp only [xBo, decide_eq_false hx, jF]
      rw [if_pos (by simp only [jC, jN]; unfold Lim; omega)]) N (k, []) ⟨h0, by simpa using h1⟩ (by show k.toNat < N; omega)
   exact ⟨r, hr⟩
 · exact ⟨_, rfl⟩
end Go.Ab
end
section
namespace Go.Ab
theorem xDr : ∀ x : Str, Op.bytesLess x x = false
 | [] => rfl
 | a :: x => by simp [Op.bytesLess, xDr x]
theorem xDo : ∀ {x y z : Str}, Op.bytesLess x y = true → Op.bytesLess y z = true → Op.bytesLess x z = true
 | _, [], _, h, _ => by simp [Op.bytesLess] at h
 | _, _ :: _, [], _, h => by simp [Op.bytesLess] at h
 | [], _ :: _, _ :: _, _, _ => rfl
 | a :: x, b :: y, c :: z, h, h' => by
   simp only [Op.bytesLess, Bool.or_eq_true, Bool.and_eq_true, decide_eq_true_eq, beq_iff_eq] at h h' ⊢
   rcases h with h | ⟨rfl, h⟩
   · rcases h' with h' | ⟨rfl, h'⟩
     · exact .inl (UInt8.lt_trans h h')
     · exact .inl h
   · rcases h' with h' | ⟨rfl, h'⟩
     · exact .inl h'
     · exact .inr ⟨rfl, xDo h h'⟩
theorem xDn : ∀ {x y : Str}, Op.bytesLess x y = false → x ≠ y → Op.bytesLess y x = true
 | [], [], _, h => absurd rfl h
 | [], _ :: _, h, _ => by simp [Op.bytesLess] at h
 | _ :: _, [], _, _ => rfl
 | a :: x, b :: y, h, h' => by
   simp only [Op.bytesLess, Bool.or_eq_false_iff, decide_eq_false_iff_not, Bool.and_eq_false_imp, beq_iff_eq, Bool.or_eq_true, Bool.and_eq_true, decide_eq_true_eq] at h ⊢
   by_cases e : a = b
   · subst e
     exact .inr ⟨rfl, xDn (h.2 rfl) fun e => h' (by rw [e])⟩
   · left
     rcases UInt8.lt_or_lt_of_ne e with h1 | h1
     · exact absurd h1 h.1
     · exact h1
theorem xEa {x y : Str} (h : Op.bytesLess x y = true) : Op.bytesLess y x = false := by
 cases h' : Op.bytesLess y x
 · rfl
 · have := xDo h h'; rw [xDr] at this; cases this
theorem xGG {x y : Str} (h : Op.bytesLess x y = true) : x ≠ y := by rintro rfl; rw [xDr] at h; cases h
end Go.Ab
end
section
namespace Go.Ab
theorem xCS {N : Nat} {x0 : List Str} (hl : x0.length ≤ 9223372036854775807) (hn : x0.length < N) : xAJ N x0 x0 = some true := by
 unfold xAJ
 rw [bne_self_eq_false, jF]
 exact xFb (L := fun n i => xBf N n x0 x0 i) (fun n => by simp [xBf]) (fun i x n hi hx hm => by
  have hi' : (i : Int) < (x0.length : Int) := by omega
  simp only [xBf, decide_eq_true hi', jT, Int.toNat_natCast, xBt hx, xAW hi hl, beq_self_eq_true, Bool.not_true, jF]
  rw [if_pos (by omega), if_pos (by omega)]) hn
def cOne {α : Type} (_ : α) : Nat := 1
theorem xEY {α : Type} (xs : List α) : (xs.map cOne).sum = xs.length := by
 induction xs with
 | nil => rfl
 | cons x l ih => simp only [List.map_cons, List.sum_cons, ih, jC, cOne]; omega
theorem xCE {N : Nat} (hN : 274877906944 < N) {xs : List Str} {k : Int} (h0 : 0 ≤ k) (h1 : k + ((xs.map cOne).sum : Nat) ≤ 137438953472) :
 ∃ ys, ys.length = xs.length ∧ xBI N xs k = some (k + ((xs.map cOne).sum : Nat), ys) ∧ xBa N ys k = some (k + ((xs.map cOne).sum : Nat)) := by
 have hs := xEY xs
 refine xEe (Lm := fun n xs k i => xA3 N n xs k i) (Lh := fun n ys k i => xA1 N n ys k i) (c := cOne) (fun n xs k hl => by simp [xA3]) (fun n ys k hl => by simp [xA1])
  (fun x hx k hk hB => ?_) h1 (by omega)
 have hc : cOne x = 1 := rfl
 rw [hc] at hB ⊢
 obtain ⟨t, ht⟩ := xC7 hN (k := k) (by omega) (by omega)
 refine ⟨t, fun n xs' i hl hxi => ?_, fun n ys i hl hyi => ?_⟩
 · have hi := (List.getElem?_eq_some_iff.1 hxi).1
   have hi' : (i : Int) < (xs'.length : Int) := by omega
   simp only [xA3, decide_eq_true hi', jT, Int.toNat_natCast, ht, jS, xAW hi (by omega : xs'.length ≤ _), xCi (x := k + 1) (by omega) (by omega)]
   rw [if_pos (by omega)]; rfl
 · have hi := (List.getElem?_eq_some_iff.1 hyi).1
   have hi' : (i : Int) < (ys.length : Int) := by omega
   simp only [xA1, decide_eq_true hi', jT, Int.toNat_natCast, xBt hyi, ht, jS, xAW hi (by omega : ys.length ≤ _), xCi (x := k + 1) (by omega) (by omega), beq_self_eq_true, Bool.not_true, jF]
   rw [if_pos (by omega)]; rfl
end Go.Ab
end
section
namespace Go.Ab
def allI {α : Type} (p : Nat → α → Bool) : List α → Nat → Bool
 | [], _ => true
 | x :: r, i => p i x && allI p r (i + 1)
theorem xEE {α : Type} {p : Nat → α → Bool} : ∀ {l : List α} {i : Nat}, allI p l i = true → ∀ (j : Nat) (x : α), l[j]? = some x → p (i + j) x = true
 | [], i, _, j, x, hj => by simp at hj
 | y :: r, i, h, j, x, hj => by
   simp only [allI, Bool.and_eq_true] at h
   cases j with
   | zero => simp at hj; subst hj; exact h.1
   | succ j =>
     have := xEE h.2 j x (by simpa using hj)
     rw [show i + (j + 1) = i + 1 + j from by omega]; exact this
def idxS : List Str → Str → Nat → Int
 | [], _, _ => -1
 | x :: r, s, i => bif x == s then (i : Int) else idxS r s (i + 1)
theorem xCm {N : Nat} {xs : List Str} {s : Str} (hl : xs.length ≤ 9223372036854775807) (hn : xs.length < N) : xBp N xs s = some (idxS xs s 0) :=
 xCk (L := fun n i _ => xBk N n s xs xs.length i) xs (fun l q => idxS l s q) (fun i q => q = i) (fun n q _ => by simp [xBk, idxS])
  (fun i x l q hd hi hx hq => by
    have hi' : (i : Int) < (xs.length : Int) := by omega
    have hq : q = i := hq
    subst hq
    cases h1 : x == s
    · refine .inl ⟨q + 1, rfl, by simp only [idxS, h1, jF], fun n => ?_⟩
      simp only [xBk, decide_eq_true hi', jT, Int.toNat_natCast, xBt hx, h1, jF, xAW hi hl]
      rw [if_pos (by omega)]
    · refine .inr fun n => ?_
      simp only [xBk, decide_eq_true hi', jT, Int.toNat_natCast, xBt hx, h1]
      rw [if_pos (by omega)]
      simp only [idxS, h1, jT]) N 0 0 rfl (by omega) (by omega)
theorem xEJ {s : Str} : ∀ {xs : List Str} {j i : Nat}, xs[i]? = some s → (idxS xs s j == ((j + i : Nat) : Int)) = !(xs.take i).any (· == s)
 | [], j, i, h => by simp at h
 | x :: r, j, 0, h => by
   simp at h; subst h
   simp [idxS]
 | x :: r, j, i + 1, h => by
   have h' : r[i]? = some s := by simpa using h
   have ih := xEJ (j := j + 1) h'
   simp only [idxS, List.take_succ_cons, List.any_cons]
   cases hx : x == s
   · simp only [jF, Bool.false_or]
     rw [← ih, show j + (i + 1) = j + 1 + i from by omega]
   · simp only [jT, Bool.true_or, Bool.not_true]
     simp; omega
end Go.Ab
end
section
namespace Go.Ab
def kb : List Val → List Int → Bool
 | [], _ => false
 | _ :: _, [] => false
 | x :: r, k :: ks => (x.kind != k) || kb r ks
end Go.Ab
end
section
namespace Go.Ab
def pick (k : Int) (n : Int) (rs : List Rowd) : List Rowd := rs.filter fun r => r.cells.getD k.toNat Ty.int.dflt == n
end Go.Ab
end
section
namespace Go.Ab
def dd (n : Nat) : Str := if n = 0 then [] else Lib.decDigits n
mutual
def Exp.cnt : Exp → Nat
 | .mk _ _ _ a => 1 + Exp.cnts a
def Exp.cnts : List Exp → Nat
 | [] => 0
 | x :: r => Exp.cnt x + Exp.cnts r
end
theorem Exp.cnts_eq (l : List Exp) : Exp.cnts l = (l.map Exp.cnt).sum := by
 induction l with
 | nil => rfl
 | cons x l ih => simp only [Exp.cnts, List.map_cons, List.sum_cons, ih]
theorem Exp.cnt_eq (e : Exp) : e.cnt = 1 + (e.args.map Exp.cnt).sum := by
 cases e; simp only [Exp.cnt, Exp.cnts_eq, Exp.args]
theorem xEW {f g : Exp → Nat} : ∀ {a : List Exp}, (∀ x ∈ a, f x ≤ g x + 1) → (a.map f).sum ≤ a.length + (a.map g).sum
 | [], _ => Nat.le_refl _
 | x :: l, ih => by
   have h1 := ih x List.mem_cons_self
   have h2 := xEW fun y hy => ih y (List.mem_cons_of_mem _ hy)
   simp only [List.map_cons, List.sum_cons, jC]; omega
theorem Exp.cnt_le : ∀ e : Exp, e.cnt ≤ e.size + 1 := by
 refine Exp.ind fun k n t a ih => ?_
 rw [Exp.cnt_eq, Exp.size_eq]
 have := xEW ih
 show 1 + (a.map Exp.cnt).sum ≤ t.length + (a.length + (a.map Exp.size).sum) + 1
 omega
end Go.Ab
end
section
namespace Go.Ab
theorem xEc {s : Str} : ∀ (xs : List Str) (j : Nat), decide (idxS xs s j < 0) = !(xs.any (· == s))
 | [], j => rfl
 | x :: r, j => by
   by_cases h : (x == s) = true
   · rw [show idxS (x :: r) s j = (j : Int) from by simp only [idxS, h, jT]]
     simp only [List.any_cons, h, Bool.true_or, Bool.not_true]
     exact decide_eq_false (by omega)
   · have h := Bool.eq_false_iff.2 h
     rw [show idxS (x :: r) s j = idxS r s (j + 1) from by simp only [idxS, h, jF], xEc r (j + 1)]
     simp only [List.any_cons, h, Bool.false_or]
def inn (bd : List Str) (b : Bool) (t : Str) (f : Bool) : List Str := bif b && !f then bd ++ [t] else bd
theorem xEK {bd : List Str} {b : Bool} {t : Str} {f : Bool} : (inn bd b t f).length ≤ bd.length + 1 := by
 unfold inn
 cases b && !f
 · simp
 · simp
def xA8 (k : Int) : Bool := k == 7 || k == 9
mutual
def xCl : Exp → List Str → List Str
 | .mk k n t a, bd => bif (k == 3) && !(bd.any (· == t)) then [t] else xC1 a bd (xA8 k) t true
def xC1 : List Exp → List Str → Bool → Str → Bool → List Str
 | [], _, _, _, _ => []
 | x :: r, bd, b, t, f => xCl x (inn bd b t f) ++ xC1 r bd b t false
end
mutual
def xBO : Exp → List Str
 | .mk k n t a => (bif xA8 k then [t] else []) ++ xCj a
def xCj : List Exp → List Str
 | [] => []
 | x :: r => xBO x ++ xCj r
end
theorem xEI {a : List Exp} (h : ∀ x ∈ a, ∀ bd, (xCl x bd).length ≤ x.cnt) : ∀ bd b t f, (xC1 a bd b t f).length ≤ (a.map Exp.cnt).sum := by
 induction a with
 | nil => intros; simp [xC1]
 | cons x r ih =>
   intro bd b t f
   have h1 := h x List.mem_cons_self (inn bd b t f)
   have h2 := ih (fun y hy => h y (List.mem_cons_of_mem _ hy)) bd b t false
   simp only [xC1, jA, List.map_cons, List.sum_cons]; omega
theorem xC0 : ∀ (e : Exp) (bd : List Str), (xCl e bd).length ≤ e.cnt := by
 refine Exp.ind fun k n t a ih bd => ?_
 rw [Exp.cnt_eq]
 have := xEI ih bd (xA8 k) t true
 simp only [xCl]
 cases (k == 3) && !(bd.any (· == t))
 · simp only [jF]; show _ ≤ 1 + (a.map Exp.cnt).sum; omega
 · simp only [jT, List.length_singleton]; omega
theorem xEr {a : List Exp} (h : ∀ x ∈ a, (xBO x).length ≤ x.cnt) : (xCj a).length ≤ (a.map Exp.cnt).sum := by
 induction a with
 | nil => simp [xCj]
 | cons x r ih =>
   have h1 := h x List.mem_cons_self
   have h2 := ih (fun y hy => h y (List.mem_cons_of_mem _ hy))
   simp only [xCj, jA, List.map_cons, List.sum_cons]; omega
theorem xCN : ∀ (e : Exp), (xBO e).length ≤ e.cnt := by
 refine Exp.ind fun k n t a ih => ?_
 rw [Exp.cnt_eq]
 have := xEr ih
 simp only [xBO, jA]
 show _ ≤ 1 + (a.map Exp.cnt).sum
 cases xA8 k
 · simp; omega
 · simp; omega
theorem xDZ {k n : Int} {t : Str} {a : List Exp} {x : Exp} (h : x ∈ a) : x.size + 1 ≤ (Exp.mk k n t a).size ∧ a.length ≤ (Exp.mk k n t a).size := by
 have e : (Exp.mk k n t a).size = t.length + (a.length + (a.map Exp.size).sum) := Exp.size_eq _
 have := xDq (f := Exp.size) h
 have := List.length_pos_of_mem h
 omega
theorem xEj {k n : Int} {t : Str} {a : List Exp} : a.length ≤ (Exp.mk k n t a).size := by
 rw [Exp.size_eq]
 show a.length ≤ t.length + (a.length + (a.map Exp.size).sum)
 omega
theorem xGJ {k : Int} (h : (k == 3) = true) : xA8 k = false ∧ (k == 7) = false ∧ (k == 9) = false := by
 have : k = 3 := by simpa using h
 subst this; exact ⟨rfl, rfl, rfl⟩
section
variable {N d : Nat} {k n : Int} {t : Str} {a : List Exp} {bd : List Str}
theorem xDp {x : Exp} {l : List Exp} {i : Nat} (h : a.drop i = x :: l) : ((a.drop i).map Exp.cnt).sum = x.cnt + ((a.drop (i + 1)).map Exp.cnt).sum := by
 obtain ⟨_, _, h3⟩ := xDs h
 rw [h3, h]; rfl
theorem xET {i : Nat} (h : (decide ((i : Int) > 0)) = true) : (i == 0) = false := by
 have := of_decide_eq_true h
 simp; omega
theorem xD9 {i : Nat} (h : (decide ((i : Int) > 0)) = false) : (i == 0) = true := by
 have := of_decide_eq_false h
 simp; omega
theorem xGE (hN : 4000000 < N) (hbd : bd.length + 1 ≤ 4000000) (hal : a.length ≤ 4000000) {b : Bool} {e : Exp} {out : List Str} (ht : e.text = t) (ho : out.length + (a.map Exp.cnt).sum ≤ 8000000)
 {q : Exp → List Str → List Str → Option (List Str)} (hq : ∀ x ∈ a, ∀ f o, o.length + x.cnt ≤ 8000000 → q x (inn bd b t f) o = some (o ++ xCl x (inn bd b t f))) :
 xAf N q N bd b a a.length 0 e out = some (out ++ xC1 a bd b t true) := by
 have key := xCk (σ := List Str × Bool) (L := fun m i s => xAf N q m bd b a a.length i e s.1) a (fun l s => s.1 ++ xC1 l bd b t s.2) (fun i s => s.2 = (i == 0) ∧ s.1.length + ((a.drop i).map Exp.cnt).sum ≤ 8000000)
  (fun m s _ => by simp [xAf, xC1])
  (fun i x l s hd hi hxi hs => by
    obtain ⟨hs1, hs2⟩ := hs
    have hi' : (i : Int) < (a.length : Int) := by omega
    have hm := List.mem_of_getElem? hxi
    rw [xDp hd] at hs2
    have hqx := hq x hm s.2 s.1 (by omega)
    have hfl := xC0 x (inn bd b t s.2)
    refine .inl ⟨(s.1 ++ xCl x (inn bd b t s.2), false), ⟨by simp, by simp only [jA]; omega⟩, by simp only [xC1, List.append_assoc], fun m => ?_⟩
    simp only [xAf, decide_eq_true hi', jT, Int.toNat_natCast, xBt hxi, ht, List.nil_append, xAW hi (by omega : a.length ≤ _)]
    rw [if_pos (by omega)]
    unfold inn at hqx ⊢
    cases b with
    | false => simp only [Bool.false_and, jF] at hqx ⊢; rw [hqx]; rfl
    | true =>
      cases hp : decide ((i : Int) > 0) with
      | true =>
        rw [hs1, xET hp] at hqx ⊢
        simp only [Bool.not_false, Bool.and_true, jT] at hqx ⊢
        rw [if_pos (by unfold Lim; omega), if_pos (by simp only [List.length_singleton]; unfold Lim; omega), hqx]; rfl
      | false =>
        rw [hs1, xD9 hp] at hqx ⊢
        simp only [Bool.not_true, Bool.and_false, jF, jT] at hqx ⊢
        rw [hqx]; rfl) N 0 (out, true) ⟨rfl, by simpa using ho⟩ (by omega) (by omega)
 exact key
theorem xGC (hN : 4000000 < N) (hbd : bd.length + 1 ≤ 4000000) (hal : a.length ≤ 4000000) {out : List Str} (ho : out.length + (a.map Exp.cnt).sum ≤ 8000000)
 {q : Exp → List Str → Option (List Str)} (hq : ∀ x ∈ a, ∀ f, q x (inn bd (xA8 k) t f) = some (xCl x (inn bd (xA8 k) t f))) :
 xAH N q N bd out 0 (.mk k n t a) = some (out ++ xC1 a bd (xA8 k) t true) := by
 have key := xCk (σ := List Str × Bool) (L := fun m i s => xAH N q m bd s.1 i (.mk k n t a)) a (fun l s => s.1 ++ xC1 l bd (xA8 k) t s.2) (fun i s => s.2 = (i == 0) ∧ s.1.length + ((a.drop i).map Exp.cnt).sum ≤ 8000000)
  (fun m s _ => by simp [xAH, xC1, ea])
  (fun i x l s hd hi hxi hs => by
    obtain ⟨hs1, hs2⟩ := hs
    have hi' : (i : Int) < (a.length : Int) := by omega
    have hm := List.mem_of_getElem? hxi
    rw [xDp hd] at hs2
    have hqx := hq x hm s.2
    have hfl := xC0 x (inn bd (xA8 k) t s.2)
    have hi2 : (i : Int) < ((Exp.mk k n t a).args.length : Int) := hi'
    have hil : (0 : Int) ≤ (i : Int) ∧ (i : Int) < ((Exp.mk k n t a).args.length : Int) := ⟨by omega, hi2⟩
    have hxi2 : (Exp.mk k n t a).args[i]? = some x := hxi
    refine .inl ⟨(s.1 ++ xCl x (inn bd (xA8 k) t s.2), false), ⟨by simp, by simp only [jA]; omega⟩, by simp only [xC1, List.append_assoc], fun m => ?_⟩
    simp only [xAH, et, ek, decide_eq_true hi2, jT, Int.toNat_natCast, xBt hxi2, List.nil_append, xAW hi (by omega : a.length ≤ _), if_pos hil]
    have hlim : s.1.length + (xCl x (inn bd (xA8 k) t s.2)).length ≤ Lim := by unfold Lim; omega
    have hg0 : 0 + bd.length ≤ Lim := by unfold Lim; omega
    have hg1 : bd.length + [t].length ≤ Lim := by simp only [List.length_singleton]; unfold Lim; omega
    simp only [if_pos hg0, if_pos hg1]
    unfold xA8 inn at hqx hlim ⊢
    cases h7 : k == 7 <;> cases h9 : k == 9 <;> cases hp : decide ((i : Int) > 0) <;> simp only [h7, h9, hp, hs1, Bool.or_false, Bool.or_true, Bool.false_and, Bool.true_and, jF, jT] at hqx hlim ⊢ <;>
     first
     | (rw [hqx]; simp only [jS]; rw [if_pos hlim])
     | (rw [xD9 hp] at hqx hlim ⊢; simp only [Bool.not_true, jF] at hqx hlim ⊢; rw [hqx]; simp only [jS]; rw [if_pos hlim])
     | (rw [xET hp] at hqx hlim ⊢; simp only [Bool.not_false, jT] at hqx hlim ⊢; rw [hqx]; simp only [jS]; rw [if_pos hlim])) N 0 (out, true) ⟨rfl, by simpa using ho⟩ (by omega) (by omega)
 exact key
end
theorem xE2 : ∀ e : Exp, Big2 fun N d => ∀ bd out, bd.length + e.size ≤ 3000000 → out.length + e.cnt ≤ 8000000 →
 xBK N d e bd = some (xCl e bd) ∧ xAv N d e bd out = some (out ++ xCl e bd) := by
 refine Exp.ind fun k n t a ih => ?_
 refine Big2.succ ?_
 refine ((Big2.list fun x hx => ih x hx).and (xCR 8000000).two).imp fun N d ⟨hx, hN⟩ bd out hb ho => ?_
 have hal := xEj (k := k) (n := n) (t := t) (a := a)
 have hcnt : (Exp.mk k n t a).cnt = 1 + (a.map Exp.cnt).sum := Exp.cnt_eq _
 have hc : ∀ x ∈ a, ∀ (f : Bool), (inn bd (xA8 k) t f).length + x.size ≤ 3000000 := fun x hm f => by
  have h1 := xEK (bd := bd) (b := xA8 k) (t := t) (f := f)
  have h2 := (xDZ (k := k) (n := n) (t := t) hm).1
  omega
 have hca : ∀ x ∈ a, x.cnt ≤ (a.map Exp.cnt).sum := fun x hm => xDq (f := Exp.cnt) hm
 have hS := xGC (N := N) (k := k) (n := n) (t := t) (a := a) (bd := bd) (q := xBK N d) (out := []) (by omega) (by omega) (by omega) (by simp; omega) fun x hm f => (hx x hm (inn bd (xA8 k) t f) [] (hc x hm f) (by have := hca x hm; simp; omega)).1
 have hV : ∀ (b : Bool) , b = xA8 k → xAf N (xAv N d) N bd b a a.length 0 (.mk k n t a) out = some (out ++ xC1 a bd (xA8 k) t true) := by
  rintro b rfl
  exact xGE (by omega) (by omega) (by omega) rfl (by omega) fun x hm f o h => (hx x hm (inn bd (xA8 k) t f) o (hc x hm f) h).2
 have hH : xCa N bd t = some (bd.any (· == t)) := xDK (by omega) (by omega)
 have hI : xBp N bd t = some (idxS bd t 0) := xCm (by omega) (by omega)
 refine ⟨?_, ?_⟩
 · show xB9 N (xBK N d) (.mk k n t a) bd = _
   simp only [xB9, xCl, ek, et, hH, jS, hS, List.nil_append, List.length_singleton]
   cases h3 : k == 3
   · simp only [jF, Bool.false_and]
   · cases bd.any (· == t)
     · simp only [jT, Bool.not_false, Bool.and_true]
       rw [if_pos (by unfold Lim; omega)]
     · simp only [jT, Bool.not_true, Bool.and_false, jF]
 · show xAR N (xAv N d) (.mk k n t a) bd out = _
   simp only [xAR, xCl, ek, et, ea, hI, jS, xEc]
   cases h3 : k == 3
   · simp only [jF, Bool.false_and]
     cases h7 : k == 7
     · cases h9 : k == 9
       · simp only [jF]; exact hV false (by simp [xA8, h7, h9])
       · simp only [jT, jF]; exact hV true (by simp [xA8, h7, h9])
     · simp only [jT]; exact hV true (by simp [xA8, h7])
   · obtain ⟨g1, g7, g9⟩ := xGJ h3
     cases bd.any (· == t)
     · simp only [jT, Bool.not_false, Bool.and_true, xCD, List.length_singleton]
       rw [if_pos (by unfold Lim; omega)]; rfl
     · simp only [jT, Bool.not_true, Bool.and_false, jF, g9]
       exact hV false g1.symm
end Go.Ab
end
section
namespace Go.Ab
section
variable {N d : Nat} {k n : Int} {t : Str} {a : List Exp} {bd : List Str}
theorem xGD (hN : 4000000 < N) (hbd : bd.length + 1 ≤ 4000000) (hal : a.length ≤ 4000000) {b : Bool} {e : Exp} {out : List Str} (ht : e.text = t) (ho : out.length + (a.map Exp.cnt).sum ≤ 8000000)
 {q : Exp → List Str → List Str → Option (List Str)} (hq : ∀ x ∈ a, ∀ f o, o.length + x.cnt ≤ 8000000 → q x (inn bd b t f) o = some (o ++ xBO x)) :
 xAa N q N bd b a a.length 0 e out = some (out ++ xCj a) := by
 have key := xCk (σ := List Str × Bool) (L := fun m i s => xAa N q m bd b a a.length i e s.1) a (fun l s => s.1 ++ xCj l) (fun i s => s.2 = (i == 0) ∧ s.1.length + ((a.drop i).map Exp.cnt).sum ≤ 8000000)
  (fun m s _ => by simp [xAa, xCj])
  (fun i x l s hd hi hxi hs => by
    obtain ⟨hs1, hs2⟩ := hs
    have hi' : (i : Int) < (a.length : Int) := by omega
    have hm := List.mem_of_getElem? hxi
    rw [xDp hd] at hs2
    have hqx := hq x hm s.2 s.1 (by omega)
    have hfl := xCN x
    refine .inl ⟨(s.1 ++ xBO x, false), ⟨by simp, by simp only [jA]; omega⟩, by simp only [xCj, List.append_assoc], fun m => ?_⟩
    simp only [xAa, decide_eq_true hi', jT, Int.toNat_natCast, xBt hxi, ht, List.nil_append, xAW hi (by omega : a.length ≤ _)]
    rw [if_pos (by omega)]
    unfold inn at hqx
    cases b with
    | false => simp only [Bool.false_and, jF] at hqx ⊢; rw [hqx]; rfl
    | true =>
      cases hp : decide ((i : Int) > 0) with
      | true =>
        rw [hs1, xET hp] at hqx
        simp only [Bool.not_false, Bool.and_true, jT] at hqx ⊢
        rw [if_pos (by unfold Lim; omega), if_pos (by simp only [List.length_singleton]; unfold Lim; omega), hqx]; rfl
      | false =>
        rw [hs1, xD9 hp] at hqx
        simp only [Bool.not_true, Bool.and_false, jF, jT] at hqx ⊢
        rw [hqx]; rfl) N 0 (out, true) ⟨rfl, by simpa using ho⟩ (by omega) (by omega)
 exact key
theorem xGB (hN : 4000000 < N) (hal : a.length ≤ 4000000) {out : List Str} (ho : out.length + (a.map Exp.cnt).sum ≤ 8000000)
 {q : Exp → Option (List Str)} (hq : ∀ x ∈ a, q x = some (xBO x)) :
 xAK N q N out 0 (.mk k n t a) = some (out ++ xCj a) := by
 have key := xCk (σ := List Str) (L := fun m i s => xAK N q m s i (.mk k n t a)) a (fun l s => s ++ xCj l) (fun i s => s.length + ((a.drop i).map Exp.cnt).sum ≤ 8000000)
  (fun m s _ => by simp [xAK, xCj, ea])
  (fun i x l s hd hi hxi hs2 => by
    have hi' : (i : Int) < (a.length : Int) := by omega
    have hm := List.mem_of_getElem? hxi
    rw [xDp hd] at hs2
    have hqx := hq x hm
    have hfl := xCN x
    have hi2 : (i : Int) < ((Exp.mk k n t a).args.length : Int) := hi'
    have hil : (0 : Int) ≤ (i : Int) ∧ (i : Int) < ((Exp.mk k n t a).args.length : Int) := ⟨by omega, hi2⟩
    have hxi2 : (Exp.mk k n t a).args[i]? = some x := hxi
    have hlim : s.length + (xBO x).length ≤ Lim := by unfold Lim; omega
    refine .inl ⟨s ++ xBO x, by simp only [jA]; omega, by simp only [xCj, List.append_assoc], fun m => ?_⟩
    simp only [xAK, decide_eq_true hi2, jT, Int.toNat_natCast, xBt hxi2, xAW hi (by omega : a.length ≤ _), if_pos hil, hqx, jS, if_pos hlim]) N 0 out (by simpa using ho) (by omega) (by omega)
 exact key
end
theorem xEG : ∀ e : Exp, Big2 fun N d => ∀ bd out, bd.length + e.size ≤ 3000000 → out.length + e.cnt ≤ 8000000 →
 xBi N d e = some (xBO e) ∧ xAs N d e bd out = some (out ++ xBO e) := by
 refine Exp.ind fun k n t a ih => ?_
 refine Big2.succ ?_
 refine ((Big2.list fun x hx => ih x hx).and (xCR 8000000).two).imp fun N d ⟨hx, hN⟩ bd out hb ho => ?_
 have hal := xEj (k := k) (n := n) (t := t) (a := a)
 have hcnt : (Exp.mk k n t a).cnt = 1 + (a.map Exp.cnt).sum := Exp.cnt_eq _
 have hc : ∀ x ∈ a, ∀ (f : Bool), (inn bd (xA8 k) t f).length + x.size ≤ 3000000 := fun x hm f => by
  have h1 := xEK (bd := bd) (b := xA8 k) (t := t) (f := f)
  have h2 := (xDZ (k := k) (n := n) (t := t) hm).1
  omega
 have hca : ∀ x ∈ a, x.cnt ≤ (a.map Exp.cnt).sum := fun x hm => xDq (f := Exp.cnt) hm
 have hS : ∀ o : List Str, o.length ≤ 1 → xAK N (xBi N d) N o 0 (.mk k n t a) = some (o ++ xCj a) := fun o ho1 =>
  xGB (by omega) (by omega) (by omega) fun x hm => (hx x hm (inn bd (xA8 k) t true) [] (hc x hm true) (by have := hca x hm; simp; omega)).1
 have hV : ∀ (b : Bool) (o : List Str), b = xA8 k → o.length ≤ out.length + 1 → xAa N (xAs N d) N bd b a a.length 0 (.mk k n t a) o = some (o ++ xCj a) := by
  rintro b o rfl ho1
  exact xGD (by omega) (by omega) (by omega) rfl (by omega) fun x hm f o h => (hx x hm (inn bd (xA8 k) t f) o (hc x hm f) h).2
 have hI : xBp N bd t = some (idxS bd t 0) := xCm (by omega) (by omega)
 have hB : xBd N t out = some (out ++ [t]) := by
  unfold xBd
  rw [if_pos (by simp only [List.length_singleton]; unfold Lim; omega)]
 refine ⟨?_, ?_⟩
 · show xBs N (xBi N d) (.mk k n t a) = _
   simp only [xBs, xBO, ek, et, List.nil_append, List.length_singleton, hS [t] (by simp), hS [] (by simp)]
   unfold xA8
   cases k == 7 <;> cases k == 9 <;> simp only [jT, jF, Bool.or_true, Bool.or_false, Bool.true_or] <;> first | rfl | (rw [if_pos (by unfold Lim; omega)])
 · show xAt N (xAs N d) (.mk k n t a) bd out = _
   simp only [xAt, xBO, ek, et, ea, hI, hB, jS]
   cases h3 : k == 3
   · simp only [jF]
     cases h7 : k == 7
     · cases h9 : k == 9
       · simp only [jF]
         have hb : xA8 k = false := by simp [xA8, h7, h9]
         rw [hV false out hb.symm (by omega), hb]; rfl
       · simp only [jT, jF]
         have hb : xA8 k = true := by simp [xA8, h7, h9]
         rw [hV true _ hb.symm (by simp), hb]; simp
     · simp only [jT]
       have hb : xA8 k = true := by simp [xA8, h7]
       rw [hV true _ hb.symm (by simp), hb]; simp
   · obtain ⟨g1, g7, g9⟩ := xGJ h3
     simp only [jT, g9, hV false out g1.symm (by omega), g1, jF, List.nil_append]
     cases decide (idxS bd t 0 < 0) <;> rfl
end Go.Ab
end
section
namespace Go.Ab
theorem xGF : ∀ x y : Str, Op.bytesLess x y = decide (x < y)
 | [], [] => by simp [Op.bytesLess]
 | [], _ :: _ => by simp [Op.bytesLess]
 | _ :: _, [] => by simp [Op.bytesLess]
 | a :: x, b :: y => by
   simp only [Op.bytesLess, xGF x y, List.cons_lt_cons_iff]
   by_cases h1 : a < b <;> by_cases h2 : a = b <;> by_cases h3 : x < y <;> simp [h1, h2, h3]
theorem xE3 (x y : Str) : decide (x ≤ y) = !Op.bytesLess y x := by
 rw [xGF]
 by_cases h : y < x
 · rw [decide_eq_true h]; exact decide_eq_false fun g => g h
 · rw [decide_eq_false h]; exact decide_eq_true h
def SS (l : List Str) : Prop := l.Pairwise fun x y => Op.bytesLess x y = true
theorem xEV : ∀ {l m : List Str}, SS l → SS m → (∀ x, x ∈ l ↔ x ∈ m) → l = m
 | [], [], _, _, _ => rfl
 | [], y :: m, _, _, h => absurd ((h y).2 List.mem_cons_self) (by simp)
 | x :: l, [], _, _, h => absurd ((h x).1 List.mem_cons_self) (by simp)
 | x :: l, y :: m, hl, hm, h => by
   unfold SS at hl hm
   rw [List.pairwise_cons] at hl hm
   have e : x = y := by
    rcases List.mem_cons.1 ((h x).1 List.mem_cons_self) with e | h1
    · exact e
    · rcases List.mem_cons.1 ((h y).2 List.mem_cons_self) with e | h2
      · exact e.symm
      · have := xEa (hl.1 y h2)
        rw [hm.1 x h1] at this; cases this
   subst e
   refine congrArg (x :: ·) (xEV hl.2 hm.2 fun z => ⟨fun hz => ?_, fun hz => ?_⟩)
   · rcases List.mem_cons.1 ((h z).1 (List.mem_cons_of_mem _ hz)) with e | h1
     · exact absurd e.symm (xGG (hl.1 z hz))
     · exact h1
   · rcases List.mem_cons.1 ((h z).2 (List.mem_cons_of_mem _ hz)) with e | h1
     · exact absurd e.symm (xGG (hm.1 z hz))
     · exact h1
def insS (s : Str) : List Str → List Str
 | [] => [s]
 | x :: r => bif Op.bytesLess x s then x :: insS s r else bif x == s then x :: r else s :: x :: r
theorem xDJ {s z : Str} : ∀ {l : List Str}, z ∈ insS s l ↔ z = s ∨ z ∈ l
 | [] => by simp [insS]
 | x :: r => by
   unfold insS
   cases Op.bytesLess x s
   · simp only [jF]
     cases h : x == s
     · simp only [jF, List.mem_cons]
     · simp only [jT, List.mem_cons]
       have : x = s := by simpa using h
       subst this
       exact ⟨fun h => .inr h, fun h => h.elim .inl id⟩
   · simp only [jT, List.mem_cons, xDJ (l := r)]
     constructor
     · rintro (h | h | h)
       · exact .inr (.inl h)
       · exact .inl h
       · exact .inr (.inr h)
     · rintro (h | h | h)
       · exact .inr (.inl h)
       · exact .inl h
       · exact .inr (.inr h)
theorem xEL {s : Str} : ∀ {l : List Str}, SS l → SS (insS s l)
 | [], _ => List.pairwise_singleton _ _
 | x :: r, h => by
   have h' := List.pairwise_cons.1 h
   unfold insS
   cases hb : Op.bytesLess x s
   · simp only [jF]
     cases he : x == s
     · simp only [jF]
       have hsx := xDn hb (by intro e; rw [e] at he; simp at he)
       refine List.pairwise_cons.2 ⟨fun y hy => ?_, h⟩
       rcases List.mem_cons.1 hy with rfl | hy
       · exact hsx
       · exact xDo hsx (h'.1 y hy)
     · simp only [jT]; exact h
   · simp only [jT]
     refine List.pairwise_cons.2 ⟨fun y hy => ?_, xEL h'.2⟩
     rcases xDJ.1 hy with rfl | hy
     · exact hb
     · exact h'.1 y hy
theorem xDI {s : Str} : ∀ {l : List Str}, (insS s l).length ≤ l.length + 1
 | [] => by simp [insS]
 | x :: r => by
   unfold insS
   have := xDI (s := s) (l := r)
   cases Op.bytesLess x s
   · simp only [jF]
     cases x == s
     · simp
     · simp
   · simp only [jT, jC]; omega
def xCo : List Str → List Str → List Str
 | [], acc => acc
 | s :: r, acc => xCo r (insS s acc)
theorem xDy : ∀ {l acc : List Str}, (xCo l acc).length ≤ acc.length + l.length
 | [], acc => by simp [xCo]
 | s :: r, acc => by
   have h1 := xDy (l := r) (acc := insS s acc)
   have h2 := xDI (s := s) (l := acc)
   simp only [xCo, jC]; omega
theorem xD0 {z : Str} : ∀ {l acc : List Str}, z ∈ xCo l acc ↔ z ∈ acc ∨ z ∈ l
 | [], acc => by simp [xCo]
 | s :: r, acc => by
   simp only [xCo, xD0 (l := r), xDJ, List.mem_cons]
   constructor
   · rintro ((h | h) | h)
     · exact .inr (.inl h)
     · exact .inl h
     · exact .inr (.inr h)
   · rintro (h | h | h)
     · exact .inl (.inr h)
     · exact .inl (.inl h)
     · exact .inr h
theorem xEk : ∀ {l acc : List Str}, SS acc → SS (xCo l acc)
 | [], _, h => h
 | s :: r, acc, h => xEk (l := r) (xEL h)
theorem xGZ {N : Nat} {k3 : List Str → List Str → Int → Option (List Str)} {x0 acc : List Str} {i : Nat} {s : Str} (hx : x0[i]? = some s) (hl : acc.length ≤ 8000000) (hxl : x0.length ≤ 8000000) (hN : acc.length < N) :
 xA5 N k3 N x0 acc i 0 = k3 x0 (insS s acc) ((i + 1 : Nat) : Int) := by
 have hi := (List.getElem?_eq_some_iff.1 hx).1
 have hi2 : (0 : Int) ≤ (i : Int) ∧ (i : Int) < (x0.length : Int) := ⟨by omega, by omega⟩
 have hsome : ∃ r, k3 x0 (insS s acc) ((i + 1 : Nat) : Int) = r := ⟨_, rfl⟩
 have key : ∀ (n j : Nat) (l : List Str), acc.drop j = l → j ≤ acc.length → acc.length < n + j → xA5 N k3 n x0 acc i (j : Nat) = k3 x0 (acc.take j ++ insS s l) ((i + 1 : Nat) : Int) := by
  intro n
  induction n with
  | zero => intro j l _ h1 h2; omega
  | succ n ih =>
    intro j l hd hj hn
    have hdl : (acc.drop j).length = acc.length - j := List.length_drop
    have htl : (acc.take j).length = j := by rw [List.length_take]; omega
    cases l with
    | nil =>
      have hj2 : j = acc.length := by rw [hd] at hdl; simp at hdl; omega
      have c1 : ¬ (j : Int) < (acc.length : Int) := by omega
      simp only [xA5, decide_eq_false c1, jF, Int.toNat_natCast, xBt hx, xAW hi (by omega : x0.length ≤ _)]
      rw [if_pos (by omega), if_pos (by unfold Lim; omega), if_pos hi2, if_pos (by simp only [List.length_singleton]; unfold Lim; omega), if_pos (by simp only [jA, List.length_singleton, jN]; unfold Lim; omega)]
      rw [hd]; simp [insS]
    | cons x r =>
      obtain ⟨h1, h2, h3⟩ := xDs hd
      have c1 : (j : Int) < (acc.length : Int) := by omega
      simp only [xA5, decide_eq_true c1, jT, Int.toNat_natCast, xBt hx, xBt h2, xAW hi (by omega : x0.length ≤ _), xAW h1 (by omega : acc.length ≤ _)]
      rw [if_pos (by omega), if_pos hi2]
      unfold insS
      have hlim : (acc.take j).length + [s].length ≤ Lim := by simp only [List.length_singleton]; unfold Lim; omega
      have hlim2 : (acc.take j ++ [s]).length + ([] ++ acc.drop j).length ≤ Lim := by simp only [jA, List.length_singleton, jN]; unfold Lim; omega
      have hlim0 : 0 + (acc.drop j).length ≤ Lim := by unfold Lim; omega
      have hjj : (0 : Int) ≤ (j : Int) ∧ (j : Int) ≤ (acc.length : Int) := ⟨by omega, by omega⟩
      cases hb : Op.bytesLess x s
      · simp only [jF]
        cases he : x == s
        · simp only [jF, if_pos hjj, if_pos hlim0, if_pos hlim, if_pos hlim2]
          rw [hd]; simp
        · simp only [jT]
          rw [← hd, List.take_append_drop]
      · simp only [jT]
        have e1 : acc.take (j + 1) = acc.take j ++ [x] := by rw [List.take_add_one, h2]; rfl
        rw [ih (j + 1) r h3 (by omega) (by omega), e1]
        simp [List.append_assoc]
 have := key N 0 acc rfl (by omega) (by omega)
 simpa using this
theorem xCy {N : Nat} {xs : List Str} (hl : xs.length ≤ 4000000) (hN : 8000000 < N) : xBZ N xs = some (xCo xs []) := by
 exact xCk (L := fun n i s => xBh N n xs s i) xs (fun l s => xCo l s) (fun i s => s.length ≤ i) (fun n s _ => by simp [xBh, xCo])
  (fun i x l s hd hi hxi hs => by
    have hi' : (i : Int) < (xs.length : Int) := by omega
    have hs : s.length ≤ i := hs
    have := xDI (s := x) (l := s)
    refine .inl ⟨insS x s, by omega, rfl, fun n => ?_⟩
    simp only [xBh, decide_eq_true hi', jT]
    exact xGZ hxi (by omega) (by omega) (by omega)) N 0 [] (Nat.le_refl 0) (by omega) (by omega)
def dedS : List Str → List Str → List Str
 | _, [] => []
 | pre, x :: r => (bif pre.any (· == x) then [] else [x]) ++ dedS (pre ++ [x]) r
theorem xDG {z : Str} : ∀ {l pre : List Str}, z ∈ dedS pre l ↔ z ∉ pre ∧ z ∈ l
 | [], pre => by simp [dedS]
 | x :: r, pre => by
   simp only [dedS, List.mem_append, xDG (l := r), List.mem_cons]
   cases h : pre.any (· == x)
   · simp only [jF, List.mem_singleton]
     have hx : x ∉ pre := fun hm => by
      rw [List.any_eq_true.2 ⟨x, hm, by simp⟩] at h; cases h
     constructor
     · rintro (rfl | ⟨h1, h2⟩)
       · exact ⟨hx, .inl rfl⟩
       · exact ⟨fun hm => h1 (.inl hm), .inr h2⟩
     · rintro ⟨h1, h2⟩
       by_cases e : z = x
       · exact .inl e
       · refine .inr ⟨?_, h2.resolve_left e⟩
         rintro (hm | rfl | hm)
         · exact h1 hm
         · exact e rfl
         · cases hm
   · simp only [jT, List.not_mem_nil, false_or]
     obtain ⟨y, hy, he⟩ := List.any_eq_true.1 h
     have hyx : y = x := by simpa using he
     subst hyx
     constructor
     · rintro ⟨h1, h2⟩; exact ⟨fun hm => h1 (.inl hm), .inr h2⟩
     · rintro ⟨h1, h2⟩
       rcases h2 with rfl | h2
       · exact absurd hy h1
       · refine ⟨?_, h2⟩
         rintro (hm | rfl | hm)
         · exact h1 hm
         · exact h1 hy
         · cases hm
theorem xD7 : ∀ {l pre : List Str}, (dedS pre l).Nodup
 | [], pre => by simp [dedS]
 | x :: r, pre => by
   simp only [dedS]
   cases h : pre.any (· == x)
   · simp only [jF, List.singleton_append, List.nodup_cons]
     exact ⟨fun hm => (xDG.1 hm).1 (by simp), xD7⟩
   · simp only [jT, List.nil_append]; exact xD7
theorem xE5 {l : List Str} (h : l.Nodup) : SS (l.mergeSort fun x y => decide (x ≤ y)) := by
 have hs : (l.mergeSort fun x y => decide (x ≤ y)).Pairwise fun x y => decide (x ≤ y) = true := List.pairwise_mergeSort (fun a b c h1 h2 => by
  rw [xE3] at h1 h2 ⊢
  simp only [Bool.not_eq_true'] at h1 h2 ⊢
  cases hca : Op.bytesLess c a
  · rfl
  · by_cases e : b = c
    · subst e; rw [h1] at hca; cases hca
    · have := xDn h2 (fun e' => e e'.symm)
      have h3 := xDo this hca
      rw [h1] at h3; cases h3) (fun a b => by
  rw [xE3, xE3]
  cases h1 : Op.bytesLess b a
  · rfl
  · rw [xEa h1]; rfl) l
 have hn : (l.mergeSort fun x y => decide (x ≤ y)).Nodup := (List.mergeSort_perm l _).nodup_iff.2 h
 refine (hs.and hn).imp ?_
 rintro x y ⟨h1, h2⟩
 rw [xE3] at h1
 simp only [Bool.not_eq_true'] at h1
 exact xDn h1 (fun e => h2 e.symm)
theorem xEU (xs : List Str) : ((dedS [] xs).mergeSort fun x y => decide (x ≤ y)) = xCo xs [] := by
 refine xEV (xE5 xD7) (xEk .nil) fun z => ?_
 rw [(List.mergeSort_perm _ _).mem_iff, xDG, xD0]
 simp
theorem xCw {N : Nat} {xs : List Str} (hl : xs.length ≤ 4000000) (hN : 8000000 < N) : xBX N xs = some (xCo xs []) := by
 have key := xCk (L := fun n i s => xAS N n xs s xs xs.length i) (σ := List Str) xs (fun l s => (s ++ dedS (xs.take (xs.length - l.length)) l).mergeSort fun x y => decide (x ≤ y)) (fun i s => s.length ≤ i)
  (fun n s hs => by
    have hs : s.length ≤ xs.length := hs
    simp only [xAS, Int.lt_irrefl, decide_false, jF, sort_Strings, zF0, dedS, List.append_nil]
    rw [if_pos (by omega)]
    simp only [jS]
    rw [if_pos (List.mergeSort_perm _ _).length_eq])
  (fun i x l s hd hi hxi hs => by
    have hi' : (i : Int) < (xs.length : Int) := by omega
    have hs : s.length ≤ i := hs
    have hI : xBp N xs x = some (idxS xs x 0) := xCm (by omega) (by omega)
    have hx0 := xEJ (j := 0) hxi
    rw [Nat.zero_add] at hx0
    have hdl : (xs.drop i).length = xs.length - i := List.length_drop
    rw [hd, jC] at hdl
    have e1 : xs.length - (x :: l).length = i := by rw [jC]; omega
    have e2 : xs.length - l.length = i + 1 := by omega
    have e3 : xs.take (i + 1) = xs.take i ++ [x] := by rw [List.take_add_one, hxi]; rfl
    cases ha : (xs.take i).any (· == x)
    · refine .inl ⟨s ++ [x], by simp; omega, by simp only [e1, e2, e3, dedS, ha, jF, List.append_assoc], fun n => ?_⟩
      simp only [xAS, decide_eq_true hi', jT, Int.toNat_natCast, xBt hxi, hI, jS, hx0, ha, Bool.not_false, xAW hi (by omega : xs.length ≤ _)]
      rw [if_pos (by omega), if_pos (by simp only [List.length_singleton]; unfold Lim; omega)]
    · refine .inl ⟨s, by omega, by simp only [e1, e2, e3, dedS, ha, jT, List.nil_append], fun n => ?_⟩
      simp only [xAS, decide_eq_true hi', jT, Int.toNat_natCast, xBt hxi, hI, jS, hx0, ha, Bool.not_true, jF, xAW hi (by omega : xs.length ≤ _)]
      rw [if_pos (by omega)]) N 0 [] (Nat.le_refl 0) (by omega) (by omega)
 simp only [List.drop_zero, Nat.sub_self, List.take_zero, List.nil_append, xEU] at key
 exact key
end Go.Ab
end
section
namespace Go.Ab
abbrev e0 : Exp := .mk 0 0 [] []
end Go.Ab
end
section
namespace Go.Ab
def cExp (e : Exp) : Nat := 3 * e.cnt
theorem xD6 (e : Exp) : cExp e = 3 + (e.args.map cExp).sum := by
 unfold cExp
 rw [Exp.cnt_eq]
 have : ∀ l : List Exp, (l.map fun e => 3 * e.cnt).sum = 3 * (l.map Exp.cnt).sum := by
  intro l
  induction l with
  | nil => rfl
  | cons x l ih => simp only [List.map_cons, List.sum_cons, ih]; omega
 rw [this]; omega
theorem xEH (l : List Exp) : l.length ≤ (l.map cExp).sum := by
 induction l with
 | nil => simp
 | cons x l ih =>
   have := xD6 x
   simp only [jC, List.map_cons, List.sum_cons]; omega
def xFi (N d : Nat) (l : List Exp) : Prop := ∀ k : Int, 0 ≤ k → k + ((l.map cExp).sum : Nat) ≤ 137438953472 →
    ∃ ys, ys.length = l.length ∧ xBq N d l k = some (k + ((l.map cExp).sum : Nat), ys) ∧ xBM N d ys k = some (k + ((l.map cExp).sum : Nat))
theorem xEv {N d : Nat} (hN : 274877906944 < N) {l : List Exp} (hx : ∀ x ∈ l, xFi N d x.args) : xFi N (d + 1) l := by
 intro k h0 h1
 have hlen := xEH l
 refine xEe (Lm := fun n xs k i => xBg N (xBq N d) n xs k i) (Lh := fun n ys k i => xBB N (xBM N d) n ys k i) (c := cExp) (fun n xs k hl => by simp [xBg]) (fun n ys k hl => by simp [xBB])
  (fun x hxm k hk hB => ?_) h1 (by omega)
 have hc := xD6 x
 rw [hc] at hB ⊢
 obtain ⟨t, ht⟩ := xC7 hN (k := k + 1 + 1) (by omega) (by omega)
 obtain ⟨ya, a1, a2, a3⟩ := hx x hxm (k + 1 + 1 + 1) (by omega) (by omega)
 have w1 : IntKind.i64.wrap (k + 1) = k + 1 := xCi (by omega) (by omega)
 have w2 : IntKind.i64.wrap (k + 1 + 1) = k + 1 + 1 := xCi (by omega) (by omega)
 have w3 : IntKind.i64.wrap (k + 1 + 1 + 1) = k + 1 + 1 + 1 := xCi (by omega) (by omega)
 refine ⟨.mk k (k + 1) t ya, fun n xs' i hl hxi => ?_, fun n ys i hl hyi => ?_⟩
 · have hi := (List.getElem?_eq_some_iff.1 hxi).1
   have hi' : (i : Int) < (xs'.length : Int) := by omega
   have hcd : (0 : Int) ≤ (i : Int) ∧ (i : Int) < (xs'.length : Int) := by omega
   simp only [xBg, decide_eq_true hi', jT, Int.toNat_natCast, xBt hxi, List.length_set, xDH hi, List.set_set, xAW hi (by omega : xs'.length ≤ _), if_pos hcd, w1, w2, w3, ht, jS,
    ek, en, et, ea, a2, if_pos a1]
   congr 1
   omega
 · have hi := (List.getElem?_eq_some_iff.1 hyi).1
   have hi' : (i : Int) < (ys.length : Int) := by omega
   have hcd : (0 : Int) ≤ (i : Int) ∧ (i : Int) < (ys.length : Int) := by omega
   simp only [xBB, decide_eq_true hi', jT, Int.toNat_natCast, xBt hyi, xAW hi (by omega : ys.length ≤ _), if_pos hcd, w1, w2, w3, ht, jS, ek, en, et, ea, a3, bne_self_eq_false, beq_self_eq_true, Bool.not_true, jF]
   rw [decide_eq_false (by omega), jF]
   congr 1
   omega
theorem xEN {K : Nat} : ∀ v : Exp, Big2 fun N d => xFi N d v.args := by
 refine Exp.ind fun k n t a ih => ?_
 refine Big2.succ ?_
 refine ((Big2.list fun x hx => ih x hx).and (xCR 274877906944).two).imp fun N d ⟨hx, hN⟩ => ?_
 exact xEv hN hx
theorem xC6 {v : Exp} (hc : v.cnt ≤ 1000000000) :
 Big fun N => ∃ k xa, 0 ≤ k ∧ xa.length = v.args.length ∧ xBU N v 1 = some (k, xa) ∧ xC3 N (Exp.mk v.kind v.n v.text xa) 1 = some k := by
 refine ((xEN (K := 0) v).diag).imp fun N hm => ?_
 have hc' := xD6 v
 have hc2 : cExp v = 3 * v.cnt := rfl
 obtain ⟨ya, a1, a2, a3⟩ := hm 1 (by omega) (by omega)
 have a2' : xCt N v.args 1 = _ := a2
 have a3' : xCT N ya 1 = _ := a3
 refine ⟨1 + ((v.args.map cExp).sum : Nat), ya, by omega, a1, ?_, ?_⟩
 · simp only [xBU, a2', jS, if_pos a1]
 · simp only [xC3, ea, a3', jS]
   try rw [decide_eq_false (by omega), jF]
end Go.Ab
end
section
namespace Go.Ab
theorem xE1 {e : Exp} (hs : e.size ≤ 1048576) : Big fun N => xCb N e = some (xCo (xCl e []) []) ∧ xCu N e = some (xCo (xCl e []) []) := by
 have hc := Exp.cnt_le e
 have hl := xC0 e []
 refine ((xE2 e).diag.and (xCR 8000000)).imp fun N ⟨h, hN⟩ => ?_
 obtain ⟨h1, h2⟩ := h [] [] (by simp; omega) (by simp; omega)
 have h1' : xDj N e [] = some (xCl e []) := h1
 have h2' : xBD N e [] [] = some (xCl e []) := h2
 simp only [xCb, xCu, h1', h2', jS, xCw (N := N) (xs := xCl e []) (by omega) hN, xCy (N := N) (xs := xCl e []) (by omega) hN]
 exact ⟨trivial, trivial⟩
theorem xEF {e : Exp} (hs : e.size ≤ 1048576) : Big fun N => xBx N e = some (xCo (xBO e) []) ∧ xBS N e = some (xCo (xBO e) []) := by
 have hc := Exp.cnt_le e
 have hl := xCN e
 refine ((xEG e).diag.and (xCR 8000000)).imp fun N ⟨h, hN⟩ => ?_
 obtain ⟨h1, h2⟩ := h [] [] (by simp; omega) (by simp; omega)
 have h1' : xCC N e = some (xBO e) := h1
 have h2' : xA0 N e [] [] = some (xBO e) := h2
 simp only [xBx, xBS, h1', h2', jS, xCw (N := N) (xs := xBO e) (by omega) hN, xCy (N := N) (xs := xBO e) (by omega) hN]
 exact ⟨trivial, trivial⟩
section
variable {N : Nat} {a0 : Exp} {xs : List Str}
theorem xGI (xs : List Str) : (xs.map cOne).sum = xs.length := by
 induction xs with
 | nil => rfl
 | cons x xs ih => simp only [List.map_cons, List.sum_cons, jC, ih]; show 1 + _ = _; omega
end
theorem xDA (a0 : Exp) (f0 : ∀ z ∈ [CV.int .i64 (Exp.kind a0), CV.int .i64 (Exp.n a0), CV.str (Exp.text a0), CV.sl .ro .exp (Exp.args a0)], DFit z.toD) : ∃ N, xBQ N a0 = some true := by
 have hF := xDh f0
 by_cases h : left a0.size 1048576 < 0
 · exact ((xDb hF).imp fun N hs => by simp [xBQ, hs, h]).get
 · have hs := guard h
   have hfit : a0.Fit 1048576 := Exp.fit_size a0 hF hs
   have hc := Exp.cnt_le a0
   have hl := xC0 a0 []
   have hl2 := xDy (l := xCl a0 []) (acc := [])
   simp only [jN, Nat.zero_add] at hl2
   refine ((((xDb hF).and (xD1 hfit)).and ((xE1 hs).and (xDt hfit (by omega)))).and ((xC6 (v := a0) (by omega)).and (xCR 274877906944))).imp (fun N ⟨⟨⟨h1, h2⟩, ⟨h3, h4⟩, h5⟩, h6, hN⟩ => ?_) |>.get
   obtain ⟨k, xa, k0, m1, m2, m3⟩ := h6
   obtain ⟨ys, y1, y2, y3⟩ := xCE hN (xs := xCo (xCl a0 []) []) (k := 1) (by omega) (by rw [xGI]; omega)
   have he : xAJ N (xCo (xCl a0 []) []) (xCo (xCl a0 []) []) = some true := xCS (by omega) (by omega)
   simp only [xBQ, h1, h2, h3, h4, h5, he, m2, y2, y3, jS, decide_eq_false h, jF, Bool.not_true, if_pos m1, if_pos y1, bne_self_eq_false]
   rw [decide_eq_false (by omega : ¬ k < 0), decide_eq_false (by omega)]
   rfl
theorem xCn (a0 : Exp) (f0 : ∀ z ∈ [CV.int .i64 (Exp.kind a0), CV.int .i64 (Exp.n a0), CV.str (Exp.text a0), CV.sl .ro .exp (Exp.args a0)], DFit z.toD) : ∃ N, xAZ N a0 = some true := by
 have hF := xDh f0
 by_cases h : left a0.size 1048576 < 0
 · exact ((xDb hF).imp fun N hs => by simp [xAZ, hs, h]).get
 · have hs := guard h
   have hfit : a0.Fit 1048576 := Exp.fit_size a0 hF hs
   have hc := Exp.cnt_le a0
   have hl := xCN a0
   have hl2 := xDy (l := xBO a0) (acc := [])
   simp only [jN, Nat.zero_add] at hl2
   refine ((((xDb hF).and (xD1 hfit)).and ((xEF hs).and (xDt hfit (by omega)))).and ((xC6 (v := a0) (by omega)).and (xCR 274877906944))).imp (fun N ⟨⟨⟨h1, h2⟩, ⟨h3, h4⟩, h5⟩, h6, hN⟩ => ?_) |>.get
   obtain ⟨k, xa, k0, m1, m2, m3⟩ := h6
   obtain ⟨ys, y1, y2, y3⟩ := xCE hN (xs := xCo (xBO a0) []) (k := 1) (by omega) (by rw [xGI]; omega)
   have he : xAJ N (xCo (xBO a0) []) (xCo (xBO a0) []) = some true := xCS (by omega) (by omega)
   simp only [xAZ, h1, h2, h3, h4, h5, he, m2, y2, y3, jS, decide_eq_false h, jF, Bool.not_true, if_pos m1, if_pos y1, bne_self_eq_false]
   rw [decide_eq_false (by omega : ¬ k < 0), decide_eq_false (by omega)]
   rfl
end Go.Ab
end
section
namespace Go.Proofs.Ytkfoneofdidhkaa
open Go.Ab Go.ChangeShapes Go.WideShapes Go.ChangeAt Go.RowKit
theorem own : ownKnob Try.prog.godebug = none := by kernel_rfl
theorem xFl : laidOutB Try.prog = true := by kernel_rfl
theorem xCG : zG7 Try.prog [(24, .exp)] = true := by kernel_rfl
set_option maxRecDepth 100000 in
theorem fnExactBoundNames_lifted (os : Os) (started : os.Started) (H : Type) (enc : TypeId × Value → H) :
 ReturnsInHanded {} Try.checked os 5 .any (Rows.fnExactBoundNamesSpec.pre6 enc Try.prog Try.f5 Rows.fnExactBoundNamesRow.domain false) (Rows.fnExactBoundNamesSpec.post enc Try.prog Try.f5 false true false false) := by
 refine returnsInHanded_of_change (C := Try.checked) own started (by kernel_rfl) Try.func5
  (ChangeSpec.witness6 (enc := enc) (C := Try.checked) false ⟨#[], #[.agg #[.int .i64 0, .int .i64 0, .string ByteArray.empty, .slice none 0 0]], []⟩ 8 (by kernel_rfl) (by kernel_rfl) (by kernel_rfl) (by kernel_rfl)) ?_
 intro W base args ds gs before hval0 hW hcnd _
 letI : Inhabited Lb := ⟨⟨[]⟩⟩
 have hval : ∀ (j : Nat) t v, Try.f5.params[j]? = some t → args[j]? = some v → Value.okWide Try.prog W .any base t v := hval0
 have hW' := hW
 obtain ⟨p, q, hA0, hV, rfl, hfz, hnd⟩ := hW
 have hA : DataW.TrodAll enc Try.prog W 0 (fun _ => true) true Try.f5.params.toList args.toList ds p := hA0
 rw [Try.params5] at hA hval
 obtain ⟨v0, vs0, d0, ds0, p0, q0, hargs, rfl, rfl, h0, r0⟩ := trodAll_cons hA
 obtain ⟨rfl, rfl, rfl⟩ := trodAll_nil r0
 obtain rfl : args = #[v0] := by cases args; simp_all
 obtain ⟨rfl, rfl⟩ := trodVars_none hV
 have lt0 : ∀ x ∈ p0, x.block < W.heap.size := by obtain ⟨m, hm⟩ := h0; exact DataW.trod_lt m _ _ _ hm
 obtain ⟨z0, e0, f0, vr0⟩ := vr_of xCG (g := true) (t := 24) (ns := [.inl (.int .i64), .inl (.int .i64), .inl .str, .inr .exp]) (by kernel_rfl) (hval 0 24 v0 rfl rfl) h0
 obtain ⟨x0_0, _, rfl, e0_0⟩ := AreOf.int_inv e0
 obtain ⟨x0_1, _, rfl, e0_1⟩ := AreOf.int_inv e0_0
 obtain ⟨x0_2, _, rfl, e0_2⟩ := AreOf.str_inv e0_1
 obtain ⟨x0_3, _, rfl, e0_3⟩ := AreOf.sl_inv e0_2
 obtain rfl := e0_3.nil_inv
 obtain ⟨N, hF⟩ := xCn (Exp.mk x0_0 x0_1 x0_2 x0_3) f0
 clear hA0 hval0
 refine (zJb T.fk5 (T.laws_FnExactBoundNames_ok hF) (W := W) (args := #[v0]) ⟨vr0 _, trivial⟩ (fun x hx => nomatch hx)).mono fun e W' ⟨he, bel⟩ => ?_
 subst he
 exact ⟨_, rfl, _, _, _, [], _, [], hW', trodAll_mk1 (shut_bool Try.underlying4 _), (trodAll_cons_mk (Below.trod xFl (by kernel_rfl) (of_decide_eq_true (by kernel_rfl)) h0 bel lt0) trodAll_mk0), rfl, bel.frame _, fun h => by cases h⟩
theorem fnExactBoundNames_proved : Rows.FnExactBoundNamesSaid :=
 OpenClaim.holds_of_wide 5 Try.f5 rfl rfl rfl rfl rfl rfl rfl ⟨rfl, rfl, rfl, rfl, rfl⟩ rfl rfl rfl rfl rfl (by kernel_rfl) Try.func5 (by kernel_rfl)
  (of_decide_eq_true (by kernel_rfl)) (by unfold Func.isWrapper; first | (rw [if_pos (by decide +kernel)]; kernel_rfl) | (rw [if_neg (by decide +kernel)]; exact ⟨rfl, rfl⟩))
  (fun os started H enc _ => fnExactBoundNames_lifted os started H enc)
end Go.Proofs.Ytkfoneofdidhkaa
end
