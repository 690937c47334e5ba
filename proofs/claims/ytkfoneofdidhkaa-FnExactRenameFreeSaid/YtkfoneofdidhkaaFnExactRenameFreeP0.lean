/- The statement FnExactRenameFree holds: plain functions, certificates, laws. Conditions: none. -/
import Derived.Shelf.Slices.In.SortNone2
import Derived.Shelf.Sort.Plain
import Derived.Test.YtkfoneofdidhkaaChecked
import Derived.Test.YtkfoneofdidhkaaProg
import Derived.Test.YtkfoneofdidhkaaRows
import Derived.Test.YtkfoneofdidhkaaL2
set_option linter.all false
section
namespace Go.Ab
abbrev Ex (f : Fl) (e : Exp) : List CV := [.int .i64 (Exp.kind e), .int .i64 (Exp.n e), .str (Exp.text e), .sl f .exp (Exp.args e)]
end Go.Ab
end
section
namespace Go.Ab
def xBF (a0 : Exp) (a1 : Int) : List Arg := [.val (.v true (Ex .ro a0)), .val (.v false [.int .i64 a1])]
def xAx (r : Int) : CallO := ⟨.v false [.int .i64 r], [], []⟩
def xEj (N : Nat) (q0 : Exp → Int → Option (Int)) (q1 : (List Exp) → Int → Option (Int)) (a0 : Exp) (a1 : Int) : Option (Int) := bif (decide (((IntKind.i64.wrap (a1 - (List.length (Exp.text a0) : Int))) : Int) < 0)) then (some (-1)) else ((q1 (Exp.args a0) (IntKind.i64.wrap (a1 - (List.length (Exp.text a0) : Int)))).bind fun r1 => bif (decide (r1 < 0)) then (some (-1)) else (some r1))
def xCh (a0 : List Exp) (a1 : Int) : List Arg := [.val (.v false [.sl .ro .exp a0]), .val (.v false [.int .i64 a1])]
def xBl (r : Int) : CallO := ⟨.v false [.int .i64 r], [], []⟩
def xDR (N : Nat) (q0 : Exp → Int → Option (Int)) (q1 : (List Exp) → Int → Option (Int)) : Nat → (List Exp) → Int → Int → Option (Int)
 | 0, _, _, _ => none
 | n + 1, x0, x1, x5 => bif (decide (x5 < (List.length x0 : Int))) then (if (0 : Int) ≤ x5 ∧ x5 < (List.length x0) then (q0 (List.getD x0 (Int.toNat x5) Ty.exp.dflt) x1).bind fun r1 => bif (decide (r1 < 0)) then (some (-1)) else ((xDR N q0 q1 n x0 r1 (IntKind.i64.wrap (x5 + 1)))) else none) else (some x1)
def xD1 (N : Nat) (q0 : Exp → Int → Option (Int)) (q1 : (List Exp) → Int → Option (Int)) (a0 : List Exp) (a1 : Int) : Option (Int) := bif (decide (((IntKind.i64.wrap (a1 - (List.length a0 : Int))) : Int) < 0)) then (some (-1)) else ((xDR N q0 q1 N a0 (IntKind.i64.wrap (a1 - (List.length a0 : Int))) 0))
structure laws_szExpr_rec where
 c_laws_szExpr : Exp → Int → Option (Int)
 c_laws_szExprS : (List Exp) → Int → Option (Int)
def xBm (N : Nat) : Nat → laws_szExpr_rec
 | 0 => ⟨fun _ _ => none, fun _ _ => none⟩
 | d + 1 => ⟨xEj N (xBm N d).c_laws_szExpr (xBm N d).c_laws_szExprS, xD1 N (xBm N d).c_laws_szExpr (xBm N d).c_laws_szExprS⟩
def xFN (N : Nat) (a0 : Exp) (a1 : Int) : Option (Int) := (xBm N N).c_laws_szExpr a0 a1
def xCF (a0 : Exp) : List Arg := [.val (.v true (Ex .ro a0))]
def xAb (r : Exp) : CallO := ⟨.v true (Ex .own r), [], []⟩
def xC7 (N : Nat) (q0 : Exp → Option (Exp)) (q1 : (List Exp) → Option ((List Exp))) (a0 : Exp) : Option (Exp) := (q1 (Exp.args a0)).bind fun r1 => some (Exp.mk (Exp.kind a0) (Exp.n a0) (Exp.text a0) r1)
def xDk (a0 : List Exp) : List Arg := [.val (.v false [.sl .ro .exp a0])]
def xCi (r : (List Exp)) : CallO := ⟨.v false [.sl .own .exp r], [], []⟩
def xDS (N : Nat) (q0 : Exp → Option (Exp)) (q1 : (List Exp) → Option ((List Exp))) : Nat → (List Exp) → (List Exp) → Int → Option ((List Exp))
 | 0, _, _, _ => none
 | n + 1, x0, x3, x4 => bif (decide (x4 < (List.length x0 : Int))) then (if (0 : Int) ≤ x4 ∧ x4 < (List.length x0) then (q0 (List.getD x0 (Int.toNat x4) Ty.exp.dflt)).bind fun r1 => if (0 : Int) ≤ x4 ∧ x4 < (List.length x3) then (xDS N q0 q1 n x0 (List.set x3 (Int.toNat x4) (Exp.re r1)) (IntKind.i64.wrap (x4 + 1))) else none else none) else (some x3)
def xCO (N : Nat) (q0 : Exp → Option (Exp)) (q1 : (List Exp) → Option ((List Exp))) (a0 : List Exp) : Option ((List Exp)) := if (0 : Int) ≤ (List.length a0 : Int) ∧ (List.length a0 : Int) = (List.length a0 : Int) ∧ (List.length a0 : Int) ≤ Lim then (xDS N q0 q1 N a0 (List.replicate (Int.toNat (List.length a0 : Int)) Ty.exp.dflt) 0) else none
structure laws_toExpr_rec where
 c_laws_toExpr : Exp → Option (Exp)
 c_laws_toExprS : (List Exp) → Option ((List Exp))
def xAQ (N : Nat) : Nat → laws_toExpr_rec
 | 0 => ⟨fun _ => none, fun _ => none⟩
 | d + 1 => ⟨xC7 N (xAQ N d).c_laws_toExpr (xAQ N d).c_laws_toExprS, xCO N (xAQ N d).c_laws_toExpr (xAQ N d).c_laws_toExprS⟩
def xD2 (N : Nat) (a0 : Exp) : Option (Exp) := (xAQ N N).c_laws_toExpr a0
def xCC (a0 : List Str) (a1 : Str) : List Arg := [.val (.v false [.sl .ro .str a0]), .val (.v false [.str a1])]
def xA8 (r : Bool) : CallO := ⟨.v false [.bool r], [], []⟩
def xC1 (N : Nat) : Nat → (List Str) → Str → Int → Option (Bool)
 | 0, _, _, _ => none
 | n + 1, x0, x1, x5 => bif (decide (x5 < (List.length x0 : Int))) then (if (0 : Int) ≤ x5 ∧ x5 < (List.length x0) then bif (((List.getD x0 (Int.toNat x5) Ty.str.dflt) : Str) == x1) then (some true) else ((xC1 N n x0 x1 (IntKind.i64.wrap (x5 + 1)))) else none) else (some false)
def xD6 (N : Nat) (a0 : List Str) (a1 : Str) : Option (Bool) := (xC1 N N a0 a1 0)
def xA2 (a0 : Exp) (a1 : Str) (a2 : Str) (a3 : List Str) : List Arg := [.val (.v true (Ex .ro a0)), .val (.v false [.str a1]), .val (.v false [.str a2]), .val (.v false [.sl .ro .str a3])]
def xAn (r : Bool) : CallO := ⟨.v false [.bool r], [], []⟩
def xAJ (N : Nat) (q0 : Exp → Str → Str → (List Str) → Option (Bool)) : Nat → Str → Str → (List Str) → Int → Exp → Option (Bool)
 | 0, _, _, _, _, _ => none
 | n + 1, x1, x2, x3, x9, b4 => bif (decide (x9 < (List.length (Exp.args b4) : Int))) then (bif ((Exp.kind b4) == 7) then (bif (decide (x9 > 0)) then (if 0 + List.length x3 ≤ Lim then if List.length ([] ++ x3) + List.length [(Exp.text b4)] ≤ Lim then if (0 : Int) ≤ x9 ∧ x9 < (List.length (Exp.args b4)) then (q0 (List.getD (Exp.args b4) (Int.toNat x9) Ty.exp.dflt) x1 x2 (([] ++ x3) ++ [(Exp.text b4)])).bind fun r1 => bif r1 then (some true) else ((xAJ N q0 n x1 x2 x3 (IntKind.i64.wrap (x9 + 1)) b4)) else none else none else none) else (if (0 : Int) ≤ x9 ∧ x9 < (List.length (Exp.args b4)) then (q0 (List.getD (Exp.args b4) (Int.toNat x9) Ty.exp.dflt) x1 x2 x3).bind fun r1 => bif r1 then (some true) else ((xAJ N q0 n x1 x2 x3 (IntKind.i64.wrap (x9 + 1)) b4)) else none)) else (bif ((Exp.kind b4) == 9) then (bif (decide (x9 > 0)) then (if 0 + List.length x3 ≤ Lim then if List.length ([] ++ x3) + List.length [(Exp.text b4)] ≤ Lim then if (0 : Int) ≤ x9 ∧ x9 < (List.length (Exp.args b4)) then (q0 (List.getD (Exp.args b4) (Int.toNat x9) Ty.exp.dflt) x1 x2 (([] ++ x3) ++ [(Exp.text b4)])).bind fun r1 => bif r1 then (some true) else ((xAJ N q0 n x1 x2 x3 (IntKind.i64.wrap (x9 + 1)) b4)) else none else none else none) else (if (0 : Int) ≤ x9 ∧ x9 < (List.length (Exp.args b4)) then (q0 (List.getD (Exp.args b4) (Int.toNat x9) Ty.exp.dflt) x1 x2 x3).bind fun r1 => bif r1 then (some true) else ((xAJ N q0 n x1 x2 x3 (IntKind.i64.wrap (x9 + 1)) b4)) else none)) else (if (0 : Int) ≤ x9 ∧ x9 < (List.length (Exp.args b4)) then (q0 (List.getD (Exp.args b4) (Int.toNat x9) Ty.exp.dflt) x1 x2 x3).bind fun r1 => bif r1 then (some true) else ((xAJ N q0 n x1 x2 x3 (IntKind.i64.wrap (x9 + 1)) b4)) else none))) else (some false)
def xCl (N : Nat) (q0 : Exp → Str → Str → (List Str) → Option (Bool)) (a0 : Exp) (a1 : Str) (a2 : Str) (a3 : List Str) : Option (Bool) := bif ((Exp.kind a0) == 3) then ((xD6 N a3 (Exp.text a0)).bind fun r1 => bif (!r1) then (bif (((Exp.text a0) : Str) == a1) then ((xD6 N a3 a2).bind fun r2 => some r2) else (some false)) else ((xAJ N q0 N a1 a2 a3 0 a0))) else ((xAJ N q0 N a1 a2 a3 0 a0))
def xBY (N : Nat) : Nat → Exp → Str → Str → (List Str) → Option (Bool)
 | 0, _, _, _, _ => none
 | d + 1, a0, a1, a2, a3 => xCl N (xBY N d) a0 a1 a2 a3
def xEV (N : Nat) (a0 : Exp) (a1 : Str) (a2 : Str) (a3 : List Str) : Option (Bool) := xBY N N a0 a1 a2 a3
def xCz (a0 : Exp) (a1 : Str) (a2 : Str) : List Arg := [.val (.v true (Ex .ro a0)), .val (.v false [.str a1]), .val (.v false [.str a2])]
def xBJ (r : Bool) : CallO := ⟨.v false [.bool r], [], []⟩
def xDm (N : Nat) (a0 : Exp) (a1 : Str) (a2 : Str) : Option (Bool) := (xEV N a0 a1 a2 []).bind fun r1 => some r1
def xCI (a0 : List Str) (a1 : Str) : List Arg := [.val (.v false [.sl .ro .str a0]), .val (.v false [.str a1])]
def xBj (r : Int) : CallO := ⟨.v false [.int .i64 r], [], []⟩
def xCb (N : Nat) : Nat → Str → (List Str) → Int → Int → Option (Int)
 | 0, _, _, _, _ => none
 | n + 1, x1, x7, x8, x9 => bif (decide (x9 < x8)) then (if (0 : Int) ≤ x9 ∧ x9 < (List.length x7) then bif (((List.getD x7 (Int.toNat x9) Ty.str.dflt) : Str) == x1) then (some x9) else ((xCb N n x1 x7 x8 (IntKind.i64.wrap (x9 + 1)))) else none) else (some (-1))
def xDK (N : Nat) (a0 : List Str) (a1 : Str) : Option (Int) := (xCb N N a1 a0 (List.length a0 : Int) 0)
def xBL (a0 : Str) (a1 : List Str) (a2 : Bool) (a3 : Str) (a4 : Str) : List Arg := [.val (.v false [.str a0]), .val (.v false [.sl .ro .str a1]), .box [.bool a2], .box [.str a3], .box [.str a4]]
def xBu (r : Bool × Str × Str) : CallO := ⟨.tup [], [[.bool r.1], [.str r.2.1], [.str r.2.2]], []⟩
def xDp (N : Nat) (a0 : Str) (a1 : List Str) (a2 : Bool) (a3 : Str) (a4 : Str) : Option (Bool × Str × Str) := bif a2 then (some (true, a3, a4)) else (bif ((a0 : Str) == a3) then ((xDK N a1 a4).bind fun r1 => some ((decide (r1 ≥ 0)), a3, a4)) else (some (false, a3, a4)))
def xAf (a0 : Exp) (a1 : List Str) (a2 : Bool) (a3 : Str) (a4 : Str) : List Arg := [.box [.clo 33 [1000003, 1000004, 1000005], .val .nilFunc], .val (.v true (Ex .ro a0)), .val (.v false [.sl .ro .str a1]), .gbox [.bool a2], .gbox [.str a3], .gbox [.str a4]]
def xAc (r : Bool × Str × Str) : CallO := ⟨.tup [], [[.clo 33 [1000003, 1000004, 1000005], .val .nilFunc], [.bool r.1], [.str r.2.1], [.str r.2.2]], []⟩
def xAg (N : Nat) (q0 : Exp → (List Str) → Bool → Str → Str → Option (Bool × Str × Str)) : Nat → (List Str) → Bool → (List Exp) → Int → Int → Exp → Bool → Str → Str → Option (Bool × Str × Str)
 | 0, _, _, _, _, _, _, _, _, _ => none
 | n + 1, x2, x6, x57, x58, x59, b4, b1000003, b1000004, b1000005 => bif (decide (x59 < x58)) then (if (0 : Int) ≤ x59 ∧ x59 < (List.length x57) then bif x6 then (bif (decide (x59 > 0)) then (if 0 + List.length x2 ≤ Lim then if List.length ([] ++ x2) + List.length [(Exp.text b4)] ≤ Lim then (q0 (List.getD x57 (Int.toNat x59) Ty.exp.dflt) (([] ++ x2) ++ [(Exp.text b4)]) b1000003 b1000004 b1000005).bind fun r1 => (xAg N q0 n x2 x6 x57 x58 (IntKind.i64.wrap (x59 + 1)) b4 r1.1 r1.2.1 r1.2.2) else none else none) else ((q0 (List.getD x57 (Int.toNat x59) Ty.exp.dflt) x2 b1000003 b1000004 b1000005).bind fun r1 => (xAg N q0 n x2 x6 x57 x58 (IntKind.i64.wrap (x59 + 1)) b4 r1.1 r1.2.1 r1.2.2))) else ((q0 (List.getD x57 (Int.toNat x59) Ty.exp.dflt) x2 b1000003 b1000004 b1000005).bind fun r1 => (xAg N q0 n x2 x6 x57 x58 (IntKind.i64.wrap (x59 + 1)) b4 r1.1 r1.2.1 r1.2.2)) else none) else (some (b1000003, b1000004, b1000005))
def xAM (N : Nat) (q0 : Exp → (List Str) → Bool → Str → Str → Option (Bool × Str × Str)) (a0 : Exp) (a1 : List Str) (a2 : Bool) (a3 : Str) (a4 : Str) : Option (Bool × Str × Str) := bif ((Exp.kind a0) == 3) then ((xDK N a1 (Exp.text a0)).bind fun r1 => bif (decide (r1 < 0)) then ((xDp N (Exp.text a0) a1 a2 a3 a4).bind fun r2 => some (r2.1, r2.2.1, r2.2.2)) else ((xAg N q0 N a1 ((Exp.kind a0) == 9) (Exp.args a0) (List.length (Exp.args a0) : Int) 0 a0 a2 a3 a4))) else (bif ((Exp.kind a0) == 7) then ((xAg N q0 N a1 true (Exp.args a0) (List.length (Exp.args a0) : Int) 0 a0 a2 a3 a4)) else (bif ((Exp.kind a0) == 9) then ((xAg N q0 N a1 ((Exp.kind a0) == 9) (Exp.args a0) (List.length (Exp.args a0) : Int) 0 a0 a2 a3 a4)) else ((xAg N q0 N a1 ((Exp.kind a0) == 9) (Exp.args a0) (List.length (Exp.args a0) : Int) 0 a0 a2 a3 a4))))
def xAG (N : Nat) : Nat → Exp → (List Str) → Bool → Str → Str → Option (Bool × Str × Str)
 | 0, _, _, _, _, _ => none
 | d + 1, a0, a1, a2, a3, a4 => xAM N (xAG N d) a0 a1 a2 a3 a4
def xBP (N : Nat) (a0 : Exp) (a1 : List Str) (a2 : Bool) (a3 : Str) (a4 : Str) : Option (Bool × Str × Str) := xAG N N a0 a1 a2 a3 a4
def xCu (a0 : Exp) (a1 : Str) (a2 : Str) : List Arg := [.val (.v true (Ex .ro a0)), .val (.v false [.str a1]), .val (.v false [.str a2])]
def xBI (r : Bool) : CallO := ⟨.v false [.bool r], [], []⟩
def xDh (N : Nat) (a0 : Exp) (a1 : Str) (a2 : Str) : Option (Bool) := (xBP N a0 [] false a1 a2).bind fun r1 => some r1.1
def xBb (a0 : Exp) (a1 : Exp) : List Arg := [.val (.v true (Ex .ro a0)), .val (.v true (Ex .ro a1))]
def xAa (r : Bool) : CallO := ⟨.v false [.bool r], [], []⟩
def xC3 (N : Nat) (q0 : Exp → Exp → Option (Bool)) (q1 : (List Exp) → (List Exp) → Option (Bool)) (a0 : Exp) (a1 : Exp) : Option (Bool) := bif ((Exp.kind a0) != (Exp.kind a1)) then (some false) else (bif ((Exp.n a0) != (Exp.n a1)) then (some false) else (bif (!(((Exp.text a0) : Str) == (Exp.text a1))) then (some false) else ((q1 (Exp.args a0) (Exp.args a1)).bind fun r1 => bif (!r1) then (some false) else (some true))))
def xCg (a0 : List Exp) (a1 : List Exp) : List Arg := [.val (.v false [.sl .ro .exp a0]), .val (.v false [.sl .ro .exp a1])]
def xBk (r : Bool) : CallO := ⟨.v false [.bool r], [], []⟩
def xCM (N : Nat) (q0 : Exp → Exp → Option (Bool)) (q1 : (List Exp) → (List Exp) → Option (Bool)) : Nat → (List Exp) → (List Exp) → Int → Option (Bool)
 | 0, _, _, _ => none
 | n + 1, x0, x1, x5 => bif (decide (x5 < (List.length x0 : Int))) then (if (0 : Int) ≤ x5 ∧ x5 < (List.length x0) then if (0 : Int) ≤ x5 ∧ x5 < (List.length x1) then (q0 (List.getD x0 (Int.toNat x5) Ty.exp.dflt) (List.getD x1 (Int.toNat x5) Ty.exp.dflt)).bind fun r1 => bif (!r1) then (some false) else ((xCM N q0 q1 n x0 x1 (IntKind.i64.wrap (x5 + 1)))) else none else none) else (some true)
def xCN (N : Nat) (q0 : Exp → Exp → Option (Bool)) (q1 : (List Exp) → (List Exp) → Option (Bool)) (a0 : List Exp) (a1 : List Exp) : Option (Bool) := bif ((List.length a0 : Int) != (List.length a1 : Int)) then (some false) else ((xCM N q0 q1 N a0 a1 0))
structure laws_eqExpr_rec where
 c_laws_eqExpr : Exp → Exp → Option (Bool)
 c_laws_eqExprS : (List Exp) → (List Exp) → Option (Bool)
def xA1 (N : Nat) : Nat → laws_eqExpr_rec
 | 0 => ⟨fun _ _ => none, fun _ _ => none⟩
 | d + 1 => ⟨xC3 N (xA1 N d).c_laws_eqExpr (xA1 N d).c_laws_eqExprS, xCN N (xA1 N d).c_laws_eqExpr (xA1 N d).c_laws_eqExprS⟩
def xD0 (N : Nat) (a0 : Exp) (a1 : Exp) : Option (Bool) := (xA1 N N).c_laws_eqExpr a0 a1
def xDB (N : Nat) (q0 : Exp → Option ((List Str))) : Nat → (List Str) → Int → Exp → Option ((List Str))
 | 0, _, _, _ => none
 | n + 1, x3, x4, b1 => bif (decide (x4 < (List.length (Exp.args b1) : Int))) then (if (0 : Int) ≤ x4 ∧ x4 < (List.length (Exp.args b1)) then (q0 (List.getD (Exp.args b1) (Int.toNat x4) Ty.exp.dflt)).bind fun r1 => if List.length x3 + List.length r1 ≤ Lim then (xDB N q0 n (x3 ++ r1) (IntKind.i64.wrap (x4 + 1)) b1) else none else none) else (some x3)
def xGa (N : Nat) (q0 : Exp → Option ((List Str))) (a0 : Exp) : Option ((List Str)) := bif ((Exp.kind a0) == 7) then (if 0 + List.length [(Exp.text a0)] ≤ Lim then (xDB N q0 N ([] ++ [(Exp.text a0)]) 0 a0) else none) else (bif ((Exp.kind a0) == 9) then (if 0 + List.length [(Exp.text a0)] ≤ Lim then (xDB N q0 N ([] ++ [(Exp.text a0)]) 0 a0) else none) else ((xDB N q0 N [] 0 a0)))
def xGf (N : Nat) : Nat → Exp → Option ((List Str))
 | 0, _ => none
 | d + 1, a0 => xGa N (xGf N d) a0
def xC6 (a0 : Int) : List Arg := [.val (.v false [.int .i64 a0])]
def xBq (r : Str) : CallO := ⟨.v false [.str r], [], []⟩
def xCs (N : Nat) : Nat → Int → Str → Option (Str)
 | 0, _, _ => none
 | n + 1, x0, x3 => bif (decide (x0 > 0)) then (if List.length (List.map (fun n => UInt8.ofNat (Int.toNat n)) [(IntKind.u8.wrap ((IntKind.i64.wrap (48 + (Int.tmod x0 10)))))]) + List.length x3 ≤ Lim then (xCs N n (IntKind.i64.wrap (Int.tdiv x0 10)) ((List.map (fun n => UInt8.ofNat (Int.toNat n)) [(IntKind.u8.wrap ((IntKind.i64.wrap (48 + (Int.tmod x0 10)))))]) ++ x3)) else none) else (if List.length [109] + List.length x3 ≤ Lim then some ([109] ++ x3) else none)
def xDs (N : Nat) (a0 : Int) : Option (Str) := bif (decide (a0 ≤ 0)) then (some [109, 48]) else ((xCs N N a0 []))
def xBQ (a0 : List Exp) (a1 : Int) : List Arg := [.val (.v false [.sl (.lnt 0) .exp a0]), .val (.v false [.int .i64 a1])]
def xBc (r : Int × (List Exp)) : CallO := ⟨.v false [.int .i64 r.1], [], [.sl (.lnt 0) .exp r.2]⟩
def xB9 (N : Nat) (q0 : (List Exp) → Int → Option (Int × (List Exp))) : Nat → (List Exp) → Int → Int → Option (Int × (List Exp))
 | 0, _, _, _ => none
 | n + 1, x0, x1, x5 => bif (decide (x5 < (List.length x0 : Int))) then (if (0 : Int) ≤ x5 ∧ x5 < (List.length x0) then if (0 : Int) ≤ x5 ∧ x5 < (List.length (List.set x0 (Int.toNat x5) (Exp.mk x1 (Exp.n (List.getD x0 (Int.toNat x5) Ty.exp.dflt)) (Exp.text (List.getD x0 (Int.toNat x5) Ty.exp.dflt)) (Exp.args (List.getD x0 (Int.toNat x5) Ty.exp.dflt))))) then (xDs N (IntKind.i64.wrap ((IntKind.i64.wrap (x1 + 1)) + 1))).bind fun r1 => if (0 : Int) ≤ x5 ∧ x5 < (List.length ((fun (z8 : List Exp) => List.set z8 (Int.toNat x5) (Exp.mk (Exp.kind (List.getD z8 (Int.toNat x5) Ty.exp.dflt)) (IntKind.i64.wrap (x1 + 1)) (Exp.text (List.getD z8 (Int.toNat x5) Ty.exp.dflt)) (Exp.args (List.getD z8 (Int.toNat x5) Ty.exp.dflt)))) (List.set x0 (Int.toNat x5) (Exp.mk x1 (Exp.n (List.getD x0 (Int.toNat x5) Ty.exp.dflt)) (Exp.text (List.getD x0 (Int.toNat x5) Ty.exp.dflt)) (Exp.args (List.getD x0 (Int.toNat x5) Ty.exp.dflt)))))) then if (0 : Int) ≤ x5 ∧ x5 < (List.length ((fun (z9 : List Exp) => List.set z9 (Int.toNat x5) (Exp.mk (Exp.kind (List.getD z9 (Int.toNat x5) Ty.exp.dflt)) (Exp.n (List.getD z9 (Int.toNat x5) Ty.exp.dflt)) r1 (Exp.args (List.getD z9 (Int.toNat x5) Ty.exp.dflt)))) ((fun (z8 : List Exp) => List.set z8 (Int.toNat x5) (Exp.mk (Exp.kind (List.getD z8 (Int.toNat x5) Ty.exp.dflt)) (IntKind.i64.wrap (x1 + 1)) (Exp.text (List.getD z8 (Int.toNat x5) Ty.exp.dflt)) (Exp.args (List.getD z8 (Int.toNat x5) Ty.exp.dflt)))) (List.set x0 (Int.toNat x5) (Exp.mk x1 (Exp.n (List.getD x0 (Int.toNat x5) Ty.exp.dflt)) (Exp.text (List.getD x0 (Int.toNat x5) Ty.exp.dflt)) (Exp.args (List.getD x0 (Int.toNat x5) Ty.exp.dflt))))))) then (q0 (Exp.args (List.getD ((fun (z9 : List Exp) => List.set z9 (Int.toNat x5) (Exp.mk (Exp.kind (List.getD z9 (Int.toNat x5) Ty.exp.dflt)) (Exp.n (List.getD z9 (Int.toNat x5) Ty.exp.dflt)) r1 (Exp.args (List.getD z9 (Int.toNat x5) Ty.exp.dflt)))) ((fun (z8 : List Exp) => List.set z8 (Int.toNat x5) (Exp.mk (Exp.kind (List.getD z8 (Int.toNat x5) Ty.exp.dflt)) (IntKind.i64.wrap (x1 + 1)) (Exp.text (List.getD z8 (Int.toNat x5) Ty.exp.dflt)) (Exp.args (List.getD z8 (Int.toNat x5) Ty.exp.dflt)))) (List.set x0 (Int.toNat x5) (Exp.mk x1 (Exp.n (List.getD x0 (Int.toNat x5) Ty.exp.dflt)) (Exp.text (List.getD x0 (Int.toNat x5) Ty.exp.dflt)) (Exp.args (List.getD x0 (Int.toNat x5) Ty.exp.dflt)))))) (Int.toNat x5) Ty.exp.dflt)) (IntKind.i64.wrap ((IntKind.i64.wrap ((IntKind.i64.wrap (x1 + 1)) + 1)) + 1))).bind fun r2 =>
     if List.length r2.2 = List.length (Exp.args (List.getD ((fun (z9 : List Exp) => List.set z9 (Int.toNat x5) (Exp.mk (Exp.kind (List.getD z9 (Int.toNat x5) Ty.exp.dflt)) (Exp.n (List.getD z9 (Int.toNat x5) Ty.exp.dflt)) r1 (Exp.args (List.getD z9 (Int.toNat x5) Ty.exp.dflt)))) ((fun (z8 : List Exp) => List.set z8 (Int.toNat x5) (Exp.mk (Exp.kind (List.getD z8 (Int.toNat x5) Ty.exp.dflt)) (IntKind.i64.wrap (x1 + 1)) (Exp.text (List.getD z8 (Int.toNat x5) Ty.exp.dflt)) (Exp.args (List.getD z8 (Int.toNat x5) Ty.exp.dflt)))) (List.set x0 (Int.toNat x5) (Exp.mk x1 (Exp.n (List.getD x0 (Int.toNat x5) Ty.exp.dflt)) (Exp.text (List.getD x0 (Int.toNat x5) Ty.exp.dflt)) (Exp.args (List.getD x0 (Int.toNat x5) Ty.exp.dflt)))))) (Int.toNat x5) Ty.exp.dflt)) then (xB9 N q0 n ((fun (z10 : List Exp) => List.set z10 (Int.toNat x5) (Exp.mk (Exp.kind (List.getD z10 (Int.toNat x5) Ty.exp.dflt)) (Exp.n (List.getD z10 (Int.toNat x5) Ty.exp.dflt)) (Exp.text (List.getD z10 (Int.toNat x5) Ty.exp.dflt)) r2.2)) ((fun (z9 : List Exp) => List.set z9 (Int.toNat x5) (Exp.mk (Exp.kind (List.getD z9 (Int.toNat x5) Ty.exp.dflt)) (Exp.n (List.getD z9 (Int.toNat x5) Ty.exp.dflt)) r1 (Exp.args (List.getD z9 (Int.toNat x5) Ty.exp.dflt)))) ((fun (z8 : List Exp) => List.set z8 (Int.toNat x5) (Exp.mk (Exp.kind (List.getD z8 (Int.toNat x5) Ty.exp.dflt)) (IntKind.i64.wrap (x1 + 1)) (Exp.text (List.getD z8 (Int.toNat x5) Ty.exp.dflt)) (Exp.args (List.getD z8 (Int.toNat x5) Ty.exp.dflt)))) (List.set x0 (Int.toNat x5) (Exp.mk x1 (Exp.n (List.getD x0 (Int.toNat x5) Ty.exp.dflt)) (Exp.text (List.getD x0 (Int.toNat x5) Ty.exp.dflt)) (Exp.args (List.getD x0 (Int.toNat x5) Ty.exp.dflt))))))) r2.1 (IntKind.i64.wrap (x5 + 1))) else none else none else none else none else none) else (some (x1, x0))
def xDH (N : Nat) (q0 : (List Exp) → Int → Option (Int × (List Exp))) (a0 : List Exp) (a1 : Int) : Option (Int × (List Exp)) := (xB9 N q0 N a0 a1 0)
def xCx (N : Nat) : Nat → (List Exp) → Int → Option (Int × (List Exp))
 | 0, _, _ => none
 | d + 1, a0, a1 => xDH N (xCx N d) a0 a1
def xEQ (N : Nat) (a0 : List Exp) (a1 : Int) : Option (Int × (List Exp)) := xCx N N a0 a1
def xC5 (a0 : Exp) (a1 : Int) : List Arg := [.val (.v true [.int .i64 (Exp.kind a0), .int .i64 (Exp.n a0), .str (Exp.text a0), .sl (.lnt 0) .exp (Exp.args a0)]), .val (.v false [.int .i64 a1])]
def xAw (r : Int × (List Exp)) : CallO := ⟨.v false [.int .i64 r.1], [], [.sl (.lnt 0) .exp r.2]⟩
def xDr (N : Nat) (a0 : Exp) (a1 : Int) : Option (Int × (List Exp)) := (xEQ N (Exp.args a0) a1).bind fun r1 => if List.length r1.2 = List.length (Exp.args a0) then some (r1.1, r1.2) else none
def xBK (a0 : Exp) (a1 : Int) : List Arg := [.val (.v true (Ex .ro a0)), .val (.v false [.int .i64 a1])]
def xAR (r : Int) : CallO := ⟨.v false [.int .i64 r], [], []⟩
def xBU (N : Nat) (q0 : Exp → Int → Option (Int)) : Nat → Int → Int → Exp → Option (Int)
 | 0, _, _, _ => none
 | n + 1, x1, x5, b2 => bif (decide (x5 < (List.length (Exp.args b2) : Int))) then (bif (decide (x1 ≥ 0)) then (if (0 : Int) ≤ x5 ∧ x5 < (List.length (Exp.args b2)) then (q0 (List.getD (Exp.args b2) (Int.toNat x5) Ty.exp.dflt) x1).bind fun r1 => (xBU N q0 n r1 (IntKind.i64.wrap (x5 + 1)) b2) else none) else (some x1)) else (some x1)
def xD5 (N : Nat) (q0 : Exp → Int → Option (Int)) (a0 : Exp) (a1 : Int) : Option (Int) := (xBU N q0 N (IntKind.i64.wrap (a1 - 1)) 0 a0)
def xCt (N : Nat) : Nat → Exp → Int → Option (Int)
 | 0, _, _ => none
 | d + 1, a0, a1 => xD5 N (xCt N d) a0 a1
def xFv (N : Nat) (a0 : Exp) (a1 : Int) : Option (Int) := xCt N N a0 a1
def xDV (a0 : Int) (a1 : Int) : List Arg := [.val (.v false [.int .i64 a0]), .val (.v false [.int .i64 a1])]
def xDu (r : Int) : CallO := ⟨.v false [.int .i64 r], [], []⟩
def xE3 (N : Nat) (a0 : Int) (a1 : Int) : Option (Int) := bif (decide (a0 > a1)) then (some a0) else (some a1)
def xBE (a0 : Exp) : List Arg := [.val (.v true (Ex .ro a0))]
def xAV (r : Int) : CallO := ⟨.v false [.int .i64 r], [], []⟩
def xCa (N : Nat) (q0 : Exp → Option (Int)) : Nat → Int → Int → Exp → Option (Int)
 | 0, _, _, _ => none
 | n + 1, x3, x4, b1 => bif (decide (x4 < (List.length (Exp.args b1) : Int))) then (if (0 : Int) ≤ x4 ∧ x4 < (List.length (Exp.args b1)) then (q0 (List.getD (Exp.args b1) (Int.toNat x4) Ty.exp.dflt)).bind fun r1 => (xE3 N x3 r1).bind fun r2 => (xCa N q0 n r2 (IntKind.i64.wrap (x4 + 1)) b1) else none) else (some (IntKind.i64.wrap (x3 + 1)))
def xDJ (N : Nat) (q0 : Exp → Option (Int)) (a0 : Exp) : Option (Int) := (xCa N q0 N 0 0 a0)
def xCB (N : Nat) : Nat → Exp → Option (Int)
 | 0, _ => none
 | d + 1, a0 => xDJ N (xCB N d) a0
def xEU (N : Nat) (a0 : Exp) : Option (Int) := xCB N N a0
def xDN (a0 : Int) (a1 : Int) (a2 : Int) : List Arg := [.val (.v false [.int .i64 a0]), .val (.v false [.int .i64 a1]), .val (.v false [.int .i64 a2])]
def xCY (r : Bool) : CallO := ⟨.v false [.bool r], [], []⟩
def xE2 (N : Nat) (a0 : Int) (a1 : Int) (a2 : Int) : Option (Bool) := bif (decide (a0 ≥ a1)) then (some (decide (a0 ≤ a2))) else (some false)
def xC0 (a0 : Str) : List Arg := [.val (.v false [.str a0])]
def xA7 (r : Bool) : CallO := ⟨.v false [.bool r], [], []⟩
def xBn (N : Nat) : Nat → Str → Int → Option (Bool)
 | 0, _, _ => none
 | n + 1, x0, x3 => bif (decide (x3 < (List.length x0 : Int))) then (if (0 : Int) ≤ x3 ∧ x3 < (List.length x0) then bif (decide ((((List.getD x0 (Int.toNat x3) 0).toNat : Int) : Int) < 32)) then (some false) else (bif (decide ((((List.getD x0 (Int.toNat x3) 0).toNat : Int) : Int) > 126)) then (some false) else (bif ((((List.getD x0 (Int.toNat x3) 0).toNat : Int) : Int) == 34) then (some false) else ((xBn N n x0 (IntKind.i64.wrap (x3 + 1)))))) else none) else (some (decide ((List.length x0 : Int) ≤ 20)))
def xDA (N : Nat) (a0 : Str) : Option (Bool) := (xBn N N a0 0)
def xCV (a0 : Str) : List Arg := [.val (.v false [.str a0])]
def xAE (r : Bool) : CallO := ⟨.v false [.bool r], [], []⟩
def xBz (N : Nat) : Nat → Str → Int → Option (Bool)
 | 0, _, _ => none
 | n + 1, x0, x3 => bif (decide (x3 < (List.length x0 : Int))) then (if (0 : Int) ≤ x3 ∧ x3 < (List.length x0) then bif (decide ((((List.getD x0 (Int.toNat x3) 0).toNat : Int) : Int) ≥ 97)) then (bif (decide ((((List.getD x0 (Int.toNat x3) 0).toNat : Int) : Int) ≥ 48)) then (bif (!(decide ((((List.getD x0 (Int.toNat x3) 0).toNat : Int) : Int) ≤ 122))) then (bif (x3 == 0) then (some false) else (bif (!(decide ((((List.getD x0 (Int.toNat x3) 0).toNat : Int) : Int) ≤ 57))) then (some false) else ((xBz N n x0 (IntKind.i64.wrap (x3 + 1)))))) else ((xBz N n x0 (IntKind.i64.wrap (x3 + 1))))) else (bif (!(decide ((((List.getD x0 (Int.toNat x3) 0).toNat : Int) : Int) ≤ 122))) then (bif (x3 == 0) then (some false) else (some false)) else ((xBz N n x0 (IntKind.i64.wrap (x3 + 1)))))) else (bif (decide ((((List.getD x0 (Int.toNat x3) 0).toNat : Int) : Int) ≥ 48)) then (bif (x3 == 0) then (some false) else (bif (!(decide ((((List.getD x0 (Int.toNat x3) 0).toNat : Int) : Int) ≤ 57))) then (some false) else ((xBz N n x0 (IntKind.i64.wrap (x3 + 1)))))) else (bif (x3 == 0) then (some false) else (some false))) else none) else (some (decide ((List.length x0 : Int) > 0)))
def xEM (N : Nat) (a0 : Str) : Option (Bool) := (xBz N N a0 0)
def xDf : List Arg := []
def xCD (r : (List Str)) : CallO := ⟨.v false [.sl .own .str r], [], []⟩
def xDW (N : Nat) : Option ((List Str)) := some [[108, 101, 116], [105, 110], [105, 102], [116, 104, 101, 110], [101, 108, 115, 101], [102, 111, 114], [100, 111], [108, 101, 110], [115, 117, 109], [116, 97, 107, 101], [115, 107, 105, 112], [114, 97, 110, 103, 101], [110, 116, 104], [119, 104, 101, 114, 101], [107, 101, 101, 112], [97, 100, 100], [103, 114, 111, 117, 112], [106, 111, 105, 110], [99, 111, 108, 117, 109, 110], [114, 111, 119, 115], [99, 108, 111, 99, 107], [99, 104, 97, 110, 99, 101], [102, 105, 108, 101], [116, 97, 98, 108, 101]]
def xDe (a0 : Str) : List Arg := [.val (.v false [.str a0])]
def xCA (r : Bool) : CallO := ⟨.v false [.bool r], [], []⟩
def xDn (N : Nat) (a0 : Str) : Option (Bool) := (xDW N).bind fun r1 => (xD6 N r1 a0).bind fun r2 => some r2
def xA6 (a0 : Str) : List Arg := [.val (.v false [.str a0])]
def xAt (r : Bool) : CallO := ⟨.v false [.bool r], [], []⟩
def xBB (N : Nat) (a0 : Str) : Option (Bool) := (xEM N a0).bind fun r1 => bif r1 then (bif (decide ((List.length a0 : Int) ≤ 8)) then ((xDn N a0).bind fun r2 => some (!r2)) else (some false)) else (some false)
def xAm (a0 : Str) : List Arg := [.val (.v false [.str a0])]
def xAi (r : Int) : CallO := ⟨.v false [.int .i64 r], [], []⟩
def xBg (N : Nat) (a0 : Str) : Option (Int) := bif ((a0 : Str) == [99, 108, 111, 99, 107]) then (some 0) else (bif ((a0 : Str) == [108, 101, 110]) then (some 1) else (bif ((a0 : Str) == [115, 117, 109]) then (some 1) else (bif ((a0 : Str) == [114, 111, 119, 115]) then (some 1) else (bif ((a0 : Str) == [99, 104, 97, 110, 99, 101]) then (some 1) else (bif ((a0 : Str) == [102, 105, 108, 101]) then (some 1) else (bif ((a0 : Str) == [116, 97, 107, 101]) then (some 2) else (bif ((a0 : Str) == [115, 107, 105, 112]) then (some 2) else (bif ((a0 : Str) == [114, 97, 110, 103, 101]) then (some 2) else (bif ((a0 : Str) == [110, 116, 104]) then (some 2) else (bif ((a0 : Str) == [107, 101, 101, 112]) then (some 2) else (bif ((a0 : Str) == [99, 111, 108, 117, 109, 110]) then (some 2) else (bif ((a0 : Str) == [116, 97, 98, 108, 101]) then (some 2) else (bif ((a0 : Str) == [119, 104, 101, 114, 101]) then (some 3) else (bif ((a0 : Str) == [103, 114, 111, 117, 112]) then (some 3) else (bif ((a0 : Str) == [106, 111, 105, 110]) then (some 3) else (bif ((a0 : Str) == [97, 100, 100]) then (some 4) else (some (-1))))))))))))))))))
def xAq (a0 : Exp) : List Arg := [.val (.v true (Ex .ro a0))]
def xAp (r : Bool) : CallO := ⟨.v false [.bool r], [], []⟩
def xEf (N : Nat) (a0 : Exp) : Option (Bool) := bif ((Exp.kind a0) == 1) then (bif ((List.length (Exp.args a0) : Int) == 0) then (bif (((Exp.text a0) : Str) == []) then ((xE2 N (Exp.n a0) 0 1000000000).bind fun r1 => some r1) else (some false)) else (some false)) else (bif ((Exp.kind a0) == 2) then (bif ((List.length (Exp.args a0) : Int) == 0) then (bif ((Exp.n a0) == 0) then ((xDA N (Exp.text a0)).bind fun r1 => some r1) else (some false)) else (some false)) else (bif ((Exp.kind a0) == 3) then (bif ((List.length (Exp.args a0) : Int) == 0) then (bif ((Exp.n a0) == 0) then ((xBB N (Exp.text a0)).bind fun r1 => some r1) else (some false)) else (some false)) else (bif ((Exp.kind a0) == 4) then (bif ((Exp.n a0) == 0) then (bif (((Exp.text a0) : Str) == []) then (some (decide ((List.length (Exp.args a0) : Int) ≤ 8))) else (some false)) else (some false)) else (bif ((Exp.kind a0) == 5) then (bif ((Exp.n a0) == 0) then ((xBg N (Exp.text a0)).bind fun r1 => some ((List.length (Exp.args a0) : Int) == r1)) else (some false)) else (bif ((Exp.kind a0) == 6) then (bif (((Exp.text a0) : Str) == []) then (bif ((List.length (Exp.args a0) : Int) == 2) then ((xE2 N (Exp.n a0) 1 5).bind fun r1 => some r1) else (some false)) else (some false)) else (bif ((Exp.kind a0) == 7) then (bif ((Exp.n a0) == 0) then (bif ((List.length (Exp.args a0) : Int) == 2) then ((xBB N (Exp.text a0)).bind fun r1 => some r1) else (some false)) else (some false)) else (bif ((Exp.kind a0) == 9) then (bif ((Exp.n a0) == 0) then (bif ((List.length (Exp.args a0) : Int) == 2) then ((xBB N (Exp.text a0)).bind fun r1 => some r1) else (some false)) else (some false)) else (bif ((Exp.kind a0) == 8) then (bif ((Exp.n a0) == 0) then (bif (((Exp.text a0) : Str) == []) then (some ((List.length (Exp.args a0) : Int) == 3)
            ) else (some false)) else (some false)) else (some false)))))))))
def xB6 (a0 : Exp) : List Arg := [.val (.v true (Ex .ro a0))]
def xBe (r : Bool) : CallO := ⟨.v false [.bool r], [], []⟩
def xCG (N : Nat) (q0 : Exp → Option (Bool)) : Nat → Int → Exp → Option (Bool)
 | 0, _, _ => none
 | n + 1, x3, b1 => bif (decide (x3 < (List.length (Exp.args b1) : Int))) then (if (0 : Int) ≤ x3 ∧ x3 < (List.length (Exp.args b1)) then (q0 (List.getD (Exp.args b1) (Int.toNat x3) Ty.exp.dflt)).bind fun r1 => bif (!r1) then (some false) else ((xCG N q0 n (IntKind.i64.wrap (x3 + 1)) b1)) else none) else ((xEf N b1).bind fun r1 => some r1)
def xEm (N : Nat) (q0 : Exp → Option (Bool)) (a0 : Exp) : Option (Bool) := (xCG N q0 N 0 a0)
def xDo (N : Nat) : Nat → Exp → Option (Bool)
 | 0, _ => none
 | d + 1, a0 => xEm N (xDo N d) a0
def xFV (N : Nat) (a0 : Exp) : Option (Bool) := xDo N N a0
def xAZ (a0 : Exp) : List Arg := [.val (.v true (Ex .ro a0))]
def xAC (r : Bool) : CallO := ⟨.v false [.bool r], [], []⟩
def xC8 (N : Nat) (a0 : Exp) : Option (Bool) := (xFv N a0 40).bind fun r1 => bif (decide (r1 ≥ 0)) then ((xEU N a0).bind fun r2 => bif (decide (r2 ≤ 8)) then ((xFV N a0).bind fun r3 => some r3) else (some false)) else (some false)
def xCT (a0 : Exp) : List Arg := [.val (.v true (Ex .ro a0))]
def xBy (r : Exp) : CallO := ⟨.v true (Ex .own r), [], []⟩
def xCU (N : Nat) (q0 : Exp → Option (Exp)) : Nat → Int → Exp → Exp → Exp → Option (Exp)
 | 0, _, _, _, _ => none
 | n + 1, x4, b1, b2, b3 => bif (decide (x4 < (List.length (Exp.args b1) : Int))) then (if (0 : Int) ≤ x4 ∧ x4 < (List.length (Exp.args b1)) then (q0 (List.getD (Exp.args b1) (Int.toNat x4) Ty.exp.dflt)).bind fun r1 => if List.length (Exp.args b3) + List.length [(Exp.re r1)] ≤ Lim then (xCU N q0 n (IntKind.i64.wrap (x4 + 1)) b1 b2 (Exp.mk (Exp.kind b3) (Exp.n b3) (Exp.text b3) ((Exp.args b3) ++ [(Exp.re r1)]))) else none else none) else (some b3)
def xD4 (N : Nat) (q0 : Exp → Option (Exp)) (a0 : Exp) : Option (Exp) := (xCU N q0 N 0 a0 (Exp.mk 0 0 [] []) (Exp.mk (Exp.kind a0) (Exp.n a0) (Exp.text a0) []))
def xC9 (N : Nat) : Nat → Exp → Option (Exp)
 | 0, _ => none
 | d + 1, a0 => xD4 N (xC9 N d) a0
def xEe (N : Nat) (a0 : Exp) : Option (Exp) := xC9 N N a0
def xBt (a0 : Exp) (a1 : Str) (a2 : Str) : List Arg := [.val (.v true (Ex .ro a0)), .val (.v false [.str a1]), .val (.v false [.str a2])]
def xAK (r : Exp) : CallO := ⟨.v true (Ex .own r), [], []⟩
def xAA (N : Nat) (q0 : Exp → Str → Str → Option (Exp)) : Nat → Str → Str → Int → Exp → Exp → Exp → Option (Exp)
 | 0, _, _, _, _, _, _ => none
 | n + 1, x1, x2, x8, b3, b6, b7 => bif (decide (x8 < (List.length (Exp.args b3) : Int))) then (bif ((Exp.kind b3) == 7) then (bif (x8 == 1) then (bif (((Exp.text b3) : Str) == x1) then (if (0 : Int) ≤ x8 ∧ x8 < (List.length (Exp.args b3)) then (xEe N (List.getD (Exp.args b3) (Int.toNat x8) Ty.exp.dflt)).bind fun r1 => if List.length (Exp.args b7) + List.length [(Exp.re r1)] ≤ Lim then (xAA N q0 n x1 x2 (IntKind.i64.wrap (x8 + 1)) b3 b6 (Exp.mk (Exp.kind b7) (Exp.n b7) (Exp.text b7) ((Exp.args b7) ++ [(Exp.re r1)]))) else none else none) else (if (0 : Int) ≤ x8 ∧ x8 < (List.length (Exp.args b3)) then (q0 (List.getD (Exp.args b3) (Int.toNat x8) Ty.exp.dflt) x1 x2).bind fun r1 => if List.length (Exp.args b7) + List.length [(Exp.re r1)] ≤ Lim then (xAA N q0 n x1 x2 (IntKind.i64.wrap (x8 + 1)) b3 b6 (Exp.mk (Exp.kind b7) (Exp.n b7) (Exp.text b7) ((Exp.args b7) ++ [(Exp.re r1)]))) else none else none)) else (if (0 : Int) ≤ x8 ∧ x8 < (List.length (Exp.args b3)) then (q0 (List.getD (Exp.args b3) (Int.toNat x8) Ty.exp.dflt) x1 x2).bind fun r1 => if List.length (Exp.args b7) + List.length [(Exp.re r1)] ≤ Lim then (xAA N q0 n x1 x2 (IntKind.i64.wrap (x8 + 1)) b3 b6 (Exp.mk (Exp.kind b7) (Exp.n b7) (Exp.text b7) ((Exp.args b7) ++ [(Exp.re r1)]))) else none else none)) else (bif ((Exp.kind b3) == 9) then (bif (x8 == 1) then (bif (((Exp.text b3) : Str) == x1) then (if (0 : Int) ≤ x8 ∧ x8 < (List.length (Exp.args b3)) then (xEe N (List.getD (Exp.args b3) (Int.toNat x8) Ty.exp.dflt)).bind fun r1 => if List.length (Exp.args b7) + List.length [(Exp.re r1)] ≤ Lim then (xAA N q0 n x1 x2 (IntKind.i64.wrap (x8 + 1)) b3 b6 (Exp.mk (Exp.kind b7) (Exp.n b7) (Exp.text b7) ((Exp.args b7) ++ [(Exp.re r1)]))) else none else none) else (if (0 : Int) ≤ x8 ∧ x8 < (List.length (Exp.args b3)) then (q0 (List.getD (Exp.args b3) (Int.toNat x8) Ty.exp.dflt) x1 x2).bind fun r1 =>
             if List.length (Exp.args b7) + List.length [(Exp.re r1)] ≤ Lim then (xAA N q0 n x1 x2 (IntKind.i64.wrap (x8 + 1)) b3 b6 (Exp.mk (Exp.kind b7) (Exp.n b7) (Exp.text b7) ((Exp.args b7) ++ [(Exp.re r1)]))) else none else none)) else (if (0 : Int) ≤ x8 ∧ x8 < (List.length (Exp.args b3)) then (q0 (List.getD (Exp.args b3) (Int.toNat x8) Ty.exp.dflt) x1 x2).bind fun r1 => if List.length (Exp.args b7) + List.length [(Exp.re r1)] ≤ Lim then (xAA N q0 n x1 x2 (IntKind.i64.wrap (x8 + 1)) b3 b6 (Exp.mk (Exp.kind b7) (Exp.n b7) (Exp.text b7) ((Exp.args b7) ++ [(Exp.re r1)]))) else none else none)) else (if (0 : Int) ≤ x8 ∧ x8 < (List.length (Exp.args b3)) then (q0 (List.getD (Exp.args b3) (Int.toNat x8) Ty.exp.dflt) x1 x2).bind fun r1 => if List.length (Exp.args b7) + List.length [(Exp.re r1)] ≤ Lim then (xAA N q0 n x1 x2 (IntKind.i64.wrap (x8 + 1)) b3 b6 (Exp.mk (Exp.kind b7) (Exp.n b7) (Exp.text b7) ((Exp.args b7) ++ [(Exp.re r1)]))) else none else none))) else (some b7)
def xCm (N : Nat) (q0 : Exp → Str → Str → Option (Exp)) (a0 : Exp) (a1 : Str) (a2 : Str) : Option (Exp) := bif ((Exp.kind a0) == 3) then (bif (((Exp.text a0) : Str) == a1) then ((xAA N q0 N a1 a2 0 a0 (Exp.mk 0 0 [] []) (Exp.mk (Exp.kind a0) (Exp.n a0) a2 []))) else ((xAA N q0 N a1 a2 0 a0 (Exp.mk 0 0 [] []) (Exp.mk (Exp.kind a0) (Exp.n a0) (Exp.text a0) [])))) else ((xAA N q0 N a1 a2 0 a0 (Exp.mk 0 0 [] []) (Exp.mk (Exp.kind a0) (Exp.n a0) (Exp.text a0) [])))
def xBZ (N : Nat) : Nat → Exp → Str → Str → Option (Exp)
 | 0, _, _, _ => none
 | d + 1, a0, a1, a2 => xCm N (xBZ N d) a0 a1 a2
def xEW (N : Nat) (a0 : Exp) (a1 : Str) (a2 : Str) : Option (Exp) := xBZ N N a0 a1 a2
def xBx (a0 : Exp) (a1 : Str) (a2 : Str) : List Arg := [.val (.v true (Ex .ro a0)), .val (.v false [.str a1]), .val (.v false [.str a2])]
def xAu (r : Exp × Bool) : CallO := ⟨.tup [(true, (Ex .own r.1)), (false, [.bool r.2])], [], []⟩
def xCS (N : Nat) (a0 : Exp) (a1 : Str) (a2 : Str) : Option (Exp × Bool) := (xC8 N a0).bind fun r1 => bif (!r1) then (some ((Exp.mk 0 0 [] []), false)) else ((xBB N a1).bind fun r2 => bif (!r2) then (some ((Exp.mk 0 0 [] []), false)) else ((xBB N a2).bind fun r3 => bif (!r3) then (some ((Exp.mk 0 0 [] []), false)) else ((xDm N a0 a1 a2).bind fun r4 => bif r4 then (some ((Exp.mk 0 0 [] []), false)) else ((xEW N a0 a1 a2).bind fun r5 => some (r5, true)))))
def xBr (a0 : Exp) : List Arg := [.val (.v true (Ex .ro a0))]
def xAI (r : Int) : CallO := ⟨.v false [.int .i64 r], [], []⟩
def xBO (N : Nat) (q0 : Exp → Option (Int)) : Nat → Int → (List Exp) → Int → Int → Option (Int)
 | 0, _, _, _, _ => none
 | n + 1, x3, x7, x8, x9 => bif (decide (x9 < x8)) then (if (0 : Int) ≤ x9 ∧ x9 < (List.length x7) then (q0 (List.getD x7 (Int.toNat x9) Ty.exp.dflt)).bind fun r1 => (xBO N q0 n (IntKind.i64.wrap (x3 + r1)) x7 x8 (IntKind.i64.wrap (x9 + 1))) else none) else (some x3)
def xDE (N : Nat) (q0 : Exp → Option (Int)) (a0 : Exp) : Option (Int) := (xBO N q0 N 1 (Exp.args a0) (List.length (Exp.args a0) : Int) 0)
def xBV (N : Nat) : Nat → Exp → Option (Int)
 | 0, _ => none
 | d + 1, a0 => xDE N (xBV N d) a0
def xEO (N : Nat) (a0 : Exp) : Option (Int) := xBV N N a0
def xBD (a0 : Exp) : List Arg := [.val (.v true (Ex .ro a0))]
def xAT (r : Int) : CallO := ⟨.v false [.int .i64 r], [], []⟩
def xB7 (N : Nat) (q0 : Exp → Option (Int)) : Nat → Int → (List Exp) → Int → Int → Option (Int)
 | 0, _, _, _, _ => none
 | n + 1, x3, x7, x8, x9 => bif (decide (x9 < x8)) then (if (0 : Int) ≤ x9 ∧ x9 < (List.length x7) then (q0 (List.getD x7 (Int.toNat x9) Ty.exp.dflt)).bind fun r1 => (xB7 N q0 n (if r1 > x3 then r1 else x3) x7 x8 (IntKind.i64.wrap (x9 + 1))) else none) else (some (IntKind.i64.wrap (x3 + 1)))
def xDD (N : Nat) (q0 : Exp → Option (Int)) (a0 : Exp) : Option (Int) := (xB7 N q0 N 0 (Exp.args a0) (List.length (Exp.args a0) : Int) 0)
def xCv (N : Nat) : Nat → Exp → Option (Int)
 | 0, _ => none
 | d + 1, a0 => xDD N (xCv N d) a0
def xEN (N : Nat) (a0 : Exp) : Option (Int) := xCv N N a0
def xBS (a0 : Int) (a1 : Int) (a2 : Int) : List Arg := [.val (.v false [.int .i64 a0]), .val (.v false [.int .i64 a1]), .val (.v false [.int .i64 a2])]
def xAS (r : Bool) : CallO := ⟨.v false [.bool r], [], []⟩
def xDF (N : Nat) (a0 : Int) (a1 : Int) (a2 : Int) : Option (Bool) := bif (decide (a1 ≤ a0)) then (some (decide (a0 ≤ a2))) else (some false)
def xCd (a0 : Str) : List Arg := [.val (.v false [.str a0])]
def xAP (r : Bool) : CallO := ⟨.v false [.bool r], [], []⟩
def xCe (N : Nat) : Nat → Str → Int → Option (Bool)
 | 0, _, _ => none
 | n + 1, x0, x3 => bif (decide (x3 < (List.length x0 : Int))) then (if (0 : Int) ≤ x3 ∧ x3 < (List.length x0) then bif (decide ((((List.getD x0 (Int.toNat x3) 0).toNat : Int) : Int) < 32)) then (some false) else (bif (decide ((((List.getD x0 (Int.toNat x3) 0).toNat : Int) : Int) > 126)) then (some false) else (bif ((((List.getD x0 (Int.toNat x3) 0).toNat : Int) : Int) == 34) then (some false) else ((xCe N n x0 (IntKind.i64.wrap (x3 + 1)))))) else none) else (some (decide ((List.length x0 : Int) ≤ 20)))
def xDy (N : Nat) (a0 : Str) : Option (Bool) := (xCe N N a0 0)
def xDx (a0 : Str) : List Arg := [.val (.v false [.str a0])]
def xA3 (r : Bool) : CallO := ⟨.v false [.bool r], [], []⟩
def xBR (N : Nat) : Nat → Str → Int → Option (Bool)
 | 0, _, _ => none
 | n + 1, x0, x3 => bif (decide (x3 < (List.length x0 : Int))) then (if (0 : Int) ≤ x3 ∧ x3 < (List.length x0) then bif (decide ((((List.getD x0 (Int.toNat x3) 0).toNat : Int) : Int) ≥ 97)) then (bif (!(decide ((((List.getD x0 (Int.toNat x3) 0).toNat : Int) : Int) ≤ 122))) then (bif (x3 == 0) then (some false) else (bif (decide ((((List.getD x0 (Int.toNat x3) 0).toNat : Int) : Int) < 48)) then (some false) else (bif (decide ((((List.getD x0 (Int.toNat x3) 0).toNat : Int) : Int) > 57)) then (some false) else ((xBR N n x0 (IntKind.i64.wrap (x3 + 1))))))) else ((xBR N n x0 (IntKind.i64.wrap (x3 + 1))))) else (bif (x3 == 0) then (some false) else (bif (decide ((((List.getD x0 (Int.toNat x3) 0).toNat : Int) : Int) < 48)) then (some false) else (bif (decide ((((List.getD x0 (Int.toNat x3) 0).toNat : Int) : Int) > 57)) then (some false) else ((xBR N n x0 (IntKind.i64.wrap (x3 + 1))))))) else none) else ((xDF N (List.length x0 : Int) 1 8).bind fun r1 => some r1)
def xE8 (N : Nat) (a0 : Str) : Option (Bool) := (xBR N N a0 0)
def xAh (a0 : Str) : List Arg := [.val (.v false [.str a0])]
def xAd (r : Int) : CallO := ⟨.v false [.int .i64 r], [], []⟩
def xBH (N : Nat) (a0 : Str) : Option (Int) := bif ((a0 : Str) == [99, 108, 111, 99, 107]) then (some 0) else (bif ((a0 : Str) == [108, 101, 110]) then (some 1) else (bif ((a0 : Str) == [115, 117, 109]) then (some 1) else (bif ((a0 : Str) == [114, 111, 119, 115]) then (some 1) else (bif ((a0 : Str) == [99, 104, 97, 110, 99, 101]) then (some 1) else (bif ((a0 : Str) == [102, 105, 108, 101]) then (some 1) else (bif ((a0 : Str) == [116, 97, 107, 101]) then (some 2) else (bif ((a0 : Str) == [115, 107, 105, 112]) then (some 2) else (bif ((a0 : Str) == [114, 97, 110, 103, 101]) then (some 2) else (bif ((a0 : Str) == [110, 116, 104]) then (some 2) else (bif ((a0 : Str) == [107, 101, 101, 112]) then (some 2) else (bif ((a0 : Str) == [99, 111, 108, 117, 109, 110]) then (some 2) else (bif ((a0 : Str) == [116, 97, 98, 108, 101]) then (some 2) else (bif ((a0 : Str) == [119, 104, 101, 114, 101]) then (some 3) else (bif ((a0 : Str) == [103, 114, 111, 117, 112]) then (some 3) else (bif ((a0 : Str) == [106, 111, 105, 110]) then (some 3) else (bif ((a0 : Str) == [97, 100, 100]) then (some 4) else (some (-1))))))))))))))))))
def xAW (a0 : Str) : List Arg := [.val (.v false [.str a0])]
def xAN (r : Bool) : CallO := ⟨.v false [.bool r], [], []⟩
def xDi (N : Nat) (a0 : Str) : Option (Bool) := bif ((a0 : Str) == [108, 101, 116]) then (some true) else (bif ((a0 : Str) == [105, 110]) then (some true) else (bif ((a0 : Str) == [105, 102]) then (some true) else (bif ((a0 : Str) == [116, 104, 101, 110]) then (some true) else (bif ((a0 : Str) == [101, 108, 115, 101]) then (some true) else (bif ((a0 : Str) == [102, 111, 114]) then (some true) else (bif ((a0 : Str) == [100, 111]) then (some true) else ((xBH N a0).bind fun r1 => some (decide (r1 ≥ 0)))))))))
def xBN (a0 : Str) : List Arg := [.val (.v false [.str a0])]
def xAs (r : Bool) : CallO := ⟨.v false [.bool r], [], []⟩
def xBA (N : Nat) (a0 : Str) : Option (Bool) := (xE8 N a0).bind fun r1 => bif r1 then ((xDi N a0).bind fun r2 => some (!r2)) else (some false)
def xAr (a0 : Exp) : List Arg := [.val (.v true (Ex .ro a0))]
def xAv (r : Bool) : CallO := ⟨.v false [.bool r], [], []⟩
def xEu (N : Nat) (a0 : Exp) : Option (Bool) := bif ((Exp.kind a0) == 1) then ((xDF N (Exp.n a0) 0 1000000000).bind fun r1 => bif r1 then (bif (((Exp.text a0) : Str) == []) then (some ((List.length (Exp.args a0) : Int) == 0)) else (some false)) else (some false)) else (bif ((Exp.kind a0) == 2) then (bif ((Exp.n a0) == 0) then ((xDy N (Exp.text a0)).bind fun r1 => bif r1 then (some ((List.length (Exp.args a0) : Int) == 0)) else (some false)) else (some false)) else (bif ((Exp.kind a0) == 3) then (bif ((Exp.n a0) == 0) then ((xBA N (Exp.text a0)).bind fun r1 => bif r1 then (some ((List.length (Exp.args a0) : Int) == 0)) else (some false)) else (some false)) else (bif ((Exp.kind a0) == 4) then (bif ((Exp.n a0) == 0) then (bif (((Exp.text a0) : Str) == []) then (some (decide ((List.length (Exp.args a0) : Int) ≤ 8))) else (some false)) else (some false)) else (bif ((Exp.kind a0) == 5) then (bif ((Exp.n a0) == 0) then ((xBH N (Exp.text a0)).bind fun r1 => some ((List.length (Exp.args a0) : Int) == r1)) else (some false)) else (bif ((Exp.kind a0) == 6) then ((xDF N (Exp.n a0) 1 5).bind fun r1 => bif r1 then (bif (((Exp.text a0) : Str) == []) then (some ((List.length (Exp.args a0) : Int) == 2)) else (some false)) else (some false)) else (bif ((Exp.kind a0) == 7) then (bif ((Exp.n a0) == 0) then ((xBA N (Exp.text a0)).bind fun r1 => bif r1 then (some ((List.length (Exp.args a0) : Int) == 2)) else (some false)) else (some false)) else (bif ((Exp.kind a0) == 9) then (bif ((Exp.n a0) == 0) then ((xBA N (Exp.text a0)).bind fun r1 => bif r1 then (some ((List.length (Exp.args a0) : Int) == 2)) else (some false)) else (some false)) else (bif ((Exp.kind a0) == 8) then (bif ((Exp.n a0) == 0) then (bif (((Exp.text a0) : Str) == []) then (some ((List.length (Exp.args a0) : Int) == 3)
             ) else (some false)) else (some false)) else (some false)))))))))
def xBM (a0 : Exp) : List Arg := [.val (.v true (Ex .ro a0))]
def xAU (r : Bool) : CallO := ⟨.v false [.bool r], [], []⟩
def xB0 (N : Nat) (q0 : Exp → Option (Bool)) : Nat → (List Exp) → Int → Int → Exp → Option (Bool)
 | 0, _, _, _, _ => none
 | n + 1, x6, x7, x8, b1 => bif (decide (x8 < x7)) then (if (0 : Int) ≤ x8 ∧ x8 < (List.length x6) then (q0 (List.getD x6 (Int.toNat x8) Ty.exp.dflt)).bind fun r1 => bif (!r1) then (some false) else ((xB0 N q0 n x6 x7 (IntKind.i64.wrap (x8 + 1)) b1)) else none) else ((xEu N b1).bind fun r1 => some r1)
def xDP (N : Nat) (q0 : Exp → Option (Bool)) (a0 : Exp) : Option (Bool) := (xB0 N q0 N (Exp.args a0) (List.length (Exp.args a0) : Int) 0 a0)
def xCJ (N : Nat) : Nat → Exp → Option (Bool)
 | 0, _ => none
 | d + 1, a0 => xDP N (xCJ N d) a0
def xE7 (N : Nat) (a0 : Exp) : Option (Bool) := xCJ N N a0
def xAY (a0 : Exp) : List Arg := [.val (.v true (Ex .ro a0))]
def xAB (r : Bool) : CallO := ⟨.v false [.bool r], [], []⟩
def xC2 (N : Nat) (a0 : Exp) : Option (Bool) := (xEO N a0).bind fun r1 => bif (decide (r1 ≤ 40)) then ((xEN N a0).bind fun r2 => bif (decide (r2 ≤ 8)) then ((xE7 N a0).bind fun r3 => some r3) else (some false)) else (some false)
def xB1 (a0 : Exp) : List Arg := [.val (.v true (Ex .ro a0))]
def xBo (r : Exp) : CallO := ⟨.v true (Ex .own r), [], []⟩
def xCq (N : Nat) (q0 : Exp → Option (Exp)) : Nat → (List Exp) → Int → Int → Exp → Exp → Option (Exp)
 | 0, _, _, _, _, _ => none
 | n + 1, x14, x15, x16, b2, b3 => bif (decide (x16 < x15)) then (if (0 : Int) ≤ x16 ∧ x16 < (List.length x14) then (q0 (List.getD x14 (Int.toNat x16) Ty.exp.dflt)).bind fun r1 => if List.length (Exp.args b3) + List.length [(Exp.re r1)] ≤ Lim then (xCq N q0 n x14 x15 (IntKind.i64.wrap (x16 + 1)) b2 (Exp.mk (Exp.kind b3) (Exp.n b3) (Exp.text b3) ((Exp.args b3) ++ [(Exp.re r1)]))) else none else none) else (some b3)
def xDQ (N : Nat) (q0 : Exp → Option (Exp)) (a0 : Exp) : Option (Exp) := (xCq N q0 N (Exp.args a0) (List.length (Exp.args a0) : Int) 0 (Exp.mk 0 0 [] []) (Exp.mk (Exp.kind a0) (Exp.n a0) (Exp.text a0) []))
def xCK (N : Nat) : Nat → Exp → Option (Exp)
 | 0, _ => none
 | d + 1, a0 => xDQ N (xCK N d) a0
def xEr (N : Nat) (a0 : Exp) : Option (Exp) := xCK N N a0
def xA9 (a0 : Exp) (a1 : Str) (a2 : Str) : List Arg := [.val (.v true (Ex .ro a0)), .val (.v false [.str a1]), .val (.v false [.str a2])]
def xBa (r : Exp) : CallO := ⟨.v true (Ex .own r), [], []⟩
def xAX (N : Nat) (q0 : Exp → Str → Str → Option (Exp)) : Nat → Str → Str → Bool → (List Exp) → Int → Int → Exp → Exp → Option (Exp)
 | 0, _, _, _, _, _, _, _, _ => none
 | n + 1, x1, x2, x8, x44, x45, x46, b6, b7 => bif (decide (x46 < x45)) then (if (0 : Int) ≤ x46 ∧ x46 < (List.length x44) then bif x8 then (bif (decide (x46 > 0)) then ((xEr N (List.getD x44 (Int.toNat x46) Ty.exp.dflt)).bind fun r1 => if List.length (Exp.args b7) + List.length [(Exp.re r1)] ≤ Lim then (xAX N q0 n x1 x2 x8 x44 x45 (IntKind.i64.wrap (x46 + 1)) b6 (Exp.mk (Exp.kind b7) (Exp.n b7) (Exp.text b7) ((Exp.args b7) ++ [(Exp.re r1)]))) else none) else ((q0 (List.getD x44 (Int.toNat x46) Ty.exp.dflt) x1 x2).bind fun r1 => if List.length (Exp.args b7) + List.length [(Exp.re r1)] ≤ Lim then (xAX N q0 n x1 x2 x8 x44 x45 (IntKind.i64.wrap (x46 + 1)) b6 (Exp.mk (Exp.kind b7) (Exp.n b7) (Exp.text b7) ((Exp.args b7) ++ [(Exp.re r1)]))) else none)) else ((q0 (List.getD x44 (Int.toNat x46) Ty.exp.dflt) x1 x2).bind fun r1 => if List.length (Exp.args b7) + List.length [(Exp.re r1)] ≤ Lim then (xAX N q0 n x1 x2 x8 x44 x45 (IntKind.i64.wrap (x46 + 1)) b6 (Exp.mk (Exp.kind b7) (Exp.n b7) (Exp.text b7) ((Exp.args b7) ++ [(Exp.re r1)]))) else none) else none) else (some b7)
def xCL (N : Nat) (q0 : Exp → Str → Str → Option (Exp)) (a0 : Exp) (a1 : Str) (a2 : Str) : Option (Exp) := bif ((Exp.kind a0) == 3) then (bif (((Exp.text a0) : Str) == a1) then ((xAX N q0 N a1 a2 false (Exp.args a0) (List.length (Exp.args a0) : Int) 0 (Exp.mk 0 0 [] []) (Exp.mk (Exp.kind a0) (Exp.n a0) a2 []))) else ((xAX N q0 N a1 a2 false (Exp.args a0) (List.length (Exp.args a0) : Int) 0 (Exp.mk 0 0 [] []) (Exp.mk (Exp.kind a0) (Exp.n a0) (Exp.text a0) [])))) else (bif ((Exp.kind a0) == 7) then ((xAX N q0 N a1 a2 (((Exp.text a0) : Str) == a1) (Exp.args a0) (List.length (Exp.args a0) : Int) 0 (Exp.mk 0 0 [] []) (Exp.mk (Exp.kind a0) (Exp.n a0) (Exp.text a0) []))) else (bif ((Exp.kind a0) == 9) then ((xAX N q0 N a1 a2 (((Exp.text a0) : Str) == a1) (Exp.args a0) (List.length (Exp.args a0) : Int) 0 (Exp.mk 0 0 [] []) (Exp.mk (Exp.kind a0) (Exp.n a0) (Exp.text a0) []))) else ((xAX N q0 N a1 a2 false (Exp.args a0) (List.length (Exp.args a0) : Int) 0 (Exp.mk 0 0 [] []) (Exp.mk (Exp.kind a0) (Exp.n a0) (Exp.text a0) [])))))
def xCr (N : Nat) : Nat → Exp → Str → Str → Option (Exp)
 | 0, _, _, _ => none
 | d + 1, a0, a1, a2 => xCL N (xCr N d) a0 a1 a2
def xFq (N : Nat) (a0 : Exp) (a1 : Str) (a2 : Str) : Option (Exp) := xCr N N a0 a1 a2
def xBv (a0 : Exp) (a1 : Str) (a2 : Str) : List Arg := [.val (.v true (Ex .ro a0)), .val (.v false [.str a1]), .val (.v false [.str a2])]
def xAo (r : Exp × Bool) : CallO := ⟨.tup [(true, (Ex .own r.1)), (false, [.bool r.2])], [], []⟩
def xCf (N : Nat) (a0 : Exp) (a1 : Str) (a2 : Str) : Option (Exp × Bool) := (xC2 N a0).bind fun r1 => bif (!r1) then (some ((Exp.mk 0 0 [] []), false)) else ((xBA N a1).bind fun r2 => bif (!r2) then (some ((Exp.mk 0 0 [] []), false)) else ((xBA N a2).bind fun r3 => bif (!r3) then (some ((Exp.mk 0 0 [] []), false)) else ((xDh N a0 a1 a2).bind fun r4 => bif r4 then (some ((Exp.mk 0 0 [] []), false)) else ((xFq N a0 a1 a2).bind fun r5 => some (r5, true)))))
def xBs (a0 : List Exp) (a1 : Int) : List Arg := [.val (.v false [.sl .ro .exp a0]), .val (.v false [.int .i64 a1])]
def xAz (r : Int) : CallO := ⟨.v false [.int .i64 r], [], []⟩
def xB8 (N : Nat) (q0 : (List Exp) → Int → Option (Int)) : Nat → (List Exp) → Int → Int → Option (Int)
 | 0, _, _, _ => none
 | n + 1, x0, x1, x5 => bif (decide (x5 < (List.length x0 : Int))) then (if (0 : Int) ≤ x5 ∧ x5 < (List.length x0) then bif (((Exp.kind (List.getD x0 (Int.toNat x5) Ty.exp.dflt)) : Int) != x1) then (some (-1)) else (bif (((Exp.n (List.getD x0 (Int.toNat x5) Ty.exp.dflt)) : Int) != (IntKind.i64.wrap (x1 + 1))) then (some (-1)) else ((xDs N (IntKind.i64.wrap ((IntKind.i64.wrap (x1 + 1)) + 1))).bind fun r1 => bif (!(((Exp.text (List.getD x0 (Int.toNat x5) Ty.exp.dflt)) : Str) == r1)) then (some (-1)) else ((q0 (Exp.args (List.getD x0 (Int.toNat x5) Ty.exp.dflt)) (IntKind.i64.wrap ((IntKind.i64.wrap ((IntKind.i64.wrap (x1 + 1)) + 1)) + 1))).bind fun r2 => bif (decide (r2 < 0)) then (some (-1)) else ((xB8 N q0 n x0 r2 (IntKind.i64.wrap (x5 + 1))))))) else none) else (some x1)
def xDG (N : Nat) (q0 : (List Exp) → Int → Option (Int)) (a0 : List Exp) (a1 : Int) : Option (Int) := (xB8 N q0 N a0 a1 0)
def xCw (N : Nat) : Nat → (List Exp) → Int → Option (Int)
 | 0, _, _ => none
 | d + 1, a0, a1 => xDG N (xCw N d) a0 a1
def xEP (N : Nat) (a0 : List Exp) (a1 : Int) : Option (Int) := xCw N N a0 a1
def xC4 (a0 : Exp) (a1 : Int) : List Arg := [.val (.v true (Ex .ro a0)), .val (.v false [.int .i64 a1])]
def xAL (r : Int) : CallO := ⟨.v false [.int .i64 r], [], []⟩
def xDq (N : Nat) (a0 : Exp) (a1 : Int) : Option (Int) := (xEP N (Exp.args a0) a1).bind fun r1 => bif (decide (r1 < 0)) then (some (-1)) else (some r1)
def xAj (a0 : Exp) (a1 : Str) (a2 : Str) : List Arg := [.val (.v true (Ex .ro a0)), .val (.v false [.str a1]), .val (.v false [.str a2])]
def xAk (r : Bool) : CallO := ⟨.v false [.bool r], [], []⟩
def xBf (N : Nat) (a0 : Exp) (a1 : Str) (a2 : Str) : Option (Bool) := bif (decide ((List.length a1 : Int) > 1048576)) then (some true) else (bif (decide ((List.length a2 : Int) > 1048576)) then (some true) else ((xFN N a0 1048576).bind fun r1 => bif (decide (r1 < 0)) then (some true) else ((xD2 N a0).bind fun r2 => (xCS N r2 a1 a2).bind fun r3 => (xD2 N a0).bind fun r4 => (xCf N r4 a1 a2).bind fun r5 => (xD0 N r5.1 r3.1).bind fun r6 => bif (!r6) then (some false) else (bif (!((r5.2 : Bool) == r3.2)) then (some false) else ((xD2 N a0).bind fun r7 => (xD0 N r4 r7).bind fun r8 => bif (!r8) then (some false) else ((xDr N r4 1).bind fun r9 => if List.length r9.2 = List.length (Exp.args r4) then bif (decide (r9.1 < 0)) then (some false) else ((xD0 N r5.1 r3.1).bind fun r10 => bif (!r10) then (some false) else ((xDr N r5.1 1).bind fun r11 => if List.length r11.2 = List.length (Exp.args r5.1) then (xDq N (Exp.mk (Exp.kind r5.1) (Exp.n r5.1) (Exp.text r5.1) r11.2) 1).bind fun r12 => bif (decide (r12 < 0)) then (some false) else (bif (r12 != r11.1) then (some false) else ((xD2 N a0).bind fun r13 => (xCf N r13 a1 a2).bind fun r14 => (xD0 N r14.1 r3.1).bind fun r15 => bif (!r15) then (some false) else (bif (!((r14.2 : Bool) == r3.2)) then (some false) else ((xDq N (Exp.mk (Exp.kind r5.1) (Exp.n r5.1) (Exp.text r5.1) r11.2) 1).bind fun r16 => bif (decide (r16 < 0)) then (some false) else (bif (r16 != r11.1) then (some false) else (some true)))))) else none)) else none))))))
end Go.Ab
end
section
open Go.Proofs
namespace Go.Ab.T
variable [Inhabited Lb]
abbrev AbC (f : FuncId) (a : List Arg) (r : CallO) : Prop := AbsCalls Try.prog f a r
abbrev W (x : Int) : Int := IntKind.i64.wrap x
abbrev Ln {α : Type} (l : List α) : Nat := List.length l
abbrev tN (x : Int) : Nat := Int.toNat x
abbrev gD {α : Type} (l : List α) (i : Nat) (d : α) : α := List.getD l i d
abbrev iY (b : Bool) : Prop := b = true
abbrev iN (b : Bool) : Prop := b = false
abbrev dc (p : Prop) [Decidable p] : Bool := decide p
abbrev vd : Val := Ty.val.dflt
abbrev rd : Rowd := Ty.row.dflt
end Go.Ab.T
end
section
open Go.Proofs
namespace Go.Ab.T
set_option maxRecDepth 100000
variable [Inhabited Lb]
def tt : TT := [(3, { zero := some [.int .i64 0], ik := some .i64 }),
 (4, { zero := some [.bool false], isBool := true }),
 (5, { zero := some [.int .u8 0], ik := some .u8 }),
 (9, { zero := some [.str []], isStr := true }),
 (22, { zero := some [.sl .own .exp []], elem := some (24, .exp) }),
 (24, { sz := 4, agg := true, zero := some [.int .i64 0, .int .i64 0, .str [], .sl .own .exp []], offs := [0, 1, 2, 3], fsz := [1, 1, 1, 1] }),
 (27, { zero := some [.sl .own .exp []], elem := some (29, .exp) }),
 (29, { sz := 4, agg := true, zero := some [.int .i64 0, .int .i64 0, .str [], .sl .own .exp []], offs := [0, 1, 2, 3], fsz := [1, 1, 1, 1] }),
 (36, { zero := some [.sl .own .str []], elem := some (9, .str) }),
 (41, { zero := some [.sl .own .byte []], elem := some (5, .byte) }),
 (52, { zero := some [.val .nilFunc], isFn := true }),
 (53, { zero := some [.val .nilFunc], isFn := true }),
 (55, { sz := 2, agg := true, zero := some [.val .nilFunc, .val .nilFunc], offs := [0, 1], fsz := [1, 1] }),
 (78, { sz := 3, agg := true, zero := some [.sl .own .byte [], .int .i64 0, .int .i64 0], offs := [0, 1, 2], fsz := [1, 1, 1] }),
 (83, { zero := some [.sl .own .int []], elem := some (3, .int) })]
theorem ttok : TTok Try.prog tt := zJb (by kernel_rfl)
theorem mix : Try.prog.follows .mixedOrders = true := by kernel_rfl
def F : Bool := false
def cl (r : CallO) : CallO := ⟨r.res, r.outs, [.clo 0 []]⟩
def Y : Bool := true
noncomputable def rE (I : Info) (ag : List Arg) (bs : List Bool) (cs : List CallO) : Option Res := run tt (AbsCalls Try.prog) I 3000 false [.code I.body] ⟨zA8 0 ag, bs, cs, []⟩
noncomputable def rS (k : Nat) (I : Info) (σ : St) (bs : List Bool) (cs : List CallO) : Option Res := run tt (AbsCalls Try.prog) I 3000 true (stkAt k I.body) ⟨σ, bs, cs, []⟩
noncomputable def dn (r : CallO) (ob : List Prop) : Option Res := some (.done r ob)
noncomputable def st (k : Nat) (I : Info) (σ : St) (ob : List Prop) : Option Res := some (.stop (stkAt k I.body) σ ob)
def RE (fn : Func) (I : Info) (ag : List Arg) (r : CallO) : Prop := Reach Try.prog fn I [.code I.body] (zA8 0 ag) r
def RS (fn : Func) (I : Info) (k : Nat) (σ : St) (r : CallO) : Prop := Reach Try.prog fn I (stkAt k I.body) σ r
section
variable {ρ : Type} {f : FuncId} {fn : Func} {I : Info} {ag : List Arg} {bs : List Bool} {cs : List CallO} {k j : Nat} {σ σ' : St} {ob : List Prop} {ro : ρ → CallO} {x r : ρ} {q : CallO}
theorem dE (e : some x = some r) (hf : FnOk Try.prog f fn I) (h : rE I ag bs cs = dn (ro x) ob) (o : ∀ p ∈ ob, p) : RE fn I ag (ro r) := by
 cases e; exact Reach.done ttok mix hf h o
theorem dS (e : some x = some r) (hf : FnOk Try.prog f fn I) (h : rS k I σ bs cs = dn (ro x) ob) (o : ∀ p ∈ ob, p) : RS fn I k σ (ro r) := by
 cases e; exact Reach.done ttok mix hf h o
theorem tE (hf : FnOk Try.prog f fn I) (h : rE I ag bs cs = st k I σ ob) (o : ∀ p ∈ ob, p) (t : RS fn I k σ q) : RE fn I ag q := Reach.stop ttok mix hf h o t
theorem tS (hf : FnOk Try.prog f fn I) (h : rS j I σ' bs cs = st k I σ ob) (o : ∀ p ∈ ob, p) (t : RS fn I k σ q) : RS fn I j σ' q := Reach.stop ttok mix hf h o t
end
theorem oc {p : Prop} {l : List Prop} (h : p) (t : ∀ q ∈ l, q) : ∀ q ∈ p :: l, q := zJa h t
theorem on : ∀ q ∈ ([] : List Prop), q := zJd
theorem oc2 {p0 p1 : Prop} {l : List Prop} (h0 : p0) (h1 : p1) (t : ∀ q ∈ l, q) : ∀ q ∈ p0 :: p1 :: l, q := oc h0 (oc h1 t)
theorem oc3 {p0 p1 p2 : Prop} {l : List Prop} (h0 : p0) (h1 : p1) (h2 : p2) (t : ∀ q ∈ l, q) : ∀ q ∈ p0 :: p1 :: p2 :: l, q := oc h0 (oc2 h1 h2 t)
theorem oc4 {p0 p1 p2 p3 : Prop} {l : List Prop} (h0 : p0) (h1 : p1) (h2 : p2) (h3 : p3) (t : ∀ q ∈ l, q) : ∀ q ∈ p0 :: p1 :: p2 :: p3 :: l, q := oc h0 (oc3 h1 h2 h3 t)
theorem oc5 {p0 p1 p2 p3 p4 : Prop} {l : List Prop} (h0 : p0) (h1 : p1) (h2 : p2) (h3 : p3) (h4 : p4) (t : ∀ q ∈ l, q) : ∀ q ∈ p0 :: p1 :: p2 :: p3 :: p4 :: l, q := oc h0 (oc4 h1 h2 h3 h4 t)
theorem oc6 {p0 p1 p2 p3 p4 p5 : Prop} {l : List Prop} (h0 : p0) (h1 : p1) (h2 : p2) (h3 : p3) (h4 : p4) (h5 : p5) (t : ∀ q ∈ l, q) : ∀ q ∈ p0 :: p1 :: p2 :: p3 :: p4 :: p5 :: l, q := oc h0 (oc5 h1 h2 h3 h4 h5 t)
theorem oc7 {p0 p1 p2 p3 p4 p5 p6 : Prop} {l : List Prop} (h0 : p0) (h1 : p1) (h2 : p2) (h3 : p3) (h4 : p4) (h5 : p5) (h6 : p6) (t : ∀ q ∈ l, q) : ∀ q ∈ p0 :: p1 :: p2 :: p3 :: p4 :: p5 :: p6 :: l, q := oc h0 (oc6 h1 h2 h3 h4 h5 h6 t)
theorem oc8 {p0 p1 p2 p3 p4 p5 p6 p7 : Prop} {l : List Prop} (h0 : p0) (h1 : p1) (h2 : p2) (h3 : p3) (h4 : p4) (h5 : p5) (h6 : p6) (h7 : p7) (t : ∀ q ∈ l, q) : ∀ q ∈ p0 :: p1 :: p2 :: p3 :: p4 :: p5 :: p6 :: p7 :: l, q := oc h0 (oc7 h1 h2 h3 h4 h5 h6 h7 t)
theorem oc9 {p0 p1 p2 p3 p4 p5 p6 p7 p8 : Prop} {l : List Prop} (h0 : p0) (h1 : p1) (h2 : p2) (h3 : p3) (h4 : p4) (h5 : p5) (h6 : p6) (h7 : p7) (h8 : p8) (t : ∀ q ∈ l, q) : ∀ q ∈ p0 :: p1 :: p2 :: p3 :: p4 :: p5 :: p6 :: p7 :: p8 :: l, q := oc h0 (oc8 h1 h2 h3 h4 h5 h6 h7 h8 t)
theorem oc10 {p0 p1 p2 p3 p4 p5 p6 p7 p8 p9 : Prop} {l : List Prop} (h0 : p0) (h1 : p1) (h2 : p2) (h3 : p3) (h4 : p4) (h5 : p5) (h6 : p6) (h7 : p7) (h8 : p8) (h9 : p9) (t : ∀ q ∈ l, q) : ∀ q ∈ p0 :: p1 :: p2 :: p3 :: p4 :: p5 :: p6 :: p7 :: p8 :: p9 :: l, q := oc h0 (oc9 h1 h2 h3 h4 h5 h6 h7 h8 h9 t)
theorem oc11 {p0 p1 p2 p3 p4 p5 p6 p7 p8 p9 p10 : Prop} {l : List Prop} (h0 : p0) (h1 : p1) (h2 : p2) (h3 : p3) (h4 : p4) (h5 : p5) (h6 : p6) (h7 : p7) (h8 : p8) (h9 : p9) (h10 : p10) (t : ∀ q ∈ l, q) : ∀ q ∈ p0 :: p1 :: p2 :: p3 :: p4 :: p5 :: p6 :: p7 :: p8 :: p9 :: p10 :: l, q := oc h0 (oc10 h1 h2 h3 h4 h5 h6 h7 h8 h9 h10 t)
theorem oc12 {p0 p1 p2 p3 p4 p5 p6 p7 p8 p9 p10 p11 : Prop} {l : List Prop} (h0 : p0) (h1 : p1) (h2 : p2) (h3 : p3) (h4 : p4) (h5 : p5) (h6 : p6) (h7 : p7) (h8 : p8) (h9 : p9) (h10 : p10) (h11 : p11) (t : ∀ q ∈ l, q) : ∀ q ∈ p0 :: p1 :: p2 :: p3 :: p4 :: p5 :: p6 :: p7 :: p8 :: p9 :: p10 :: p11 :: l, q := oc h0 (oc11 h1 h2 h3 h4 h5 h6 h7 h8 h9 h10 h11 t)
theorem cE {α : Type} {C : Prop} {b : Bool} {x y : Option α} {r : α} (h : cond b x y = some r) (f : b = true → x = some r → C) (g : b = false → y = some r → C) : C := (zI9 h).elim (fun h => f h.1 h.2) fun h => g h.1 h.2
theorem bE {α β : Type} {C : Prop} {o : Option α} {f : α → Option β} {r : β} (h : Option.bind o f = some r) (g : ∀ a, o = some a → f a = some r → C) : C := (zI7 h).elim fun a h => g a h.1 h.2
theorem iE {α : Type} {C p : Prop} [Decidable p] {x : Option α} {r : α} (h : (if p then x else none) = some r) (g : p → x = some r → C) : C := (zJc h).elim g
theorem nE {α : Type} {C : Prop} {r : α} (h : none = some r) : C := nomatch h
def G8 (q : Exp → Int → Option (Int)) : Prop := ∀ a0 a1 r, q a0 a1 = some r → AbC 8 (xBF a0 a1) (xAx r)
def G30 (q : (List Exp) → Int → Option (Int)) : Prop := ∀ a0 a1 r, q a0 a1 = some r → AbC 30 (xCh a0 a1) (xBl r)
noncomputable def I8 : Info := { body := (Try.f8.body).getD .skip, nt := 19, results := [.tmp 4], keep := [0, 2, 4, 8, 22, 34, 5], live := [], modes := [] }
theorem fk8 : FnOk Try.prog 8 Try.f8 I8 := ⟨Try.func8, by kernel_rfl, by kernel_rfl, by kernel_rfl, by kernel_rfl⟩
abbrev xHE (v0 : Int) (v1 : Exp) := dc (((W (v0 - (Ln (Exp.text v1) : Int))) : Int) < 0)
def xOq (a0 : Exp) (a1 : Int) : rE I8 (xBF a0 a1) [Y] [] = dn (xAx (-1)) [iY (xHE a1 a0)] := by kernel_rfl
abbrev xHg (v0 : Int) : Prop := iY (dc (v0 < 0))
abbrev xIO (v0 : Int) (v1 : Exp) := W (v0 - (Ln (Exp.text v1) : Int))
def xOr (a0 : Exp) (a1 r1 : Int) : rE I8 (xBF a0 a1) [F, Y] [xBl r1] = dn (xAx (-1)) [iN (xHE a1 a0), AbC 30 (xCh (Exp.args a0) (xIO a1 a0)) (xBl r1), xHg r1] := by kernel_rfl
abbrev xEl (v0 : Int) : Prop := iN (dc (v0 < 0))
def xOs (a0 : Exp) (a1 r1 : Int) : rE I8 (xBF a0 a1) [F, F] [xBl r1] = dn (xAx r1) [iN (xHE a1 a0), AbC 30 (xCh (Exp.args a0) (xIO a1 a0)) (xBl r1), xEl r1] := by kernel_rfl
theorem c8_e {N q0 q1} (g0 : G8 q0) (g1 : G30 q1) : ∀ a0 a1 r, xEj N q0 q1 a0 a1 = some r → RE Try.f8 I8 (xBF a0 a1) (xAx r) := fun a0 a1 r h =>
 cE h (fun h0 h => dE h fk8 (xOq a0 a1) (oc h0 on)) fun h0 h =>
 bE h fun r1 h1 h => cE h (fun h2 h => dE h fk8 (xOr a0 a1 r1) (oc3 h0 (g1 _ _ _ h1) h2 on)) fun h2 h =>
 dE h fk8 (xOs a0 a1 r1) (oc3 h0 (g1 _ _ _ h1) h2 on)
theorem xFO {N q0 q1} (g0 : G8 q0) (g1 : G30 q1) {a0} {a1} {r} (h : xEj N q0 q1 a0 a1 = some r) : AbC 8 (xBF a0 a1) (xAx r) :=
 AbsCalls.of_reach fk8 rfl rfl rfl (Nat.le_of_ble_eq_true rfl) (c8_e g0 g1 a0 a1 r h)
noncomputable def I30 : Info := { body := (Try.f30.body).getD .skip, nt := 27, results := [.tmp 4], keep := [0, 2, 8, 10, 22, 30, 50], live := [(5, [0, 2, 10])], modes := [] }
theorem fk30 : FnOk Try.prog 30 Try.f30 I30 := ⟨Try.func30, by kernel_rfl, by kernel_rfl, by kernel_rfl, by kernel_rfl⟩
def xIm (x0 : List Exp) (x1 x5 : Int) : St := [(0, .v false [.sl .ro .exp x0]), (2, .v false [.int .i64 x1]), (10, .v false [.int .i64 x5])]
abbrev xGz (v0 : Int) (v1 : List Exp) : Prop := iY (dc (v0 < (Ln v1 : Int)))
abbrev xDt (v0 : Int) (v1 : List Exp) : Prop := (0 : Int) ≤ v0 ∧ v0 < (Ln v1)
abbrev xCQ (v0 : List Exp) (v1 : Int) := gD v0 (tN v1) Ty.exp.dflt
def xKT (x0 : List Exp) (x1 x5 r1 : Int) : rS 5 I30 (xIm x0 x1 x5) [Y, Y] [xAx r1] = dn (xBl (-1)) [xGz x5 x0, xDt x5 x0, AbC 8 (xBF (xCQ x0 x5) x1) (xAx r1), xHg r1] := by kernel_rfl
def xKU (x0 : List Exp) (x1 x5 r1 : Int) : rS 5 I30 (xIm x0 x1 x5) [Y, F] [xAx r1] = st 5 I30 (xIm x0 r1 (W (x5 + 1))) [xGz x5 x0, xDt x5 x0, AbC 8 (xBF (xCQ x0 x5) x1) (xAx r1), xEl r1] := by kernel_rfl
abbrev xIZ (v0 : Int) (v1 : List Exp) : Prop := iN (dc (v0 < (Ln v1 : Int)))
def xKV (x0 : List Exp) (x1 x5 : Int) : rS 5 I30 (xIm x0 x1 x5) [F] [] = dn (xBl x1) [xIZ x5 x0] := by kernel_rfl
def xKW (a0 : List Exp) (a1 : Int) : rE I30 (xCh a0 a1) [Y] [] = dn (xBl (-1)) [iY (dc (((W (a1 - (Ln a0 : Int))) : Int) < 0))] := by kernel_rfl
def xKX (a0 : List Exp) (a1 : Int) : rE I30 (xCh a0 a1) [F] [] = st 5 I30 (xIm a0 (W (a1 - (Ln a0 : Int))) 0) [iN (dc (((W (a1 - (Ln a0 : Int))) : Int) < 0))] := by kernel_rfl
theorem xOG {N q0 q1} (g0 : G8 q0) (g1 : G30 q1) : ∀ n x0 x1 x5 r, xDR N q0 q1 n x0 x1 x5 = some r → RS Try.f30 I30 5 (xIm x0 x1 x5) (xBl r) := by
 intro n
 induction n with
 | zero => exact fun _ _ _ _ h => nE h
 | succ n ih =>
  exact fun x0 x1 x5 r h =>
   cE h (fun h0 h => iE h fun h1 h => bE h fun r1 h2 h => cE h (fun h3 h => dS h fk30 (xKT x0 x1 x5 r1) (oc4 h0 h1 (g0 _ _ _ h2) h3 on)) fun h3 h =>
   tS fk30 (xKU x0 x1 x5 r1) (oc4 h0 h1 (g0 _ _ _ h2) h3 on) (ih _ _ _ _ h)) fun h0 h =>
   dS h fk30 (xKV x0 x1 x5) (oc h0 on)
theorem xOH {N q0 q1} (g0 : G8 q0) (g1 : G30 q1) : ∀ a0 a1 r, xD1 N q0 q1 a0 a1 = some r → RE Try.f30 I30 (xCh a0 a1) (xBl r) := fun a0 a1 r h =>
 cE h (fun h0 h => dE h fk30 (xKW a0 a1) (oc h0 on)) fun h0 h =>
 tE fk30 (xKX a0 a1) (oc h0 on) (xOG g0 g1 _ _ _ _ _ h)
theorem xFC {N q0 q1} (g0 : G8 q0) (g1 : G30 q1) {a0} {a1} {r} (h : xD1 N q0 q1 a0 a1 = some r) : AbC 30 (xCh a0 a1) (xBl r) :=
 AbsCalls.of_reach fk30 rfl rfl rfl (Nat.le_of_ble_eq_true rfl) (xOH g0 g1 a0 a1 r h)
theorem xF2 {N : Nat} : ∀ d, G8 (xBm N d).c_laws_szExpr ∧ G30 (xBm N d).c_laws_szExprS := by
 intro d
 induction d with
 | zero => exact ⟨fun _ _ _ h => nE h, fun _ _ _ h => nE h⟩
 | succ d ih =>
  obtain ⟨ih0, ih1⟩ := ih
  exact ⟨fun _ _ _ h => xFO (N := N) ih0 ih1 h, fun _ _ _ h => xFC (N := N) ih0 ih1 h⟩
theorem xBd {N : Nat} {a0 : Exp} {a1 : Int} {r : Int} (h : xFN N a0 a1 = some r) : AbC 8 (xBF a0 a1) (xAx r) := (xF2 N).1 _ _ r h
def G10 (q : Exp → Option (Exp)) : Prop := ∀ a0 r, q a0 = some r → AbC 10 (xCF a0) (xAb r)
def G32 (q : (List Exp) → Option ((List Exp))) : Prop := ∀ a0 r, q a0 = some r → AbC 32 (xDk a0) (xCi r)
noncomputable def I10 : Info := { body := (Try.f10.body).getD .skip, nt := 18, results := [.cell 2 29], keep := [0, 2, 4, 6, 3, 5, 7], live := [], modes := [(6, [(0, .take, false)])] }
theorem fk10 : FnOk Try.prog 10 Try.f10 I10 := ⟨Try.func10, by kernel_rfl, by kernel_rfl, by kernel_rfl, by kernel_rfl⟩
def xKz (a0 : Exp) (r1 : (List Exp)) : rE I10 (xCF a0) [] [xCi r1] = dn (xAb (Exp.mk (Exp.kind a0) (Exp.n a0) (Exp.text a0) r1)) [AbC 32 (xDk (Exp.args a0)) (xCi r1)] := by kernel_rfl
theorem xOz {N q0 q1} (g0 : G10 q0) (g1 : G32 q1) : ∀ a0 r, xC7 N q0 q1 a0 = some r → RE Try.f10 I10 (xCF a0) (xAb r) := fun a0 r h =>
 bE h fun r1 h0 h => dE h fk10 (xKz a0 r1) (oc (g1 _ _ h0) on)
theorem xFP {N q0 q1} (g0 : G10 q0) (g1 : G32 q1) {a0} {r} (h : xC7 N q0 q1 a0 = some r) : AbC 10 (xCF a0) (xAb r) :=
 AbsCalls.of_reach fk10 rfl rfl rfl (Nat.le_of_ble_eq_true rfl) (xOz g0 g1 a0 r h)
noncomputable def I32 : Info := { body := (Try.f32.body).getD .skip, nt := 23, results := [.tmp 2], keep := [0, 4, 6, 8, 22], live := [(3, [0, 6, 8])], modes := [(5, [(0, .ref, false)]), (6, [(0, .take, false)])] }
theorem fk32 : FnOk Try.prog 32 Try.f32 I32 := ⟨Try.func32, by kernel_rfl, by kernel_rfl, by kernel_rfl, by kernel_rfl⟩
def xIA (x0 x3 : List Exp) (x4 : Int) : St := [(0, .v false [.sl .ro .exp x0]), (6, .v false [.sl .own .exp x3]), (8, .v false [.int .i64 x4])]
def xK8 (x0 x3 : List Exp) (x4 : Int) (r1 : Exp) : rS 3 I32 (xIA x0 x3 x4) [Y] [xAb r1] = st 3 I32 (xIA x0 (List.set x3 (tN x4) (Exp.re r1)) (W (x4 + 1))) [xGz x4 x0, xDt x4 x0, AbC 10 (xCF (xCQ x0 x4)) (xAb r1), xDt x4 x3] := by kernel_rfl
def xK9 (x0 x3 : List Exp) (x4 : Int) : rS 3 I32 (xIA x0 x3 x4) [F] [] = dn (xCi x3) [xIZ x4 x0] := by kernel_rfl
def xLa (a0 : List Exp) : rE I32 (xDk a0) [] [] = st 3 I32 (xIA a0 (List.replicate (tN (Ln a0 : Int)) Ty.exp.dflt) 0) [(0 : Int) ≤ (Ln a0 : Int) ∧ (Ln a0 : Int) = (Ln a0 : Int) ∧ (Ln a0 : Int) ≤ Lim] := by kernel_rfl
theorem xOJ {N q0 q1} (g0 : G10 q0) (g1 : G32 q1) : ∀ n x0 x3 x4 r, xDS N q0 q1 n x0 x3 x4 = some r → RS Try.f32 I32 3 (xIA x0 x3 x4) (xCi r) := by
 intro n
 induction n with
 | zero => exact fun _ _ _ _ h => nE h
 | succ n ih =>
  exact fun x0 x3 x4 r h =>
   cE h (fun h0 h => iE h fun h1 h => bE h fun r1 h2 h => iE h fun h3 h => tS fk32 (xK8 x0 x3 x4 r1) (oc4 h0 h1 (g0 _ _ h2) h3 on) (ih _ _ _ _ h)) fun h0 h =>
   dS h fk32 (xK9 x0 x3 x4) (oc h0 on)
theorem xOK {N q0 q1} (g0 : G10 q0) (g1 : G32 q1) : ∀ a0 r, xCO N q0 q1 a0 = some r → RE Try.f32 I32 (xDk a0) (xCi r) := fun a0 r h =>
 iE h fun h0 h => tE fk32 (xLa a0) (oc h0 on) (xOJ g0 g1 _ _ _ _ _ h)
theorem xFD {N q0 q1} (g0 : G10 q0) (g1 : G32 q1) {a0} {r} (h : xCO N q0 q1 a0 = some r) : AbC 32 (xDk a0) (xCi r) :=
 AbsCalls.of_reach fk32 rfl rfl rfl (Nat.le_of_ble_eq_true rfl) (xOK g0 g1 a0 r h)
theorem xF3 {N : Nat} : ∀ d, G10 (xAQ N d).c_laws_toExpr ∧ G32 (xAQ N d).c_laws_toExprS := by
 intro d
 induction d with
 | zero => exact ⟨fun _ _ h => nE h, fun _ _ h => nE h⟩
 | succ d ih =>
  obtain ⟨ih0, ih1⟩ := ih
  exact ⟨fun _ _ h => xFP (N := N) ih0 ih1 h, fun _ _ h => xFD (N := N) ih0 ih1 h⟩
theorem xAe {N : Nat} {a0 : Exp} {r : Exp} (h : xD2 N a0 = some r) : AbC 10 (xCF a0) (xAb r) := (xF3 N).1 _ r h
noncomputable def I54 : Info := { body := (Try.f54.body).getD .skip, nt := 18, results := [.tmp 4], keep := [0, 2, 8, 10, 18, 34], live := [(2, [0, 2, 10])], modes := [] }
theorem fk54 : FnOk Try.prog 54 Try.f54 I54 := ⟨Try.func54, by kernel_rfl, by kernel_rfl, by kernel_rfl, by kernel_rfl⟩
def xIp (x0 : List Str) (x1 : Str) (x5 : Int) : St := [(0, .v false [.sl .ro .str x0]), (2, .v false [.str x1]), (10, .v false [.int .i64 x5])]
abbrev xG3 (v0 : List Str) (v1 : Int) (v2 : Str) := ((gD v0 (tN v1) Ty.str.dflt) : Str) == v2
def xL7 (x0 : List Str) (x1 : Str) (x5 : Int) : rS 2 I54 (xIp x0 x1 x5) [Y, Y] [] = dn (xA8 true) [iY (dc (x5 < (Ln x0 : Int))), (0 : Int) ≤ x5 ∧ x5 < (Ln x0), iY (xG3 x0 x5 x1)] := by kernel_rfl
def xL8 (x0 : List Str) (x1 : Str) (x5 : Int) : rS 2 I54 (xIp x0 x1 x5) [Y, F] [] = st 2 I54 (xIp x0 x1 (W (x5 + 1))) [iY (dc (x5 < (Ln x0 : Int))), (0 : Int) ≤ x5 ∧ x5 < (Ln x0), iN (xG3 x0 x5 x1)] := by kernel_rfl
def xL9 (x0 : List Str) (x1 : Str) (x5 : Int) : rS 2 I54 (xIp x0 x1 x5) [F] [] = dn (xA8 false) [iN (dc (x5 < (Ln x0 : Int)))] := by kernel_rfl
def xMa (a0 : List Str) (a1 : Str) : rE I54 (xCC a0 a1) [] [] = st 2 I54 (xIp a0 a1 0) [] := by kernel_rfl
theorem xO1 {N : Nat} : ∀ n x0 x1 x5 r, xC1 N n x0 x1 x5 = some r → RS Try.f54 I54 2 (xIp x0 x1 x5) (xA8 r) := by
 intro n
 induction n with
 | zero => exact fun _ _ _ _ h => nE h
 | succ n ih =>
  exact fun x0 x1 x5 r h =>
   cE h (fun h0 h => iE h fun h1 h => cE h (fun h2 h => dS h fk54 (xL7 x0 x1 x5) (oc3 h0 h1 h2 on)) fun h2 h =>
   tS fk54 (xL8 x0 x1 x5) (oc3 h0 h1 h2 on) (ih _ _ _ _ h)) fun h0 h =>
   dS h fk54 (xL9 x0 x1 x5) (oc h0 on)
theorem xO2 {N : Nat} : ∀ a0 a1 r, xD6 N a0 a1 = some r → RE Try.f54 I54 (xCC a0 a1) (xA8 r) := fun a0 a1 r h =>
 tE fk54 (xMa a0 a1) on (xO1 _ _ _ _ _ h)
theorem xDU {N : Nat} {a0 : List Str} {a1 : Str} {r : Bool} (h : xD6 N  a0 a1 = some r) : AbC 54 (xCC a0 a1) (xA8 r) :=
 AbsCalls.of_reach fk54 rfl rfl rfl (Nat.le_of_ble_eq_true rfl) (xO2 a0 a1 r h)
def G31 (q : Exp → Str → Str → (List Str) → Option (Bool)) : Prop := ∀ a0 a1 a2 a3 r, q a0 a1 a2 a3 = some r → AbC 31 (xA2 a0 a1 a2 a3) (xAn r)
noncomputable def I31 : Info := { body := (Try.f31.body).getD .skip, nt := 66, results := [.tmp 8], keep := [0, 2, 4, 6, 8, 16, 18, 20, 40, 68, 98, 130, 9], live := [(4, [2, 4, 6, 8, 18, 9])], modes := [(1, [(3, .take, false)]), (2, [(4, .take, false)]), (7, [(3, .take, false), (8, .take, false)]), (9, [(7, .take, false)])] }
theorem fk31 : FnOk Try.prog 31 Try.f31 I31 := ⟨Try.func31, by kernel_rfl, by kernel_rfl, by kernel_rfl, by kernel_rfl⟩
def xE4 (x1 x2 : Str) (x3 : List Str) (x9 : Int) (b4 : Exp) : St := [(2, .v false [.str x1]), (4, .v false [.str x2]), (6, .v false [.sl .ro .str x3]), (8, .v false [.ptr 4 0]), (18, .v false [.int .i64 x9]), (9, .v true [.int .i64 (Exp.kind b4), .int .i64 (Exp.n b4), .str (Exp.text b4), .sl .ro .exp (Exp.args b4)])]
abbrev xDT (v0 : Exp) := (Ln (Exp.args v0) : Int)
abbrev xEz (v0 : Int) (v1 : Exp) : Prop := iY (dc (v0 < (xDT v1)))
abbrev xET (v0 : Exp) : Prop := iY ((Exp.kind v0) == 7)
abbrev xHS (v0 : Int) : Prop := iY (dc (v0 > 0))
abbrev xI4 (v0 : List Str) (v1 : Exp) : Prop := Ln ([] ++ v0) + Ln [(Exp.text v1)] ≤ Lim
abbrev xEF (v0 : Int) (v1 : Exp) : Prop := (0 : Int) ≤ v0 ∧ v0 < (Ln (Exp.args v1))
abbrev xFs (v0 : Exp) (v1 : Int) := gD (Exp.args v0) (tN v1) Ty.exp.dflt
abbrev xHY (v0 : Exp) (v1 : Int) (v2 v3 : Str) (v4 : List Str) (v5 : Bool) : Prop := AbC 31 (xA2 (xFs v0 v1) v2 v3 (([] ++ v4) ++ [(Exp.text v0)])) (xAn v5)
def xKY (x1 x2 : Str) (x3 : List Str) (x9 : Int) (b4 : Exp) (r1 : Bool) : rS 4 I31 (xE4 x1 x2 x3 x9 b4) [Y, Y, Y, Y, Y] [xAn r1] = dn (xAn true) [xEz x9 b4, xET b4, iY true, xHS x9, 0 + Ln x3 ≤ Lim, xI4 x3 b4, xEF x9 b4, xHY b4 x9 x1 x2 x3 r1, iY r1] := by kernel_rfl
def xKZ (x1 x2 : Str) (x3 : List Str) (x9 : Int) (b4 : Exp) (r1 : Bool) : rS 4 I31 (xE4 x1 x2 x3 x9 b4) [Y, Y, Y, Y, F] [xAn r1] = st 4 I31 (xE4 x1 x2 x3 (W (x9 + 1)) b4) [xEz x9 b4, xET b4, iY true, xHS x9, 0 + Ln x3 ≤ Lim, xI4 x3 b4, xEF x9 b4, xHY b4 x9 x1 x2 x3 r1, iN r1] := by kernel_rfl
abbrev xGy (v0 : Int) : Prop := iN (dc (v0 > 0))
abbrev xGN (v0 : Exp) (v1 : Int) (v2 v3 : Str) (v4 : List Str) (v5 : Bool) : Prop := AbC 31 (xA2 (xFs v0 v1) v2 v3 v4) (xAn v5)
def xK0 (x1 x2 : Str) (x3 : List Str) (x9 : Int) (b4 : Exp) (r1 : Bool) : rS 4 I31 (xE4 x1 x2 x3 x9 b4) [Y, Y, Y, F, Y] [xAn r1] = dn (xAn true) [xEz x9 b4, xET b4, iY true, xGy x9, xEF x9 b4, xGN b4 x9 x1 x2 x3 r1, iY r1] := by kernel_rfl
def xK1 (x1 x2 : Str) (x3 : List Str) (x9 : Int) (b4 : Exp) (r1 : Bool) : rS 4 I31 (xE4 x1 x2 x3 x9 b4) [Y, Y, Y, F, F] [xAn r1] = st 4 I31 (xE4 x1 x2 x3 (W (x9 + 1)) b4) [xEz x9 b4, xET b4, iY true, xGy x9, xEF x9 b4, xGN b4 x9 x1 x2 x3 r1, iN r1] := by kernel_rfl
abbrev xCj (v0 : Exp) : Prop := iN ((Exp.kind v0) == 7)
abbrev xEx (v0 : Exp) : Prop := iY ((Exp.kind v0) == 9)
def xK2 (x1 x2 : Str) (x3 : List Str) (x9 : Int) (b4 : Exp) (r1 : Bool) : rS 4 I31 (xE4 x1 x2 x3 x9 b4) [Y, F, Y, Y, Y] [xAn r1] = dn (xAn true) [xEz x9 b4, xCj b4, xEx b4, xHS x9, 0 + Ln x3 ≤ Lim, xI4 x3 b4, xEF x9 b4, xHY b4 x9 x1 x2 x3 r1, iY r1] := by kernel_rfl
def xK3 (x1 x2 : Str) (x3 : List Str) (x9 : Int) (b4 : Exp) (r1 : Bool) : rS 4 I31 (xE4 x1 x2 x3 x9 b4) [Y, F, Y, Y, F] [xAn r1] = st 4 I31 (xE4 x1 x2 x3 (W (x9 + 1)) b4) [xEz x9 b4, xCj b4, xEx b4, xHS x9, 0 + Ln x3 ≤ Lim, xI4 x3 b4, xEF x9 b4, xHY b4 x9 x1 x2 x3 r1, iN r1] := by kernel_rfl
def xK4 (x1 x2 : Str) (x3 : List Str) (x9 : Int) (b4 : Exp) (r1 : Bool) : rS 4 I31 (xE4 x1 x2 x3 x9 b4) [Y, F, Y, F, Y] [xAn r1] = dn (xAn true) [xEz x9 b4, xCj b4, xEx b4, xGy x9, xEF x9 b4, xGN b4 x9 x1 x2 x3 r1, iY r1] := by kernel_rfl
def xK5 (x1 x2 : Str) (x3 : List Str) (x9 : Int) (b4 : Exp) (r1 : Bool) : rS 4 I31 (xE4 x1 x2 x3 x9 b4) [Y, F, Y, F, F] [xAn r1] = st 4 I31 (xE4 x1 x2 x3 (W (x9 + 1)) b4) [xEz x9 b4, xCj b4, xEx b4, xGy x9, xEF x9 b4, xGN b4 x9 x1 x2 x3 r1, iN r1] := by kernel_rfl
abbrev xEp (v0 : Exp) : Prop := iN ((Exp.kind v0) == 9)
def xK6 (x1 x2 : Str) (x3 : List Str) (x9 : Int) (b4 : Exp) (r1 : Bool) : rS 4 I31 (xE4 x1 x2 x3 x9 b4) [Y, F, F, F, Y] [xAn r1] = dn (xAn true) [xEz x9 b4, xCj b4, xEp b4, iN false, xEF x9 b4, xGN b4 x9 x1 x2 x3 r1, iY r1] := by kernel_rfl
def xK7 (x1 x2 : Str) (x3 : List Str) (x9 : Int) (b4 : Exp) (r1 : Bool) : rS 4 I31 (xE4 x1 x2 x3 x9 b4) [Y, F, F, F, F] [xAn r1] = st 4 I31 (xE4 x1 x2 x3 (W (x9 + 1)) b4) [xEz x9 b4, xCj b4, xEp b4, iN false, xEF x9 b4, xGN b4 x9 x1 x2 x3 r1, iN r1] := by kernel_rfl
abbrev xGO (v0 : Int) (v1 : Exp) : Prop := iN (dc (v0 < (xDT v1)))
def xJj (x1 x2 : Str) (x3 : List Str) (x9 : Int) (b4 : Exp) : rS 4 I31 (xE4 x1 x2 x3 x9 b4) [F] [] = dn (xAn false) [xGO x9 b4] := by kernel_rfl
abbrev xEy (v0 : Exp) : Prop := iY ((Exp.kind v0) == 3)
abbrev xFT (v0 : Exp) := ((Exp.text v0) : Str)
abbrev xHh (v0 : Exp) (v1 : Str) : Prop := iY ((xFT v0) == v1)
def xJk (a0 : Exp) (a1 a2 : Str) (a3 : List Str) (r1 r2 : Bool) : rE I31 (xA2 a0 a1 a2 a3) [Y, Y, Y] [xA8 r1, xA8 r2] = dn (xAn r2) [xEy a0, AbC 54 (xCC a3 (Exp.text a0)) (xA8 r1), iY (!r1), xHh a0 a1, AbC 54 (xCC a3 a2) (xA8 r2)] := by kernel_rfl
abbrev xHi (v0 : Exp) (v1 : Str) : Prop := iN ((xFT v0) == v1)
def xJl (a0 : Exp) (a1 a2 : Str) (a3 : List Str) (r1 : Bool) : rE I31 (xA2 a0 a1 a2 a3) [Y, Y, F] [xA8 r1] = dn (xAn false) [xEy a0, AbC 54 (xCC a3 (Exp.text a0)) (xA8 r1), iY (!r1), xHi a0 a1] := by kernel_rfl
abbrev xA4 (v0 : Bool) : Prop := iN (!v0)
def xJm (a0 : Exp) (a1 a2 : Str) (a3 : List Str) (r1 : Bool) : rE I31 (xA2 a0 a1 a2 a3) [Y, F] [xA8 r1] = st 4 I31 (xE4 a1 a2 a3 0 a0) [xEy a0, AbC 54 (xCC a3 (Exp.text a0)) (xA8 r1), xA4 r1] := by kernel_rfl
abbrev xBw (v0 : Exp) : Prop := iN ((Exp.kind v0) == 3)
def xJn (a0 : Exp) (a1 a2 : Str) (a3 : List Str) : rE I31 (xA2 a0 a1 a2 a3) [F, F] [] = st 4 I31 (xE4 a1 a2 a3 0 a0) [xBw a0, iN false] := by kernel_rfl
theorem xN9 {N q0} (g0 : G31 q0) : ∀ n x1 x2 x3 x9 b4 r, xAJ N q0 n x1 x2 x3 x9 b4 = some r → RS Try.f31 I31 4 (xE4 x1 x2 x3 x9 b4) (xAn r) := by
 intro n
 induction n with
 | zero => exact fun _ _ _ _ _ _ h => nE h
 | succ n ih =>
  exact fun x1 x2 x3 x9 b4 r h =>
   cE h (fun h0 h => cE h (fun h1 h => cE h (fun h3 h => iE h fun h4 h => iE h fun h5 h => iE h fun h6 h => bE h fun r1 h7 h => cE h (fun h8 h => dS h fk31 (xKY x1 x2 x3 x9 b4 r1) (oc9 h0 h1 rfl h3 h4 h5 h6 (g0 _ _ _ _ _ h7) h8 on)) fun h8 h =>
   tS fk31 (xKZ x1 x2 x3 x9 b4 r1) (oc9 h0 h1 rfl h3 h4 h5 h6 (g0 _ _ _ _ _ h7) h8 on) (ih _ _ _ _ _ _ h)) fun h3 h =>
   iE h fun h4 h => bE h fun r1 h5 h => cE h (fun h6 h => dS h fk31 (xK0 x1 x2 x3 x9 b4 r1) (oc7 h0 h1 rfl h3 h4 (g0 _ _ _ _ _ h5) h6 on)) fun h6 h =>
   tS fk31 (xK1 x1 x2 x3 x9 b4 r1) (oc7 h0 h1 rfl h3 h4 (g0 _ _ _ _ _ h5) h6 on) (ih _ _ _ _ _ _ h)) fun h1 h =>
   cE h (fun h2 h => cE h (fun h3 h => iE h fun h4 h => iE h fun h5 h => iE h fun h6 h => bE h fun r1 h7 h => cE h (fun h8 h => dS h fk31 (xK2 x1 x2 x3 x9 b4 r1) (oc9 h0 h1 h2 h3 h4 h5 h6 (g0 _ _ _ _ _ h7) h8 on)) fun h8 h =>
   tS fk31 (xK3 x1 x2 x3 x9 b4 r1) (oc9 h0 h1 h2 h3 h4 h5 h6 (g0 _ _ _ _ _ h7) h8 on) (ih _ _ _ _ _ _ h)) fun h3 h =>
   iE h fun h4 h => bE h fun r1 h5 h => cE h (fun h6 h => dS h fk31 (xK4 x1 x2 x3 x9 b4 r1) (oc7 h0 h1 h2 h3 h4 (g0 _ _ _ _ _ h5) h6 on)) fun h6 h =>
   tS fk31 (xK5 x1 x2 x3 x9 b4 r1) (oc7 h0 h1 h2 h3 h4 (g0 _ _ _ _ _ h5) h6 on) (ih _ _ _ _ _ _ h)) fun h2 h =>
   iE h fun h4 h => bE h fun r1 h5 h => cE h (fun h6 h => dS h fk31 (xK6 x1 x2 x3 x9 b4 r1) (oc7 h0 h1 h2 rfl h4 (g0 _ _ _ _ _ h5) h6 on)) fun h6 h =>
   tS fk31 (xK7 x1 x2 x3 x9 b4 r1) (oc7 h0 h1 h2 rfl h4 (g0 _ _ _ _ _ h5) h6 on) (ih _ _ _ _ _ _ h)) fun h0 h =>
   dS h fk31 (xJj x1 x2 x3 x9 b4) (oc h0 on)
theorem xOI {N q0} (g0 : G31 q0) : ∀ a0 a1 a2 a3 r, xCl N q0 a0 a1 a2 a3 = some r → RE Try.f31 I31 (xA2 a0 a1 a2 a3) (xAn r) := fun a0 a1 a2 a3 r h =>
 cE h (fun h0 h => bE h fun r1 h1 h => cE h (fun h2 h => cE h (fun h3 h => bE h fun r2 h4 h => dE h fk31 (xJk a0 a1 a2 a3 r1 r2) (oc5 h0 (xDU h1) h2 h3 (xDU h4) on)) fun h3 h =>
 dE h fk31 (xJl a0 a1 a2 a3 r1) (oc4 h0 (xDU h1) h2 h3 on)) fun h2 h =>
 tE fk31 (xJm a0 a1 a2 a3 r1) (oc3 h0 (xDU h1) h2 on) (xN9 g0 _ _ _ _ _ _ _ h)) fun h0 h =>
 tE fk31 (xJn a0 a1 a2 a3) (oc2 h0 rfl on) (xN9 g0 _ _ _ _ _ _ _ h)
theorem xFk {N q0} (g0 : G31 q0) {a0} {a1} {a2} {a3} {r} (h : xCl N q0 a0 a1 a2 a3 = some r) : AbC 31 (xA2 a0 a1 a2 a3) (xAn r) :=
 AbsCalls.of_reach fk31 rfl rfl rfl (Nat.le_of_ble_eq_true rfl) (xOI g0 a0 a1 a2 a3 r h)
theorem xEg {N : Nat} : ∀ d, G31 (xBY N d)
 | 0 => fun _ _ _ _ _ h => nE h
 | d + 1 => fun _ _ _ _ _ h => xFk (N := N) (xEg d) h
theorem xGg {N : Nat} {a0 : Exp} {a1 : Str} {a2 : Str} {a3 : List Str} {r : Bool} (h : xEV N a0 a1 a2 a3 = some r) : AbC 31 (xA2 a0 a1 a2 a3) (xAn r) := xEg N _ _ _ _ r h
noncomputable def I9 : Info := { body := (Try.f9.body).getD .skip, nt := 12, results := [.tmp 6], keep := [0, 2, 4, 6, 12, 7], live := [], modes := [] }
theorem fk9 : FnOk Try.prog 9 Try.f9 I9 := ⟨Try.func9, by kernel_rfl, by kernel_rfl, by kernel_rfl, by kernel_rfl⟩
def xOt (a0 : Exp) (a1 a2 : Str) (r1 : Bool) : rE I9 (xCz a0 a1 a2) [] [xAn r1] = dn (xBJ r1) [AbC 31 (xA2 a0 a1 a2 []) (xAn r1)] := by kernel_rfl
theorem c9_e {N : Nat} : ∀ a0 a1 a2 r, xDm N a0 a1 a2 = some r → RE Try.f9 I9 (xCz a0 a1 a2) (xBJ r) := fun a0 a1 a2 r h =>
 bE h fun r1 h0 h => dE h fk9 (xOt a0 a1 a2 r1) (oc (xGg h0) on)
theorem xEK {N : Nat} {a0 : Exp} {a1 : Str} {a2 : Str} {r : Bool} (h : xDm N  a0 a1 a2 = some r) : AbC 9 (xCz a0 a1 a2) (xBJ r) :=
 AbsCalls.of_reach fk9 rfl rfl rfl (Nat.le_of_ble_eq_true rfl) (c9_e a0 a1 a2 r h)
noncomputable def I34 : Info := { body := (Try.f34.body).getD .skip, nt := 19, results := [.tmp 4], keep := [0, 2, 8, 10, 12, 14, 16, 18, 20, 32], live := [(2, [2, 14, 16, 18])], modes := [(4, [(0, .take, false)]), (5, [(0, .take, false)]), (6, [(1, .take, false)])] }
theorem fk34 : FnOk Try.prog 34 Try.f34 I34 := ⟨Try.func34, by kernel_rfl, by kernel_rfl, by kernel_rfl, by kernel_rfl⟩
def xIn (x1 : Str) (x7 : List Str) (x8 x9 : Int) : St := [(2, .v false [.str x1]), (14, .v false [.sl .ro .str x7]), (16, .v false [.int .i64 x8]), (18, .v false [.int .i64 x9])]
abbrev xEZ (v0 v1 : Int) : Prop := iY (dc (v0 < v1))
def xLb (x1 : Str) (x7 : List Str) (x8 x9 : Int) : rS 2 I34 (xIn x1 x7 x8 x9) [Y, Y] [] = dn (xBj x9) [xEZ x9 x8, (0 : Int) ≤ x9 ∧ x9 < (Ln x7), iY (xG3 x7 x9 x1)] := by kernel_rfl
def xLc (x1 : Str) (x7 : List Str) (x8 x9 : Int) : rS 2 I34 (xIn x1 x7 x8 x9) [Y, F] [] = st 2 I34 (xIn x1 x7 x8 (W (x9 + 1))) [xEZ x9 x8, (0 : Int) ≤ x9 ∧ x9 < (Ln x7), iN (xG3 x7 x9 x1)] := by kernel_rfl
def xLd (x1 : Str) (x7 : List Str) (x8 x9 : Int) : rS 2 I34 (xIn x1 x7 x8 x9) [F] [] = dn (xBj (-1)) [iN (dc (x9 < x8))] := by kernel_rfl
def xLe (a0 : List Str) (a1 : Str) : rE I34 (xCI a0 a1) [] [] = st 2 I34 (xIn a1 a0 (Ln a0 : Int) 0) [] := by kernel_rfl
theorem xOL {N : Nat} : ∀ n x1 x7 x8 x9 r, xCb N n x1 x7 x8 x9 = some r → RS Try.f34 I34 2 (xIn x1 x7 x8 x9) (xBj r) := by
 intro n
 induction n with
 | zero => exact fun _ _ _ _ _ h => nE h
 | succ n ih =>
  exact fun x1 x7 x8 x9 r h =>
   cE h (fun h0 h => iE h fun h1 h => cE h (fun h2 h => dS h fk34 (xLb x1 x7 x8 x9) (oc3 h0 h1 h2 on)) fun h2 h =>
   tS fk34 (xLc x1 x7 x8 x9) (oc3 h0 h1 h2 on) (ih _ _ _ _ _ h)) fun h0 h =>
   dS h fk34 (xLd x1 x7 x8 x9) (oc h0 on)
theorem xOM {N : Nat} : ∀ a0 a1 r, xDK N a0 a1 = some r → RE Try.f34 I34 (xCI a0 a1) (xBj r) := fun a0 a1 r h =>
 tE fk34 (xLe a0 a1) on (xOL _ _ _ _ _ _ h)
theorem xEs {N : Nat} {a0 : List Str} {a1 : Str} {r : Int} (h : xDK N  a0 a1 = some r) : AbC 34 (xCI a0 a1) (xBj r) :=
 AbsCalls.of_reach fk34 rfl rfl rfl (Nat.le_of_ble_eq_true rfl) (xOM a0 a1 r h)
noncomputable def xFX : Info := { body := (Try.f33.body).getD .skip, nt := 19, results := [], keep := [0, 2, 4, 6, 8, 5, 7, 9], live := [], modes := [(0, [(1, .take, false), (5, .take, false)])], ext := [2, 3, 4] }
theorem xFY : FnOk Try.prog 33 Try.f33 xFX := ⟨Try.func33, by kernel_rfl, by kernel_rfl, by kernel_rfl, by kernel_rfl⟩
def xHv (a0 : Str) (a1 : List Str) (a2 : Bool) (a3 a4 : Str) : rE xFX (xBL a0 a1 a2 a3 a4) [Y] [] = dn (xBu (true, a3, a4)) [iY a2] := by kernel_rfl
def xHw (a0 : Str) (a1 : List Str) (a2 : Bool) (a3 a4 : Str) (r1 : Int) : rE xFX (xBL a0 a1 a2 a3 a4) [F, Y] [xBj r1] = dn (xBu ((dc (r1 ≥ 0)), a3, a4)) [iN a2, iY ((a0 : Str) == a3), AbC 34 (xCI a1 a4) (xBj r1)] := by kernel_rfl
def xHx (a0 : Str) (a1 : List Str) (a2 : Bool) (a3 a4 : Str) : rE xFX (xBL a0 a1 a2 a3 a4) [F, F] [] = dn (xBu (false, a3, a4)) [iN a2, iN ((a0 : Str) == a3)] := by kernel_rfl
theorem xIu {N : Nat} : ∀ a0 a1 a2 a3 a4 r, xDp N a0 a1 a2 a3 a4 = some r → RE Try.f33 xFX (xBL a0 a1 a2 a3 a4) (xBu r) := fun a0 a1 a2 a3 a4 r h =>
 cE h (fun h0 h => dE h xFY (xHv a0 a1 a2 a3 a4) (oc h0 on)) fun h0 h =>
 cE h (fun h1 h => bE h fun r1 h2 h => dE h xFY (xHw a0 a1 a2 a3 a4 r1) (oc3 h0 h1 (xEs h2) on)) fun h1 h =>
 dE h xFY (xHx a0 a1 a2 a3 a4) (oc2 h0 h1 on)
theorem xFz {N : Nat} {a0 : Str} {a1 : List Str} {a2 : Bool} {a3 : Str} {a4 : Str} {r : Bool × Str × Str} (h : xDp N  a0 a1 a2 a3 a4 = some r) : AbC 33 (xBL a0 a1 a2 a3 a4) (xBu r) :=
 AbsCalls.of_reach xFY rfl rfl rfl (Nat.le_of_ble_eq_true rfl) (xIu a0 a1 a2 a3 a4 r h)
def xGp (q : Exp → (List Str) → Bool → Str → Str → Option (Bool × Str × Str)) : Prop := ∀ a0 a1 a2 a3 a4 r, q a0 a1 a2 a3 a4 = some r → AbC 35 (xAf a0 a1 a2 a3 a4) (xAc r)
noncomputable def xB4 : Info := { body := (Try.f35.body).getD .skip, nt := 82, results := [], keep := [0, 2, 4, 8, 12, 14, 16, 18, 38, 48, 96, 114, 116, 118, 120, 138, 2000006, 2000008, 2000010, 1, 9, 17, 2000007, 2000009, 2000011], live := [(8, [0, 4, 8, 12, 114, 116, 118, 2000006, 2000008, 2000010, 1, 9, 2000007, 2000009, 2000011])], modes := [(1, [(3, .take, false)]), (4, [(3, .take, false)]), (5, [(1, .take, false)]), (11, [(1, .take, false), (2, .take, false)]), (12, [(6, .cp, true)]), (13, [(2, .take, false), (3, .take, false)]), (14, [(1, .take, false)])], ext := [0, 1000003, 1000004, 1000005] }
theorem xDw : FnOk Try.prog 35 Try.f35 xB4 := ⟨Try.func35, by kernel_rfl, by kernel_rfl, by kernel_rfl, by kernel_rfl⟩
def xDa (x2 : List Str) (x6 : Bool) (x57 : List Exp) (x58 x59 : Int) (b4 : Exp) (b1000003 : Bool) (b1000004 b1000005 : Str) : St := [(0, .v false [.ptr 0 0]), (4, .v false [.sl .ro .str x2]), (8, .v false [.ptr 4 0]), (12, .v false [.bool x6]), (114, .v false [.sl .ro .exp x57]), (116, .v false [.int .i64 x58]), (118, .v false [.int .i64 x59]), (1, .v true [.clo 33 [1000003, 1000004, 1000005], .val .nilFunc]), (9, .v true [.int .i64 (Exp.kind b4), .int .i64 (Exp.n b4), .str (Exp.text b4), .sl .ro .exp (Exp.args b4)]), (2000007, .v true [.bool b1000003]), (2000009, .v true [.str b1000004]), (2000011, .v true [.str b1000005])]
def xHm (x2 : List Str) (x6 : Bool) (x57 : List Exp) (x58 x59 : Int) (b4 : Exp) (b1000003 : Bool) (b1000004 b1000005 : Str) (r1 : Bool × Str × Str) : rS 8 xB4 (xDa x2 x6 x57 x58 x59 b4 b1000003 b1000004 b1000005) [Y, Y, Y] [cl (xAc r1)] = st 8 xB4 (xDa x2 x6 x57 x58 (W (x59 + 1)) b4 r1.1 r1.2.1 r1.2.2) [xEZ x59 x58, xDt x59 x57, iY x6, xHS x59, 0 + Ln x2 ≤ Lim, xI4 x2 b4, AbC 35 (xAf (xCQ x57 x59) (([] ++ x2) ++ [(Exp.text b4)]) b1000003 b1000004 b1000005) (xAc r1)] := by kernel_rfl
def xHn (x2 : List Str) (x6 : Bool) (x57 : List Exp) (x58 x59 : Int) (b4 : Exp) (b1000003 : Bool) (b1000004 b1000005 : Str) (r1 : Bool × Str × Str) : rS 8 xB4 (xDa x2 x6 x57 x58 x59 b4 b1000003 b1000004 b1000005) [Y, Y, F] [cl (xAc r1)] = st 8 xB4 (xDa x2 x6 x57 x58 (W (x59 + 1)) b4 r1.1 r1.2.1 r1.2.2) [xEZ x59 x58, xDt x59 x57, iY x6, xGy x59, AbC 35 (xAf (xCQ x57 x59) x2 b1000003 b1000004 b1000005) (xAc r1)] := by kernel_rfl
def xHo (x2 : List Str) (x6 : Bool) (x57 : List Exp) (x58 x59 : Int) (b4 : Exp) (b1000003 : Bool) (b1000004 b1000005 : Str) (r1 : Bool × Str × Str) : rS 8 xB4 (xDa x2 x6 x57 x58 x59 b4 b1000003 b1000004 b1000005) [Y, F, F] [cl (xAc r1)] = st 8 xB4 (xDa x2 x6 x57 x58 (W (x59 + 1)) b4 r1.1 r1.2.1 r1.2.2) [xEZ x59 x58, xDt x59 x57, iN x6, iN false, AbC 35 (xAf (xCQ x57 x59) x2 b1000003 b1000004 b1000005) (xAc r1)] := by kernel_rfl
def xHp (x2 : List Str) (x6 : Bool) (x57 : List Exp) (x58 x59 : Int) (b4 : Exp) (b1000003 : Bool) (b1000004 b1000005 : Str) : rS 8 xB4 (xDa x2 x6 x57 x58 x59 b4 b1000003 b1000004 b1000005) [F] [] = dn (xAc (b1000003, b1000004, b1000005)) [iN (dc (x59 < x58))] := by kernel_rfl
def xHq (a0 : Exp) (a1 : List Str) (a2 : Bool) (a3 a4 : Str) (r1 : Int) (r2 : Bool × Str × Str) : rE xB4 (xAf a0 a1 a2 a3 a4) [Y, Y, Y] [xBj r1, xBu r2] = dn (xAc (r2.1, r2.2.1, r2.2.2)) [xEy a0, AbC 34 (xCI a1 (Exp.text a0)) (xBj r1), xHg r1, iY true, AbC 33 (xBL (Exp.text a0) a1 a2 a3 a4) (xBu r2)] := by kernel_rfl
abbrev xHF (v0 : List Str) (v1 : Exp) (v2 : Bool) (v3 v4 : Str) := xDa v0 ((Exp.kind v1) == 9) (Exp.args v1) (Ln (Exp.args v1) : Int) 0 v1 v2 v3 v4
def xHr (a0 : Exp) (a1 : List Str) (a2 : Bool) (a3 a4 : Str) (r1 : Int) : rE xB4 (xAf a0 a1 a2 a3 a4) [Y, F, F, F, F] [xBj r1] = st 8 xB4 (xHF a1 a0 a2 a3 a4) [xEy a0, AbC 34 (xCI a1 (Exp.text a0)) (xBj r1), xEl r1, xCj a0, xEp a0, iN false] := by kernel_rfl
def xHs (a0 : Exp) (a1 : List Str) (a2 : Bool) (a3 a4 : Str) : rE xB4 (xAf a0 a1 a2 a3 a4) [F, F, Y, Y, F] [] = st 8 xB4 (xDa a1 true (Exp.args a0) (xDT a0) 0 a0 a2 a3 a4) [xBw a0, iN false, xET a0, iY true, iN false] := by kernel_rfl
def xHt (a0 : Exp) (a1 : List Str) (a2 : Bool) (a3 a4 : Str) : rE xB4 (xAf a0 a1 a2 a3 a4) [F, F, F, Y, F] [] = st 8 xB4 (xHF a1 a0 a2 a3 a4) [xBw a0, iN false, xCj a0, xEx a0, iN false] := by kernel_rfl
def xHu (a0 : Exp) (a1 : List Str) (a2 : Bool) (a3 a4 : Str) : rE xB4 (xAf a0 a1 a2 a3 a4) [F, F, F, F, F] [] = st 8 xB4 (xHF a1 a0 a2 a3 a4) [xBw a0, iN false, xCj a0, xEp a0, iN false] := by kernel_rfl
theorem xFw {N q0} (g0 : xGp q0) : ∀ n x2 x6 x57 x58 x59 b4 b1000003 b1000004 b1000005 r, xAg N q0 n x2 x6 x57 x58 x59 b4 b1000003 b1000004 b1000005 = some r → RS Try.f35 xB4 8 (xDa x2 x6 x57 x58 x59 b4 b1000003 b1000004 b1000005) (xAc r) := by
 intro n
 induction n with
 | zero => exact fun _ _ _ _ _ _ _ _ _ _ h => nE h
 | succ n ih =>
  exact fun x2 x6 x57 x58 x59 b4 b1000003 b1000004 b1000005 r h =>
   cE h (fun h0 h => iE h fun h1 h => cE h (fun h2 h => cE h (fun h3 h => iE h fun h4 h => iE h fun h5 h => bE h fun r1 h6 h => tS xDw (xHm x2 x6 x57 x58 x59 b4 b1000003 b1000004 b1000005 r1) (oc7 h0 h1 h2 h3 h4 h5 (g0 _ _ _ _ _ _ h6) on) (ih _ _ _ _ _ _ _ _ _ _ h)) fun h3 h =>
   bE h fun r1 h4 h => tS xDw (xHn x2 x6 x57 x58 x59 b4 b1000003 b1000004 b1000005 r1) (oc5 h0 h1 h2 h3 (g0 _ _ _ _ _ _ h4) on) (ih _ _ _ _ _ _ _ _ _ _ h)) fun h2 h =>
   bE h fun r1 h4 h => tS xDw (xHo x2 x6 x57 x58 x59 b4 b1000003 b1000004 b1000005 r1) (oc5 h0 h1 h2 rfl (g0 _ _ _ _ _ _ h4) on) (ih _ _ _ _ _ _ _ _ _ _ h)) fun h0 h =>
   dS h xDw (xHp x2 x6 x57 x58 x59 b4 b1000003 b1000004 b1000005) (oc h0 on)
theorem xIt {N q0} (g0 : xGp q0) : ∀ a0 a1 a2 a3 a4 r, xAM N q0 a0 a1 a2 a3 a4 = some r → RE Try.f35 xB4 (xAf a0 a1 a2 a3 a4) (xAc r) := fun a0 a1 a2 a3 a4 r h =>
 cE h (fun h0 h => bE h fun r1 h1 h => cE h (fun h2 h => bE h fun r2 h4 h => dE h xDw (xHq a0 a1 a2 a3 a4 r1 r2) (oc5 h0 (xEs h1) h2 rfl (xFz h4) on)) fun h2 h =>
 tE xDw (xHr a0 a1 a2 a3 a4 r1) (oc6 h0 (xEs h1) h2 (eq_ne h0 rfl) (eq_ne h0 rfl) rfl on) (xFw g0 _ _ _ _ _ _ _ _ _ _ _ h)) fun h0 h =>
 cE h (fun h2 h => tE xDw (xHs a0 a1 a2 a3 a4) (oc5 h0 rfl h2 rfl rfl on) (xFw g0 _ _ _ _ _ _ _ _ _ _ _ h)) fun h2 h =>
 cE h (fun h3 h => tE xDw (xHt a0 a1 a2 a3 a4) (oc5 h0 rfl h2 h3 rfl on) (xFw g0 _ _ _ _ _ _ _ _ _ _ _ h)) fun h3 h =>
 tE xDw (xHu a0 a1 a2 a3 a4) (oc5 h0 rfl h2 h3 rfl on) (xFw g0 _ _ _ _ _ _ _ _ _ _ _ h)
theorem xDj {N q0} (g0 : xGp q0) {a0} {a1} {a2} {a3} {a4} {r} (h : xAM N q0 a0 a1 a2 a3 a4 = some r) : AbC 35 (xAf a0 a1 a2 a3 a4) (xAc r) :=
 AbsCalls.of_reach xDw rfl rfl rfl (Nat.le_of_ble_eq_true rfl) (xIt g0 a0 a1 a2 a3 a4 r h)
theorem xBW {N : Nat} : ∀ d, xGp (xAG N d)
 | 0 => fun _ _ _ _ _ _ h => nE h
 | d + 1 => fun _ _ _ _ _ _ h => xDj (N := N) (xBW d) h
theorem xDO {N : Nat} {a0 : Exp} {a1 : List Str} {a2 : Bool} {a3 : Str} {a4 : Str} {r : Bool × Str × Str} (h : xBP N a0 a1 a2 a3 a4 = some r) : AbC 35 (xAf a0 a1 a2 a3 a4) (xAc r) := xBW N _ _ _ _ _ r h
noncomputable def I11 : Info := { body := (Try.f11.body).getD .skip, nt := 16, results := [.tmp 6], keep := [0, 2, 4, 6, 8, 10, 12, 14, 16, 7, 9, 11, 15, 23], live := [], modes := [(3, [(0, .take, false)])] }
theorem fk11 : FnOk Try.prog 11 Try.f11 I11 := ⟨Try.func11, by kernel_rfl, by kernel_rfl, by kernel_rfl, by kernel_rfl⟩
def xKA (a0 : Exp) (a1 a2 : Str) (r1 : Bool × Str × Str) : rE I11 (xCu a0 a1 a2) [] [cl (xAc r1)] = dn (xBI r1.1) [AbC 35 (xAf a0 [] false a1 a2) (xAc r1)] := by kernel_rfl
theorem xOA {N : Nat} : ∀ a0 a1 a2 r, xDh N a0 a1 a2 = some r → RE Try.f11 I11 (xCu a0 a1 a2) (xBI r) := fun a0 a1 a2 r h =>
 bE h fun r1 h0 h => dE h fk11 (xKA a0 a1 a2 r1) (oc (xDO h0) on)
theorem xEG {N : Nat} {a0 : Exp} {a1 : Str} {a2 : Str} {r : Bool} (h : xDh N  a0 a1 a2 = some r) : AbC 11 (xCu a0 a1 a2) (xBI r) :=
 AbsCalls.of_reach fk11 rfl rfl rfl (Nat.le_of_ble_eq_true rfl) (xOA a0 a1 a2 r h)
def G12 (q : Exp → Exp → Option (Bool)) : Prop := ∀ a0 a1 r, q a0 a1 = some r → AbC 12 (xBb a0 a1) (xAa r)
def G36 (q : (List Exp) → (List Exp) → Option (Bool)) : Prop := ∀ a0 a1 r, q a0 a1 = some r → AbC 36 (xCg a0 a1) (xBk r)
noncomputable def I12 : Info := { body := (Try.f12.body).getD .skip, nt := 26, results := [.tmp 4], keep := [0, 2, 4, 6, 8, 18, 28, 38, 50, 5, 7], live := [], modes := [] }
theorem fk12 : FnOk Try.prog 12 Try.f12 I12 := ⟨Try.func12, by kernel_rfl, by kernel_rfl, by kernel_rfl, by kernel_rfl⟩
def xKB (a0 a1 : Exp) : rE I12 (xBb a0 a1) [Y] [] = dn (xAa false) [iY ((Exp.kind a0) != (Exp.kind a1))] := by kernel_rfl
abbrev xHZ (v0 v1 : Exp) : Prop := iN ((Exp.kind v0) != (Exp.kind v1))
def xKC (a0 a1 : Exp) : rE I12 (xBb a0 a1) [F, Y] [] = dn (xAa false) [xHZ a0 a1, iY ((Exp.n a0) != (Exp.n a1))] := by kernel_rfl
def xKD (a0 a1 : Exp) : rE I12 (xBb a0 a1) [F, F, Y] [] = dn (xAa false) [xHZ a0 a1, iN ((Exp.n a0) != (Exp.n a1)), iY (!((xFT a0) == (Exp.text a1)))] := by kernel_rfl
def xKE (a0 a1 : Exp) (r1 : Bool) : rE I12 (xBb a0 a1) [F, F, F, Y] [xBk r1] = dn (xAa false) [xHZ a0 a1, iN ((Exp.n a0) != (Exp.n a1)), iN (!((xFT a0) == (Exp.text a1))), AbC 36 (xCg (Exp.args a0) (Exp.args a1)) (xBk r1), iY (!r1)] := by kernel_rfl
def xKF (a0 a1 : Exp) (r1 : Bool) : rE I12 (xBb a0 a1) [F, F, F, F] [xBk r1] = dn (xAa true) [xHZ a0 a1, iN ((Exp.n a0) != (Exp.n a1)), iN (!((xFT a0) == (Exp.text a1))), AbC 36 (xCg (Exp.args a0) (Exp.args a1)) (xBk r1), xA4 r1] := by kernel_rfl
theorem xOB {N q0 q1} (g0 : G12 q0) (g1 : G36 q1) : ∀ a0 a1 r, xC3 N q0 q1 a0 a1 = some r → RE Try.f12 I12 (xBb a0 a1) (xAa r) := fun a0 a1 r h =>
 cE h (fun h0 h => dE h fk12 (xKB a0 a1) (oc h0 on)) fun h0 h =>
 cE h (fun h1 h => dE h fk12 (xKC a0 a1) (oc2 h0 h1 on)) fun h1 h =>
 cE h (fun h2 h => dE h fk12 (xKD a0 a1) (oc3 h0 h1 h2 on)) fun h2 h =>
 bE h fun r1 h3 h => cE h (fun h4 h => dE h fk12 (xKE a0 a1 r1) (oc5 h0 h1 h2 (g1 _ _ _ h3) h4 on)) fun h4 h =>
 dE h fk12 (xKF a0 a1 r1) (oc5 h0 h1 h2 (g1 _ _ _ h3) h4 on)
theorem xFM {N q0 q1} (g0 : G12 q0) (g1 : G36 q1) {a0} {a1} {r} (h : xC3 N q0 q1 a0 a1 = some r) : AbC 12 (xBb a0 a1) (xAa r) :=
 AbsCalls.of_reach fk12 rfl rfl rfl (Nat.le_of_ble_eq_true rfl) (xOB g0 g1 a0 a1 r h)
noncomputable def I36 : Info := { body := (Try.f36.body).getD .skip, nt := 27, results := [.tmp 4], keep := [0, 2, 8, 10, 20, 28, 52], live := [(4, [0, 2, 10])], modes := [] }
theorem fk36 : FnOk Try.prog 36 Try.f36 I36 := ⟨Try.func36, by kernel_rfl, by kernel_rfl, by kernel_rfl, by kernel_rfl⟩
def xIo (x0 x1 : List Exp) (x5 : Int) : St := [(0, .v false [.sl .ro .exp x0]), (2, .v false [.sl .ro .exp x1]), (10, .v false [.int .i64 x5])]
def xLf (x0 x1 : List Exp) (x5 : Int) (r1 : Bool) : rS 4 I36 (xIo x0 x1 x5) [Y, Y] [xAa r1] = dn (xBk false) [xGz x5 x0, xDt x5 x0, xDt x5 x1, AbC 12 (xBb (xCQ x0 x5) (xCQ x1 x5)) (xAa r1), iY (!r1)] := by kernel_rfl
def xLg (x0 x1 : List Exp) (x5 : Int) (r1 : Bool) : rS 4 I36 (xIo x0 x1 x5) [Y, F] [xAa r1] = st 4 I36 (xIo x0 x1 (W (x5 + 1))) [xGz x5 x0, xDt x5 x0, xDt x5 x1, AbC 12 (xBb (xCQ x0 x5) (xCQ x1 x5)) (xAa r1), xA4 r1] := by kernel_rfl
def xLh (x0 x1 : List Exp) (x5 : Int) : rS 4 I36 (xIo x0 x1 x5) [F] [] = dn (xBk true) [xIZ x5 x0] := by kernel_rfl
def xLi (a0 a1 : List Exp) : rE I36 (xCg a0 a1) [Y] [] = dn (xBk false) [iY ((Ln a0 : Int) != (Ln a1 : Int))] := by kernel_rfl
def xLj (a0 a1 : List Exp) : rE I36 (xCg a0 a1) [F] [] = st 4 I36 (xIo a0 a1 0) [iN ((Ln a0 : Int) != (Ln a1 : Int))] := by kernel_rfl
theorem xON {N q0 q1} (g0 : G12 q0) (g1 : G36 q1) : ∀ n x0 x1 x5 r, xCM N q0 q1 n x0 x1 x5 = some r → RS Try.f36 I36 4 (xIo x0 x1 x5) (xBk r) := by
 intro n
 induction n with
 | zero => exact fun _ _ _ _ h => nE h
 | succ n ih =>
  exact fun x0 x1 x5 r h =>
   cE h (fun h0 h => iE h fun h1 h => iE h fun h2 h => bE h fun r1 h3 h => cE h (fun h4 h => dS h fk36 (xLf x0 x1 x5 r1) (oc5 h0 h1 h2 (g0 _ _ _ h3) h4 on)) fun h4 h =>
   tS fk36 (xLg x0 x1 x5 r1) (oc5 h0 h1 h2 (g0 _ _ _ h3) h4 on) (ih _ _ _ _ h)) fun h0 h =>
   dS h fk36 (xLh x0 x1 x5) (oc h0 on)
theorem xOO {N q0 q1} (g0 : G12 q0) (g1 : G36 q1) : ∀ a0 a1 r, xCN N q0 q1 a0 a1 = some r → RE Try.f36 I36 (xCg a0 a1) (xBk r) := fun a0 a1 r h =>
 cE h (fun h0 h => dE h fk36 (xLi a0 a1) (oc h0 on)) fun h0 h =>
 tE fk36 (xLj a0 a1) (oc h0 on) (xON g0 g1 _ _ _ _ _ h)
theorem xFB {N q0 q1} (g0 : G12 q0) (g1 : G36 q1) {a0} {a1} {r} (h : xCN N q0 q1 a0 a1 = some r) : AbC 36 (xCg a0 a1) (xBk r) :=
 AbsCalls.of_reach fk36 rfl rfl rfl (Nat.le_of_ble_eq_true rfl) (xOO g0 g1 a0 a1 r h)
theorem xF1 {N : Nat} : ∀ d, G12 (xA1 N d).c_laws_eqExpr ∧ G36 (xA1 N d).c_laws_eqExprS := by
 intro d
 induction d with
 | zero => exact ⟨fun _ _ _ h => nE h, fun _ _ _ h => nE h⟩
 | succ d ih =>
  obtain ⟨ih0, ih1⟩ := ih
  exact ⟨fun _ _ _ h => xFM (N := N) ih0 ih1 h, fun _ _ _ h => xFB (N := N) ih0 ih1 h⟩
theorem xAl {N : Nat} {a0 : Exp} {a1 : Exp} {r : Bool} (h : xD0 N a0 a1 = some r) : AbC 12 (xBb a0 a1) (xAa r) := (xF1 N).1 _ _ r h
noncomputable def I49 : Info := { body := (Try.f49.body).getD .skip, nt := 20, results := [.tmp 2], keep := [0, 4, 6, 10, 14], live := [(4, [0, 6])], modes := [] }
theorem fk49 : FnOk Try.prog 49 Try.f49 I49 := ⟨Try.func49, by kernel_rfl, by kernel_rfl, by kernel_rfl, by kernel_rfl⟩
def xIC (x0 : Int) (x3 : Str) : St := [(0, .v false [.int .i64 x0]), (6, .v false [.str x3])]
abbrev xIP (v0 : Int) := List.map (fun n => UInt8.ofNat (tN n)) [(IntKind.u8.wrap ((W (48 + (Int.tmod v0 10)))))]
def xLY (x0 : Int) (x3 : Str) : rS 4 I49 (xIC x0 x3) [Y] [] = st 4 I49 (xIC (W (Int.tdiv x0 10)) ((xIP x0) ++ x3)) [xHS x0, 10 ≠ (0 : Int), Ln (xIP x0) + Ln x3 ≤ Lim, 10 ≠ (0 : Int)] := by kernel_rfl
def xLZ (x0 : Int) (x3 : Str) : rS 4 I49 (xIC x0 x3) [F] [] = dn (xBq ([109] ++ x3)) [xGy x0, Ln [109] + Ln x3 ≤ Lim] := by kernel_rfl
def xL0 (a0 : Int) : rE I49 (xC6 a0) [Y] [] = dn (xBq [109, 48]) [iY (dc (a0 ≤ 0))] := by kernel_rfl
def xL1 (a0 : Int) : rE I49 (xC6 a0) [F] [] = st 4 I49 (xIC a0 []) [iN (dc (a0 ≤ 0))] := by kernel_rfl
theorem xOZ {N : Nat} : ∀ n x0 x3 r, xCs N n x0 x3 = some r → RS Try.f49 I49 4 (xIC x0 x3) (xBq r) := by
 intro n
 induction n with
 | zero => exact fun _ _ _ h => nE h
 | succ n ih =>
  exact fun x0 x3 r h =>
   cE h (fun h0 h => iE h fun h2 h => tS fk49 (xLY x0 x3) (oc4 h0 (by decide) h2 (by decide) on) (ih _ _ _ h)) fun h0 h =>
   iE h fun h1 h => dS h fk49 (xLZ x0 x3) (oc2 h0 h1 on)
theorem xO0 {N : Nat} : ∀ a0 r, xDs N a0 = some r → RE Try.f49 I49 (xC6 a0) (xBq r) := fun a0 r h =>
 cE h (fun h0 h => dE h fk49 (xL0 a0) (oc h0 on)) fun h0 h =>
 tE fk49 (xL1 a0) (oc h0 on) (xOZ _ _ _ _ h)
theorem xDz {N : Nat} {a0 : Int} {r : Str} (h : xDs N  a0 = some r) : AbC 49 (xC6 a0) (xBq r) :=
 AbsCalls.of_reach fk49 rfl rfl rfl (Nat.le_of_ble_eq_true rfl) (xO0 a0 r h)
def G43 (q : (List Exp) → Int → Option (Int × (List Exp))) : Prop := ∀ a0 a1 r, q a0 a1 = some r → AbC 43 (xBQ a0 a1) (xBc r)
noncomputable def I43 : Info := { body := (Try.f43.body).getD .skip, nt := 42, results := [.tmp 4], keep := [0, 2, 8, 10, 18], live := [(2, [0, 2, 10])], modes := [(4, [(0, .ref, false)]), (6, [(0, .ref, false)]), (8, [(0, .ref, false)]), (10, [(0, .ref, false), (4, .ref, false), (6, .ref, false)])], lnt := [(0, 0)] }
theorem fk43 : FnOk Try.prog 43 Try.f43 I43 := ⟨Try.func43, by kernel_rfl, by kernel_rfl, by kernel_rfl, by kernel_rfl⟩
def xIB (x0 : List Exp) (x1 x5 : Int) : St := [(0, .v false [.sl (.lnt 0) .exp x0]), (2, .v false [.int .i64 x1]), (10, .v false [.int .i64 x5])]
abbrev xH0 (v0 : Int) (v1 : Str) : Prop := AbC 49 (xC6 (W ((W (v0 + 1)) + 1))) (xBq v1)
abbrev xIT (v0 : Int) (v1 : Str) (v2 : Int) (v3 : List Exp) := Exp.args (gD ((fun (z9 : List Exp) => List.set z9 (tN v0) (Exp.mk (Exp.kind (gD z9 (tN v0) Ty.exp.dflt)) (Exp.n (gD z9 (tN v0) Ty.exp.dflt)) v1 (Exp.args (gD z9 (tN v0) Ty.exp.dflt)))) ((fun (z8 : List Exp) => List.set z8 (tN v0) (Exp.mk (Exp.kind (gD z8 (tN v0) Ty.exp.dflt)) (W (v2 + 1)) (Exp.text (gD z8 (tN v0) Ty.exp.dflt)) (Exp.args (gD z8 (tN v0) Ty.exp.dflt)))) (List.set v3 (tN v0) (Exp.mk v2 (Exp.n (gD v3 (tN v0) Ty.exp.dflt)) (Exp.text (gD v3 (tN v0) Ty.exp.dflt)) (Exp.args (gD v3 (tN v0) Ty.exp.dflt)))))) (tN v0) Ty.exp.dflt)
abbrev xIS (v0 : Int) (v1 : Str) (v2 : Int) (v3 : List Exp) := (fun (z9 : List Exp) => List.set z9 (tN v0) (Exp.mk (Exp.kind (gD z9 (tN v0) Ty.exp.dflt)) (Exp.n (gD z9 (tN v0) Ty.exp.dflt)) v1 (Exp.args (gD z9 (tN v0) Ty.exp.dflt)))) ((fun (z8 : List Exp) => List.set z8 (tN v0) (Exp.mk (Exp.kind (gD z8 (tN v0) Ty.exp.dflt)) (W (v2 + 1)) (Exp.text (gD z8 (tN v0) Ty.exp.dflt)) (Exp.args (gD z8 (tN v0) Ty.exp.dflt)))) (List.set v3 (tN v0) (Exp.mk v2 (Exp.n (gD v3 (tN v0) Ty.exp.dflt)) (Exp.text (gD v3 (tN v0) Ty.exp.dflt)) (Exp.args (gD v3 (tN v0) Ty.exp.dflt)))))
abbrev xKx (v0 v1 : Int) (v2 : List Exp) := (fun (z8 : List Exp) => List.set z8 (tN v0) (Exp.mk (Exp.kind (gD z8 (tN v0) Ty.exp.dflt)) (W (v1 + 1)) (Exp.text (gD z8 (tN v0) Ty.exp.dflt)) (Exp.args (gD z8 (tN v0) Ty.exp.dflt)))) (List.set v2 (tN v0) (Exp.mk v1 (Exp.n (gD v2 (tN v0) Ty.exp.dflt)) (Exp.text (gD v2 (tN v0) Ty.exp.dflt)) (Exp.args (gD v2 (tN v0) Ty.exp.dflt))))
abbrev xKw (v0 : List Exp) (v1 v2 : Int) := List.set v0 (tN v1) (Exp.mk v2 (Exp.n (gD v0 (tN v1) Ty.exp.dflt)) (Exp.text (gD v0 (tN v1) Ty.exp.dflt)) (Exp.args (gD v0 (tN v1) Ty.exp.dflt)))
def xLO (x0 : List Exp) (x1 x5 : Int) (r1 : Str) (r2 : Int × (List Exp)) : rS 2 I43 (xIB x0 x1 x5) [Y] [xBq r1, xBc r2] = st 2 I43 (xIB ((fun (z10 : List Exp) => List.set z10 (tN x5) (Exp.mk (Exp.kind (gD z10 (tN x5) Ty.exp.dflt)) (Exp.n (gD z10 (tN x5) Ty.exp.dflt)) (Exp.text (gD z10 (tN x5) Ty.exp.dflt)) r2.2)) (xIS x5 r1 x1 x0)) r2.1 (W (x5 + 1))) [xGz x5 x0, xDt x5 x0, (0 : Int) ≤ x5 ∧ x5 < (Ln (xKw x0 x5 x1)), xH0 x1 r1, (0 : Int) ≤ x5 ∧ x5 < (Ln (xKx x5 x1 x0)), (0 : Int) ≤ x5 ∧ x5 < (Ln (xIS x5 r1 x1 x0)), AbC 43 (xBQ (xIT x5 r1 x1 x0) (W ((W ((W (x1 + 1)) + 1)) + 1))) (xBc r2), (tN x5) = (tN x5), Ln r2.2 = Ln (xIT x5 r1 x1 x0)] := by kernel_rfl
def xLP (x0 : List Exp) (x1 x5 : Int) : rS 2 I43 (xIB x0 x1 x5) [F] [] = dn (xBc (x1, x0)) [xIZ x5 x0] := by kernel_rfl
def xLQ (a0 : List Exp) (a1 : Int) : rE I43 (xBQ a0 a1) [] [] = st 2 I43 (xIB a0 a1 0) [] := by kernel_rfl
theorem xOV {N q0} (g0 : G43 q0) : ∀ n x0 x1 x5 r, xB9 N q0 n x0 x1 x5 = some r → RS Try.f43 I43 2 (xIB x0 x1 x5) (xBc r) := by
 intro n
 induction n with
 | zero => exact fun _ _ _ _ h => nE h
 | succ n ih =>
  exact fun x0 x1 x5 r h =>
   cE h (fun h0 h => iE h fun h1 h => iE h fun h2 h => bE h fun r1 h3 h => iE h fun h4 h => iE h fun h5 h => bE h fun r2 h6 h => iE h fun h8 h => tS fk43 (xLO x0 x1 x5 r1 r2) (oc9 h0 h1 h2 (xDz h3) h4 h5 (g0 _ _ _ h6) rfl h8 on) (ih _ _ _ _ h)) fun h0 h =>
   dS h fk43 (xLP x0 x1 x5) (oc h0 on)
theorem xOW {N q0} (g0 : G43 q0) : ∀ a0 a1 r, xDH N q0 a0 a1 = some r → RE Try.f43 I43 (xBQ a0 a1) (xBc r) := fun a0 a1 r h =>
 tE fk43 (xLQ a0 a1) on (xOV g0 _ _ _ _ _ h)
theorem xFi {N q0} (g0 : G43 q0) {a0} {a1} {r} (h : xDH N q0 a0 a1 = some r) : AbC 43 (xBQ a0 a1) (xBc r) :=
 AbsCalls.of_reach fk43 rfl rfl rfl (Nat.le_of_ble_eq_true rfl) (xOW g0 a0 a1 r h)
theorem xEb {N : Nat} : ∀ d, G43 (xCx N d)
 | 0 => fun _ _ _ h => nE h
 | d + 1 => fun _ _ _ h => xFi (N := N) (xEb d) h
theorem xGd {N : Nat} {a0 : List Exp} {a1 : Int} {r : Int × (List Exp)} (h : xEQ N a0 a1 = some r) : AbC 43 (xBQ a0 a1) (xBc r) := xEb N _ _ r h
noncomputable def I15 : Info := { body := (Try.f15.body).getD .skip, nt := 10, results := [.tmp 4], keep := [0, 2, 4, 8, 5], live := [], modes := [(1, [(1, .ref, false), (3, .ref, false)])], lnt := [(5, 3)] }
theorem fk15 : FnOk Try.prog 15 Try.f15 I15 := ⟨Try.func15, by kernel_rfl, by kernel_rfl, by kernel_rfl, by kernel_rfl⟩
abbrev xFI (v0 : Int × (List Exp)) (v1 : Exp) : Prop := Ln v0.2 = Ln (Exp.args v1)
def xKQ (a0 : Exp) (a1 : Int) (r1 : Int × (List Exp)) : rE I15 (xC5 a0 a1) [] [xBc r1] = dn (xAw (r1.1, r1.2)) [AbC 43 (xBQ (Exp.args a0) a1) (xBc r1), xFI r1 a0] := by kernel_rfl
theorem xOE {N : Nat} : ∀ a0 a1 r, xDr N a0 a1 = some r → RE Try.f15 I15 (xC5 a0 a1) (xAw r) := fun a0 a1 r h =>
 bE h fun r1 h0 h => iE h fun h1 h => dE h fk15 (xKQ a0 a1 r1) (oc2 (xGd h0) h1 on)
theorem xAH {N : Nat} {a0 : Exp} {a1 : Int} {r : Int × (List Exp)} (h : xDr N  a0 a1 = some r) : AbC 15 (xC5 a0 a1) (xAw r) :=
 AbsCalls.of_reach fk15 rfl rfl rfl (Nat.le_of_ble_eq_true rfl) (xOE a0 a1 r h)
end Go.Ab.T
end
section
open Go.Proofs
namespace Go.Ab.T
set_option maxRecDepth 100000
variable [Inhabited Lb]
def G55 (q : Exp → Int → Option (Int)) : Prop := ∀ a0 a1 r, q a0 a1 = some r → AbC 55 (xBK a0 a1) (xAR r)
noncomputable def I55 : Info := { body := (Try.f55.body).getD .skip, nt := 27, results := [.tmp 4], keep := [0, 2, 4, 8, 10, 32, 5], live := [(3, [2, 4, 10, 5])], modes := [(3, [(5, .take, false)])] }
theorem fk55 : FnOk Try.prog 55 Try.f55 I55 := ⟨Try.func55, by kernel_rfl, by kernel_rfl, by kernel_rfl, by kernel_rfl⟩
def xIq (x1 x5 : Int) (b2 : Exp) : St := [(2, .v false [.int .i64 x1]), (4, .v false [.ptr 2 0]), (10, .v false [.int .i64 x5]), (5, .v true [.int .i64 (Exp.kind b2), .int .i64 (Exp.n b2), .str (Exp.text b2), .sl .ro .exp (Exp.args b2)])]
def xMb (x1 x5 : Int) (b2 : Exp) (r1 : Int) : rS 3 I55 (xIq x1 x5 b2) [Y, Y] [xAR r1] = st 3 I55 (xIq r1 (W (x5 + 1)) b2) [xEz x5 b2, iY (dc (x1 ≥ 0)), xEF x5 b2, AbC 55 (xBK (xFs b2 x5) x1) (xAR r1)] := by kernel_rfl
def xMc (x1 x5 : Int) (b2 : Exp) : rS 3 I55 (xIq x1 x5 b2) [Y, F] [] = dn (xAR x1) [xEz x5 b2, iN (dc (x1 ≥ 0))] := by kernel_rfl
def xMd (x1 x5 : Int) (b2 : Exp) : rS 3 I55 (xIq x1 x5 b2) [F, F] [] = dn (xAR x1) [xGO x5 b2, iN false] := by kernel_rfl
def xMe (a0 : Exp) (a1 : Int) : rE I55 (xBK a0 a1) [] [] = st 3 I55 (xIq (W (a1 - 1)) 0 a0) [] := by kernel_rfl
theorem xO3 {N q0} (g0 : G55 q0) : ∀ n x1 x5 b2 r, xBU N q0 n x1 x5 b2 = some r → RS Try.f55 I55 3 (xIq x1 x5 b2) (xAR r) := by
 intro n
 induction n with
 | zero => exact fun _ _ _ _ h => nE h
 | succ n ih =>
  exact fun x1 x5 b2 r h =>
   cE h (fun h0 h => cE h (fun h1 h => iE h fun h2 h => bE h fun r1 h3 h => tS fk55 (xMb x1 x5 b2 r1) (oc4 h0 h1 h2 (g0 _ _ _ h3) on) (ih _ _ _ _ h)) fun h1 h =>
   dS h fk55 (xMc x1 x5 b2) (oc2 h0 h1 on)) fun h0 h =>
   dS h fk55 (xMd x1 x5 b2) (oc2 h0 rfl on)
theorem xO4 {N q0} (g0 : G55 q0) : ∀ a0 a1 r, xD5 N q0 a0 a1 = some r → RE Try.f55 I55 (xBK a0 a1) (xAR r) := fun a0 a1 r h =>
 tE fk55 (xMe a0 a1) on (xO3 g0 _ _ _ _ _ h)
theorem xFF {N q0} (g0 : G55 q0) {a0} {a1} {r} (h : xD5 N q0 a0 a1 = some r) : AbC 55 (xBK a0 a1) (xAR r) :=
 AbsCalls.of_reach fk55 rfl rfl rfl (Nat.le_of_ble_eq_true rfl) (xO4 g0 a0 a1 r h)
theorem xEC {N : Nat} : ∀ d, G55 (xCt N d)
 | 0 => fun _ _ _ h => nE h
 | d + 1 => fun _ _ _ h => xFF (N := N) (xEC d) h
theorem xED {N : Nat} {a0 : Exp} {a1 : Int} {r : Int} (h : xFv N a0 a1 = some r) : AbC 55 (xBK a0 a1) (xAR r) := xEC N _ _ r h
noncomputable def I73 : Info := { body := (Try.f73.body).getD .skip, nt := 10, results := [.tmp 4], keep := [0, 2, 8, 14], live := [], modes := [] }
theorem fk73 : FnOk Try.prog 73 Try.f73 I73 := ⟨Try.func73, by kernel_rfl, by kernel_rfl, by kernel_rfl, by kernel_rfl⟩
def xM5 (a0 a1 : Int) : rE I73 (xDV a0 a1) [Y] [] = dn (xDu a0) [iY (dc (a0 > a1))] := by kernel_rfl
def xM6 (a0 a1 : Int) : rE I73 (xDV a0 a1) [F] [] = dn (xDu a1) [iN (dc (a0 > a1))] := by kernel_rfl
theorem xPp {N : Nat} : ∀ a0 a1 r, xE3 N a0 a1 = some r → RE Try.f73 I73 (xDV a0 a1) (xDu r) := fun a0 a1 r h =>
 cE h (fun h0 h => dE h fk73 (xM5 a0 a1) (oc h0 on)) fun h0 h =>
 dE h fk73 (xM6 a0 a1) (oc h0 on)
theorem xHb {N : Nat} {a0 : Int} {a1 : Int} {r : Int} (h : xE3 N  a0 a1 = some r) : AbC 73 (xDV a0 a1) (xDu r) :=
 AbsCalls.of_reach fk73 rfl rfl rfl (Nat.le_of_ble_eq_true rfl) (xPp a0 a1 r h)
def G56 (q : Exp → Option (Int)) : Prop := ∀ a0 r, q a0 = some r → AbC 56 (xBE a0) (xAV r)
noncomputable def I56 : Info := { body := (Try.f56.body).getD .skip, nt := 22, results := [.tmp 2], keep := [0, 2, 4, 6, 8, 18, 3], live := [(3, [2, 6, 8, 3])], modes := [] }
theorem fk56 : FnOk Try.prog 56 Try.f56 I56 := ⟨Try.func56, by kernel_rfl, by kernel_rfl, by kernel_rfl, by kernel_rfl⟩
def xID (x3 x4 : Int) (b1 : Exp) : St := [(2, .v false [.ptr 1 0]), (6, .v false [.int .i64 x3]), (8, .v false [.int .i64 x4]), (3, .v true [.int .i64 (Exp.kind b1), .int .i64 (Exp.n b1), .str (Exp.text b1), .sl .ro .exp (Exp.args b1)])]
def xMf (x3 x4 : Int) (b1 : Exp) (r1 r2 : Int) : rS 3 I56 (xID x3 x4 b1) [Y] [xAV r1, xDu r2] = st 3 I56 (xID r2 (W (x4 + 1)) b1) [xEz x4 b1, xEF x4 b1, AbC 56 (xBE (xFs b1 x4)) (xAV r1), AbC 73 (xDV x3 r1) (xDu r2)] := by kernel_rfl
def xMg (x3 x4 : Int) (b1 : Exp) : rS 3 I56 (xID x3 x4 b1) [F] [] = dn (xAV (W (x3 + 1))) [xGO x4 b1] := by kernel_rfl
def xMh (a0 : Exp) : rE I56 (xBE a0) [] [] = st 3 I56 (xID 0 0 a0) [] := by kernel_rfl
theorem xO5 {N q0} (g0 : G56 q0) : ∀ n x3 x4 b1 r, xCa N q0 n x3 x4 b1 = some r → RS Try.f56 I56 3 (xID x3 x4 b1) (xAV r) := by
 intro n
 induction n with
 | zero => exact fun _ _ _ _ h => nE h
 | succ n ih =>
  exact fun x3 x4 b1 r h =>
   cE h (fun h0 h => iE h fun h1 h => bE h fun r1 h2 h => bE h fun r2 h3 h => tS fk56 (xMf x3 x4 b1 r1 r2) (oc4 h0 h1 (g0 _ _ h2) (xHb h3) on) (ih _ _ _ _ h)) fun h0 h =>
   dS h fk56 (xMg x3 x4 b1) (oc h0 on)
theorem xO6 {N q0} (g0 : G56 q0) : ∀ a0 r, xDJ N q0 a0 = some r → RE Try.f56 I56 (xBE a0) (xAV r) := fun a0 r h =>
 tE fk56 (xMh a0) on (xO5 g0 _ _ _ _ _ h)
theorem xFj {N q0} (g0 : G56 q0) {a0} {r} (h : xDJ N q0 a0 = some r) : AbC 56 (xBE a0) (xAV r) :=
 AbsCalls.of_reach fk56 rfl rfl rfl (Nat.le_of_ble_eq_true rfl) (xO6 g0 a0 r h)
theorem xEd {N : Nat} : ∀ d, G56 (xCB N d)
 | 0 => fun _ _ h => nE h
 | d + 1 => fun _ _ h => xFj (N := N) (xEd d) h
theorem xE1 {N : Nat} {a0 : Exp} {r : Int} (h : xEU N a0 = some r) : AbC 56 (xBE a0) (xAV r) := xEd N _ r h
noncomputable def I86 : Info := { body := (Try.f86.body).getD .skip, nt := 15, results := [.tmp 6], keep := [0, 2, 4, 12], live := [], modes := [(1, [(3, .take, false)])] }
theorem fk86 : FnOk Try.prog 86 Try.f86 I86 := ⟨Try.func86, by kernel_rfl, by kernel_rfl, by kernel_rfl, by kernel_rfl⟩
def xNE (a0 a1 a2 : Int) : rE I86 (xDN a0 a1 a2) [Y] [] = dn (xCY (dc (a0 ≤ a2))) [iY (dc (a0 ≥ a1))] := by kernel_rfl
def xNF (a0 a1 a2 : Int) : rE I86 (xDN a0 a1 a2) [F] [] = dn (xCY false) [iN (dc (a0 ≥ a1))] := by kernel_rfl
theorem xPv {N : Nat} : ∀ a0 a1 a2 r, xE2 N a0 a1 a2 = some r → RE Try.f86 I86 (xDN a0 a1 a2) (xCY r) := fun a0 a1 a2 r h =>
 cE h (fun h0 h => dE h fk86 (xNE a0 a1 a2) (oc h0 on)) fun h0 h =>
 dE h fk86 (xNF a0 a1 a2) (oc h0 on)
theorem xGk {N : Nat} {a0 : Int} {a1 : Int} {a2 : Int} {r : Bool} (h : xE2 N  a0 a1 a2 = some r) : AbC 86 (xDN a0 a1 a2) (xCY r) :=
 AbsCalls.of_reach fk86 rfl rfl rfl (Nat.le_of_ble_eq_true rfl) (xPv a0 a1 a2 r h)
noncomputable def I87 : Info := { body := (Try.f87.body).getD .skip, nt := 29, results := [.tmp 2], keep := [0, 4, 6, 14, 50], live := [(2, [0, 6])], modes := [(4, [(4, .take, false), (10, .take, false)])] }
theorem fk87 : FnOk Try.prog 87 Try.f87 I87 := ⟨Try.func87, by kernel_rfl, by kernel_rfl, by kernel_rfl, by kernel_rfl⟩
def xHc (x0 : Str) (x3 : Int) : St := [(0, .v false [.str x0]), (6, .v false [.int .i64 x3])]
abbrev xCy (v0 : Int) (v1 : Str) : Prop := iY (dc (v0 < (Ln v1 : Int)))
abbrev xAD (v0 : Int) (v1 : Str) : Prop := (0 : Int) ≤ v0 ∧ v0 < (Ln v1)
abbrev xHH (v0 : Str) (v1 : Int) := dc ((((gD v0 (tN v1) 0).toNat : Int) : Int) < 32)
def xNG (x0 : Str) (x3 : Int) : rS 2 I87 (xHc x0 x3) [Y, Y, Y, Y] [] = dn (xA7 false) [xCy x3 x0, xAD x3 x0, iY (xHH x0 x3), iY true, iY true] := by kernel_rfl
abbrev xGP (v0 : Str) (v1 : Int) : Prop := iN (xHH v0 v1)
abbrev xHI (v0 : Str) (v1 : Int) := dc ((((gD v0 (tN v1) 0).toNat : Int) : Int) > 126)
def xNH (x0 : Str) (x3 : Int) : rS 2 I87 (xHc x0 x3) [Y, F, Y, Y] [] = dn (xA7 false) [xCy x3 x0, xAD x3 x0, xGP x0 x3, xAD x3 x0, iY (xHI x0 x3), iY true] := by kernel_rfl
abbrev xH1 (v0 : Str) (v1 : Int) : Prop := iN (xHI v0 v1)
abbrev xG4 (v0 : Str) (v1 : Int) := (((gD v0 (tN v1) 0).toNat : Int) : Int) == 34
def xNI (x0 : Str) (x3 : Int) : rS 2 I87 (xHc x0 x3) [Y, F, F, Y] [] = dn (xA7 false) [xCy x3 x0, xAD x3 x0, xGP x0 x3, xAD x3 x0, xH1 x0 x3, xAD x3 x0, iY (xG4 x0 x3)] := by kernel_rfl
def xNJ (x0 : Str) (x3 : Int) : rS 2 I87 (xHc x0 x3) [Y, F, F, F] [] = st 2 I87 (xHc x0 (W (x3 + 1))) [xCy x3 x0, xAD x3 x0, xGP x0 x3, xAD x3 x0, xH1 x0 x3, xAD x3 x0, iN (xG4 x0 x3)] := by kernel_rfl
def xNK (x0 : Str) (x3 : Int) : rS 2 I87 (xHc x0 x3) [F] [] = dn (xA7 (dc ((Ln x0 : Int) ≤ 20))) [iN (dc (x3 < (Ln x0 : Int)))] := by kernel_rfl
def xNL (a0 : Str) : rE I87 (xC0 a0) [] [] = st 2 I87 (xHc a0 0) [] := by kernel_rfl
theorem xPw {N : Nat} : ∀ n x0 x3 r, xBn N n x0 x3 = some r → RS Try.f87 I87 2 (xHc x0 x3) (xA7 r) := by
 intro n
 induction n with
 | zero => exact fun _ _ _ h => nE h
 | succ n ih =>
  exact fun x0 x3 r h =>
   cE h (fun h0 h => iE h fun h1 h => cE h (fun h2 h => dS h fk87 (xNG x0 x3) (oc5 h0 h1 h2 rfl rfl on)) fun h2 h =>
   cE h (fun h4 h => dS h fk87 (xNH x0 x3) (oc6 h0 h1 h2 h1 h4 rfl on)) fun h4 h =>
   cE h (fun h6 h => dS h fk87 (xNI x0 x3) (oc7 h0 h1 h2 h1 h4 h1 h6 on)) fun h6 h =>
   tS fk87 (xNJ x0 x3) (oc7 h0 h1 h2 h1 h4 h1 h6 on) (ih _ _ _ h)) fun h0 h =>
   dS h fk87 (xNK x0 x3) (oc h0 on)
theorem xPx {N : Nat} : ∀ a0 r, xDA N a0 = some r → RE Try.f87 I87 (xC0 a0) (xA7 r) := fun a0 r h =>
 tE fk87 (xNL a0) on (xPw _ _ _ _ h)
theorem xFU {N : Nat} {a0 : Str} {r : Bool} (h : xDA N  a0 = some r) : AbC 87 (xC0 a0) (xA7 r) :=
 AbsCalls.of_reach fk87 rfl rfl rfl (Nat.le_of_ble_eq_true rfl) (xPx a0 r h)
noncomputable def I58 : Info := { body := (Try.f58.body).getD .skip, nt := 45, results := [.tmp 2], keep := [0, 4, 6, 8, 10, 18, 82], live := [(2, [0, 6])], modes := [(4, [(4, .take, false)]), (5, [(4, .take, false)]), (6, [(0, .take, false), (2, .take, false), (5, .take, false), (6, .take, false)])] }
theorem fk58 : FnOk Try.prog 58 Try.f58 I58 := ⟨Try.func58, by kernel_rfl, by kernel_rfl, by kernel_rfl, by kernel_rfl⟩
def xE6 (x0 : Str) (x3 : Int) : St := [(0, .v false [.str x0]), (6, .v false [.int .i64 x3])]
abbrev xGe (v0 : Str) (v1 : Int) := (((gD v0 (tN v1) 0).toNat : Int) : Int)
abbrev xFa (v0 : Str) (v1 : Int) : Prop := iY (dc ((xGe v0 v1) ≥ 97))
abbrev xGA (v0 : Str) (v1 : Int) : Prop := iY (dc ((xGe v0 v1) ≥ 48))
abbrev xF5 (v0 : Str) (v1 : Int) : Prop := iY (!(dc ((xGe v0 v1) ≤ 122)))
def xMm (x0 : Str) (x3 : Int) : rS 2 I58 (xE6 x0 x3) [Y, Y, Y, Y, Y, Y] [] = dn (xAE false) [xCy x3 x0, xAD x3 x0, xFa x0 x3, xAD x3 x0, xAD x3 x0, xGA x0 x3, xAD x3 x0, xF5 x0 x3, iY (x3 == 0), iY true] := by kernel_rfl
abbrev xFb (v0 : Int) : Prop := iN (v0 == 0)
abbrev xG5 (v0 : Str) (v1 : Int) := dc ((((gD v0 (tN v1) 0).toNat : Int) : Int) ≤ 57)
def xMn (x0 : Str) (x3 : Int) : rS 2 I58 (xE6 x0 x3) [Y, Y, Y, Y, F, Y] [] = dn (xAE false) [xCy x3 x0, xAD x3 x0, xFa x0 x3, xAD x3 x0, xAD x3 x0, xGA x0 x3, xAD x3 x0, xF5 x0 x3, xFb x3, iY (!(xG5 x0 x3))] := by kernel_rfl
def xMo (x0 : Str) (x3 : Int) : rS 2 I58 (xE6 x0 x3) [Y, Y, Y, Y, F, F] [] = st 2 I58 (xE6 x0 (W (x3 + 1))) [xCy x3 x0, xAD x3 x0, xFa x0 x3, xAD x3 x0, xAD x3 x0, xGA x0 x3, xAD x3 x0, xF5 x0 x3, xFb x3, iN (!(xG5 x0 x3))] := by kernel_rfl
abbrev xIY (v0 : Str) (v1 : Int) : Prop := iN (!(dc ((xGe v0 v1) ≤ 122)))
def xMp (x0 : Str) (x3 : Int) : rS 2 I58 (xE6 x0 x3) [Y, Y, Y, F, F] [] = st 2 I58 (xE6 x0 (W (x3 + 1))) [xCy x3 x0, xAD x3 x0, xFa x0 x3, xAD x3 x0, xAD x3 x0, xGA x0 x3, xAD x3 x0, xIY x0 x3, iN false] := by kernel_rfl
abbrev xHj (v0 : Str) (v1 : Int) : Prop := iN (dc ((xGe v0 v1) ≥ 48))
def xMq (x0 : Str) (x3 : Int) : rS 2 I58 (xE6 x0 x3) [Y, Y, F, Y, Y, Y] [] = dn (xAE false) [xCy x3 x0, xAD x3 x0, xFa x0 x3, xAD x3 x0, xAD x3 x0, xHj x0 x3, xF5 x0 x3, iY (x3 == 0), iY true] := by kernel_rfl
def xMr (x0 : Str) (x3 : Int) : rS 2 I58 (xE6 x0 x3) [Y, Y, F, Y, F, Y] [] = dn (xAE false) [xCy x3 x0, xAD x3 x0, xFa x0 x3, xAD x3 x0, xAD x3 x0, xHj x0 x3, xF5 x0 x3, xFb x3, iY (!false)] := by kernel_rfl
def xMs (x0 : Str) (x3 : Int) : rS 2 I58 (xE6 x0 x3) [Y, Y, F, F, F] [] = st 2 I58 (xE6 x0 (W (x3 + 1))) [xCy x3 x0, xAD x3 x0, xFa x0 x3, xAD x3 x0, xAD x3 x0, xHj x0 x3, xIY x0 x3, iN false] := by kernel_rfl
abbrev xF6 (v0 : Str) (v1 : Int) : Prop := iN (dc ((xGe v0 v1) ≥ 97))
def xMt (x0 : Str) (x3 : Int) : rS 2 I58 (xE6 x0 x3) [Y, F, Y, Y, Y, Y] [] = dn (xAE false) [xCy x3 x0, xAD x3 x0, xF6 x0 x3, xAD x3 x0, xGA x0 x3, xAD x3 x0, iY (!false), iY (x3 == 0), iY true] := by kernel_rfl
def xMu (x0 : Str) (x3 : Int) : rS 2 I58 (xE6 x0 x3) [Y, F, Y, Y, F, Y] [] = dn (xAE false) [xCy x3 x0, xAD x3 x0, xF6 x0 x3, xAD x3 x0, xGA x0 x3, xAD x3 x0, iY (!false), xFb x3, iY (!(xG5 x0 x3))] := by kernel_rfl
def xMv (x0 : Str) (x3 : Int) : rS 2 I58 (xE6 x0 x3) [Y, F, Y, Y, F, F] [] = st 2 I58 (xE6 x0 (W (x3 + 1))) [xCy x3 x0, xAD x3 x0, xF6 x0 x3, xAD x3 x0, xGA x0 x3, xAD x3 x0, iY (!false), xFb x3, iN (!(xG5 x0 x3))] := by kernel_rfl
def xJp (x0 : Str) (x3 : Int) : rS 2 I58 (xE6 x0 x3) [Y, F, F, Y, Y, Y] [] = dn (xAE false) [xCy x3 x0, xAD x3 x0, xF6 x0 x3, xAD x3 x0, xHj x0 x3, iY (!false), iY (x3 == 0), iY true] := by kernel_rfl
def xJq (x0 : Str) (x3 : Int) : rS 2 I58 (xE6 x0 x3) [Y, F, F, Y, F, Y] [] = dn (xAE false) [xCy x3 x0, xAD x3 x0, xF6 x0 x3, xAD x3 x0, xHj x0 x3, iY (!false), xFb x3, iY (!false)] := by kernel_rfl
def xJr (x0 : Str) (x3 : Int) : rS 2 I58 (xE6 x0 x3) [F] [] = dn (xAE (dc ((Ln x0 : Int) > 0))) [iN (dc (x3 < (Ln x0 : Int)))] := by kernel_rfl
def xJs (a0 : Str) : rE I58 (xCV a0) [] [] = st 2 I58 (xE6 a0 0) [] := by kernel_rfl
theorem xO9 {N : Nat} : ∀ n x0 x3 r, xBz N n x0 x3 = some r → RS Try.f58 I58 2 (xE6 x0 x3) (xAE r) := by
 intro n
 induction n with
 | zero => exact fun _ _ _ h => nE h
 | succ n ih =>
  exact fun x0 x3 r h =>
   cE h (fun h0 h => iE h fun h1 h => cE h (fun h2 h => cE h (fun h5 h => cE h (fun h7 h => cE h (fun h8 h => dS h fk58 (xMm x0 x3) (oc10 h0 h1 h2 h1 h1 h5 h1 h7 h8 rfl on)) fun h8 h =>
   cE h (fun h9 h => dS h fk58 (xMn x0 x3) (oc10 h0 h1 h2 h1 h1 h5 h1 h7 h8 h9 on)) fun h9 h =>
   tS fk58 (xMo x0 x3) (oc10 h0 h1 h2 h1 h1 h5 h1 h7 h8 h9 on) (ih _ _ _ h)) fun h7 h =>
   tS fk58 (xMp x0 x3) (oc9 h0 h1 h2 h1 h1 h5 h1 h7 rfl on) (ih _ _ _ h)) fun h5 h =>
   cE h (fun h6 h => cE h (fun h7 h => dS h fk58 (xMq x0 x3) (oc9 h0 h1 h2 h1 h1 h5 h6 h7 rfl on)) fun h7 h =>
   dS h fk58 (xMr x0 x3) (oc9 h0 h1 h2 h1 h1 h5 h6 h7 rfl on)) fun h6 h =>
   tS fk58 (xMs x0 x3) (oc8 h0 h1 h2 h1 h1 h5 h6 rfl on) (ih _ _ _ h)) fun h2 h =>
   cE h (fun h4 h => cE h (fun h7 h => dS h fk58 (xMt x0 x3) (oc9 h0 h1 h2 h1 h4 h1 rfl h7 rfl on)) fun h7 h =>
   cE h (fun h8 h => dS h fk58 (xMu x0 x3) (oc9 h0 h1 h2 h1 h4 h1 rfl h7 h8 on)) fun h8 h =>
   tS fk58 (xMv x0 x3) (oc9 h0 h1 h2 h1 h4 h1 rfl h7 h8 on) (ih _ _ _ h)) fun h4 h =>
   cE h (fun h6 h => dS h fk58 (xJp x0 x3) (oc8 h0 h1 h2 h1 h4 rfl h6 rfl on)) fun h6 h =>
   dS h fk58 (xJq x0 x3) (oc8 h0 h1 h2 h1 h4 rfl h6 rfl on)) fun h0 h =>
   dS h fk58 (xJr x0 x3) (oc h0 on)
theorem xPa {N : Nat} : ∀ a0 r, xEM N a0 = some r → RE Try.f58 I58 (xCV a0) (xAE r) := fun a0 r h =>
 tE fk58 (xJs a0) on (xO9 _ _ _ _ h)
theorem xEE {N : Nat} {a0 : Str} {r : Bool} (h : xEM N  a0 = some r) : AbC 58 (xCV a0) (xAE r) :=
 AbsCalls.of_reach fk58 rfl rfl rfl (Nat.le_of_ble_eq_true rfl) (xPa a0 r h)
noncomputable def I75 : Info := { body := (Try.f75.body).getD .skip, nt := 2, results := [.tmp 0], keep := [0], live := [], modes := [] }
theorem fk75 : FnOk Try.prog 75 Try.f75 I75 := ⟨Try.func75, by kernel_rfl, by kernel_rfl, by kernel_rfl, by kernel_rfl⟩
def xNh : rE I75 (xDf ) [] [] = dn (xCD [[108, 101, 116], [105, 110], [105, 102], [116, 104, 101, 110], [101, 108, 115, 101], [102, 111, 114], [100, 111], [108, 101, 110], [115, 117, 109], [116, 97, 107, 101], [115, 107, 105, 112], [114, 97, 110, 103, 101], [110, 116, 104], [119, 104, 101, 114, 101], [107, 101, 101, 112], [97, 100, 100], [103, 114, 111, 117, 112], [106, 111, 105, 110], [99, 111, 108, 117, 109, 110], [114, 111, 119, 115], [99, 108, 111, 99, 107], [99, 104, 97, 110, 99, 101], [102, 105, 108, 101], [116, 97, 98, 108, 101]]) [] := by kernel_rfl
theorem xPr {N : Nat} : ∀ r, xDW N = some r → RE Try.f75 I75 (xDf ) (xCD r) := fun r h =>
 dE h fk75 (xNh) on
theorem xGc {N : Nat} {r : (List Str)} (h : xDW N   = some r) : AbC 75 (xDf ) (xCD r) :=
 AbsCalls.of_reach fk75 rfl rfl rfl (Nat.le_of_ble_eq_true rfl) (xPr  r h)
noncomputable def I59 : Info := { body := (Try.f59.body).getD .skip, nt := 6, results := [.tmp 2], keep := [0, 4], live := [], modes := [] }
theorem fk59 : FnOk Try.prog 59 Try.f59 I59 := ⟨Try.func59, by kernel_rfl, by kernel_rfl, by kernel_rfl, by kernel_rfl⟩
def xMw (a0 : Str) (r1 : (List Str)) (r2 : Bool) : rE I59 (xDe a0) [] [xCD r1, xA8 r2] = dn (xCA r2) [AbC 75 xDf (xCD r1), AbC 54 (xCC r1 a0) (xA8 r2)] := by kernel_rfl
theorem xPb {N : Nat} : ∀ a0 r, xDn N a0 = some r → RE Try.f59 I59 (xDe a0) (xCA r) := fun a0 r h =>
 bE h fun r1 h0 h => bE h fun r2 h1 h => dE h fk59 (xMw a0 r1 r2) (oc2 (xGc h0) (xDU h1) on)
theorem xF9 {N : Nat} {a0 : Str} {r : Bool} (h : xDn N  a0 = some r) : AbC 59 (xDe a0) (xCA r) :=
 AbsCalls.of_reach fk59 rfl rfl rfl (Nat.le_of_ble_eq_true rfl) (xPb a0 r h)
noncomputable def I38 : Info := { body := (Try.f38.body).getD .skip, nt := 15, results := [.tmp 2], keep := [0, 4], live := [], modes := [(1, [(2, .take, false), (7, .take, false)])] }
theorem fk38 : FnOk Try.prog 38 Try.f38 I38 := ⟨Try.func38, by kernel_rfl, by kernel_rfl, by kernel_rfl, by kernel_rfl⟩
def xLn (a0 : Str) (r1 r2 : Bool) : rE I38 (xA6 a0) [Y, Y] [xAE r1, xCA r2] = dn (xAt (!r2)) [AbC 58 (xCV a0) (xAE r1), iY r1, iY (dc ((Ln a0 : Int) ≤ 8)), AbC 59 (xDe a0) (xCA r2)] := by kernel_rfl
def xLo (a0 : Str) (r1 : Bool) : rE I38 (xA6 a0) [Y, F] [xAE r1] = dn (xAt false) [AbC 58 (xCV a0) (xAE r1), iY r1, iN (dc ((Ln a0 : Int) ≤ 8))] := by kernel_rfl
def xLp (a0 : Str) (r1 : Bool) : rE I38 (xA6 a0) [F, F] [xAE r1] = dn (xAt false) [AbC 58 (xCV a0) (xAE r1), iN r1, iN false] := by kernel_rfl
theorem xOQ {N : Nat} : ∀ a0 r, xBB N a0 = some r → RE Try.f38 I38 (xA6 a0) (xAt r) := fun a0 r h =>
 bE h fun r1 h0 h => cE h (fun h1 h => cE h (fun h2 h => bE h fun r2 h3 h => dE h fk38 (xLn a0 r1 r2) (oc4 (xEE h0) h1 h2 (xF9 h3) on)) fun h2 h =>
 dE h fk38 (xLo a0 r1) (oc3 (xEE h0) h1 h2 on)) fun h1 h =>
 dE h fk38 (xLp a0 r1) (oc3 (xEE h0) h1 rfl on)
theorem xA0 {N : Nat} {a0 : Str} {r : Bool} (h : xBB N  a0 = some r) : AbC 38 (xA6 a0) (xAt r) :=
 AbsCalls.of_reach fk38 rfl rfl rfl (Nat.le_of_ble_eq_true rfl) (xOQ a0 r h)
noncomputable def I88 : Info := { body := (Try.f88.body).getD .skip, nt := 26, results := [.tmp 2], keep := [0, 4, 6, 8, 12, 24, 40, 48], live := [], modes := [] }
theorem fk88 : FnOk Try.prog 88 Try.f88 I88 := ⟨Try.func88, by kernel_rfl, by kernel_rfl, by kernel_rfl, by kernel_rfl⟩
abbrev xHJ (v0 : Str) := (v0 : Str) == [99, 108, 111, 99, 107]
def xNM (a0 : Str) : rE I88 (xAm a0) [Y] [] = dn (xAi 0) [iY (xHJ a0)] := by kernel_rfl
abbrev xBX (v0 : Str) : Prop := iN (xHJ v0)
abbrev xH2 (v0 : Str) : Prop := iY ((v0 : Str) == [108, 101, 110])
def xNN (a0 : Str) : rE I88 (xAm a0) [F, Y, Y] [] = dn (xAi 1) [xBX a0, xH2 a0, xH2 a0] := by kernel_rfl
abbrev xB5 (v0 : Str) : Prop := iN ((v0 : Str) == [108, 101, 110])
abbrev xH3 (v0 : Str) : Prop := iY ((v0 : Str) == [115, 117, 109])
def xNO (a0 : Str) : rE I88 (xAm a0) [F, F, Y, Y] [] = dn (xAi 1) [xBX a0, xB5 a0, xH3 a0, xH3 a0] := by kernel_rfl
abbrev xCo (v0 : Str) : Prop := iN ((v0 : Str) == [115, 117, 109])
abbrev xH4 (v0 : Str) : Prop := iY ((v0 : Str) == [114, 111, 119, 115])
def xNP (a0 : Str) : rE I88 (xAm a0) [F, F, F, Y, Y] [] = dn (xAi 1) [xBX a0, xB5 a0, xCo a0, xH4 a0, xH4 a0] := by kernel_rfl
abbrev xCH (v0 : Str) : Prop := iN ((v0 : Str) == [114, 111, 119, 115])
abbrev xH5 (v0 : Str) : Prop := iY ((v0 : Str) == [99, 104, 97, 110, 99, 101])
def xNQ (a0 : Str) : rE I88 (xAm a0) [F, F, F, F, Y, Y] [] = dn (xAi 1) [xBX a0, xB5 a0, xCo a0, xCH a0, xH5 a0, xH5 a0] := by kernel_rfl
abbrev xCW (v0 : Str) : Prop := iN ((v0 : Str) == [99, 104, 97, 110, 99, 101])
abbrev xHK (v0 : Str) := (v0 : Str) == [102, 105, 108, 101]
def xNR (a0 : Str) : rE I88 (xAm a0) [F, F, F, F, F, Y] [] = dn (xAi 1) [xBX a0, xB5 a0, xCo a0, xCH a0, xCW a0, iY (xHK a0)] := by kernel_rfl
abbrev xDc (v0 : Str) : Prop := iN (xHK v0)
abbrev xH6 (v0 : Str) : Prop := iY ((v0 : Str) == [116, 97, 107, 101])
def xNS (a0 : Str) : rE I88 (xAm a0) [F, F, F, F, F, F, Y, Y] [] = dn (xAi 2) [xBX a0, xB5 a0, xCo a0, xCH a0, xCW a0, xDc a0, xH6 a0, xH6 a0] := by kernel_rfl
abbrev xDv (v0 : Str) : Prop := iN ((v0 : Str) == [116, 97, 107, 101])
abbrev xH7 (v0 : Str) : Prop := iY ((v0 : Str) == [115, 107, 105, 112])
def xNT (a0 : Str) : rE I88 (xAm a0) [F, F, F, F, F, F, F, Y, Y] [] = dn (xAi 2) [xBX a0, xB5 a0, xCo a0, xCH a0, xCW a0, xDc a0, xDv a0, xH7 a0, xH7 a0] := by kernel_rfl
abbrev xDL (v0 : Str) : Prop := iN ((v0 : Str) == [115, 107, 105, 112])
abbrev xH8 (v0 : Str) : Prop := iY ((v0 : Str) == [114, 97, 110, 103, 101])
def xNU (a0 : Str) : rE I88 (xAm a0) [F, F, F, F, F, F, F, F, Y, Y] [] = dn (xAi 2) [xBX a0, xB5 a0, xCo a0, xCH a0, xCW a0, xDc a0, xDv a0, xDL a0, xH8 a0, xH8 a0] := by kernel_rfl
abbrev xDY (v0 : Str) : Prop := iN ((v0 : Str) == [114, 97, 110, 103, 101])
abbrev xH9 (v0 : Str) : Prop := iY ((v0 : Str) == [110, 116, 104])
def xNV (a0 : Str) : rE I88 (xAm a0) [F, F, F, F, F, F, F, F, F, Y, Y] [] = dn (xAi 2) [xBX a0, xB5 a0, xCo a0, xCH a0, xCW a0, xDc a0, xDv a0, xDL a0, xDY a0, xH9 a0, xH9 a0] := by kernel_rfl
abbrev xEq (v0 : Str) : Prop := iN ((v0 : Str) == [110, 116, 104])
abbrev xIa (v0 : Str) : Prop := iY ((v0 : Str) == [107, 101, 101, 112])
def xKa (a0 : Str) : rE I88 (xAm a0) [F, F, F, F, F, F, F, F, F, F, Y, Y] [] = dn (xAi 2) [xBX a0, xB5 a0, xCo a0, xCH a0, xCW a0, xDc a0, xDv a0, xDL a0, xDY a0, xEq a0, xIa a0, xIa a0] := by kernel_rfl
abbrev xEH (v0 : Str) : Prop := iN ((v0 : Str) == [107, 101, 101, 112])
abbrev xIb (v0 : Str) : Prop := iY ((v0 : Str) == [99, 111, 108, 117, 109, 110])
def xKb (a0 : Str) : rE I88 (xAm a0) [F, F, F, F, F, F, F, F, F, F, F, Y, Y] [] = dn (xAi 2) [xBX a0, xB5 a0, xCo a0, xCH a0, xCW a0, xDc a0, xDv a0, xDL a0, xDY a0, xEq a0, xEH a0, xIb a0, xIb a0] := by kernel_rfl
abbrev xFc (v0 : Str) : Prop := iN ((v0 : Str) == [99, 111, 108, 117, 109, 110])
abbrev xHL (v0 : Str) := (v0 : Str) == [116, 97, 98, 108, 101]
def xKc (a0 : Str) : rE I88 (xAm a0) [F, F, F, F, F, F, F, F, F, F, F, F, Y] [] = dn (xAi 2) [xBX a0, xB5 a0, xCo a0, xCH a0, xCW a0, xDc a0, xDv a0, xDL a0, xDY a0, xEq a0, xEH a0, xFc a0, iY (xHL a0)] := by kernel_rfl
abbrev xFJ (v0 : Str) : Prop := iN (xHL v0)
abbrev xIc (v0 : Str) : Prop := iY ((v0 : Str) == [119, 104, 101, 114, 101])
def xKd (a0 : Str) : rE I88 (xAm a0) [F, F, F, F, F, F, F, F, F, F, F, F, F, Y, Y] [] = dn (xAi 3) [xBX a0, xB5 a0, xCo a0, xCH a0, xCW a0, xDc a0, xDv a0, xDL a0, xDY a0, xEq a0, xEH a0, xFc a0, xFJ a0, xIc a0, xIc a0] := by kernel_rfl
abbrev xGi (v0 : Str) : Prop := iN ((v0 : Str) == [119, 104, 101, 114, 101])
abbrev xId (v0 : Str) : Prop := iY ((v0 : Str) == [103, 114, 111, 117, 112])
def xKe (a0 : Str) : rE I88 (xAm a0) [F, F, F, F, F, F, F, F, F, F, F, F, F, F, Y, Y] [] = dn (xAi 3) [xBX a0, xB5 a0, xCo a0, xCH a0, xCW a0, xDc a0, xDv a0, xDL a0, xDY a0, xEq a0, xEH a0, xFc a0, xFJ a0, xGi a0, xId a0, xId a0] := by kernel_rfl
abbrev xGQ (v0 : Str) : Prop := iN ((v0 : Str) == [103, 114, 111, 117, 112])
abbrev xHM (v0 : Str) := (v0 : Str) == [106, 111, 105, 110]
def xKf (a0 : Str) : rE I88 (xAm a0) [F, F, F, F, F, F, F, F, F, F, F, F, F, F, F, Y] [] = dn (xAi 3) [xBX a0, xB5 a0, xCo a0, xCH a0, xCW a0, xDc a0, xDv a0, xDL a0, xDY a0, xEq a0, xEH a0, xFc a0, xFJ a0, xGi a0, xGQ a0, iY (xHM a0)] := by kernel_rfl
abbrev xIe (v0 : Str) : Prop := iN (xHM v0)
abbrev xG6 (v0 : Str) := (v0 : Str) == [97, 100, 100]
def xKg (a0 : Str) : rE I88 (xAm a0) [F, F, F, F, F, F, F, F, F, F, F, F, F, F, F, F, Y] [] = dn (xAi 4) [xBX a0, xB5 a0, xCo a0, xCH a0, xCW a0, xDc a0, xDv a0, xDL a0, xDY a0, xEq a0, xEH a0, xFc a0, xFJ a0, xGi a0, xGQ a0, xIe a0, iY (xG6 a0)] := by kernel_rfl
def xKh (a0 : Str) : rE I88 (xAm a0) [F, F, F, F, F, F, F, F, F, F, F, F, F, F, F, F, F] [] = dn (xAi (-1)) [xBX a0, xB5 a0, xCo a0, xCH a0, xCW a0, xDc a0, xDv a0, xDL a0, xDY a0, xEq a0, xEH a0, xFc a0, xFJ a0, xGi a0, xGQ a0, xIe a0, iN (xG6 a0)] := by kernel_rfl
theorem xPy {N : Nat} : ∀ a0 r, xBg N a0 = some r → RE Try.f88 I88 (xAm a0) (xAi r) := fun a0 r h =>
 cE h (fun h0 h => dE h fk88 (xNM a0) (oc h0 on)) fun h0 h =>
 cE h (fun h1 h => dE h fk88 (xNN a0) (oc3 h0 h1 h1 on)) fun h1 h =>
 cE h (fun h2 h => dE h fk88 (xNO a0) (oc4 h0 h1 h2 h2 on)) fun h2 h =>
 cE h (fun h3 h => dE h fk88 (xNP a0) (oc5 h0 h1 h2 h3 h3 on)) fun h3 h =>
 cE h (fun h4 h => dE h fk88 (xNQ a0) (oc6 h0 h1 h2 h3 h4 h4 on)) fun h4 h =>
 cE h (fun h5 h => dE h fk88 (xNR a0) (oc6 h0 h1 h2 h3 h4 h5 on)) fun h5 h =>
 cE h (fun h6 h => dE h fk88 (xNS a0) (oc8 h0 h1 h2 h3 h4 h5 h6 h6 on)) fun h6 h =>
 cE h (fun h7 h => dE h fk88 (xNT a0) (oc9 h0 h1 h2 h3 h4 h5 h6 h7 h7 on)) fun h7 h =>
 cE h (fun h8 h => dE h fk88 (xNU a0) (oc10 h0 h1 h2 h3 h4 h5 h6 h7 h8 h8 on)) fun h8 h =>
 cE h (fun h9 h => dE h fk88 (xNV a0) (oc11 h0 h1 h2 h3 h4 h5 h6 h7 h8 h9 h9 on)) fun h9 h =>
 cE h (fun h10 h => dE h fk88 (xKa a0) (oc12 h0 h1 h2 h3 h4 h5 h6 h7 h8 h9 h10 h10 on)) fun h10 h =>
 cE h (fun h11 h => dE h fk88 (xKb a0) (oc12 h0 h1 h2 h3 h4 h5 h6 h7 h8 h9 h10 h11 (oc h11 on))) fun h11 h =>
 cE h (fun h12 h => dE h fk88 (xKc a0) (oc12 h0 h1 h2 h3 h4 h5 h6 h7 h8 h9 h10 h11 (oc h12 on))) fun h12 h =>
 cE h (fun h13 h => dE h fk88 (xKd a0) (oc12 h0 h1 h2 h3 h4 h5 h6 h7 h8 h9 h10 h11 (oc3 h12 h13 h13 on))) fun h13 h =>
 cE h (fun h14 h => dE h fk88 (xKe a0) (oc12 h0 h1 h2 h3 h4 h5 h6 h7 h8 h9 h10 h11 (oc4 h12 h13 h14 h14 on))) fun h14 h =>
 cE h (fun h15 h => dE h fk88 (xKf a0) (oc12 h0 h1 h2 h3 h4 h5 h6 h7 h8 h9 h10 h11 (oc4 h12 h13 h14 h15 on))) fun h15 h =>
 cE h (fun h16 h => dE h fk88 (xKg a0) (oc12 h0 h1 h2 h3 h4 h5 h6 h7 h8 h9 h10 h11 (oc5 h12 h13 h14 h15 h16 on))) fun h16 h =>
 dE h fk88 (xKh a0) (oc12 h0 h1 h2 h3 h4 h5 h6 h7 h8 h9 h10 h11 (oc5 h12 h13 h14 h15 h16 on))
theorem xFt {N : Nat} {a0 : Str} {r : Int} (h : xBg N  a0 = some r) : AbC 88 (xAm a0) (xAi r) :=
 AbsCalls.of_reach fk88 rfl rfl rfl (Nat.le_of_ble_eq_true rfl) (xPy a0 r h)
noncomputable def I74 : Info := { body := (Try.f74.body).getD .skip, nt := 120, results := [.tmp 2], keep := [0, 2, 4, 6, 16, 18, 46, 74, 102, 130, 154, 182, 212, 3], live := [], modes := [(4, [(2, .take, false), (7, .take, false)]), (6, [(2, .take, false), (7, .take, false)]), (8, [(2, .take, false), (7, .take, false)]), (10, [(3, .take, false), (8, .take, false)]), (12, [(3, .take, false)]), (14, [(3, .take, false), (7, .take, false)]), (17, [(3, .take, false), (7, .take, false)]), (19, [(3, .take, false), (8, .take, false)])] }
theorem fk74 : FnOk Try.prog 74 Try.f74 I74 := ⟨Try.func74, by kernel_rfl, by kernel_rfl, by kernel_rfl, by kernel_rfl⟩
abbrev xGR (v0 : Exp) : Prop := iY ((Exp.kind v0) == 1)
abbrev xIU (v0 : Exp) := (Ln (Exp.args v0) : Int) == 0
abbrev xGS (v0 : Exp) : Prop := iY (xIU v0)
abbrev xF7 (v0 : Exp) : Prop := iY ((xFT v0) == [])
def xM7 (a0 : Exp) (r1 : Bool) : rE I74 (xAq a0) [Y, Y, Y] [xCY r1] = dn (xAp r1) [xGR a0, xGS a0, xF7 a0, AbC 86 (xDN (Exp.n a0) 0 1000000000) (xCY r1)] := by kernel_rfl
abbrev xGj (v0 : Exp) : Prop := iN ((xFT v0) == [])
def xM8 (a0 : Exp) : rE I74 (xAq a0) [Y, Y, F] [] = dn (xAp false) [xGR a0, xGS a0, xGj a0] := by kernel_rfl
abbrev xI0 (v0 : Exp) : Prop := iN (xIU v0)
def xM9 (a0 : Exp) : rE I74 (xAq a0) [Y, F, F] [] = dn (xAp false) [xGR a0, xI0 a0, iN false] := by kernel_rfl
abbrev xBi (v0 : Exp) : Prop := iN ((Exp.kind v0) == 1)
abbrev xGT (v0 : Exp) : Prop := iY ((Exp.kind v0) == 2)
abbrev xDd (v0 : Exp) : Prop := iY ((Exp.n v0) == 0)
def xNa (a0 : Exp) (r1 : Bool) : rE I74 (xAq a0) [F, Y, Y, Y] [xA7 r1] = dn (xAp r1) [xBi a0, xGT a0, xGS a0, xDd a0, AbC 87 (xC0 (Exp.text a0)) (xA7 r1)] := by kernel_rfl
abbrev xEI (v0 : Exp) : Prop := iN ((Exp.n v0) == 0)
def xNb (a0 : Exp) : rE I74 (xAq a0) [F, Y, Y, F] [] = dn (xAp false) [xBi a0, xGT a0, xGS a0, xEI a0] := by kernel_rfl
def xNc (a0 : Exp) : rE I74 (xAq a0) [F, Y, F, F] [] = dn (xAp false) [xBi a0, xGT a0, xI0 a0, iN false] := by kernel_rfl
abbrev xBC (v0 : Exp) : Prop := iN ((Exp.kind v0) == 2)
def xNd (a0 : Exp) (r1 : Bool) : rE I74 (xAq a0) [F, F, Y, Y, Y] [xAt r1] = dn (xAp r1) [xBi a0, xBC a0, xEy a0, xGS a0, xDd a0, AbC 38 (xA6 (Exp.text a0)) (xAt r1)] := by kernel_rfl
def xNe (a0 : Exp) : rE I74 (xAq a0) [F, F, Y, Y, F] [] = dn (xAp false) [xBi a0, xBC a0, xEy a0, xGS a0, xEI a0] := by kernel_rfl
def xNf (a0 : Exp) : rE I74 (xAq a0) [F, F, Y, F, F] [] = dn (xAp false) [xBi a0, xBC a0, xEy a0, xI0 a0, iN false] := by kernel_rfl
abbrev xGU (v0 : Exp) : Prop := iY ((Exp.kind v0) == 4)
def xNg (a0 : Exp) : rE I74 (xAq a0) [F, F, F, Y, Y, Y] [] = dn (xAp (dc ((xDT a0) ≤ 8))) [xBi a0, xBC a0, xBw a0, xGU a0, xDd a0, xF7 a0] := by kernel_rfl
def xJu (a0 : Exp) : rE I74 (xAq a0) [F, F, F, Y, Y, F] [] = dn (xAp false) [xBi a0, xBC a0, xBw a0, xGU a0, xDd a0, xGj a0] := by kernel_rfl
def xJv (a0 : Exp) : rE I74 (xAq a0) [F, F, F, Y, F, F] [] = dn (xAp false) [xBi a0, xBC a0, xBw a0, xGU a0, xEI a0, iN false] := by kernel_rfl
abbrev xCp (v0 : Exp) : Prop := iN ((Exp.kind v0) == 4)
abbrev xIf (v0 : Exp) : Prop := iY ((Exp.kind v0) == 5)
def xJw (a0 : Exp) (r1 : Int) : rE I74 (xAq a0) [F, F, F, F, Y, Y] [xAi r1] = dn (xAp ((xDT a0) == r1)) [xBi a0, xBC a0, xBw a0, xCp a0, xIf a0, xDd a0, AbC 88 (xAm (Exp.text a0)) (xAi r1)] := by kernel_rfl
def xJx (a0 : Exp) : rE I74 (xAq a0) [F, F, F, F, Y, F] [] = dn (xAp false) [xBi a0, xBC a0, xBw a0, xCp a0, xIf a0, xEI a0] := by kernel_rfl
abbrev xCX (v0 : Exp) : Prop := iN ((Exp.kind v0) == 5)
abbrev xGV (v0 : Exp) : Prop := iY ((Exp.kind v0) == 6)
abbrev xIV (v0 : Exp) := (Ln (Exp.args v0) : Int) == 2
abbrev xI1 (v0 : Exp) : Prop := iY (xIV v0)
def xJy (a0 : Exp) (r1 : Bool) : rE I74 (xAq a0) [F, F, F, F, F, Y, Y, Y] [xCY r1] = dn (xAp r1) [xBi a0, xBC a0, xBw a0, xCp a0, xCX a0, xGV a0, xF7 a0, xI1 a0, AbC 86 (xDN (Exp.n a0) 1 5) (xCY r1)] := by kernel_rfl
abbrev xI2 (v0 : Exp) : Prop := iN (xIV v0)
def xJz (a0 : Exp) : rE I74 (xAq a0) [F, F, F, F, F, Y, Y, F] [] = dn (xAp false) [xBi a0, xBC a0, xBw a0, xCp a0, xCX a0, xGV a0, xF7 a0, xI2 a0] := by kernel_rfl
def xJA (a0 : Exp) : rE I74 (xAq a0) [F, F, F, F, F, Y, F, F] [] = dn (xAp false) [xBi a0, xBC a0, xBw a0, xCp a0, xCX a0, xGV a0, xGj a0, iN false] := by kernel_rfl
abbrev xDM (v0 : Exp) : Prop := iN ((Exp.kind v0) == 6)
def xJB (a0 : Exp) (r1 : Bool) : rE I74 (xAq a0) [F, F, F, F, F, F, Y, Y, Y, Y] [xAt r1] = dn (xAp r1) [xBi a0, xBC a0, xBw a0, xCp a0, xCX a0, xDM a0, xET a0, xET a0, xDd a0, xI1 a0, AbC 38 (xA6 (Exp.text a0)) (xAt r1)] := by kernel_rfl
def xJC (a0 : Exp) : rE I74 (xAq a0) [F, F, F, F, F, F, Y, Y, Y, F] [] = dn (xAp false) [xBi a0, xBC a0, xBw a0, xCp a0, xCX a0, xDM a0, xET a0, xET a0, xDd a0, xI2 a0] := by kernel_rfl
def xJD (a0 : Exp) : rE I74 (xAq a0) [F, F, F, F, F, F, Y, Y, F, F] [] = dn (xAp false) [xBi a0, xBC a0, xBw a0, xCp a0, xCX a0, xDM a0, xET a0, xET a0, xEI a0, iN false] := by kernel_rfl
def xJE (a0 : Exp) (r1 : Bool) : rE I74 (xAq a0) [F, F, F, F, F, F, F, Y, Y, Y] [xAt r1] = dn (xAp r1) [xBi a0, xBC a0, xBw a0, xCp a0, xCX a0, xDM a0, xCj a0, xEx a0, xDd a0, xI1 a0, AbC 38 (xA6 (Exp.text a0)) (xAt r1)] := by kernel_rfl
def xJF (a0 : Exp) : rE I74 (xAq a0) [F, F, F, F, F, F, F, Y, Y, F] [] = dn (xAp false) [xBi a0, xBC a0, xBw a0, xCp a0, xCX a0, xDM a0, xCj a0, xEx a0, xDd a0, xI2 a0] := by kernel_rfl
def xJG (a0 : Exp) : rE I74 (xAq a0) [F, F, F, F, F, F, F, Y, F, F] [] = dn (xAp false) [xBi a0, xBC a0, xBw a0, xCp a0, xCX a0, xDM a0, xCj a0, xEx a0, xEI a0, iN false] := by kernel_rfl
abbrev xGW (v0 : Exp) : Prop := iY ((Exp.kind v0) == 8)
def xJH (a0 : Exp) : rE I74 (xAq a0) [F, F, F, F, F, F, F, F, Y, Y, Y] [] = dn (xAp ((xDT a0) == 3)) [xBi a0, xBC a0, xBw a0, xCp a0, xCX a0, xDM a0, xCj a0, xEp a0, xGW a0, xDd a0, xF7 a0] := by kernel_rfl
def xJI (a0 : Exp) : rE I74 (xAq a0) [F, F, F, F, F, F, F, F, Y, Y, F] [] = dn (xAp false) [xBi a0, xBC a0, xBw a0, xCp a0, xCX a0, xDM a0, xCj a0, xEp a0, xGW a0, xDd a0, xGj a0] := by kernel_rfl
def xJJ (a0 : Exp) : rE I74 (xAq a0) [F, F, F, F, F, F, F, F, Y, F, F] [] = dn (xAp false) [xBi a0, xBC a0, xBw a0, xCp a0, xCX a0, xDM a0, xCj a0, xEp a0, xGW a0, xEI a0, iN false] := by kernel_rfl
def xJK (a0 : Exp) : rE I74 (xAq a0) [F, F, F, F, F, F, F, F, F] [] = dn (xAp false) [xBi a0, xBC a0, xBw a0, xCp a0, xCX a0, xDM a0, xCj a0, xEp a0, iN ((Exp.kind a0) == 8)] := by kernel_rfl
theorem xPq {N : Nat} : ∀ a0 r, xEf N a0 = some r → RE Try.f74 I74 (xAq a0) (xAp r) := fun a0 r h =>
 cE h (fun h0 h => cE h (fun h1 h => cE h (fun h2 h => bE h fun r1 h3 h => dE h fk74 (xM7 a0 r1) (oc4 h0 h1 h2 (xGk h3) on)) fun h2 h =>
 dE h fk74 (xM8 a0) (oc3 h0 h1 h2 on)) fun h1 h =>
 dE h fk74 (xM9 a0) (oc3 h0 h1 rfl on)) fun h0 h =>
 cE h (fun h1 h => cE h (fun h2 h => cE h (fun h3 h => bE h fun r1 h4 h => dE h fk74 (xNa a0 r1) (oc5 h0 h1 h2 h3 (xFU h4) on)) fun h3 h =>
 dE h fk74 (xNb a0) (oc4 h0 h1 h2 h3 on)) fun h2 h =>
 dE h fk74 (xNc a0) (oc4 h0 h1 h2 rfl on)) fun h1 h =>
 cE h (fun h2 h => cE h (fun h3 h => cE h (fun h4 h => bE h fun r1 h5 h => dE h fk74 (xNd a0 r1) (oc6 h0 h1 h2 h3 h4 (xA0 h5) on)) fun h4 h =>
 dE h fk74 (xNe a0) (oc5 h0 h1 h2 h3 h4 on)) fun h3 h =>
 dE h fk74 (xNf a0) (oc5 h0 h1 h2 h3 rfl on)) fun h2 h =>
 cE h (fun h3 h => cE h (fun h4 h => cE h (fun h5 h => dE h fk74 (xNg a0) (oc6 h0 h1 h2 h3 h4 h5 on)) fun h5 h =>
 dE h fk74 (xJu a0) (oc6 h0 h1 h2 h3 h4 h5 on)) fun h4 h =>
 dE h fk74 (xJv a0) (oc6 h0 h1 h2 h3 h4 rfl on)) fun h3 h =>
 cE h (fun h4 h => cE h (fun h5 h => bE h fun r1 h6 h => dE h fk74 (xJw a0 r1) (oc7 h0 h1 h2 h3 h4 h5 (xFt h6) on)) fun h5 h =>
 dE h fk74 (xJx a0) (oc6 h0 h1 h2 h3 h4 h5 on)) fun h4 h =>
 cE h (fun h5 h => cE h (fun h6 h => cE h (fun h7 h => bE h fun r1 h8 h => dE h fk74 (xJy a0 r1) (oc9 h0 h1 h2 h3 h4 h5 h6 h7 (xGk h8) on)) fun h7 h =>
 dE h fk74 (xJz a0) (oc8 h0 h1 h2 h3 h4 h5 h6 h7 on)) fun h6 h =>
 dE h fk74 (xJA a0) (oc8 h0 h1 h2 h3 h4 h5 h6 rfl on)) fun h5 h =>
 cE h (fun h6 h => cE h (fun h8 h => cE h (fun h9 h => bE h fun r1 h10 h => dE h fk74 (xJB a0 r1) (oc11 h0 h1 h2 h3 h4 h5 h6 h6 h8 h9 (xA0 h10) on)) fun h9 h =>
 dE h fk74 (xJC a0) (oc10 h0 h1 h2 h3 h4 h5 h6 h6 h8 h9 on)) fun h8 h =>
 dE h fk74 (xJD a0) (oc10 h0 h1 h2 h3 h4 h5 h6 h6 h8 rfl on)) fun h6 h =>
 cE h (fun h7 h => cE h (fun h8 h => cE h (fun h9 h => bE h fun r1 h10 h => dE h fk74 (xJE a0 r1) (oc11 h0 h1 h2 h3 h4 h5 h6 h7 h8 h9 (xA0 h10) on)) fun h9 h =>
 dE h fk74 (xJF a0) (oc10 h0 h1 h2 h3 h4 h5 h6 h7 h8 h9 on)) fun h8 h =>
 dE h fk74 (xJG a0) (oc10 h0 h1 h2 h3 h4 h5 h6 h7 h8 rfl on)) fun h7 h =>
 cE h (fun h8 h => cE h (fun h9 h => cE h (fun h10 h => dE h fk74 (xJH a0) (oc11 h0 h1 h2 h3 h4 h5 h6 h7 h8 h9 h10 on)) fun h10 h =>
 dE h fk74 (xJI a0) (oc11 h0 h1 h2 h3 h4 h5 h6 h7 h8 h9 h10 on)) fun h9 h =>
 dE h fk74 (xJJ a0) (oc11 h0 h1 h2 h3 h4 h5 h6 h7 h8 h9 rfl on)) fun h8 h =>
 dE h fk74 (xJK a0) (oc9 h0 h1 h2 h3 h4 h5 h6 h7 h8 on)
theorem xGG {N : Nat} {a0 : Exp} {r : Bool} (h : xEf N  a0 = some r) : AbC 74 (xAq a0) (xAp r) :=
 AbsCalls.of_reach fk74 rfl rfl rfl (Nat.le_of_ble_eq_true rfl) (xPq a0 r h)
def G57 (q : Exp → Option (Bool)) : Prop := ∀ a0 r, q a0 = some r → AbC 57 (xB6 a0) (xBe r)
noncomputable def I57 : Info := { body := (Try.f57.body).getD .skip, nt := 20, results := [.tmp 2], keep := [0, 2, 4, 6, 16, 34, 3], live := [(2, [2, 6, 3])], modes := [] }
theorem fk57 : FnOk Try.prog 57 Try.f57 I57 := ⟨Try.func57, by kernel_rfl, by kernel_rfl, by kernel_rfl, by kernel_rfl⟩
def xIr (x3 : Int) (b1 : Exp) : St := [(2, .v false [.ptr 1 0]), (6, .v false [.int .i64 x3]), (3, .v true [.int .i64 (Exp.kind b1), .int .i64 (Exp.n b1), .str (Exp.text b1), .sl .ro .exp (Exp.args b1)])]
def xMi (x3 : Int) (b1 : Exp) (r1 : Bool) : rS 2 I57 (xIr x3 b1) [Y, Y] [xBe r1] = dn (xBe false) [xEz x3 b1, xEF x3 b1, AbC 57 (xB6 (xFs b1 x3)) (xBe r1), iY (!r1)] := by kernel_rfl
def xMj (x3 : Int) (b1 : Exp) (r1 : Bool) : rS 2 I57 (xIr x3 b1) [Y, F] [xBe r1] = st 2 I57 (xIr (W (x3 + 1)) b1) [xEz x3 b1, xEF x3 b1, AbC 57 (xB6 (xFs b1 x3)) (xBe r1), xA4 r1] := by kernel_rfl
def xMk (x3 : Int) (b1 : Exp) (r1 : Bool) : rS 2 I57 (xIr x3 b1) [F] [xAp r1] = dn (xBe r1) [xGO x3 b1, AbC 74 (xAq b1) (xAp r1)] := by kernel_rfl
def xMl (a0 : Exp) : rE I57 (xB6 a0) [] [] = st 2 I57 (xIr 0 a0) [] := by kernel_rfl
theorem xO7 {N q0} (g0 : G57 q0) : ∀ n x3 b1 r, xCG N q0 n x3 b1 = some r → RS Try.f57 I57 2 (xIr x3 b1) (xBe r) := by
 intro n
 induction n with
 | zero => exact fun _ _ _ h => nE h
 | succ n ih =>
  exact fun x3 b1 r h =>
   cE h (fun h0 h => iE h fun h1 h => bE h fun r1 h2 h => cE h (fun h3 h => dS h fk57 (xMi x3 b1 r1) (oc4 h0 h1 (g0 _ _ h2) h3 on)) fun h3 h =>
   tS fk57 (xMj x3 b1 r1) (oc4 h0 h1 (g0 _ _ h2) h3 on) (ih _ _ _ h)) fun h0 h =>
   bE h fun r1 h1 h => dS h fk57 (xMk x3 b1 r1) (oc2 h0 (xGG h1) on)
theorem xO8 {N q0} (g0 : G57 q0) : ∀ a0 r, xEm N q0 a0 = some r → RE Try.f57 I57 (xB6 a0) (xBe r) := fun a0 r h =>
 tE fk57 (xMl a0) on (xO7 g0 _ _ _ _ h)
theorem xFW {N q0} (g0 : G57 q0) {a0} {r} (h : xEm N q0 a0 = some r) : AbC 57 (xB6 a0) (xBe r) :=
 AbsCalls.of_reach fk57 rfl rfl rfl (Nat.le_of_ble_eq_true rfl) (xO8 g0 a0 r h)
theorem xEL {N : Nat} : ∀ d, G57 (xDo N d)
 | 0 => fun _ _ h => nE h
 | d + 1 => fun _ _ h => xFW (N := N) (xEL d) h
theorem xGM {N : Nat} {a0 : Exp} {r : Bool} (h : xFV N a0 = some r) : AbC 57 (xB6 a0) (xBe r) := xEL N _ r h
noncomputable def I37 : Info := { body := (Try.f37.body).getD .skip, nt := 15, results := [.tmp 2], keep := [0, 2, 4, 3], live := [], modes := [(1, [(3, .take, false), (8, .take, false)])] }
theorem fk37 : FnOk Try.prog 37 Try.f37 I37 := ⟨Try.func37, by kernel_rfl, by kernel_rfl, by kernel_rfl, by kernel_rfl⟩
def xLk (a0 : Exp) (r1 r2 : Int) (r3 : Bool) : rE I37 (xAZ a0) [Y, Y] [xAR r1, xAV r2, xBe r3] = dn (xAC r3) [AbC 55 (xBK a0 40) (xAR r1), iY (dc (r1 ≥ 0)), AbC 56 (xBE a0) (xAV r2), iY (dc (r2 ≤ 8)), AbC 57 (xB6 a0) (xBe r3)] := by kernel_rfl
def xLl (a0 : Exp) (r1 r2 : Int) : rE I37 (xAZ a0) [Y, F] [xAR r1, xAV r2] = dn (xAC false) [AbC 55 (xBK a0 40) (xAR r1), iY (dc (r1 ≥ 0)), AbC 56 (xBE a0) (xAV r2), iN (dc (r2 ≤ 8))] := by kernel_rfl
def xLm (a0 : Exp) (r1 : Int) : rE I37 (xAZ a0) [F, F] [xAR r1] = dn (xAC false) [AbC 55 (xBK a0 40) (xAR r1), iN (dc (r1 ≥ 0)), iN false] := by kernel_rfl
theorem xOP {N : Nat} : ∀ a0 r, xC8 N a0 = some r → RE Try.f37 I37 (xAZ a0) (xAC r) := fun a0 r h =>
 bE h fun r1 h0 h => cE h (fun h1 h => bE h fun r2 h2 h => cE h (fun h3 h => bE h fun r3 h4 h => dE h fk37 (xLk a0 r1 r2 r3) (oc5 (xED h0) h1 (xE1 h2) h3 (xGM h4) on)) fun h3 h =>
 dE h fk37 (xLl a0 r1 r2) (oc4 (xED h0) h1 (xE1 h2) h3 on)) fun h1 h =>
 dE h fk37 (xLm a0 r1) (oc3 (xED h0) h1 rfl on)
theorem xCk {N : Nat} {a0 : Exp} {r : Bool} (h : xC8 N  a0 = some r) : AbC 37 (xAZ a0) (xAC r) :=
 AbsCalls.of_reach fk37 rfl rfl rfl (Nat.le_of_ble_eq_true rfl) (xOP a0 r h)
def G60 (q : Exp → Option (Exp)) : Prop := ∀ a0 r, q a0 = some r → AbC 60 (xCT a0) (xBy r)
noncomputable def I60 : Info := { body := (Try.f60.body).getD .skip, nt := 31, results := [.cell 2 29], keep := [0, 2, 4, 6, 8, 32, 3, 5, 7], live := [(3, [2, 4, 6, 8, 3, 5, 7])], modes := [(5, [(1, .take, false), (9, .take, false)]), (6, [(0, .take, false)])] }
theorem fk60 : FnOk Try.prog 60 Try.f60 I60 := ⟨Try.func60, by kernel_rfl, by kernel_rfl, by kernel_rfl, by kernel_rfl⟩
def xIE (x4 : Int) (b1 b2 b3 : Exp) : St := [(2, .v false [.ptr 1 0]), (4, .v false [.ptr 2 0]), (6, .v false [.ptr 3 0]), (8, .v false [.int .i64 x4]), (3, .v true [.int .i64 (Exp.kind b1), .int .i64 (Exp.n b1), .str (Exp.text b1), .sl .ro .exp (Exp.args b1)]), (5, .v true [.int .i64 (Exp.kind b2), .int .i64 (Exp.n b2), .str (Exp.text b2), .sl .own .exp (Exp.args b2)]), (7, .v true [.int .i64 (Exp.kind b3), .int .i64 (Exp.n b3), .str (Exp.text b3), .sl .own .exp (Exp.args b3)])]
abbrev xI3 (v0 : Exp) (v1 : Int) (v2 : Exp) : Prop := AbC 60 (xCT (xFs v0 v1)) (xBy v2)
abbrev xFd (v0 v1 : Exp) : Prop := Ln (Exp.args v0) + Ln [(Exp.re v1)] ≤ Lim
def xMx (x4 : Int) (b1 b2 b3 r1 : Exp) : rS 3 I60 (xIE x4 b1 b2 b3) [Y] [xBy r1] = st 3 I60 (xIE (W (x4 + 1)) b1 b2 (Exp.mk (Exp.kind b3) (Exp.n b3) (Exp.text b3) ((Exp.args b3) ++ [(Exp.re r1)]))) [xEz x4 b1, xEF x4 b1, xI3 b1 x4 r1, xFd b3 r1] := by kernel_rfl
def xMy (x4 : Int) (b1 b2 b3 : Exp) : rS 3 I60 (xIE x4 b1 b2 b3) [F] [] = dn (xBy b3) [xGO x4 b1] := by kernel_rfl
abbrev xG7 (v0 : Exp) := Exp.mk (Exp.kind v0) (Exp.n v0) (Exp.text v0) []
def xMz (a0 : Exp) : rE I60 (xCT a0) [] [] = st 3 I60 (xIE 0 a0 (Exp.mk 0 0 [] []) (xG7 a0)) [] := by kernel_rfl
theorem xPc {N q0} (g0 : G60 q0) : ∀ n x4 b1 b2 b3 r, xCU N q0 n x4 b1 b2 b3 = some r → RS Try.f60 I60 3 (xIE x4 b1 b2 b3) (xBy r) := by
 intro n
 induction n with
 | zero => exact fun _ _ _ _ _ h => nE h
 | succ n ih =>
  exact fun x4 b1 b2 b3 r h =>
   cE h (fun h0 h => iE h fun h1 h => bE h fun r1 h2 h => iE h fun h3 h => tS fk60 (xMx x4 b1 b2 b3 r1) (oc4 h0 h1 (g0 _ _ h2) h3 on) (ih _ _ _ _ _ h)) fun h0 h =>
   dS h fk60 (xMy x4 b1 b2 b3) (oc h0 on)
theorem xPd {N q0} (g0 : G60 q0) : ∀ a0 r, xD4 N q0 a0 = some r → RE Try.f60 I60 (xCT a0) (xBy r) := fun a0 r h =>
 tE fk60 (xMz a0) on (xPc g0 _ _ _ _ _ _ h)
theorem xFE {N q0} (g0 : G60 q0) {a0} {r} (h : xD4 N q0 a0 = some r) : AbC 60 (xCT a0) (xBy r) :=
 AbsCalls.of_reach fk60 rfl rfl rfl (Nat.le_of_ble_eq_true rfl) (xPd g0 a0 r h)
theorem xEB {N : Nat} : ∀ d, G60 (xC9 N d)
 | 0 => fun _ _ h => nE h
 | d + 1 => fun _ _ h => xFE (N := N) (xEB d) h
theorem xFu {N : Nat} {a0 : Exp} {r : Exp} (h : xEe N a0 = some r) : AbC 60 (xCT a0) (xBy r) := xEB N _ r h
def G39 (q : Exp → Str → Str → Option (Exp)) : Prop := ∀ a0 a1 a2 r, q a0 a1 a2 = some r → AbC 39 (xBt a0 a1 a2) (xAK r)
noncomputable def I39 : Info := { body := (Try.f39.body).getD .skip, nt := 77, results := [.cell 6 29], keep := [0, 2, 4, 6, 12, 14, 16, 48, 62, 102, 7, 13, 15], live := [(5, [2, 4, 6, 12, 14, 16, 7, 13, 15])], modes := [(2, [(3, .take, false)]), (7, [(3, .take, false), (8, .take, false), (12, .take, false)]), (8, [(1, .take, false), (9, .take, false)]), (9, [(1, .take, false), (11, .take, false)]), (10, [(0, .take, false)])] }
theorem fk39 : FnOk Try.prog 39 Try.f39 I39 := ⟨Try.func39, by kernel_rfl, by kernel_rfl, by kernel_rfl, by kernel_rfl⟩
def xE5 (x1 x2 : Str) (x8 : Int) (b3 b6 b7 : Exp) : St := [(2, .v false [.str x1]), (4, .v false [.str x2]), (6, .v false [.ptr 3 0]), (12, .v false [.ptr 6 0]), (14, .v false [.ptr 7 0]), (16, .v false [.int .i64 x8]), (7, .v true [.int .i64 (Exp.kind b3), .int .i64 (Exp.n b3), .str (Exp.text b3), .sl .ro .exp (Exp.args b3)]), (13, .v true [.int .i64 (Exp.kind b6), .int .i64 (Exp.n b6), .str (Exp.text b6), .sl .own .exp (Exp.args b6)]), (15, .v true [.int .i64 (Exp.kind b7), .int .i64 (Exp.n b7), .str (Exp.text b7), .sl .own .exp (Exp.args b7)])]
def xLq (x1 x2 : Str) (x8 : Int) (b3 b6 b7 r1 : Exp) : rS 5 I39 (xE5 x1 x2 x8 b3 b6 b7) [Y, Y, Y, Y, Y] [xBy r1] = st 5 I39 (xE5 x1 x2 (W (x8 + 1)) b3 b6 (Exp.mk (Exp.kind b7) (Exp.n b7) (Exp.text b7) ((Exp.args b7) ++ [(Exp.re r1)]))) [xEz x8 b3, xET b3, iY true, iY (x8 == 1), xHh b3 x1, xEF x8 b3, xI3 b3 x8 r1, xFd b7 r1] := by kernel_rfl
abbrev xHk (v0 : Exp) (v1 : Int) (v2 v3 : Str) (v4 : Exp) : Prop := AbC 39 (xBt (xFs v0 v1) v2 v3) (xAK v4)
def xLr (x1 x2 : Str) (x8 : Int) (b3 b6 b7 r1 : Exp) : rS 5 I39 (xE5 x1 x2 x8 b3 b6 b7) [Y, Y, Y, Y, F] [xAK r1] = st 5 I39 (xE5 x1 x2 (W (x8 + 1)) b3 b6 (Exp.mk (Exp.kind b7) (Exp.n b7) (Exp.text b7) ((Exp.args b7) ++ [(Exp.re r1)]))) [xEz x8 b3, xET b3, iY true, iY (x8 == 1), xHi b3 x1, xEF x8 b3, xHk b3 x8 x1 x2 r1, xFd b7 r1] := by kernel_rfl
def xLs (x1 x2 : Str) (x8 : Int) (b3 b6 b7 r1 : Exp) : rS 5 I39 (xE5 x1 x2 x8 b3 b6 b7) [Y, Y, Y, F, F] [xAK r1] = st 5 I39 (xE5 x1 x2 (W (x8 + 1)) b3 b6 (Exp.mk (Exp.kind b7) (Exp.n b7) (Exp.text b7) ((Exp.args b7) ++ [(Exp.re r1)]))) [xEz x8 b3, xET b3, iY true, iN (x8 == 1), iN false, xEF x8 b3, xHk b3 x8 x1 x2 r1, xFd b7 r1] := by kernel_rfl
def xLt (x1 x2 : Str) (x8 : Int) (b3 b6 b7 r1 : Exp) : rS 5 I39 (xE5 x1 x2 x8 b3 b6 b7) [Y, F, Y, Y, Y] [xBy r1] = st 5 I39 (xE5 x1 x2 (W (x8 + 1)) b3 b6 (Exp.mk (Exp.kind b7) (Exp.n b7) (Exp.text b7) ((Exp.args b7) ++ [(Exp.re r1)]))) [xEz x8 b3, xCj b3, xEx b3, iY (x8 == 1), xHh b3 x1, xEF x8 b3, xI3 b3 x8 r1, xFd b7 r1] := by kernel_rfl
def xLu (x1 x2 : Str) (x8 : Int) (b3 b6 b7 r1 : Exp) : rS 5 I39 (xE5 x1 x2 x8 b3 b6 b7) [Y, F, Y, Y, F] [xAK r1] = st 5 I39 (xE5 x1 x2 (W (x8 + 1)) b3 b6 (Exp.mk (Exp.kind b7) (Exp.n b7) (Exp.text b7) ((Exp.args b7) ++ [(Exp.re r1)]))) [xEz x8 b3, xCj b3, xEx b3, iY (x8 == 1), xHi b3 x1, xEF x8 b3, xHk b3 x8 x1 x2 r1, xFd b7 r1] := by kernel_rfl
def xLv (x1 x2 : Str) (x8 : Int) (b3 b6 b7 r1 : Exp) : rS 5 I39 (xE5 x1 x2 x8 b3 b6 b7) [Y, F, Y, F, F] [xAK r1] = st 5 I39 (xE5 x1 x2 (W (x8 + 1)) b3 b6 (Exp.mk (Exp.kind b7) (Exp.n b7) (Exp.text b7) ((Exp.args b7) ++ [(Exp.re r1)]))) [xEz x8 b3, xCj b3, xEx b3, iN (x8 == 1), iN false, xEF x8 b3, xHk b3 x8 x1 x2 r1, xFd b7 r1] := by kernel_rfl
def xLw (x1 x2 : Str) (x8 : Int) (b3 b6 b7 r1 : Exp) : rS 5 I39 (xE5 x1 x2 x8 b3 b6 b7) [Y, F, F, F, F] [xAK r1] = st 5 I39 (xE5 x1 x2 (W (x8 + 1)) b3 b6 (Exp.mk (Exp.kind b7) (Exp.n b7) (Exp.text b7) ((Exp.args b7) ++ [(Exp.re r1)]))) [xEz x8 b3, xCj b3, xEp b3, iN false, iN false, xEF x8 b3, xHk b3 x8 x1 x2 r1, xFd b7 r1] := by kernel_rfl
def xLx (x1 x2 : Str) (x8 : Int) (b3 b6 b7 : Exp) : rS 5 I39 (xE5 x1 x2 x8 b3 b6 b7) [F] [] = dn (xAK b7) [xGO x8 b3] := by kernel_rfl
def xLy (a0 : Exp) (a1 a2 : Str) : rE I39 (xBt a0 a1 a2) [Y, Y] [] = st 5 I39 (xE5 a1 a2 0 a0 (Exp.mk 0 0 [] []) (Exp.mk (Exp.kind a0) (Exp.n a0) a2 [])) [xEy a0, xHh a0 a1] := by kernel_rfl
def xLz (a0 : Exp) (a1 a2 : Str) : rE I39 (xBt a0 a1 a2) [Y, F] [] = st 5 I39 (xE5 a1 a2 0 a0 (Exp.mk 0 0 [] []) (xG7 a0)) [xEy a0, xHi a0 a1] := by kernel_rfl
def xJo (a0 : Exp) (a1 a2 : Str) : rE I39 (xBt a0 a1 a2) [F, F] [] = st 5 I39 (xE5 a1 a2 0 a0 (Exp.mk 0 0 [] []) (xG7 a0)) [xBw a0, iN false] := by kernel_rfl
theorem xKt {N q0} (g0 : G39 q0) : ∀ n x1 x2 x8 b3 b6 b7 r, xAA N q0 n x1 x2 x8 b3 b6 b7 = some r → RS Try.f39 I39 5 (xE5 x1 x2 x8 b3 b6 b7) (xAK r) := by
 intro n
 induction n with
 | zero => exact fun _ _ _ _ _ _ _ h => nE h
 | succ n ih =>
  exact fun x1 x2 x8 b3 b6 b7 r h =>
   cE h (fun h0 h => cE h (fun h1 h => cE h (fun h3 h => cE h (fun h4 h => iE h fun h5 h => bE h fun r1 h6 h => iE h fun h7 h => tS fk39 (xLq x1 x2 x8 b3 b6 b7 r1) (oc8 h0 h1 rfl h3 h4 h5 (xFu h6) h7 on) (ih _ _ _ _ _ _ _ h)) fun h4 h =>
   iE h fun h5 h => bE h fun r1 h6 h => iE h fun h7 h => tS fk39 (xLr x1 x2 x8 b3 b6 b7 r1) (oc8 h0 h1 rfl h3 h4 h5 (g0 _ _ _ _ h6) h7 on) (ih _ _ _ _ _ _ _ h)) fun h3 h =>
   iE h fun h5 h => bE h fun r1 h6 h => iE h fun h7 h => tS fk39 (xLs x1 x2 x8 b3 b6 b7 r1) (oc8 h0 h1 rfl h3 rfl h5 (g0 _ _ _ _ h6) h7 on) (ih _ _ _ _ _ _ _ h)) fun h1 h =>
   cE h (fun h2 h => cE h (fun h3 h => cE h (fun h4 h => iE h fun h5 h => bE h fun r1 h6 h => iE h fun h7 h => tS fk39 (xLt x1 x2 x8 b3 b6 b7 r1) (oc8 h0 h1 h2 h3 h4 h5 (xFu h6) h7 on) (ih _ _ _ _ _ _ _ h)) fun h4 h =>
   iE h fun h5 h => bE h fun r1 h6 h => iE h fun h7 h => tS fk39 (xLu x1 x2 x8 b3 b6 b7 r1) (oc8 h0 h1 h2 h3 h4 h5 (g0 _ _ _ _ h6) h7 on) (ih _ _ _ _ _ _ _ h)) fun h3 h =>
   iE h fun h5 h => bE h fun r1 h6 h => iE h fun h7 h => tS fk39 (xLv x1 x2 x8 b3 b6 b7 r1) (oc8 h0 h1 h2 h3 rfl h5 (g0 _ _ _ _ h6) h7 on) (ih _ _ _ _ _ _ _ h)) fun h2 h =>
   iE h fun h5 h => bE h fun r1 h6 h => iE h fun h7 h => tS fk39 (xLw x1 x2 x8 b3 b6 b7 r1) (oc8 h0 h1 h2 rfl rfl h5 (g0 _ _ _ _ h6) h7 on) (ih _ _ _ _ _ _ _ h)) fun h0 h =>
   dS h fk39 (xLx x1 x2 x8 b3 b6 b7) (oc h0 on)
theorem xOR {N q0} (g0 : G39 q0) : ∀ a0 a1 a2 r, xCm N q0 a0 a1 a2 = some r → RE Try.f39 I39 (xBt a0 a1 a2) (xAK r) := fun a0 a1 a2 r h =>
 cE h (fun h0 h => cE h (fun h1 h => tE fk39 (xLy a0 a1 a2) (oc2 h0 h1 on) (xKt g0 _ _ _ _ _ _ _ _ h)) fun h1 h =>
 tE fk39 (xLz a0 a1 a2) (oc2 h0 h1 on) (xKt g0 _ _ _ _ _ _ _ _ h)) fun h0 h =>
 tE fk39 (xJo a0 a1 a2) (oc2 h0 rfl on) (xKt g0 _ _ _ _ _ _ _ _ h)
theorem xFl {N q0} (g0 : G39 q0) {a0} {a1} {a2} {r} (h : xCm N q0 a0 a1 a2 = some r) : AbC 39 (xBt a0 a1 a2) (xAK r) :=
 AbsCalls.of_reach fk39 rfl rfl rfl (Nat.le_of_ble_eq_true rfl) (xOR g0 a0 a1 a2 r h)
theorem xEh {N : Nat} : ∀ d, G39 (xBZ N d)
 | 0 => fun _ _ _ _ h => nE h
 | d + 1 => fun _ _ _ _ h => xFl (N := N) (xEh d) h
theorem xGh {N : Nat} {a0 : Exp} {a1 : Str} {a2 : Str} {r : Exp} (h : xEW N a0 a1 a2 = some r) : AbC 39 (xBt a0 a1 a2) (xAK r) := xEh N _ _ _ r h
noncomputable def I13 : Info := { body := (Try.f13.body).getD .skip, nt := 32, results := [.cell 6 29, .tmp 7], keep := [0, 2, 4, 6, 12, 14, 52, 7, 13], live := [], modes := [(1, [(3, .take, false), (8, .take, false), (13, .take, false)])] }
theorem fk13 : FnOk Try.prog 13 Try.f13 I13 := ⟨Try.func13, by kernel_rfl, by kernel_rfl, by kernel_rfl, by kernel_rfl⟩
def xKG (a0 : Exp) (a1 a2 : Str) (r1 : Bool) : rE I13 (xBx a0 a1 a2) [Y, Y, Y, Y] [xAC r1] = dn (xAu ((Exp.mk 0 0 [] []), false)) [AbC 37 (xAZ a0) (xAC r1), iY (!r1), iY true, iY true, iY true] := by kernel_rfl
abbrev xGB (v0 : Str) (v1 : Bool) : Prop := AbC 38 (xA6 v0) (xAt v1)
def xKH (a0 : Exp) (a1 a2 : Str) (r1 r2 : Bool) : rE I13 (xBx a0 a1 a2) [F, Y, Y, Y] [xAC r1, xAt r2] = dn (xAu ((Exp.mk 0 0 [] []), false)) [AbC 37 (xAZ a0) (xAC r1), xA4 r1, xGB a1 r2, iY (!r2), iY true, iY true] := by kernel_rfl
def xKI (a0 : Exp) (a1 a2 : Str) (r1 r2 r3 : Bool) : rE I13 (xBx a0 a1 a2) [F, F, Y, Y] [xAC r1, xAt r2, xAt r3] = dn (xAu ((Exp.mk 0 0 [] []), false)) [AbC 37 (xAZ a0) (xAC r1), xA4 r1, xGB a1 r2, xA4 r2, xGB a2 r3, iY (!r3), iY true] := by kernel_rfl
def xKJ (a0 : Exp) (a1 a2 : Str) (r1 r2 r3 r4 : Bool) : rE I13 (xBx a0 a1 a2) [F, F, F, Y] [xAC r1, xAt r2, xAt r3, xBJ r4] = dn (xAu ((Exp.mk 0 0 [] []), false)) [AbC 37 (xAZ a0) (xAC r1), xA4 r1, xGB a1 r2, xA4 r2, xGB a2 r3, xA4 r3, AbC 9 (xCz a0 a1 a2) (xBJ r4), iY r4] := by kernel_rfl
def xKK (a0 : Exp) (a1 a2 : Str) (r1 r2 r3 r4 : Bool) (r5 : Exp) : rE I13 (xBx a0 a1 a2) [F, F, F, F] [xAC r1, xAt r2, xAt r3, xBJ r4, xAK r5] = dn (xAu (r5, true)) [AbC 37 (xAZ a0) (xAC r1), xA4 r1, xGB a1 r2, xA4 r2, xGB a2 r3, xA4 r3, AbC 9 (xCz a0 a1 a2) (xBJ r4), iN r4, AbC 39 (xBt a0 a1 a2) (xAK r5)] := by kernel_rfl
theorem xOC {N : Nat} : ∀ a0 a1 a2 r, xCS N a0 a1 a2 = some r → RE Try.f13 I13 (xBx a0 a1 a2) (xAu r) := fun a0 a1 a2 r h =>
 bE h fun r1 h0 h => cE h (fun h1 h => dE h fk13 (xKG a0 a1 a2 r1) (oc5 (xCk h0) h1 rfl rfl rfl on)) fun h1 h =>
 bE h fun r2 h2 h => cE h (fun h3 h => dE h fk13 (xKH a0 a1 a2 r1 r2) (oc6 (xCk h0) h1 (xA0 h2) h3 rfl rfl on)) fun h3 h =>
 bE h fun r3 h4 h => cE h (fun h5 h => dE h fk13 (xKI a0 a1 a2 r1 r2 r3) (oc7 (xCk h0) h1 (xA0 h2) h3 (xA0 h4) h5 rfl on)) fun h5 h =>
 bE h fun r4 h6 h => cE h (fun h7 h => dE h fk13 (xKJ a0 a1 a2 r1 r2 r3 r4) (oc8 (xCk h0) h1 (xA0 h2) h3 (xA0 h4) h5 (xEK h6) h7 on)) fun h7 h =>
 bE h fun r5 h8 h => dE h fk13 (xKK a0 a1 a2 r1 r2 r3 r4 r5) (oc9 (xCk h0) h1 (xA0 h2) h3 (xA0 h4) h5 (xEK h6) h7 (xGh h8) on)
theorem xAO {N : Nat} {a0 : Exp} {a1 : Str} {a2 : Str} {r : Exp × Bool} (h : xCS N  a0 a1 a2 = some r) : AbC 13 (xBx a0 a1 a2) (xAu r) :=
 AbsCalls.of_reach fk13 rfl rfl rfl (Nat.le_of_ble_eq_true rfl) (xOC a0 a1 a2 r h)
def G61 (q : Exp → Option (Int)) : Prop := ∀ a0 r, q a0 = some r → AbC 61 (xBr a0) (xAI r)
noncomputable def I61 : Info := { body := (Try.f61.body).getD .skip, nt := 19, results := [.tmp 2], keep := [0, 2, 4, 6, 10, 14, 16, 18, 20, 3, 11], live := [(3, [6, 14, 16, 18])], modes := [(6, [(1, .take, false)])] }
theorem fk61 : FnOk Try.prog 61 Try.f61 I61 := ⟨Try.func61, by kernel_rfl, by kernel_rfl, by kernel_rfl, by kernel_rfl⟩
def xIF (x3 : Int) (x7 : List Exp) (x8 x9 : Int) : St := [(6, .v false [.int .i64 x3]), (14, .v false [.sl .ro .exp x7]), (16, .v false [.int .i64 x8]), (18, .v false [.int .i64 x9])]
def xMA (x3 : Int) (x7 : List Exp) (x8 x9 r1 : Int) : rS 3 I61 (xIF x3 x7 x8 x9) [Y] [xAI r1] = st 3 I61 (xIF (W (x3 + r1)) x7 x8 (W (x9 + 1))) [xEZ x9 x8, xDt x9 x7, AbC 61 (xBr (xCQ x7 x9)) (xAI r1)] := by kernel_rfl
def xMB (x3 : Int) (x7 : List Exp) (x8 x9 : Int) : rS 3 I61 (xIF x3 x7 x8 x9) [F] [] = dn (xAI x3) [iN (dc (x9 < x8))] := by kernel_rfl
def xMC (a0 : Exp) : rE I61 (xBr a0) [] [] = st 3 I61 (xIF 1 (Exp.args a0) (xDT a0) 0) [] := by kernel_rfl
theorem xPe {N q0} (g0 : G61 q0) : ∀ n x3 x7 x8 x9 r, xBO N q0 n x3 x7 x8 x9 = some r → RS Try.f61 I61 3 (xIF x3 x7 x8 x9) (xAI r) := by
 intro n
 induction n with
 | zero => exact fun _ _ _ _ _ h => nE h
 | succ n ih =>
  exact fun x3 x7 x8 x9 r h =>
   cE h (fun h0 h => iE h fun h1 h => bE h fun r1 h2 h => tS fk61 (xMA x3 x7 x8 x9 r1) (oc3 h0 h1 (g0 _ _ h2) on) (ih _ _ _ _ _ h)) fun h0 h =>
   dS h fk61 (xMB x3 x7 x8 x9) (oc h0 on)
theorem xPf {N q0} (g0 : G61 q0) : ∀ a0 r, xDE N q0 a0 = some r → RE Try.f61 I61 (xBr a0) (xAI r) := fun a0 r h =>
 tE fk61 (xMC a0) on (xPe g0 _ _ _ _ _ _ h)
theorem xFg {N q0} (g0 : G61 q0) {a0} {r} (h : xDE N q0 a0 = some r) : AbC 61 (xBr a0) (xAI r) :=
 AbsCalls.of_reach fk61 rfl rfl rfl (Nat.le_of_ble_eq_true rfl) (xPf g0 a0 r h)
theorem xD9 {N : Nat} : ∀ d, G61 (xBV N d)
 | 0 => fun _ _ h => nE h
 | d + 1 => fun _ _ h => xFg (N := N) (xD9 d) h
theorem xDZ {N : Nat} {a0 : Exp} {r : Int} (h : xEO N a0 = some r) : AbC 61 (xBr a0) (xAI r) := xD9 N _ r h
def G62 (q : Exp → Option (Int)) : Prop := ∀ a0 r, q a0 = some r → AbC 62 (xBD a0) (xAT r)
noncomputable def I62 : Info := { body := (Try.f62.body).getD .skip, nt := 20, results := [.tmp 2], keep := [0, 2, 4, 6, 10, 14, 16, 18, 20, 3, 11], live := [(3, [6, 14, 16, 18])], modes := [(6, [(1, .take, false)])] }
theorem fk62 : FnOk Try.prog 62 Try.f62 I62 := ⟨Try.func62, by kernel_rfl, by kernel_rfl, by kernel_rfl, by kernel_rfl⟩
def xIG (x3 : Int) (x7 : List Exp) (x8 x9 : Int) : St := [(6, .v false [.int .i64 x3]), (14, .v false [.sl .ro .exp x7]), (16, .v false [.int .i64 x8]), (18, .v false [.int .i64 x9])]
def xMD (x3 : Int) (x7 : List Exp) (x8 x9 r1 : Int) : rS 3 I62 (xIG x3 x7 x8 x9) [Y] [xAT r1] = st 3 I62 (xIG (if r1 > x3 then r1 else x3) x7 x8 (W (x9 + 1))) [xEZ x9 x8, xDt x9 x7, AbC 62 (xBD (xCQ x7 x9)) (xAT r1)] := by kernel_rfl
def xME (x3 : Int) (x7 : List Exp) (x8 x9 : Int) : rS 3 I62 (xIG x3 x7 x8 x9) [F] [] = dn (xAT (W (x3 + 1))) [iN (dc (x9 < x8))] := by kernel_rfl
def xMF (a0 : Exp) : rE I62 (xBD a0) [] [] = st 3 I62 (xIG 0 (Exp.args a0) (xDT a0) 0) [] := by kernel_rfl
theorem xPg {N q0} (g0 : G62 q0) : ∀ n x3 x7 x8 x9 r, xB7 N q0 n x3 x7 x8 x9 = some r → RS Try.f62 I62 3 (xIG x3 x7 x8 x9) (xAT r) := by
 intro n
 induction n with
 | zero => exact fun _ _ _ _ _ h => nE h
 | succ n ih =>
  exact fun x3 x7 x8 x9 r h =>
   cE h (fun h0 h => iE h fun h1 h => bE h fun r1 h2 h => tS fk62 (xMD x3 x7 x8 x9 r1) (oc3 h0 h1 (g0 _ _ h2) on) (ih _ _ _ _ _ h)) fun h0 h =>
   dS h fk62 (xME x3 x7 x8 x9) (oc h0 on)
theorem xPh {N q0} (g0 : G62 q0) : ∀ a0 r, xDD N q0 a0 = some r → RE Try.f62 I62 (xBD a0) (xAT r) := fun a0 r h =>
 tE fk62 (xMF a0) on (xPg g0 _ _ _ _ _ _ h)
theorem xFf {N q0} (g0 : G62 q0) {a0} {r} (h : xDD N q0 a0 = some r) : AbC 62 (xBD a0) (xAT r) :=
 AbsCalls.of_reach fk62 rfl rfl rfl (Nat.le_of_ble_eq_true rfl) (xPh g0 a0 r h)
theorem xD8 {N : Nat} : ∀ d, G62 (xCv N d)
 | 0 => fun _ _ h => nE h
 | d + 1 => fun _ _ h => xFf (N := N) (xD8 d) h
theorem xEX {N : Nat} {a0 : Exp} {r : Int} (h : xEN N a0 = some r) : AbC 62 (xBD a0) (xAT r) := xD8 N _ r h
noncomputable def I77 : Info := { body := (Try.f77.body).getD .skip, nt := 15, results := [.tmp 6], keep := [0, 2, 4, 12], live := [], modes := [(1, [(3, .take, false)])] }
theorem fk77 : FnOk Try.prog 77 Try.f77 I77 := ⟨Try.func77, by kernel_rfl, by kernel_rfl, by kernel_rfl, by kernel_rfl⟩
def xNs (a0 a1 a2 : Int) : rE I77 (xBS a0 a1 a2) [Y] [] = dn (xAS (dc (a0 ≤ a2))) [iY (dc (a1 ≤ a0))] := by kernel_rfl
def xNt (a0 a1 a2 : Int) : rE I77 (xBS a0 a1 a2) [F] [] = dn (xAS false) [iN (dc (a1 ≤ a0))] := by kernel_rfl
theorem xPt {N : Nat} : ∀ a0 a1 a2 r, xDF N a0 a1 a2 = some r → RE Try.f77 I77 (xBS a0 a1 a2) (xAS r) := fun a0 a1 a2 r h =>
 cE h (fun h0 h => dE h fk77 (xNs a0 a1 a2) (oc h0 on)) fun h0 h =>
 dE h fk77 (xNt a0 a1 a2) (oc h0 on)
theorem xCE {N : Nat} {a0 : Int} {a1 : Int} {a2 : Int} {r : Bool} (h : xDF N  a0 a1 a2 = some r) : AbC 77 (xBS a0 a1 a2) (xAS r) :=
 AbsCalls.of_reach fk77 rfl rfl rfl (Nat.le_of_ble_eq_true rfl) (xPt a0 a1 a2 r h)
noncomputable def I89 : Info := { body := (Try.f89.body).getD .skip, nt := 29, results := [.tmp 2], keep := [0, 4, 6, 14, 50], live := [(2, [0, 6])], modes := [(4, [(4, .take, false), (10, .take, false)])] }
theorem fk89 : FnOk Try.prog 89 Try.f89 I89 := ⟨Try.func89, by kernel_rfl, by kernel_rfl, by kernel_rfl, by kernel_rfl⟩
def xHd (x0 : Str) (x3 : Int) : St := [(0, .v false [.str x0]), (6, .v false [.int .i64 x3])]
def xNW (x0 : Str) (x3 : Int) : rS 2 I89 (xHd x0 x3) [Y, Y, Y, Y] [] = dn (xAP false) [xCy x3 x0, xAD x3 x0, iY (xHH x0 x3), iY true, iY true] := by kernel_rfl
def xNX (x0 : Str) (x3 : Int) : rS 2 I89 (xHd x0 x3) [Y, F, Y, Y] [] = dn (xAP false) [xCy x3 x0, xAD x3 x0, xGP x0 x3, xAD x3 x0, iY (xHI x0 x3), iY true] := by kernel_rfl
def xNY (x0 : Str) (x3 : Int) : rS 2 I89 (xHd x0 x3) [Y, F, F, Y] [] = dn (xAP false) [xCy x3 x0, xAD x3 x0, xGP x0 x3, xAD x3 x0, xH1 x0 x3, xAD x3 x0, iY (xG4 x0 x3)] := by kernel_rfl
def xNZ (x0 : Str) (x3 : Int) : rS 2 I89 (xHd x0 x3) [Y, F, F, F] [] = st 2 I89 (xHd x0 (W (x3 + 1))) [xCy x3 x0, xAD x3 x0, xGP x0 x3, xAD x3 x0, xH1 x0 x3, xAD x3 x0, iN (xG4 x0 x3)] := by kernel_rfl
def xN0 (x0 : Str) (x3 : Int) : rS 2 I89 (xHd x0 x3) [F] [] = dn (xAP (dc ((Ln x0 : Int) ≤ 20))) [iN (dc (x3 < (Ln x0 : Int)))] := by kernel_rfl
def xN1 (a0 : Str) : rE I89 (xCd a0) [] [] = st 2 I89 (xHd a0 0) [] := by kernel_rfl
theorem xPz {N : Nat} : ∀ n x0 x3 r, xCe N n x0 x3 = some r → RS Try.f89 I89 2 (xHd x0 x3) (xAP r) := by
 intro n
 induction n with
 | zero => exact fun _ _ _ h => nE h
 | succ n ih =>
  exact fun x0 x3 r h =>
   cE h (fun h0 h => iE h fun h1 h => cE h (fun h2 h => dS h fk89 (xNW x0 x3) (oc5 h0 h1 h2 rfl rfl on)) fun h2 h =>
   cE h (fun h4 h => dS h fk89 (xNX x0 x3) (oc6 h0 h1 h2 h1 h4 rfl on)) fun h4 h =>
   cE h (fun h6 h => dS h fk89 (xNY x0 x3) (oc7 h0 h1 h2 h1 h4 h1 h6 on)) fun h6 h =>
   tS fk89 (xNZ x0 x3) (oc7 h0 h1 h2 h1 h4 h1 h6 on) (ih _ _ _ h)) fun h0 h =>
   dS h fk89 (xN0 x0 x3) (oc h0 on)
theorem xPA {N : Nat} : ∀ a0 r, xDy N a0 = some r → RE Try.f89 I89 (xCd a0) (xAP r) := fun a0 r h =>
 tE fk89 (xN1 a0) on (xPz _ _ _ _ h)
theorem xEt {N : Nat} {a0 : Str} {r : Bool} (h : xDy N  a0 = some r) : AbC 89 (xCd a0) (xAP r) :=
 AbsCalls.of_reach fk89 rfl rfl rfl (Nat.le_of_ble_eq_true rfl) (xPA a0 r h)
noncomputable def I64 : Info := { body := (Try.f64.body).getD .skip, nt := 42, results := [.tmp 2], keep := [0, 4, 6, 8, 16, 76], live := [(2, [0, 6])], modes := [(4, [(4, .take, false)]), (5, [(0, .take, false), (2, .take, false), (5, .take, false), (11, .take, false)])] }
theorem fk64 : FnOk Try.prog 64 Try.f64 I64 := ⟨Try.func64, by kernel_rfl, by kernel_rfl, by kernel_rfl, by kernel_rfl⟩
def xFK (x0 : Str) (x3 : Int) : St := [(0, .v false [.str x0]), (6, .v false [.int .i64 x3])]
def xMK (x0 : Str) (x3 : Int) : rS 2 I64 (xFK x0 x3) [Y, Y, Y, Y, Y, Y] [] = dn (xA3 false) [xCy x3 x0, xAD x3 x0, xFa x0 x3, xAD x3 x0, xF5 x0 x3, iY (x3 == 0), iY true, iY true] := by kernel_rfl
abbrev xHN (v0 : Str) (v1 : Int) := dc ((((gD v0 (tN v1) 0).toNat : Int) : Int) < 48)
def xML (x0 : Str) (x3 : Int) : rS 2 I64 (xFK x0 x3) [Y, Y, Y, F, Y, Y] [] = dn (xA3 false) [xCy x3 x0, xAD x3 x0, xFa x0 x3, xAD x3 x0, xF5 x0 x3, xFb x3, xAD x3 x0, iY (xHN x0 x3), iY true] := by kernel_rfl
abbrev xIg (v0 : Str) (v1 : Int) : Prop := iN (xHN v0 v1)
abbrev xG8 (v0 : Str) (v1 : Int) := dc ((((gD v0 (tN v1) 0).toNat : Int) : Int) > 57)
def xMM (x0 : Str) (x3 : Int) : rS 2 I64 (xFK x0 x3) [Y, Y, Y, F, F, Y] [] = dn (xA3 false) [xCy x3 x0, xAD x3 x0, xFa x0 x3, xAD x3 x0, xF5 x0 x3, xFb x3, xAD x3 x0, xIg x0 x3, xAD x3 x0, iY (xG8 x0 x3)] := by kernel_rfl
def xMN (x0 : Str) (x3 : Int) : rS 2 I64 (xFK x0 x3) [Y, Y, Y, F, F, F] [] = st 2 I64 (xFK x0 (W (x3 + 1))) [xCy x3 x0, xAD x3 x0, xFa x0 x3, xAD x3 x0, xF5 x0 x3, xFb x3, xAD x3 x0, xIg x0 x3, xAD x3 x0, iN (xG8 x0 x3)] := by kernel_rfl
def xMO (x0 : Str) (x3 : Int) : rS 2 I64 (xFK x0 x3) [Y, Y, F, F] [] = st 2 I64 (xFK x0 (W (x3 + 1))) [xCy x3 x0, xAD x3 x0, xFa x0 x3, xAD x3 x0, xIY x0 x3, iN false] := by kernel_rfl
def xMP (x0 : Str) (x3 : Int) : rS 2 I64 (xFK x0 x3) [Y, F, Y, Y, Y, Y] [] = dn (xA3 false) [xCy x3 x0, xAD x3 x0, xF6 x0 x3, iY (!false), iY (x3 == 0), iY true, iY true] := by kernel_rfl
def xMQ (x0 : Str) (x3 : Int) : rS 2 I64 (xFK x0 x3) [Y, F, Y, F, Y, Y] [] = dn (xA3 false) [xCy x3 x0, xAD x3 x0, xF6 x0 x3, iY (!false), xFb x3, xAD x3 x0, iY (xHN x0 x3), iY true] := by kernel_rfl
def xMR (x0 : Str) (x3 : Int) : rS 2 I64 (xFK x0 x3) [Y, F, Y, F, F, Y] [] = dn (xA3 false) [xCy x3 x0, xAD x3 x0, xF6 x0 x3, iY (!false), xFb x3, xAD x3 x0, xIg x0 x3, xAD x3 x0, iY (xG8 x0 x3)] := by kernel_rfl
def xMS (x0 : Str) (x3 : Int) : rS 2 I64 (xFK x0 x3) [Y, F, Y, F, F, F] [] = st 2 I64 (xFK x0 (W (x3 + 1))) [xCy x3 x0, xAD x3 x0, xF6 x0 x3, iY (!false), xFb x3, xAD x3 x0, xIg x0 x3, xAD x3 x0, iN (xG8 x0 x3)] := by kernel_rfl
def xMT (x0 : Str) (x3 : Int) (r1 : Bool) : rS 2 I64 (xFK x0 x3) [F] [xAS r1] = dn (xA3 r1) [iN (dc (x3 < (Ln x0 : Int))), AbC 77 (xBS (Ln x0 : Int) 1 8) (xAS r1)] := by kernel_rfl
def xJt (a0 : Str) : rE I64 (xDx a0) [] [] = st 2 I64 (xFK a0 0) [] := by kernel_rfl
theorem xPk {N : Nat} : ∀ n x0 x3 r, xBR N n x0 x3 = some r → RS Try.f64 I64 2 (xFK x0 x3) (xA3 r) := by
 intro n
 induction n with
 | zero => exact fun _ _ _ h => nE h
 | succ n ih =>
  exact fun x0 x3 r h =>
   cE h (fun h0 h => iE h fun h1 h => cE h (fun h2 h => cE h (fun h4 h => cE h (fun h5 h => dS h fk64 (xMK x0 x3) (oc8 h0 h1 h2 h1 h4 h5 rfl rfl on)) fun h5 h =>
   cE h (fun h7 h => dS h fk64 (xML x0 x3) (oc9 h0 h1 h2 h1 h4 h5 h1 h7 rfl on)) fun h7 h =>
   cE h (fun h9 h => dS h fk64 (xMM x0 x3) (oc10 h0 h1 h2 h1 h4 h5 h1 h7 h1 h9 on)) fun h9 h =>
   tS fk64 (xMN x0 x3) (oc10 h0 h1 h2 h1 h4 h5 h1 h7 h1 h9 on) (ih _ _ _ h)) fun h4 h =>
   tS fk64 (xMO x0 x3) (oc6 h0 h1 h2 h1 h4 rfl on) (ih _ _ _ h)) fun h2 h =>
   cE h (fun h4 h => dS h fk64 (xMP x0 x3) (oc7 h0 h1 h2 rfl h4 rfl rfl on)) fun h4 h =>
   cE h (fun h6 h => dS h fk64 (xMQ x0 x3) (oc8 h0 h1 h2 rfl h4 h1 h6 rfl on)) fun h6 h =>
   cE h (fun h8 h => dS h fk64 (xMR x0 x3) (oc9 h0 h1 h2 rfl h4 h1 h6 h1 h8 on)) fun h8 h =>
   tS fk64 (xMS x0 x3) (oc9 h0 h1 h2 rfl h4 h1 h6 h1 h8 on) (ih _ _ _ h)) fun h0 h =>
   bE h fun r1 h1 h => dS h fk64 (xMT x0 x3 r1) (oc2 h0 (xCE h1) on)
theorem xPl {N : Nat} : ∀ a0 r, xE8 N a0 = some r → RE Try.f64 I64 (xDx a0) (xA3 r) := fun a0 r h =>
 tE fk64 (xJt a0) on (xPk _ _ _ _ h)
theorem xFG {N : Nat} {a0 : Str} {r : Bool} (h : xE8 N  a0 = some r) : AbC 64 (xDx a0) (xA3 r) :=
 AbsCalls.of_reach fk64 rfl rfl rfl (Nat.le_of_ble_eq_true rfl) (xPl a0 r h)
noncomputable def I78 : Info := { body := (Try.f78.body).getD .skip, nt := 26, results := [.tmp 2], keep := [0, 4, 6, 8, 12, 24, 40, 48], live := [], modes := [] }
theorem fk78 : FnOk Try.prog 78 Try.f78 I78 := ⟨Try.func78, by kernel_rfl, by kernel_rfl, by kernel_rfl, by kernel_rfl⟩
def xNu (a0 : Str) : rE I78 (xAh a0) [Y] [] = dn (xAd 0) [iY (xHJ a0)] := by kernel_rfl
def xNv (a0 : Str) : rE I78 (xAh a0) [F, Y, Y] [] = dn (xAd 1) [xBX a0, xH2 a0, xH2 a0] := by kernel_rfl
def xNw (a0 : Str) : rE I78 (xAh a0) [F, F, Y, Y] [] = dn (xAd 1) [xBX a0, xB5 a0, xH3 a0, xH3 a0] := by kernel_rfl
def xNx (a0 : Str) : rE I78 (xAh a0) [F, F, F, Y, Y] [] = dn (xAd 1) [xBX a0, xB5 a0, xCo a0, xH4 a0, xH4 a0] := by kernel_rfl
def xNy (a0 : Str) : rE I78 (xAh a0) [F, F, F, F, Y, Y] [] = dn (xAd 1) [xBX a0, xB5 a0, xCo a0, xCH a0, xH5 a0, xH5 a0] := by kernel_rfl
def xNz (a0 : Str) : rE I78 (xAh a0) [F, F, F, F, F, Y] [] = dn (xAd 1) [xBX a0, xB5 a0, xCo a0, xCH a0, xCW a0, iY (xHK a0)] := by kernel_rfl
def xNA (a0 : Str) : rE I78 (xAh a0) [F, F, F, F, F, F, Y, Y] [] = dn (xAd 2) [xBX a0, xB5 a0, xCo a0, xCH a0, xCW a0, xDc a0, xH6 a0, xH6 a0] := by kernel_rfl
def xNB (a0 : Str) : rE I78 (xAh a0) [F, F, F, F, F, F, F, Y, Y] [] = dn (xAd 2) [xBX a0, xB5 a0, xCo a0, xCH a0, xCW a0, xDc a0, xDv a0, xH7 a0, xH7 a0] := by kernel_rfl
def xNC (a0 : Str) : rE I78 (xAh a0) [F, F, F, F, F, F, F, F, Y, Y] [] = dn (xAd 2) [xBX a0, xB5 a0, xCo a0, xCH a0, xCW a0, xDc a0, xDv a0, xDL a0, xH8 a0, xH8 a0] := by kernel_rfl
def xND (a0 : Str) : rE I78 (xAh a0) [F, F, F, F, F, F, F, F, F, Y, Y] [] = dn (xAd 2) [xBX a0, xB5 a0, xCo a0, xCH a0, xCW a0, xDc a0, xDv a0, xDL a0, xDY a0, xH9 a0, xH9 a0] := by kernel_rfl
def xJ2 (a0 : Str) : rE I78 (xAh a0) [F, F, F, F, F, F, F, F, F, F, Y, Y] [] = dn (xAd 2) [xBX a0, xB5 a0, xCo a0, xCH a0, xCW a0, xDc a0, xDv a0, xDL a0, xDY a0, xEq a0, xIa a0, xIa a0] := by kernel_rfl
def xJ3 (a0 : Str) : rE I78 (xAh a0) [F, F, F, F, F, F, F, F, F, F, F, Y, Y] [] = dn (xAd 2) [xBX a0, xB5 a0, xCo a0, xCH a0, xCW a0, xDc a0, xDv a0, xDL a0, xDY a0, xEq a0, xEH a0, xIb a0, xIb a0] := by kernel_rfl
def xJ4 (a0 : Str) : rE I78 (xAh a0) [F, F, F, F, F, F, F, F, F, F, F, F, Y] [] = dn (xAd 2) [xBX a0, xB5 a0, xCo a0, xCH a0, xCW a0, xDc a0, xDv a0, xDL a0, xDY a0, xEq a0, xEH a0, xFc a0, iY (xHL a0)] := by kernel_rfl
def xJ5 (a0 : Str) : rE I78 (xAh a0) [F, F, F, F, F, F, F, F, F, F, F, F, F, Y, Y] [] = dn (xAd 3) [xBX a0, xB5 a0, xCo a0, xCH a0, xCW a0, xDc a0, xDv a0, xDL a0, xDY a0, xEq a0, xEH a0, xFc a0, xFJ a0, xIc a0, xIc a0] := by kernel_rfl
def xJ6 (a0 : Str) : rE I78 (xAh a0) [F, F, F, F, F, F, F, F, F, F, F, F, F, F, Y, Y] [] = dn (xAd 3) [xBX a0, xB5 a0, xCo a0, xCH a0, xCW a0, xDc a0, xDv a0, xDL a0, xDY a0, xEq a0, xEH a0, xFc a0, xFJ a0, xGi a0, xId a0, xId a0] := by kernel_rfl
def xJ7 (a0 : Str) : rE I78 (xAh a0) [F, F, F, F, F, F, F, F, F, F, F, F, F, F, F, Y] [] = dn (xAd 3) [xBX a0, xB5 a0, xCo a0, xCH a0, xCW a0, xDc a0, xDv a0, xDL a0, xDY a0, xEq a0, xEH a0, xFc a0, xFJ a0, xGi a0, xGQ a0, iY (xHM a0)] := by kernel_rfl
def xJ8 (a0 : Str) : rE I78 (xAh a0) [F, F, F, F, F, F, F, F, F, F, F, F, F, F, F, F, Y] [] = dn (xAd 4) [xBX a0, xB5 a0, xCo a0, xCH a0, xCW a0, xDc a0, xDv a0, xDL a0, xDY a0, xEq a0, xEH a0, xFc a0, xFJ a0, xGi a0, xGQ a0, xIe a0, iY (xG6 a0)] := by kernel_rfl
def xJ9 (a0 : Str) : rE I78 (xAh a0) [F, F, F, F, F, F, F, F, F, F, F, F, F, F, F, F, F] [] = dn (xAd (-1)) [xBX a0, xB5 a0, xCo a0, xCH a0, xCW a0, xDc a0, xDv a0, xDL a0, xDY a0, xEq a0, xEH a0, xFc a0, xFJ a0, xGi a0, xGQ a0, xIe a0, iN (xG6 a0)] := by kernel_rfl
theorem xPu {N : Nat} : ∀ a0 r, xBH N a0 = some r → RE Try.f78 I78 (xAh a0) (xAd r) := fun a0 r h =>
 cE h (fun h0 h => dE h fk78 (xNu a0) (oc h0 on)) fun h0 h =>
 cE h (fun h1 h => dE h fk78 (xNv a0) (oc3 h0 h1 h1 on)) fun h1 h =>
 cE h (fun h2 h => dE h fk78 (xNw a0) (oc4 h0 h1 h2 h2 on)) fun h2 h =>
 cE h (fun h3 h => dE h fk78 (xNx a0) (oc5 h0 h1 h2 h3 h3 on)) fun h3 h =>
 cE h (fun h4 h => dE h fk78 (xNy a0) (oc6 h0 h1 h2 h3 h4 h4 on)) fun h4 h =>
 cE h (fun h5 h => dE h fk78 (xNz a0) (oc6 h0 h1 h2 h3 h4 h5 on)) fun h5 h =>
 cE h (fun h6 h => dE h fk78 (xNA a0) (oc8 h0 h1 h2 h3 h4 h5 h6 h6 on)) fun h6 h =>
 cE h (fun h7 h => dE h fk78 (xNB a0) (oc9 h0 h1 h2 h3 h4 h5 h6 h7 h7 on)) fun h7 h =>
 cE h (fun h8 h => dE h fk78 (xNC a0) (oc10 h0 h1 h2 h3 h4 h5 h6 h7 h8 h8 on)) fun h8 h =>
 cE h (fun h9 h => dE h fk78 (xND a0) (oc11 h0 h1 h2 h3 h4 h5 h6 h7 h8 h9 h9 on)) fun h9 h =>
 cE h (fun h10 h => dE h fk78 (xJ2 a0) (oc12 h0 h1 h2 h3 h4 h5 h6 h7 h8 h9 h10 h10 on)) fun h10 h =>
 cE h (fun h11 h => dE h fk78 (xJ3 a0) (oc12 h0 h1 h2 h3 h4 h5 h6 h7 h8 h9 h10 h11 (oc h11 on))) fun h11 h =>
 cE h (fun h12 h => dE h fk78 (xJ4 a0) (oc12 h0 h1 h2 h3 h4 h5 h6 h7 h8 h9 h10 h11 (oc h12 on))) fun h12 h =>
 cE h (fun h13 h => dE h fk78 (xJ5 a0) (oc12 h0 h1 h2 h3 h4 h5 h6 h7 h8 h9 h10 h11 (oc3 h12 h13 h13 on))) fun h13 h =>
 cE h (fun h14 h => dE h fk78 (xJ6 a0) (oc12 h0 h1 h2 h3 h4 h5 h6 h7 h8 h9 h10 h11 (oc4 h12 h13 h14 h14 on))) fun h14 h =>
 cE h (fun h15 h => dE h fk78 (xJ7 a0) (oc12 h0 h1 h2 h3 h4 h5 h6 h7 h8 h9 h10 h11 (oc4 h12 h13 h14 h15 on))) fun h15 h =>
 cE h (fun h16 h => dE h fk78 (xJ8 a0) (oc12 h0 h1 h2 h3 h4 h5 h6 h7 h8 h9 h10 h11 (oc5 h12 h13 h14 h15 h16 on))) fun h16 h =>
 dE h fk78 (xJ9 a0) (oc12 h0 h1 h2 h3 h4 h5 h6 h7 h8 h9 h10 h11 (oc5 h12 h13 h14 h15 h16 on))
theorem xD7 {N : Nat} {a0 : Str} {r : Int} (h : xBH N  a0 = some r) : AbC 78 (xAh a0) (xAd r) :=
 AbsCalls.of_reach fk78 rfl rfl rfl (Nat.le_of_ble_eq_true rfl) (xPu a0 r h)
noncomputable def I65 : Info := { body := (Try.f65.body).getD .skip, nt := 15, results := [.tmp 2], keep := [0, 4, 6, 8], live := [], modes := [] }
theorem fk65 : FnOk Try.prog 65 Try.f65 I65 := ⟨Try.func65, by kernel_rfl, by kernel_rfl, by kernel_rfl, by kernel_rfl⟩
def xMU (a0 : Str) : rE I65 (xAW a0) [Y, Y] [] = dn (xAN true) [iY ((a0 : Str) == [108, 101, 116]), iY ((a0 : Str) == [108, 101, 116])] := by kernel_rfl
abbrev xGC (v0 : Str) : Prop := iN ((v0 : Str) == [108, 101, 116])
def xMV (a0 : Str) : rE I65 (xAW a0) [F, Y, Y] [] = dn (xAN true) [xGC a0, iY ((a0 : Str) == [105, 110]), iY ((a0 : Str) == [105, 110])] := by kernel_rfl
abbrev xGX (v0 : Str) : Prop := iN ((v0 : Str) == [105, 110])
def xMW (a0 : Str) : rE I65 (xAW a0) [F, F, Y, Y] [] = dn (xAN true) [xGC a0, xGX a0, iY ((a0 : Str) == [105, 102]), iY ((a0 : Str) == [105, 102])] := by kernel_rfl
abbrev xHl (v0 : Str) : Prop := iN ((v0 : Str) == [105, 102])
abbrev xHO (v0 : Str) := (v0 : Str) == [116, 104, 101, 110]
def xMX (a0 : Str) : rE I65 (xAW a0) [F, F, F, Y, Y] [] = dn (xAN true) [xGC a0, xGX a0, xHl a0, iY (xHO a0), iY (xHO a0)] := by kernel_rfl
abbrev xIh (v0 : Str) : Prop := iN (xHO v0)
abbrev xHP (v0 : Str) := (v0 : Str) == [101, 108, 115, 101]
def xMY (a0 : Str) : rE I65 (xAW a0) [F, F, F, F, Y, Y] [] = dn (xAN true) [xGC a0, xGX a0, xHl a0, xIh a0, iY (xHP a0), iY (xHP a0)] := by kernel_rfl
abbrev xI5 (v0 : Str) : Prop := iN (xHP v0)
abbrev xG9 (v0 : Str) := (v0 : Str) == [102, 111, 114]
def xMZ (a0 : Str) : rE I65 (xAW a0) [F, F, F, F, F, Y, Y] [] = dn (xAN true) [xGC a0, xGX a0, xHl a0, xIh a0, xI5 a0, iY (xG9 a0), iY (xG9 a0)] := by kernel_rfl
def xM0 (a0 : Str) : rE I65 (xAW a0) [F, F, F, F, F, F, Y] [] = dn (xAN true) [xGC a0, xGX a0, xHl a0, xIh a0, xI5 a0, iN (xG9 a0), iY ((a0 : Str) == [100, 111])] := by kernel_rfl
def xM1 (a0 : Str) (r1 : Int) : rE I65 (xAW a0) [F, F, F, F, F, F, F] [xAd r1] = dn (xAN (dc (r1 ≥ 0))) [xGC a0, xGX a0, xHl a0, xIh a0, xI5 a0, iN (xG9 a0), iN ((a0 : Str) == [100, 111]), AbC 78 (xAh a0) (xAd r1)] := by kernel_rfl
theorem xPm {N : Nat} : ∀ a0 r, xDi N a0 = some r → RE Try.f65 I65 (xAW a0) (xAN r) := fun a0 r h =>
 cE h (fun h0 h => dE h fk65 (xMU a0) (oc2 h0 h0 on)) fun h0 h =>
 cE h (fun h1 h => dE h fk65 (xMV a0) (oc3 h0 h1 h1 on)) fun h1 h =>
 cE h (fun h2 h => dE h fk65 (xMW a0) (oc4 h0 h1 h2 h2 on)) fun h2 h =>
 cE h (fun h3 h => dE h fk65 (xMX a0) (oc5 h0 h1 h2 h3 h3 on)) fun h3 h =>
 cE h (fun h4 h => dE h fk65 (xMY a0) (oc6 h0 h1 h2 h3 h4 h4 on)) fun h4 h =>
 cE h (fun h5 h => dE h fk65 (xMZ a0) (oc7 h0 h1 h2 h3 h4 h5 h5 on)) fun h5 h =>
 cE h (fun h6 h => dE h fk65 (xM0 a0) (oc7 h0 h1 h2 h3 h4 h5 h6 on)) fun h6 h =>
 bE h fun r1 h7 h => dE h fk65 (xM1 a0 r1) (oc8 h0 h1 h2 h3 h4 h5 h6 (xD7 h7) on)
theorem xF0 {N : Nat} {a0 : Str} {r : Bool} (h : xDi N  a0 = some r) : AbC 65 (xAW a0) (xAN r) :=
 AbsCalls.of_reach fk65 rfl rfl rfl (Nat.le_of_ble_eq_true rfl) (xPm a0 r h)
noncomputable def I41 : Info := { body := (Try.f41.body).getD .skip, nt := 10, results := [.tmp 2], keep := [0, 4], live := [], modes := [(1, [(2, .take, false)])] }
theorem fk41 : FnOk Try.prog 41 Try.f41 I41 := ⟨Try.func41, by kernel_rfl, by kernel_rfl, by kernel_rfl, by kernel_rfl⟩
def xLD (a0 : Str) (r1 r2 : Bool) : rE I41 (xBN a0) [Y] [xA3 r1, xAN r2] = dn (xAs (!r2)) [AbC 64 (xDx a0) (xA3 r1), iY r1, AbC 65 (xAW a0) (xAN r2)] := by kernel_rfl
def xLE (a0 : Str) (r1 : Bool) : rE I41 (xBN a0) [F] [xA3 r1] = dn (xAs false) [AbC 64 (xDx a0) (xA3 r1), iN r1] := by kernel_rfl
theorem xOT {N : Nat} : ∀ a0 r, xBA N a0 = some r → RE Try.f41 I41 (xBN a0) (xAs r) := fun a0 r h =>
 bE h fun r1 h0 h => cE h (fun h1 h => bE h fun r2 h2 h => dE h fk41 (xLD a0 r1 r2) (oc3 (xFG h0) h1 (xF0 h2) on)) fun h1 h =>
 dE h fk41 (xLE a0 r1) (oc2 (xFG h0) h1 on)
theorem xAF {N : Nat} {a0 : Str} {r : Bool} (h : xBA N  a0 = some r) : AbC 41 (xBN a0) (xAs r) :=
 AbsCalls.of_reach fk41 rfl rfl rfl (Nat.le_of_ble_eq_true rfl) (xOT a0 r h)
end Go.Ab.T
end
section
open Go.Proofs
namespace Go.Ab.T
set_option maxRecDepth 100000
variable [Inhabited Lb]
noncomputable def I76 : Info := { body := (Try.f76.body).getD .skip, nt := 120, results := [.tmp 2], keep := [0, 2, 4, 6, 16, 18, 46, 74, 102, 130, 154, 182, 212, 3], live := [], modes := [(4, [(3, .take, false), (8, .take, false)]), (6, [(3, .take, false), (8, .take, false)]), (8, [(3, .take, false), (8, .take, false)]), (10, [(3, .take, false), (8, .take, false)]), (12, [(3, .take, false)]), (14, [(3, .take, false), (8, .take, false)]), (17, [(3, .take, false), (8, .take, false)]), (19, [(3, .take, false), (8, .take, false)])] }
theorem fk76 : FnOk Try.prog 76 Try.f76 I76 := ⟨Try.func76, by kernel_rfl, by kernel_rfl, by kernel_rfl, by kernel_rfl⟩
abbrev xI6 (v0 : Exp) (v1 : Bool) : Prop := AbC 77 (xBS (Exp.n v0) 0 1000000000) (xAS v1)
abbrev xHQ (v0 : Exp) := xAv ((Ln (Exp.args v0) : Int) == 0)
def xNi (a0 : Exp) (r1 : Bool) : rE I76 (xAr a0) [Y, Y, Y] [xAS r1] = dn (xHQ a0) [xGR a0, xI6 a0 r1, iY r1, xF7 a0] := by kernel_rfl
def xNj (a0 : Exp) (r1 : Bool) : rE I76 (xAr a0) [Y, Y, F] [xAS r1] = dn (xAv false) [xGR a0, xI6 a0 r1, iY r1, xGj a0] := by kernel_rfl
def xNk (a0 : Exp) (r1 : Bool) : rE I76 (xAr a0) [Y, F, F] [xAS r1] = dn (xAv false) [xGR a0, xI6 a0 r1, iN r1, iN false] := by kernel_rfl
def xNl (a0 : Exp) (r1 : Bool) : rE I76 (xAr a0) [F, Y, Y, Y] [xAP r1] = dn (xHQ a0) [xBi a0, xGT a0, xDd a0, AbC 89 (xCd (Exp.text a0)) (xAP r1), iY r1] := by kernel_rfl
def xNm (a0 : Exp) (r1 : Bool) : rE I76 (xAr a0) [F, Y, Y, F] [xAP r1] = dn (xAv false) [xBi a0, xGT a0, xDd a0, AbC 89 (xCd (Exp.text a0)) (xAP r1), iN r1] := by kernel_rfl
def xNn (a0 : Exp) : rE I76 (xAr a0) [F, Y, F, F] [] = dn (xAv false) [xBi a0, xGT a0, xEI a0, iN false] := by kernel_rfl
abbrev xGY (v0 : Exp) (v1 : Bool) : Prop := AbC 41 (xBN (Exp.text v0)) (xAs v1)
def xNo (a0 : Exp) (r1 : Bool) : rE I76 (xAr a0) [F, F, Y, Y, Y] [xAs r1] = dn (xHQ a0) [xBi a0, xBC a0, xEy a0, xDd a0, xGY a0 r1, iY r1] := by kernel_rfl
def xNp (a0 : Exp) (r1 : Bool) : rE I76 (xAr a0) [F, F, Y, Y, F] [xAs r1] = dn (xAv false) [xBi a0, xBC a0, xEy a0, xDd a0, xGY a0 r1, iN r1] := by kernel_rfl
def xNq (a0 : Exp) : rE I76 (xAr a0) [F, F, Y, F, F] [] = dn (xAv false) [xBi a0, xBC a0, xEy a0, xEI a0, iN false] := by kernel_rfl
def xNr (a0 : Exp) : rE I76 (xAr a0) [F, F, F, Y, Y, Y] [] = dn (xAv (dc ((xDT a0) ≤ 8))) [xBi a0, xBC a0, xBw a0, xGU a0, xDd a0, xF7 a0] := by kernel_rfl
def xJL (a0 : Exp) : rE I76 (xAr a0) [F, F, F, Y, Y, F] [] = dn (xAv false) [xBi a0, xBC a0, xBw a0, xGU a0, xDd a0, xGj a0] := by kernel_rfl
def xJM (a0 : Exp) : rE I76 (xAr a0) [F, F, F, Y, F, F] [] = dn (xAv false) [xBi a0, xBC a0, xBw a0, xGU a0, xEI a0, iN false] := by kernel_rfl
def xJN (a0 : Exp) (r1 : Int) : rE I76 (xAr a0) [F, F, F, F, Y, Y] [xAd r1] = dn (xAv ((xDT a0) == r1)) [xBi a0, xBC a0, xBw a0, xCp a0, xIf a0, xDd a0, AbC 78 (xAh (Exp.text a0)) (xAd r1)] := by kernel_rfl
def xJO (a0 : Exp) : rE I76 (xAr a0) [F, F, F, F, Y, F] [] = dn (xAv false) [xBi a0, xBC a0, xBw a0, xCp a0, xIf a0, xEI a0] := by kernel_rfl
abbrev xHR (v0 : Exp) := xAv ((Ln (Exp.args v0) : Int) == 2)
def xJP (a0 : Exp) (r1 : Bool) : rE I76 (xAr a0) [F, F, F, F, F, Y, Y, Y] [xAS r1] = dn (xHR a0) [xBi a0, xBC a0, xBw a0, xCp a0, xCX a0, xGV a0, AbC 77 (xBS (Exp.n a0) 1 5) (xAS r1), iY r1, xF7 a0] := by kernel_rfl
def xJQ (a0 : Exp) (r1 : Bool) : rE I76 (xAr a0) [F, F, F, F, F, Y, Y, F] [xAS r1] = dn (xAv false) [xBi a0, xBC a0, xBw a0, xCp a0, xCX a0, xGV a0, AbC 77 (xBS (Exp.n a0) 1 5) (xAS r1), iY r1, xGj a0] := by kernel_rfl
def xJR (a0 : Exp) (r1 : Bool) : rE I76 (xAr a0) [F, F, F, F, F, Y, F, F] [xAS r1] = dn (xAv false) [xBi a0, xBC a0, xBw a0, xCp a0, xCX a0, xGV a0, AbC 77 (xBS (Exp.n a0) 1 5) (xAS r1), iN r1, iN false] := by kernel_rfl
def xJS (a0 : Exp) (r1 : Bool) : rE I76 (xAr a0) [F, F, F, F, F, F, Y, Y, Y, Y] [xAs r1] = dn (xHR a0) [xBi a0, xBC a0, xBw a0, xCp a0, xCX a0, xDM a0, xET a0, xET a0, xDd a0, xGY a0 r1, iY r1] := by kernel_rfl
def xJT (a0 : Exp) (r1 : Bool) : rE I76 (xAr a0) [F, F, F, F, F, F, Y, Y, Y, F] [xAs r1] = dn (xAv false) [xBi a0, xBC a0, xBw a0, xCp a0, xCX a0, xDM a0, xET a0, xET a0, xDd a0, xGY a0 r1, iN r1] := by kernel_rfl
def xJU (a0 : Exp) : rE I76 (xAr a0) [F, F, F, F, F, F, Y, Y, F, F] [] = dn (xAv false) [xBi a0, xBC a0, xBw a0, xCp a0, xCX a0, xDM a0, xET a0, xET a0, xEI a0, iN false] := by kernel_rfl
def xJV (a0 : Exp) (r1 : Bool) : rE I76 (xAr a0) [F, F, F, F, F, F, F, Y, Y, Y] [xAs r1] = dn (xHR a0) [xBi a0, xBC a0, xBw a0, xCp a0, xCX a0, xDM a0, xCj a0, xEx a0, xDd a0, xGY a0 r1, iY r1] := by kernel_rfl
def xJW (a0 : Exp) (r1 : Bool) : rE I76 (xAr a0) [F, F, F, F, F, F, F, Y, Y, F] [xAs r1] = dn (xAv false) [xBi a0, xBC a0, xBw a0, xCp a0, xCX a0, xDM a0, xCj a0, xEx a0, xDd a0, xGY a0 r1, iN r1] := by kernel_rfl
def xJX (a0 : Exp) : rE I76 (xAr a0) [F, F, F, F, F, F, F, Y, F, F] [] = dn (xAv false) [xBi a0, xBC a0, xBw a0, xCp a0, xCX a0, xDM a0, xCj a0, xEx a0, xEI a0, iN false] := by kernel_rfl
def xJY (a0 : Exp) : rE I76 (xAr a0) [F, F, F, F, F, F, F, F, Y, Y, Y] [] = dn (xAv ((xDT a0) == 3)) [xBi a0, xBC a0, xBw a0, xCp a0, xCX a0, xDM a0, xCj a0, xEp a0, xGW a0, xDd a0, xF7 a0] := by kernel_rfl
def xJZ (a0 : Exp) : rE I76 (xAr a0) [F, F, F, F, F, F, F, F, Y, Y, F] [] = dn (xAv false) [xBi a0, xBC a0, xBw a0, xCp a0, xCX a0, xDM a0, xCj a0, xEp a0, xGW a0, xDd a0, xGj a0] := by kernel_rfl
def xJ0 (a0 : Exp) : rE I76 (xAr a0) [F, F, F, F, F, F, F, F, Y, F, F] [] = dn (xAv false) [xBi a0, xBC a0, xBw a0, xCp a0, xCX a0, xDM a0, xCj a0, xEp a0, xGW a0, xEI a0, iN false] := by kernel_rfl
def xJ1 (a0 : Exp) : rE I76 (xAr a0) [F, F, F, F, F, F, F, F, F] [] = dn (xAv false) [xBi a0, xBC a0, xBw a0, xCp a0, xCX a0, xDM a0, xCj a0, xEp a0, iN ((Exp.kind a0) == 8)] := by kernel_rfl
theorem xPs {N : Nat} : ∀ a0 r, xEu N a0 = some r → RE Try.f76 I76 (xAr a0) (xAv r) := fun a0 r h =>
 cE h (fun h0 h => bE h fun r1 h1 h => cE h (fun h2 h => cE h (fun h3 h => dE h fk76 (xNi a0 r1) (oc4 h0 (xCE h1) h2 h3 on)) fun h3 h =>
 dE h fk76 (xNj a0 r1) (oc4 h0 (xCE h1) h2 h3 on)) fun h2 h =>
 dE h fk76 (xNk a0 r1) (oc4 h0 (xCE h1) h2 rfl on)) fun h0 h =>
 cE h (fun h1 h => cE h (fun h2 h => bE h fun r1 h3 h => cE h (fun h4 h => dE h fk76 (xNl a0 r1) (oc5 h0 h1 h2 (xEt h3) h4 on)) fun h4 h =>
 dE h fk76 (xNm a0 r1) (oc5 h0 h1 h2 (xEt h3) h4 on)) fun h2 h =>
 dE h fk76 (xNn a0) (oc4 h0 h1 h2 rfl on)) fun h1 h =>
 cE h (fun h2 h => cE h (fun h3 h => bE h fun r1 h4 h => cE h (fun h5 h => dE h fk76 (xNo a0 r1) (oc6 h0 h1 h2 h3 (xAF h4) h5 on)) fun h5 h =>
 dE h fk76 (xNp a0 r1) (oc6 h0 h1 h2 h3 (xAF h4) h5 on)) fun h3 h =>
 dE h fk76 (xNq a0) (oc5 h0 h1 h2 h3 rfl on)) fun h2 h =>
 cE h (fun h3 h => cE h (fun h4 h => cE h (fun h5 h => dE h fk76 (xNr a0) (oc6 h0 h1 h2 h3 h4 h5 on)) fun h5 h =>
 dE h fk76 (xJL a0) (oc6 h0 h1 h2 h3 h4 h5 on)) fun h4 h =>
 dE h fk76 (xJM a0) (oc6 h0 h1 h2 h3 h4 rfl on)) fun h3 h =>
 cE h (fun h4 h => cE h (fun h5 h => bE h fun r1 h6 h => dE h fk76 (xJN a0 r1) (oc7 h0 h1 h2 h3 h4 h5 (xD7 h6) on)) fun h5 h =>
 dE h fk76 (xJO a0) (oc6 h0 h1 h2 h3 h4 h5 on)) fun h4 h =>
 cE h (fun h5 h => bE h fun r1 h6 h => cE h (fun h7 h => cE h (fun h8 h => dE h fk76 (xJP a0 r1) (oc9 h0 h1 h2 h3 h4 h5 (xCE h6) h7 h8 on)) fun h8 h =>
 dE h fk76 (xJQ a0 r1) (oc9 h0 h1 h2 h3 h4 h5 (xCE h6) h7 h8 on)) fun h7 h =>
 dE h fk76 (xJR a0 r1) (oc9 h0 h1 h2 h3 h4 h5 (xCE h6) h7 rfl on)) fun h5 h =>
 cE h (fun h6 h => cE h (fun h8 h => bE h fun r1 h9 h => cE h (fun h10 h => dE h fk76 (xJS a0 r1) (oc11 h0 h1 h2 h3 h4 h5 h6 h6 h8 (xAF h9) h10 on)) fun h10 h =>
 dE h fk76 (xJT a0 r1) (oc11 h0 h1 h2 h3 h4 h5 h6 h6 h8 (xAF h9) h10 on)) fun h8 h =>
 dE h fk76 (xJU a0) (oc10 h0 h1 h2 h3 h4 h5 h6 h6 h8 rfl on)) fun h6 h =>
 cE h (fun h7 h => cE h (fun h8 h => bE h fun r1 h9 h => cE h (fun h10 h => dE h fk76 (xJV a0 r1) (oc11 h0 h1 h2 h3 h4 h5 h6 h7 h8 (xAF h9) h10 on)) fun h10 h =>
 dE h fk76 (xJW a0 r1) (oc11 h0 h1 h2 h3 h4 h5 h6 h7 h8 (xAF h9) h10 on)) fun h8 h =>
 dE h fk76 (xJX a0) (oc10 h0 h1 h2 h3 h4 h5 h6 h7 h8 rfl on)) fun h7 h =>
 cE h (fun h8 h => cE h (fun h9 h => cE h (fun h10 h => dE h fk76 (xJY a0) (oc11 h0 h1 h2 h3 h4 h5 h6 h7 h8 h9 h10 on)) fun h10 h =>
 dE h fk76 (xJZ a0) (oc11 h0 h1 h2 h3 h4 h5 h6 h7 h8 h9 h10 on)) fun h9 h =>
 dE h fk76 (xJ0 a0) (oc11 h0 h1 h2 h3 h4 h5 h6 h7 h8 h9 rfl on)) fun h8 h =>
 dE h fk76 (xJ1 a0) (oc9 h0 h1 h2 h3 h4 h5 h6 h7 h8 on)
theorem xGK {N : Nat} {a0 : Exp} {r : Bool} (h : xEu N  a0 = some r) : AbC 76 (xAr a0) (xAv r) :=
 AbsCalls.of_reach fk76 rfl rfl rfl (Nat.le_of_ble_eq_true rfl) (xPs a0 r h)
def G63 (q : Exp → Option (Bool)) : Prop := ∀ a0 r, q a0 = some r → AbC 63 (xBM a0) (xAU r)
noncomputable def I63 : Info := { body := (Try.f63.body).getD .skip, nt := 18, results := [.tmp 2], keep := [0, 2, 4, 8, 12, 14, 16, 18, 28, 3, 9], live := [(2, [2, 12, 14, 16, 3])], modes := [(6, [(1, .take, false)])] }
theorem fk63 : FnOk Try.prog 63 Try.f63 I63 := ⟨Try.func63, by kernel_rfl, by kernel_rfl, by kernel_rfl, by kernel_rfl⟩
def xIs (x6 : List Exp) (x7 x8 : Int) (b1 : Exp) : St := [(2, .v false [.ptr 1 0]), (12, .v false [.sl .ro .exp x6]), (14, .v false [.int .i64 x7]), (16, .v false [.int .i64 x8]), (3, .v true [.int .i64 (Exp.kind b1), .int .i64 (Exp.n b1), .str (Exp.text b1), .sl .ro .exp (Exp.args b1)])]
def xMG (x6 : List Exp) (x7 x8 : Int) (b1 : Exp) (r1 : Bool) : rS 2 I63 (xIs x6 x7 x8 b1) [Y, Y] [xAU r1] = dn (xAU false) [xEZ x8 x7, xDt x8 x6, AbC 63 (xBM (xCQ x6 x8)) (xAU r1), iY (!r1)] := by kernel_rfl
def xMH (x6 : List Exp) (x7 x8 : Int) (b1 : Exp) (r1 : Bool) : rS 2 I63 (xIs x6 x7 x8 b1) [Y, F] [xAU r1] = st 2 I63 (xIs x6 x7 (W (x8 + 1)) b1) [xEZ x8 x7, xDt x8 x6, AbC 63 (xBM (xCQ x6 x8)) (xAU r1), xA4 r1] := by kernel_rfl
def xMI (x6 : List Exp) (x7 x8 : Int) (b1 : Exp) (r1 : Bool) : rS 2 I63 (xIs x6 x7 x8 b1) [F] [xAv r1] = dn (xAU r1) [iN (dc (x8 < x7)), AbC 76 (xAr b1) (xAv r1)] := by kernel_rfl
def xMJ (a0 : Exp) : rE I63 (xBM a0) [] [] = st 2 I63 (xIs (Exp.args a0) (xDT a0) 0 a0) [] := by kernel_rfl
theorem xPi {N q0} (g0 : G63 q0) : ∀ n x6 x7 x8 b1 r, xB0 N q0 n x6 x7 x8 b1 = some r → RS Try.f63 I63 2 (xIs x6 x7 x8 b1) (xAU r) := by
 intro n
 induction n with
 | zero => exact fun _ _ _ _ _ h => nE h
 | succ n ih =>
  exact fun x6 x7 x8 b1 r h =>
   cE h (fun h0 h => iE h fun h1 h => bE h fun r1 h2 h => cE h (fun h3 h => dS h fk63 (xMG x6 x7 x8 b1 r1) (oc4 h0 h1 (g0 _ _ h2) h3 on)) fun h3 h =>
   tS fk63 (xMH x6 x7 x8 b1 r1) (oc4 h0 h1 (g0 _ _ h2) h3 on) (ih _ _ _ _ _ h)) fun h0 h =>
   bE h fun r1 h1 h => dS h fk63 (xMI x6 x7 x8 b1 r1) (oc2 h0 (xGK h1) on)
theorem xPj {N q0} (g0 : G63 q0) : ∀ a0 r, xDP N q0 a0 = some r → RE Try.f63 I63 (xBM a0) (xAU r) := fun a0 r h =>
 tE fk63 (xMJ a0) on (xPi g0 _ _ _ _ _ _ h)
theorem xFo {N q0} (g0 : G63 q0) {a0} {r} (h : xDP N q0 a0 = some r) : AbC 63 (xBM a0) (xAU r) :=
 AbsCalls.of_reach fk63 rfl rfl rfl (Nat.le_of_ble_eq_true rfl) (xPj g0 a0 r h)
theorem xEn {N : Nat} : ∀ d, G63 (xCJ N d)
 | 0 => fun _ _ h => nE h
 | d + 1 => fun _ _ h => xFo (N := N) (xEn d) h
theorem xGn {N : Nat} {a0 : Exp} {r : Bool} (h : xE7 N a0 = some r) : AbC 63 (xBM a0) (xAU r) := xEn N _ r h
noncomputable def I40 : Info := { body := (Try.f40.body).getD .skip, nt := 15, results := [.tmp 2], keep := [0, 2, 4, 3], live := [], modes := [(1, [(3, .take, false), (8, .take, false)])] }
theorem fk40 : FnOk Try.prog 40 Try.f40 I40 := ⟨Try.func40, by kernel_rfl, by kernel_rfl, by kernel_rfl, by kernel_rfl⟩
def xLA (a0 : Exp) (r1 r2 : Int) (r3 : Bool) : rE I40 (xAY a0) [Y, Y] [xAI r1, xAT r2, xAU r3] = dn (xAB r3) [AbC 61 (xBr a0) (xAI r1), iY (dc (r1 ≤ 40)), AbC 62 (xBD a0) (xAT r2), iY (dc (r2 ≤ 8)), AbC 63 (xBM a0) (xAU r3)] := by kernel_rfl
def xLB (a0 : Exp) (r1 r2 : Int) : rE I40 (xAY a0) [Y, F] [xAI r1, xAT r2] = dn (xAB false) [AbC 61 (xBr a0) (xAI r1), iY (dc (r1 ≤ 40)), AbC 62 (xBD a0) (xAT r2), iN (dc (r2 ≤ 8))] := by kernel_rfl
def xLC (a0 : Exp) (r1 : Int) : rE I40 (xAY a0) [F, F] [xAI r1] = dn (xAB false) [AbC 61 (xBr a0) (xAI r1), iN (dc (r1 ≤ 40)), iN false] := by kernel_rfl
theorem xOS {N : Nat} : ∀ a0 r, xC2 N a0 = some r → RE Try.f40 I40 (xAY a0) (xAB r) := fun a0 r h =>
 bE h fun r1 h0 h => cE h (fun h1 h => bE h fun r2 h2 h => cE h (fun h3 h => bE h fun r3 h4 h => dE h fk40 (xLA a0 r1 r2 r3) (oc5 (xDZ h0) h1 (xEX h2) h3 (xGn h4) on)) fun h3 h =>
 dE h fk40 (xLB a0 r1 r2) (oc4 (xDZ h0) h1 (xEX h2) h3 on)) fun h1 h =>
 dE h fk40 (xLC a0 r1) (oc3 (xDZ h0) h1 rfl on)
theorem xCc {N : Nat} {a0 : Exp} {r : Bool} (h : xC2 N  a0 = some r) : AbC 40 (xAY a0) (xAB r) :=
 AbsCalls.of_reach fk40 rfl rfl rfl (Nat.le_of_ble_eq_true rfl) (xOS a0 r h)
def G66 (q : Exp → Option (Exp)) : Prop := ∀ a0 r, q a0 = some r → AbC 66 (xB1 a0) (xBo r)
noncomputable def I66 : Info := { body := (Try.f66.body).getD .skip, nt := 29, results := [.cell 2 29], keep := [0, 2, 4, 6, 10, 28, 30, 32, 34, 3, 5, 7, 11], live := [(3, [4, 6, 28, 30, 32, 5, 7])], modes := [(5, [(1, .take, false), (5, .take, false)]), (6, [(1, .take, false)]), (7, [(0, .take, false)])] }
theorem fk66 : FnOk Try.prog 66 Try.f66 I66 := ⟨Try.func66, by kernel_rfl, by kernel_rfl, by kernel_rfl, by kernel_rfl⟩
def xIH (x14 : List Exp) (x15 x16 : Int) (b2 b3 : Exp) : St := [(4, .v false [.ptr 2 0]), (6, .v false [.ptr 3 0]), (28, .v false [.sl .ro .exp x14]), (30, .v false [.int .i64 x15]), (32, .v false [.int .i64 x16]), (5, .v true [.int .i64 (Exp.kind b2), .int .i64 (Exp.n b2), .str (Exp.text b2), .sl .own .exp (Exp.args b2)]), (7, .v true [.int .i64 (Exp.kind b3), .int .i64 (Exp.n b3), .str (Exp.text b3), .sl .own .exp (Exp.args b3)])]
def xM2 (x14 : List Exp) (x15 x16 : Int) (b2 b3 r1 : Exp) : rS 3 I66 (xIH x14 x15 x16 b2 b3) [Y] [xBo r1] = st 3 I66 (xIH x14 x15 (W (x16 + 1)) b2 (Exp.mk (Exp.kind b3) (Exp.n b3) (Exp.text b3) ((Exp.args b3) ++ [(Exp.re r1)]))) [xEZ x16 x15, xDt x16 x14, AbC 66 (xB1 (xCQ x14 x16)) (xBo r1), xFd b3 r1] := by kernel_rfl
def xM3 (x14 : List Exp) (x15 x16 : Int) (b2 b3 : Exp) : rS 3 I66 (xIH x14 x15 x16 b2 b3) [F] [] = dn (xBo b3) [iN (dc (x16 < x15))] := by kernel_rfl
def xM4 (a0 : Exp) : rE I66 (xB1 a0) [] [] = st 3 I66 (xIH (Exp.args a0) (xDT a0) 0 (Exp.mk 0 0 [] []) (xG7 a0)) [] := by kernel_rfl
theorem xPn {N q0} (g0 : G66 q0) : ∀ n x14 x15 x16 b2 b3 r, xCq N q0 n x14 x15 x16 b2 b3 = some r → RS Try.f66 I66 3 (xIH x14 x15 x16 b2 b3) (xBo r) := by
 intro n
 induction n with
 | zero => exact fun _ _ _ _ _ _ h => nE h
 | succ n ih =>
  exact fun x14 x15 x16 b2 b3 r h =>
   cE h (fun h0 h => iE h fun h1 h => bE h fun r1 h2 h => iE h fun h3 h => tS fk66 (xM2 x14 x15 x16 b2 b3 r1) (oc4 h0 h1 (g0 _ _ h2) h3 on) (ih _ _ _ _ _ _ h)) fun h0 h =>
   dS h fk66 (xM3 x14 x15 x16 b2 b3) (oc h0 on)
theorem xPo {N q0} (g0 : G66 q0) : ∀ a0 r, xDQ N q0 a0 = some r → RE Try.f66 I66 (xB1 a0) (xBo r) := fun a0 r h =>
 tE fk66 (xM4 a0) on (xPn g0 _ _ _ _ _ _ _ h)
theorem xFp {N q0} (g0 : G66 q0) {a0} {r} (h : xDQ N q0 a0 = some r) : AbC 66 (xB1 a0) (xBo r) :=
 AbsCalls.of_reach fk66 rfl rfl rfl (Nat.le_of_ble_eq_true rfl) (xPo g0 a0 r h)
theorem xEo {N : Nat} : ∀ d, G66 (xCK N d)
 | 0 => fun _ _ h => nE h
 | d + 1 => fun _ _ h => xFp (N := N) (xEo d) h
theorem xGo {N : Nat} {a0 : Exp} {r : Exp} (h : xEr N a0 = some r) : AbC 66 (xB1 a0) (xBo r) := xEo N _ r h
def G42 (q : Exp → Str → Str → Option (Exp)) : Prop := ∀ a0 a1 a2 r, q a0 a1 a2 = some r → AbC 42 (xA9 a0 a1 a2) (xBa r)
noncomputable def I42 : Info := { body := (Try.f42.body).getD .skip, nt := 74, results := [.cell 6 29], keep := [0, 2, 4, 6, 12, 14, 16, 18, 20, 52, 88, 90, 92, 94, 110, 7, 13, 15, 21], live := [(6, [2, 4, 12, 14, 16, 88, 90, 92, 13, 15])], modes := [(2, [(3, .take, false)]), (4, [(3, .take, false), (8, .take, false)]), (8, [(0, .take, false), (1, .take, false), (2, .take, false)]), (9, [(1, .take, false), (5, .take, false)]), (10, [(1, .take, false), (7, .take, false)]), (11, [(1, .take, false)]), (12, [(0, .take, false)])] }
theorem fk42 : FnOk Try.prog 42 Try.f42 I42 := ⟨Try.func42, by kernel_rfl, by kernel_rfl, by kernel_rfl, by kernel_rfl⟩
def xGq (x1 x2 : Str) (x8 : Bool) (x44 : List Exp) (x45 x46 : Int) (b6 b7 : Exp) : St := [(2, .v false [.str x1]), (4, .v false [.str x2]), (12, .v false [.ptr 6 0]), (14, .v false [.ptr 7 0]), (16, .v false [.bool x8]), (88, .v false [.sl .ro .exp x44]), (90, .v false [.int .i64 x45]), (92, .v false [.int .i64 x46]), (13, .v true [.int .i64 (Exp.kind b6), .int .i64 (Exp.n b6), .str (Exp.text b6), .sl .own .exp (Exp.args b6)]), (15, .v true [.int .i64 (Exp.kind b7), .int .i64 (Exp.n b7), .str (Exp.text b7), .sl .own .exp (Exp.args b7)])]
def xLF (x1 x2 : Str) (x8 : Bool) (x44 : List Exp) (x45 x46 : Int) (b6 b7 r1 : Exp) : rS 6 I42 (xGq x1 x2 x8 x44 x45 x46 b6 b7) [Y, Y, Y] [xBo r1] = st 6 I42 (xGq x1 x2 x8 x44 x45 (W (x46 + 1)) b6 (Exp.mk (Exp.kind b7) (Exp.n b7) (Exp.text b7) ((Exp.args b7) ++ [(Exp.re r1)]))) [xEZ x46 x45, xDt x46 x44, iY x8, xHS x46, AbC 66 (xB1 (xCQ x44 x46)) (xBo r1), xFd b7 r1] := by kernel_rfl
def xLG (x1 x2 : Str) (x8 : Bool) (x44 : List Exp) (x45 x46 : Int) (b6 b7 r1 : Exp) : rS 6 I42 (xGq x1 x2 x8 x44 x45 x46 b6 b7) [Y, Y, F] [xBa r1] = st 6 I42 (xGq x1 x2 x8 x44 x45 (W (x46 + 1)) b6 (Exp.mk (Exp.kind b7) (Exp.n b7) (Exp.text b7) ((Exp.args b7) ++ [(Exp.re r1)]))) [xEZ x46 x45, xDt x46 x44, iY x8, xGy x46, AbC 42 (xA9 (xCQ x44 x46) x1 x2) (xBa r1), xFd b7 r1] := by kernel_rfl
def xLH (x1 x2 : Str) (x8 : Bool) (x44 : List Exp) (x45 x46 : Int) (b6 b7 r1 : Exp) : rS 6 I42 (xGq x1 x2 x8 x44 x45 x46 b6 b7) [Y, F, F] [xBa r1] = st 6 I42 (xGq x1 x2 x8 x44 x45 (W (x46 + 1)) b6 (Exp.mk (Exp.kind b7) (Exp.n b7) (Exp.text b7) ((Exp.args b7) ++ [(Exp.re r1)]))) [xEZ x46 x45, xDt x46 x44, iN x8, iN false, AbC 42 (xA9 (xCQ x44 x46) x1 x2) (xBa r1), xFd b7 r1] := by kernel_rfl
def xLI (x1 x2 : Str) (x8 : Bool) (x44 : List Exp) (x45 x46 : Int) (b6 b7 : Exp) : rS 6 I42 (xGq x1 x2 x8 x44 x45 x46 b6 b7) [F] [] = dn (xBa b7) [iN (dc (x46 < x45))] := by kernel_rfl
def xLJ (a0 : Exp) (a1 a2 : Str) : rE I42 (xA9 a0 a1 a2) [Y, Y, F, F] [] = st 6 I42 (xGq a1 a2 false (Exp.args a0) (xDT a0) 0 (Exp.mk 0 0 [] []) (Exp.mk (Exp.kind a0) (Exp.n a0) a2 [])) [xEy a0, xHh a0 a1, xCj a0, xEp a0] := by kernel_rfl
abbrev xIW (v0 v1 : Str) (v2 : Exp) := xGq v0 v1 false (Exp.args v2) (Ln (Exp.args v2) : Int) 0 (Exp.mk 0 0 [] []) (Exp.mk (Exp.kind v2) (Exp.n v2) (Exp.text v2) [])
def xLK (a0 : Exp) (a1 a2 : Str) : rE I42 (xA9 a0 a1 a2) [Y, F, F, F] [] = st 6 I42 (xIW a1 a2 a0) [xEy a0, xHi a0 a1, xCj a0, xEp a0] := by kernel_rfl
abbrev xIX (v0 v1 : Str) (v2 : Exp) := xGq v0 v1 (((Exp.text v2) : Str) == v0) (Exp.args v2) (Ln (Exp.args v2) : Int) 0 (Exp.mk 0 0 [] []) (Exp.mk (Exp.kind v2) (Exp.n v2) (Exp.text v2) [])
def xLL (a0 : Exp) (a1 a2 : Str) : rE I42 (xA9 a0 a1 a2) [F, F, Y, Y] [] = st 6 I42 (xIX a1 a2 a0) [xBw a0, iN false, xET a0, iY true] := by kernel_rfl
def xLM (a0 : Exp) (a1 a2 : Str) : rE I42 (xA9 a0 a1 a2) [F, F, F, Y] [] = st 6 I42 (xIX a1 a2 a0) [xBw a0, iN false, xCj a0, xEx a0] := by kernel_rfl
def xLN (a0 : Exp) (a1 a2 : Str) : rE I42 (xA9 a0 a1 a2) [F, F, F, F] [] = st 6 I42 (xIW a1 a2 a0) [xBw a0, iN false, xCj a0, xEp a0] := by kernel_rfl
theorem xII {N q0} (g0 : G42 q0) : ∀ n x1 x2 x8 x44 x45 x46 b6 b7 r, xAX N q0 n x1 x2 x8 x44 x45 x46 b6 b7 = some r → RS Try.f42 I42 6 (xGq x1 x2 x8 x44 x45 x46 b6 b7) (xBa r) := by
 intro n
 induction n with
 | zero => exact fun _ _ _ _ _ _ _ _ _ h => nE h
 | succ n ih =>
  exact fun x1 x2 x8 x44 x45 x46 b6 b7 r h =>
   cE h (fun h0 h => iE h fun h1 h => cE h (fun h2 h => cE h (fun h3 h => bE h fun r1 h4 h => iE h fun h5 h => tS fk42 (xLF x1 x2 x8 x44 x45 x46 b6 b7 r1) (oc6 h0 h1 h2 h3 (xGo h4) h5 on) (ih _ _ _ _ _ _ _ _ _ h)) fun h3 h =>
   bE h fun r1 h4 h => iE h fun h5 h => tS fk42 (xLG x1 x2 x8 x44 x45 x46 b6 b7 r1) (oc6 h0 h1 h2 h3 (g0 _ _ _ _ h4) h5 on) (ih _ _ _ _ _ _ _ _ _ h)) fun h2 h =>
   bE h fun r1 h4 h => iE h fun h5 h => tS fk42 (xLH x1 x2 x8 x44 x45 x46 b6 b7 r1) (oc6 h0 h1 h2 rfl (g0 _ _ _ _ h4) h5 on) (ih _ _ _ _ _ _ _ _ _ h)) fun h0 h =>
   dS h fk42 (xLI x1 x2 x8 x44 x45 x46 b6 b7) (oc h0 on)
theorem xOU {N q0} (g0 : G42 q0) : ∀ a0 a1 a2 r, xCL N q0 a0 a1 a2 = some r → RE Try.f42 I42 (xA9 a0 a1 a2) (xBa r) := fun a0 a1 a2 r h =>
 cE h (fun h0 h => cE h (fun h1 h => tE fk42 (xLJ a0 a1 a2) (oc4 h0 h1 (eq_ne h0 rfl) (eq_ne h0 rfl) on) (xII g0 _ _ _ _ _ _ _ _ _ _ h)) fun h1 h =>
 tE fk42 (xLK a0 a1 a2) (oc4 h0 h1 (eq_ne h0 rfl) (eq_ne h0 rfl) on) (xII g0 _ _ _ _ _ _ _ _ _ _ h)) fun h0 h =>
 cE h (fun h2 h => tE fk42 (xLL a0 a1 a2) (oc4 h0 rfl h2 rfl on) (xII g0 _ _ _ _ _ _ _ _ _ _ h)) fun h2 h =>
 cE h (fun h3 h => tE fk42 (xLM a0 a1 a2) (oc4 h0 rfl h2 h3 on) (xII g0 _ _ _ _ _ _ _ _ _ _ h)) fun h3 h =>
 tE fk42 (xLN a0 a1 a2) (oc4 h0 rfl h2 h3 on) (xII g0 _ _ _ _ _ _ _ _ _ _ h)
theorem xFA {N q0} (g0 : G42 q0) {a0} {a1} {a2} {r} (h : xCL N q0 a0 a1 a2 = some r) : AbC 42 (xA9 a0 a1 a2) (xBa r) :=
 AbsCalls.of_reach fk42 rfl rfl rfl (Nat.le_of_ble_eq_true rfl) (xOU g0 a0 a1 a2 r h)
theorem xEv {N : Nat} : ∀ d, G42 (xCr N d)
 | 0 => fun _ _ _ _ h => nE h
 | d + 1 => fun _ _ _ _ h => xFA (N := N) (xEv d) h
theorem xGv {N : Nat} {a0 : Exp} {a1 : Str} {a2 : Str} {r : Exp} (h : xFq N a0 a1 a2 = some r) : AbC 42 (xA9 a0 a1 a2) (xBa r) := xEv N _ _ _ r h
noncomputable def I14 : Info := { body := (Try.f14.body).getD .skip, nt := 32, results := [.cell 6 29, .tmp 7], keep := [0, 2, 4, 6, 12, 14, 52, 7, 13], live := [], modes := [(1, [(3, .take, false), (8, .take, false), (13, .take, false)])] }
theorem fk14 : FnOk Try.prog 14 Try.f14 I14 := ⟨Try.func14, by kernel_rfl, by kernel_rfl, by kernel_rfl, by kernel_rfl⟩
def xKL (a0 : Exp) (a1 a2 : Str) (r1 : Bool) : rE I14 (xBv a0 a1 a2) [Y, Y, Y, Y] [xAB r1] = dn (xAo ((Exp.mk 0 0 [] []), false)) [AbC 40 (xAY a0) (xAB r1), iY (!r1), iY true, iY true, iY true] := by kernel_rfl
abbrev xGD (v0 : Str) (v1 : Bool) : Prop := AbC 41 (xBN v0) (xAs v1)
def xKM (a0 : Exp) (a1 a2 : Str) (r1 r2 : Bool) : rE I14 (xBv a0 a1 a2) [F, Y, Y, Y] [xAB r1, xAs r2] = dn (xAo ((Exp.mk 0 0 [] []), false)) [AbC 40 (xAY a0) (xAB r1), xA4 r1, xGD a1 r2, iY (!r2), iY true, iY true] := by kernel_rfl
def xKN (a0 : Exp) (a1 a2 : Str) (r1 r2 r3 : Bool) : rE I14 (xBv a0 a1 a2) [F, F, Y, Y] [xAB r1, xAs r2, xAs r3] = dn (xAo ((Exp.mk 0 0 [] []), false)) [AbC 40 (xAY a0) (xAB r1), xA4 r1, xGD a1 r2, xA4 r2, xGD a2 r3, iY (!r3), iY true] := by kernel_rfl
def xKO (a0 : Exp) (a1 a2 : Str) (r1 r2 r3 r4 : Bool) : rE I14 (xBv a0 a1 a2) [F, F, F, Y] [xAB r1, xAs r2, xAs r3, xBI r4] = dn (xAo ((Exp.mk 0 0 [] []), false)) [AbC 40 (xAY a0) (xAB r1), xA4 r1, xGD a1 r2, xA4 r2, xGD a2 r3, xA4 r3, AbC 11 (xCu a0 a1 a2) (xBI r4), iY r4] := by kernel_rfl
def xKP (a0 : Exp) (a1 a2 : Str) (r1 r2 r3 r4 : Bool) (r5 : Exp) : rE I14 (xBv a0 a1 a2) [F, F, F, F] [xAB r1, xAs r2, xAs r3, xBI r4, xBa r5] = dn (xAo (r5, true)) [AbC 40 (xAY a0) (xAB r1), xA4 r1, xGD a1 r2, xA4 r2, xGD a2 r3, xA4 r3, AbC 11 (xCu a0 a1 a2) (xBI r4), iN r4, AbC 42 (xA9 a0 a1 a2) (xBa r5)] := by kernel_rfl
theorem xOD {N : Nat} : ∀ a0 a1 a2 r, xCf N a0 a1 a2 = some r → RE Try.f14 I14 (xBv a0 a1 a2) (xAo r) := fun a0 a1 a2 r h =>
 bE h fun r1 h0 h => cE h (fun h1 h => dE h fk14 (xKL a0 a1 a2 r1) (oc5 (xCc h0) h1 rfl rfl rfl on)) fun h1 h =>
 bE h fun r2 h2 h => cE h (fun h3 h => dE h fk14 (xKM a0 a1 a2 r1 r2) (oc6 (xCc h0) h1 (xAF h2) h3 rfl rfl on)) fun h3 h =>
 bE h fun r3 h4 h => cE h (fun h5 h => dE h fk14 (xKN a0 a1 a2 r1 r2 r3) (oc7 (xCc h0) h1 (xAF h2) h3 (xAF h4) h5 rfl on)) fun h5 h =>
 bE h fun r4 h6 h => cE h (fun h7 h => dE h fk14 (xKO a0 a1 a2 r1 r2 r3 r4) (oc8 (xCc h0) h1 (xAF h2) h3 (xAF h4) h5 (xEG h6) h7 on)) fun h7 h =>
 bE h fun r5 h8 h => dE h fk14 (xKP a0 a1 a2 r1 r2 r3 r4 r5) (oc9 (xCc h0) h1 (xAF h2) h3 (xAF h4) h5 (xEG h6) h7 (xGv h8) on)
theorem xAy {N : Nat} {a0 : Exp} {a1 : Str} {a2 : Str} {r : Exp × Bool} (h : xCf N  a0 a1 a2 = some r) : AbC 14 (xBv a0 a1 a2) (xAo r) :=
 AbsCalls.of_reach fk14 rfl rfl rfl (Nat.le_of_ble_eq_true rfl) (xOD a0 a1 a2 r h)
def G44 (q : (List Exp) → Int → Option (Int)) : Prop := ∀ a0 a1 r, q a0 a1 = some r → AbC 44 (xBs a0 a1) (xAz r)
noncomputable def I44 : Info := { body := (Try.f44.body).getD .skip, nt := 50, results := [.tmp 4], keep := [0, 2, 8, 10, 18, 36, 54, 74, 96], live := [(2, [0, 2, 10])], modes := [] }
theorem fk44 : FnOk Try.prog 44 Try.f44 I44 := ⟨Try.func44, by kernel_rfl, by kernel_rfl, by kernel_rfl, by kernel_rfl⟩
def xGZ (x0 : List Exp) (x1 x5 : Int) : St := [(0, .v false [.sl .ro .exp x0]), (2, .v false [.int .i64 x1]), (10, .v false [.int .i64 x5])]
def xLR (x0 : List Exp) (x1 x5 : Int) : rS 2 I44 (xGZ x0 x1 x5) [Y, Y] [] = dn (xAz (-1)) [xGz x5 x0, xDt x5 x0, iY (((Exp.kind (xCQ x0 x5)) : Int) != x1)] := by kernel_rfl
abbrev xIi (v0 : List Exp) (v1 v2 : Int) : Prop := iN (((Exp.kind (xCQ v0 v1)) : Int) != v2)
abbrev xIQ (v0 : List Exp) (v1 : Int) := Exp.n (gD v0 (tN v1) Ty.exp.dflt)
def xLS (x0 : List Exp) (x1 x5 : Int) : rS 2 I44 (xGZ x0 x1 x5) [Y, F, Y] [] = dn (xAz (-1)) [xGz x5 x0, xDt x5 x0, xIi x0 x5 x1, xDt x5 x0, iY (((xIQ x0 x5) : Int) != (W (x1 + 1)))] := by kernel_rfl
abbrev xI7 (v0 : List Exp) (v1 v2 : Int) : Prop := iN (((xIQ v0 v1) : Int) != (W (v2 + 1)))
abbrev xHG (v0 : List Exp) (v1 : Int) := Exp.text (gD v0 (tN v1) Ty.exp.dflt)
def xLT (x0 : List Exp) (x1 x5 : Int) (r1 : Str) : rS 2 I44 (xGZ x0 x1 x5) [Y, F, F, Y] [xBq r1] = dn (xAz (-1)) [xGz x5 x0, xDt x5 x0, xIi x0 x5 x1, xDt x5 x0, xI7 x0 x5 x1, xDt x5 x0, xH0 x1 r1, iY (!(((xHG x0 x5) : Str) == r1))] := by kernel_rfl
abbrev xIR (v0 : List Exp) (v1 : Int) := Exp.args (gD v0 (tN v1) Ty.exp.dflt)
def xLU (x0 : List Exp) (x1 x5 : Int) (r1 : Str) (r2 : Int) : rS 2 I44 (xGZ x0 x1 x5) [Y, F, F, F, Y] [xBq r1, xAz r2] = dn (xAz (-1)) [xGz x5 x0, xDt x5 x0, xIi x0 x5 x1, xDt x5 x0, xI7 x0 x5 x1, xDt x5 x0, xH0 x1 r1, iN (!(((xHG x0 x5) : Str) == r1)), xDt x5 x0, AbC 44 (xBs (xIR x0 x5) (W ((W ((W (x1 + 1)) + 1)) + 1))) (xAz r2), xHg r2] := by kernel_rfl
def xLV (x0 : List Exp) (x1 x5 : Int) (r1 : Str) (r2 : Int) : rS 2 I44 (xGZ x0 x1 x5) [Y, F, F, F, F] [xBq r1, xAz r2] = st 2 I44 (xGZ x0 r2 (W (x5 + 1))) [xGz x5 x0, xDt x5 x0, xIi x0 x5 x1, xDt x5 x0, xI7 x0 x5 x1, xDt x5 x0, xH0 x1 r1, iN (!(((xHG x0 x5) : Str) == r1)), xDt x5 x0, AbC 44 (xBs (xIR x0 x5) (W ((W ((W (x1 + 1)) + 1)) + 1))) (xAz r2), xEl r2] := by kernel_rfl
def xLW (x0 : List Exp) (x1 x5 : Int) : rS 2 I44 (xGZ x0 x1 x5) [F] [] = dn (xAz x1) [xIZ x5 x0] := by kernel_rfl
def xLX (a0 : List Exp) (a1 : Int) : rE I44 (xBs a0 a1) [] [] = st 2 I44 (xGZ a0 a1 0) [] := by kernel_rfl
theorem xOX {N q0} (g0 : G44 q0) : ∀ n x0 x1 x5 r, xB8 N q0 n x0 x1 x5 = some r → RS Try.f44 I44 2 (xGZ x0 x1 x5) (xAz r) := by
 intro n
 induction n with
 | zero => exact fun _ _ _ _ h => nE h
 | succ n ih =>
  exact fun x0 x1 x5 r h =>
   cE h (fun h0 h => iE h fun h1 h => cE h (fun h2 h => dS h fk44 (xLR x0 x1 x5) (oc3 h0 h1 h2 on)) fun h2 h =>
   cE h (fun h4 h => dS h fk44 (xLS x0 x1 x5) (oc5 h0 h1 h2 h1 h4 on)) fun h4 h =>
   bE h fun r1 h6 h => cE h (fun h7 h => dS h fk44 (xLT x0 x1 x5 r1) (oc8 h0 h1 h2 h1 h4 h1 (xDz h6) h7 on)) fun h7 h =>
   bE h fun r2 h9 h => cE h (fun h10 h => dS h fk44 (xLU x0 x1 x5 r1 r2) (oc11 h0 h1 h2 h1 h4 h1 (xDz h6) h7 h1 (g0 _ _ _ h9) h10 on)) fun h10 h =>
   tS fk44 (xLV x0 x1 x5 r1 r2) (oc11 h0 h1 h2 h1 h4 h1 (xDz h6) h7 h1 (g0 _ _ _ h9) h10 on) (ih _ _ _ _ h)) fun h0 h =>
   dS h fk44 (xLW x0 x1 x5) (oc h0 on)
theorem xOY {N q0} (g0 : G44 q0) : ∀ a0 a1 r, xDG N q0 a0 a1 = some r → RE Try.f44 I44 (xBs a0 a1) (xAz r) := fun a0 a1 r h =>
 tE fk44 (xLX a0 a1) on (xOX g0 _ _ _ _ _ h)
theorem xFh {N q0} (g0 : G44 q0) {a0} {a1} {r} (h : xDG N q0 a0 a1 = some r) : AbC 44 (xBs a0 a1) (xAz r) :=
 AbsCalls.of_reach fk44 rfl rfl rfl (Nat.le_of_ble_eq_true rfl) (xOY g0 a0 a1 r h)
theorem xEa {N : Nat} : ∀ d, G44 (xCw N d)
 | 0 => fun _ _ _ h => nE h
 | d + 1 => fun _ _ _ h => xFh (N := N) (xEa d) h
theorem xEY {N : Nat} {a0 : List Exp} {a1 : Int} {r : Int} (h : xEP N a0 a1 = some r) : AbC 44 (xBs a0 a1) (xAz r) := xEa N _ _ r h
noncomputable def I16 : Info := { body := (Try.f16.body).getD .skip, nt := 12, results := [.tmp 4], keep := [0, 2, 4, 8, 20, 5], live := [], modes := [] }
theorem fk16 : FnOk Try.prog 16 Try.f16 I16 := ⟨Try.func16, by kernel_rfl, by kernel_rfl, by kernel_rfl, by kernel_rfl⟩
def xKR (a0 : Exp) (a1 r1 : Int) : rE I16 (xC4 a0 a1) [Y] [xAz r1] = dn (xAL (-1)) [AbC 44 (xBs (Exp.args a0) a1) (xAz r1), xHg r1] := by kernel_rfl
def xKS (a0 : Exp) (a1 r1 : Int) : rE I16 (xC4 a0 a1) [F] [xAz r1] = dn (xAL r1) [AbC 44 (xBs (Exp.args a0) a1) (xAz r1), xEl r1] := by kernel_rfl
theorem xOF {N : Nat} : ∀ a0 a1 r, xDq N a0 a1 = some r → RE Try.f16 I16 (xC4 a0 a1) (xAL r) := fun a0 a1 r h =>
 bE h fun r1 h0 h => cE h (fun h1 h => dE h fk16 (xKR a0 a1 r1) (oc2 (xEY h0) h1 on)) fun h1 h =>
 dE h fk16 (xKS a0 a1 r1) (oc2 (xEY h0) h1 on)
theorem xBp {N : Nat} {a0 : Exp} {a1 : Int} {r : Int} (h : xDq N  a0 a1 = some r) : AbC 16 (xC4 a0 a1) (xAL r) :=
 AbsCalls.of_reach fk16 rfl rfl rfl (Nat.le_of_ble_eq_true rfl) (xOF a0 a1 r h)
noncomputable def I4 : Info := { body := (Try.f4.body).getD .skip, nt := 112, results := [.tmp 6], keep := [0, 2, 4, 6, 12, 14, 16, 18, 20, 22, 24, 26, 28, 30, 32, 34, 40, 46, 56, 108, 118, 150, 166, 172, 206, 216, 222, 7, 17, 21, 23, 33], live := [], modes := [(9, [(5, .take, false)]), (11, [(4, .take, false)]), (12, [(4, .take, false)]), (17, [(0, .ref, false), (2, .ref, false)]), (18, [(2, .take, false), (8, .take, false)]), (21, [(0, .ref, false), (2, .ref, false)]), (28, [(5, .take, false)]), (29, [(4, .take, false), (5, .take, false)])] }
theorem fk4 : FnOk Try.prog 4 Try.f4 I4 := ⟨Try.func4, by kernel_rfl, by kernel_rfl, by kernel_rfl, by kernel_rfl⟩
def xOg (a0 : Exp) (a1 a2 : Str) : rE I4 (xAj a0 a1 a2) [Y] [] = dn (xAk true) [iY (dc ((Ln a1 : Int) > 1048576))] := by kernel_rfl
abbrev xCR (v0 : Str) : Prop := iN (dc ((Ln v0 : Int) > 1048576))
def xOh (a0 : Exp) (a1 a2 : Str) : rE I4 (xAj a0 a1 a2) [F, Y] [] = dn (xAk true) [xCR a1, iY (dc ((Ln a2 : Int) > 1048576))] := by kernel_rfl
abbrev xD3 (v0 : Exp) (v1 : Int) : Prop := AbC 8 (xBF v0 1048576) (xAx v1)
def xOi (a0 : Exp) (a1 a2 : Str) (r1 : Int) : rE I4 (xAj a0 a1 a2) [F, F, Y] [xAx r1] = dn (xAk true) [xCR a1, xCR a2, xD3 a0 r1, xHg r1] := by kernel_rfl
abbrev xA5 (v0 v1 : Exp) : Prop := AbC 10 (xCF v0) (xAb v1)
abbrev xEk (v0 : Exp) (v1 v2 : Str) (v3 : Exp × Bool) : Prop := AbC 13 (xBx v0 v1 v2) (xAu v3)
abbrev xDl (v0 : Exp) (v1 v2 : Str) (v3 : Exp × Bool) : Prop := AbC 14 (xBv v0 v1 v2) (xAo v3)
abbrev xB2 (v0 v1 : Exp × Bool) (v2 : Bool) : Prop := AbC 12 (xBb v0.1 v1.1) (xAa v2)
def xOj (a0 : Exp) (a1 a2 : Str) (r1 : Int) (r2 : Exp) (r3 : Exp × Bool) (r4 : Exp) (r5 : Exp × Bool) (r6 : Bool) : rE I4 (xAj a0 a1 a2) [F, F, F, Y, Y] [xAx r1, xAb r2, xAu r3, xAb r4, xAo r5, xAa r6] = dn (xAk false) [xCR a1, xCR a2, xD3 a0 r1, xEl r1, xA5 a0 r2, xEk r2 a1 a2 r3, xA5 a0 r4, xDl r4 a1 a2 r5, xB2 r5 r3 r6, iY (!r6), iY true] := by kernel_rfl
def xOk (a0 : Exp) (a1 a2 : Str) (r1 : Int) (r2 : Exp) (r3 : Exp × Bool) (r4 : Exp) (r5 : Exp × Bool) (r6 : Bool) : rE I4 (xAj a0 a1 a2) [F, F, F, F, Y] [xAx r1, xAb r2, xAu r3, xAb r4, xAo r5, xAa r6] = dn (xAk false) [xCR a1, xCR a2, xD3 a0 r1, xEl r1, xA5 a0 r2, xEk r2 a1 a2 r3, xA5 a0 r4, xDl r4 a1 a2 r5, xB2 r5 r3 r6, xA4 r6, iY (!((r5.2 : Bool) == r3.2))] := by kernel_rfl
abbrev xCP (v0 v1 : Exp × Bool) : Prop := iN (!((v0.2 : Bool) == v1.2))
abbrev xER (v0 v1 : Exp) (v2 : Bool) : Prop := AbC 12 (xBb v0 v1) (xAa v2)
def xOl (a0 : Exp) (a1 a2 : Str) (r1 : Int) (r2 : Exp) (r3 : Exp × Bool) (r4 : Exp) (r5 : Exp × Bool) (r6 : Bool) (r7 : Exp) (r8 : Bool) : rE I4 (xAj a0 a1 a2) [F, F, F, F, F, Y] [xAx r1, xAb r2, xAu r3, xAb r4, xAo r5, xAa r6, xAb r7, xAa r8] = dn (xAk false) [xCR a1, xCR a2, xD3 a0 r1, xEl r1, xA5 a0 r2, xEk r2 a1 a2 r3, xA5 a0 r4, xDl r4 a1 a2 r5, xB2 r5 r3 r6, xA4 r6, xCP r5 r3, xA5 a0 r7, xER r4 r7 r8, iY (!r8)] := by kernel_rfl
abbrev xE9 (v0 : Exp) (v1 : Int × (List Exp)) : Prop := AbC 15 (xC5 v0 1) (xAw v1)
def xOm (a0 : Exp) (a1 a2 : Str) (r1 : Int) (r2 : Exp) (r3 : Exp × Bool) (r4 : Exp) (r5 : Exp × Bool) (r6 : Bool) (r7 : Exp) (r8 : Bool) (r9 : Int × (List Exp)) : rE I4 (xAj a0 a1 a2) [F, F, F, F, F, F, Y, Y, Y] [xAx r1, xAb r2, xAu r3, xAb r4, xAo r5, xAa r6, xAb r7, xAa r8, xAw r9] = dn (xAk false) [xCR a1, xCR a2, xD3 a0 r1, xEl r1, xA5 a0 r2, xEk r2 a1 a2 r3, xA5 a0 r4, xDl r4 a1 a2 r5, xB2 r5 r3 r6, xA4 r6, xCP r5 r3, xA5 a0 r7, xER r4 r7 r8, xA4 r8, xE9 r4 r9, xFI r9 r4, iY (dc (r9.1 < 0)), iY true, iY true] := by kernel_rfl
abbrev xFr (v0 : Int × (List Exp)) : Prop := iN (dc (v0.1 < 0))
def xOn (a0 : Exp) (a1 a2 : Str) (r1 : Int) (r2 : Exp) (r3 : Exp × Bool) (r4 : Exp) (r5 : Exp × Bool) (r6 : Bool) (r7 : Exp) (r8 : Bool) (r9 : Int × (List Exp)) (r10 : Bool) : rE I4 (xAj a0 a1 a2) [F, F, F, F, F, F, F, Y, Y] [xAx r1, xAb r2, xAu r3, xAb r4, xAo r5, xAa r6, xAb r7, xAa r8, xAw r9, xAa r10] = dn (xAk false) [xCR a1, xCR a2, xD3 a0 r1, xEl r1, xA5 a0 r2, xEk r2 a1 a2 r3, xA5 a0 r4, xDl r4 a1 a2 r5, xB2 r5 r3 r6, xA4 r6, xCP r5 r3, xA5 a0 r7, xER r4 r7 r8, xA4 r8, xE9 r4 r9, xFI r9 r4, xFr r9, xB2 r5 r3 r10, iY (!r10), iY true] := by kernel_rfl
abbrev xFR (v0 : Exp × Bool) (v1 : Int × (List Exp)) : Prop := AbC 15 (xC5 v0.1 1) (xAw v1)
abbrev xFS (v0 : Int × (List Exp)) (v1 : Exp × Bool) : Prop := Ln v0.2 = Ln (Exp.args v1.1)
abbrev xES (v0 : Exp × Bool) (v1 : Int × (List Exp)) (v2 : Int) : Prop := AbC 16 (xC4 (Exp.mk (Exp.kind v0.1) (Exp.n v0.1) (Exp.text v0.1) v1.2) 1) (xAL v2)
def xOo (a0 : Exp) (a1 a2 : Str) (r1 : Int) (r2 : Exp) (r3 : Exp × Bool) (r4 : Exp) (r5 : Exp × Bool) (r6 : Bool) (r7 : Exp) (r8 : Bool) (r9 : Int × (List Exp)) (r10 : Bool) (r11 : Int × (List Exp)) (r12 : Int) : rE I4 (xAj a0 a1 a2) [F, F, F, F, F, F, F, F, F, Y] [xAx r1, xAb r2, xAu r3, xAb r4, xAo r5, xAa r6, xAb r7, xAa r8, xAw r9, xAa r10, xAw r11, xAL r12] = dn (xAk false) [xCR a1, xCR a2, xD3 a0 r1, xEl r1, xA5 a0 r2, xEk r2 a1 a2 r3, xA5 a0 r4, xDl r4 a1 a2 r5, xB2 r5 r3 r6, xA4 r6, xCP r5 r3, xA5 a0 r7, xER r4 r7 r8, xA4 r8, xE9 r4 r9, xFI r9 r4, xFr r9, xB2 r5 r3 r10, xA4 r10, xCP r5 r3, xFR r5 r11, xFS r11 r5, xES r5 r11 r12, xHg r12] := by kernel_rfl
def xOp (a0 : Exp) (a1 a2 : Str) (r1 : Int) (r2 : Exp) (r3 : Exp × Bool) (r4 : Exp) (r5 : Exp × Bool) (r6 : Bool) (r7 : Exp) (r8 : Bool) (r9 : Int × (List Exp)) (r10 : Bool) (r11 : Int × (List Exp)) (r12 : Int) : rE I4 (xAj a0 a1 a2) [F, F, F, F, F, F, F, F, F, F, Y] [xAx r1, xAb r2, xAu r3, xAb r4, xAo r5, xAa r6, xAb r7, xAa r8, xAw r9, xAa r10, xAw r11, xAL r12] = dn (xAk false) [xCR a1, xCR a2, xD3 a0 r1, xEl r1, xA5 a0 r2, xEk r2 a1 a2 r3, xA5 a0 r4, xDl r4 a1 a2 r5, xB2 r5 r3 r6, xA4 r6, xCP r5 r3, xA5 a0 r7, xER r4 r7 r8, xA4 r8, xE9 r4 r9, xFI r9 r4, xFr r9, xB2 r5 r3 r10, xA4 r10, xCP r5 r3, xFR r5 r11, xFS r11 r5, xES r5 r11 r12, xEl r12, iY (r12 != r11.1)] := by kernel_rfl
def xL2 (a0 : Exp) (a1 a2 : Str) (r1 : Int) (r2 : Exp) (r3 : Exp × Bool) (r4 : Exp) (r5 : Exp × Bool) (r6 : Bool) (r7 : Exp) (r8 : Bool) (r9 : Int × (List Exp)) (r10 : Bool) (r11 : Int × (List Exp)) (r12 : Int) (r13 : Exp) (r14 : Exp × Bool) (r15 : Bool) : rE I4 (xAj a0 a1 a2) [F, F, F, F, F, F, F, F, F, F, F, Y, Y] [xAx r1, xAb r2, xAu r3, xAb r4, xAo r5, xAa r6, xAb r7, xAa r8, xAw r9, xAa r10, xAw r11, xAL r12, xAb r13, xAo r14, xAa r15] = dn (xAk false) [xCR a1, xCR a2, xD3 a0 r1, xEl r1, xA5 a0 r2, xEk r2 a1 a2 r3, xA5 a0 r4, xDl r4 a1 a2 r5, xB2 r5 r3 r6, xA4 r6, xCP r5 r3, xA5 a0 r7, xER r4 r7 r8, xA4 r8, xE9 r4 r9, xFI r9 r4, xFr r9, xB2 r5 r3 r10, xA4 r10, xCP r5 r3, xFR r5 r11, xFS r11 r5, xES r5 r11 r12, xEl r12, iN (r12 != r11.1), xA5 a0 r13, xDl r13 a1 a2 r14, xB2 r14 r3 r15, iY (!r15), iY true] := by kernel_rfl
def xL3 (a0 : Exp) (a1 a2 : Str) (r1 : Int) (r2 : Exp) (r3 : Exp × Bool) (r4 : Exp) (r5 : Exp × Bool) (r6 : Bool) (r7 : Exp) (r8 : Bool) (r9 : Int × (List Exp)) (r10 : Bool) (r11 : Int × (List Exp)) (r12 : Int) (r13 : Exp) (r14 : Exp × Bool) (r15 : Bool) : rE I4 (xAj a0 a1 a2) [F, F, F, F, F, F, F, F, F, F, F, F, Y] [xAx r1, xAb r2, xAu r3, xAb r4, xAo r5, xAa r6, xAb r7, xAa r8, xAw r9, xAa r10, xAw r11, xAL r12, xAb r13, xAo r14, xAa r15] = dn (xAk false) [xCR a1, xCR a2, xD3 a0 r1, xEl r1, xA5 a0 r2, xEk r2 a1 a2 r3, xA5 a0 r4, xDl r4 a1 a2 r5, xB2 r5 r3 r6, xA4 r6, xCP r5 r3, xA5 a0 r7, xER r4 r7 r8, xA4 r8, xE9 r4 r9, xFI r9 r4, xFr r9, xB2 r5 r3 r10, xA4 r10, xCP r5 r3, xFR r5 r11, xFS r11 r5, xES r5 r11 r12, xEl r12, iN (r12 != r11.1), xA5 a0 r13, xDl r13 a1 a2 r14, xB2 r14 r3 r15, xA4 r15, iY (!((r14.2 : Bool) == r3.2))] := by kernel_rfl
def xL4 (a0 : Exp) (a1 a2 : Str) (r1 : Int) (r2 : Exp) (r3 : Exp × Bool) (r4 : Exp) (r5 : Exp × Bool) (r6 : Bool) (r7 : Exp) (r8 : Bool) (r9 : Int × (List Exp)) (r10 : Bool) (r11 : Int × (List Exp)) (r12 : Int) (r13 : Exp) (r14 : Exp × Bool) (r15 : Bool) (r16 : Int) : rE I4 (xAj a0 a1 a2) [F, F, F, F, F, F, F, F, F, F, F, F, F, Y] [xAx r1, xAb r2, xAu r3, xAb r4, xAo r5, xAa r6, xAb r7, xAa r8, xAw r9, xAa r10, xAw r11, xAL r12, xAb r13, xAo r14, xAa r15, xAL r16] = dn (xAk false) [xCR a1, xCR a2, xD3 a0 r1, xEl r1, xA5 a0 r2, xEk r2 a1 a2 r3, xA5 a0 r4, xDl r4 a1 a2 r5, xB2 r5 r3 r6, xA4 r6, xCP r5 r3, xA5 a0 r7, xER r4 r7 r8, xA4 r8, xE9 r4 r9, xFI r9 r4, xFr r9, xB2 r5 r3 r10, xA4 r10, xCP r5 r3, xFR r5 r11, xFS r11 r5, xES r5 r11 r12, xEl r12, iN (r12 != r11.1), xA5 a0 r13, xDl r13 a1 a2 r14, xB2 r14 r3 r15, xA4 r15, xCP r14 r3, xES r5 r11 r16, xHg r16] := by kernel_rfl
def xL5 (a0 : Exp) (a1 a2 : Str) (r1 : Int) (r2 : Exp) (r3 : Exp × Bool) (r4 : Exp) (r5 : Exp × Bool) (r6 : Bool) (r7 : Exp) (r8 : Bool) (r9 : Int × (List Exp)) (r10 : Bool) (r11 : Int × (List Exp)) (r12 : Int) (r13 : Exp) (r14 : Exp × Bool) (r15 : Bool) (r16 : Int) : rE I4 (xAj a0 a1 a2) [F, F, F, F, F, F, F, F, F, F, F, F, F, F, Y] [xAx r1, xAb r2, xAu r3, xAb r4, xAo r5, xAa r6, xAb r7, xAa r8, xAw r9, xAa r10, xAw r11, xAL r12, xAb r13, xAo r14, xAa r15, xAL r16] = dn (xAk false) [xCR a1, xCR a2, xD3 a0 r1, xEl r1, xA5 a0 r2, xEk r2 a1 a2 r3, xA5 a0 r4, xDl r4 a1 a2 r5, xB2 r5 r3 r6, xA4 r6, xCP r5 r3, xA5 a0 r7, xER r4 r7 r8, xA4 r8, xE9 r4 r9, xFI r9 r4, xFr r9, xB2 r5 r3 r10, xA4 r10, xCP r5 r3, xFR r5 r11, xFS r11 r5, xES r5 r11 r12, xEl r12, iN (r12 != r11.1), xA5 a0 r13, xDl r13 a1 a2 r14, xB2 r14 r3 r15, xA4 r15, xCP r14 r3, xES r5 r11 r16, xEl r16, iY (r16 != r11.1)] := by kernel_rfl
def xL6 (a0 : Exp) (a1 a2 : Str) (r1 : Int) (r2 : Exp) (r3 : Exp × Bool) (r4 : Exp) (r5 : Exp × Bool) (r6 : Bool) (r7 : Exp) (r8 : Bool) (r9 : Int × (List Exp)) (r10 : Bool) (r11 : Int × (List Exp)) (r12 : Int) (r13 : Exp) (r14 : Exp × Bool) (r15 : Bool) (r16 : Int) : rE I4 (xAj a0 a1 a2) [F, F, F, F, F, F, F, F, F, F, F, F, F, F, F] [xAx r1, xAb r2, xAu r3, xAb r4, xAo r5, xAa r6, xAb r7, xAa r8, xAw r9, xAa r10, xAw r11, xAL r12, xAb r13, xAo r14, xAa r15, xAL r16] = dn (xAk true) [xCR a1, xCR a2, xD3 a0 r1, xEl r1, xA5 a0 r2, xEk r2 a1 a2 r3, xA5 a0 r4, xDl r4 a1 a2 r5, xB2 r5 r3 r6, xA4 r6, xCP r5 r3, xA5 a0 r7, xER r4 r7 r8, xA4 r8, xE9 r4 r9, xFI r9 r4, xFr r9, xB2 r5 r3 r10, xA4 r10, xCP r5 r3, xFR r5 r11, xFS r11 r5, xES r5 r11 r12, xEl r12, iN (r12 != r11.1), xA5 a0 r13, xDl r13 a1 a2 r14, xB2 r14 r3 r15, xA4 r15, xCP r14 r3, xES r5 r11 r16, xEl r16, iN (r16 != r11.1)] := by kernel_rfl
theorem c4_e {N : Nat} : ∀ a0 a1 a2 r, xBf N a0 a1 a2 = some r → RE Try.f4 I4 (xAj a0 a1 a2) (xAk r) := fun a0 a1 a2 r h =>
 cE h (fun h0 h => dE h fk4 (xOg a0 a1 a2) (oc h0 on)) fun h0 h =>
 cE h (fun h1 h => dE h fk4 (xOh a0 a1 a2) (oc2 h0 h1 on)) fun h1 h =>
 bE h fun r1 h2 h => cE h (fun h3 h => dE h fk4 (xOi a0 a1 a2 r1) (oc4 h0 h1 (xBd h2) h3 on)) fun h3 h =>
 bE h fun r2 h4 h => bE h fun r3 h5 h => bE h fun r4 h6 h => bE h fun r5 h7 h => bE h fun r6 h8 h => cE h (fun h9 h => dE h fk4 (xOj a0 a1 a2 r1 r2 r3 r4 r5 r6) (oc11 h0 h1 (xBd h2) h3 (xAe h4) (xAO h5) (xAe h6) (xAy h7) (xAl h8) h9 rfl on)) fun h9 h =>
 cE h (fun h10 h => dE h fk4 (xOk a0 a1 a2 r1 r2 r3 r4 r5 r6) (oc11 h0 h1 (xBd h2) h3 (xAe h4) (xAO h5) (xAe h6) (xAy h7) (xAl h8) h9 h10 on)) fun h10 h =>
 bE h fun r7 h11 h => bE h fun r8 h12 h => cE h (fun h13 h => dE h fk4 (xOl a0 a1 a2 r1 r2 r3 r4 r5 r6 r7 r8) (oc12 h0 h1 (xBd h2) h3 (xAe h4) (xAO h5) (xAe h6) (xAy h7) (xAl h8) h9 h10 (xAe h11) (oc2 (xAl h12) h13 on))) fun h13 h =>
 bE h fun r9 h14 h => iE h fun h15 h => cE h (fun h16 h => dE h fk4 (xOm a0 a1 a2 r1 r2 r3 r4 r5 r6 r7 r8 r9) (oc12 h0 h1 (xBd h2) h3 (xAe h4) (xAO h5) (xAe h6) (xAy h7) (xAl h8) h9 h10 (xAe h11) (oc7 (xAl h12) h13 (xAH h14) h15 h16 rfl rfl on))) fun h16 h =>
 bE h fun r10 h17 h => cE h (fun h18 h => dE h fk4 (xOn a0 a1 a2 r1 r2 r3 r4 r5 r6 r7 r8 r9 r10) (oc12 h0 h1 (xBd h2) h3 (xAe h4) (xAO h5) (xAe h6) (xAy h7) (xAl h8) h9 h10 (xAe h11) (oc8 (xAl h12) h13 (xAH h14) h15 h16 (xAl h17) h18 rfl on))) fun h18 h =>
 bE h fun r11 h20 h => iE h fun h21 h => bE h fun r12 h22 h => cE h (fun h23 h => dE h fk4 (xOo a0 a1 a2 r1 r2 r3 r4 r5 r6 r7 r8 r9 r10 r11 r12) (oc12 h0 h1 (xBd h2) h3 (xAe h4) (xAO h5) (xAe h6) (xAy h7) (xAl h8) h9 h10 (xAe h11) (oc12 (xAl h12) h13 (xAH h14) h15 h16 (xAl h17) h18 h10 (xAH h20) h21 (xBp h22) h23 on))) fun h23 h =>
 cE h (fun h24 h => dE h fk4 (xOp a0 a1 a2 r1 r2 r3 r4 r5 r6 r7 r8 r9 r10 r11 r12) (oc12 h0 h1 (xBd h2) h3 (xAe h4) (xAO h5) (xAe h6) (xAy h7) (xAl h8) h9 h10 (xAe h11) (oc12 (xAl h12) h13 (xAH h14) h15 h16 (xAl h17) h18 h10 (xAH h20) h21 (xBp h22) h23 (oc h24 on)))) fun h24 h =>
 bE h fun r13 h25 h => bE h fun r14 h26 h => bE h fun r15 h27 h => cE h (fun h28 h => dE h fk4 (xL2 a0 a1 a2 r1 r2 r3 r4 r5 r6 r7 r8 r9 r10 r11 r12 r13 r14 r15) (oc12 h0 h1 (xBd h2) h3 (xAe h4) (xAO h5) (xAe h6) (xAy h7) (xAl h8) h9 h10 (xAe h11) (oc12 (xAl h12) h13 (xAH h14) h15 h16 (xAl h17) h18 h10 (xAH h20) h21 (xBp h22) h23 (oc6 h24 (xAe h25) (xAy h26) (xAl h27) h28 rfl on)))) fun h28 h =>
 cE h (fun h29 h => dE h fk4 (xL3 a0 a1 a2 r1 r2 r3 r4 r5 r6 r7 r8 r9 r10 r11 r12 r13 r14 r15) (oc12 h0 h1 (xBd h2) h3 (xAe h4) (xAO h5) (xAe h6) (xAy h7) (xAl h8) h9 h10 (xAe h11) (oc12 (xAl h12) h13 (xAH h14) h15 h16 (xAl h17) h18 h10 (xAH h20) h21 (xBp h22) h23 (oc6 h24 (xAe h25) (xAy h26) (xAl h27) h28 h29 on)))) fun h29 h =>
 bE h fun r16 h30 h => cE h (fun h31 h => dE h fk4 (xL4 a0 a1 a2 r1 r2 r3 r4 r5 r6 r7 r8 r9 r10 r11 r12 r13 r14 r15 r16) (oc12 h0 h1 (xBd h2) h3 (xAe h4) (xAO h5) (xAe h6) (xAy h7) (xAl h8) h9 h10 (xAe h11) (oc12 (xAl h12) h13 (xAH h14) h15 h16 (xAl h17) h18 h10 (xAH h20) h21 (xBp h22) h23 (oc8 h24 (xAe h25) (xAy h26) (xAl h27) h28 h29 (xBp h30) h31 on)))) fun h31 h =>
 cE h (fun h32 h => dE h fk4 (xL5 a0 a1 a2 r1 r2 r3 r4 r5 r6 r7 r8 r9 r10 r11 r12 r13 r14 r15 r16) (oc12 h0 h1 (xBd h2) h3 (xAe h4) (xAO h5) (xAe h6) (xAy h7) (xAl h8) h9 h10 (xAe h11) (oc12 (xAl h12) h13 (xAH h14) h15 h16 (xAl h17) h18 h10 (xAH h20) h21 (xBp h22) h23 (oc9 h24 (xAe h25) (xAy h26) (xAl h27) h28 h29 (xBp h30) h31 h32 on)))) fun h32 h =>
 dE h fk4 (xL6 a0 a1 a2 r1 r2 r3 r4 r5 r6 r7 r8 r9 r10 r11 r12 r13 r14 r15 r16) (oc12 h0 h1 (xBd h2) h3 (xAe h4) (xAO h5) (xAe h6) (xAy h7) (xAl h8) h9 h10 (xAe h11) (oc12 (xAl h12) h13 (xAH h14) h15 h16 (xAl h17) h18 h10 (xAH h20) h21 (xBp h22) h23 (oc9 h24 (xAe h25) (xAy h26) (xAl h27) h28 h29 (xBp h30) h31 h32 on)))
theorem laws_FnExactRenameFree_ok {N : Nat} {a0 : Exp} {a1 : Str} {a2 : Str} {r : Bool} (h : xBf N  a0 a1 a2 = some r) : AbC 4 (xAj a0 a1 a2) (xAk r) :=
 AbsCalls.of_reach fk4 rfl rfl rfl (Nat.le_of_ble_eq_true rfl) (c4_e a0 a1 a2 r h)
end Go.Ab.T
end
section
namespace Go.Ab
def Big (p : Nat → Prop) : Prop := ∃ k, ∀ N, k ≤ N → p N
def Big2 (p : Nat → Nat → Prop) : Prop := ∃ k, ∀ N n, k ≤ N → k ≤ n → p N n
theorem Big.imp {p q : Nat → Prop} (h : Big p) (f : ∀ N, p N → q N) : Big q := h.elim fun k hk => ⟨k, fun N hN => f N (hk N hN)⟩
theorem Big2.imp {p q : Nat → Nat → Prop} (h : Big2 p) (f : ∀ N n, p N n → q N n) : Big2 q := h.elim fun k hk => ⟨k, fun N n h1 h2 => f N n (hk N n h1 h2)⟩
theorem Big2.of {p : Nat → Nat → Prop} (h : ∀ N n, p N n) : Big2 p := ⟨0, fun N n _ _ => h N n⟩
theorem Big.and {p q : Nat → Prop} (h : Big p) (h' : Big q) : Big fun N => p N ∧ q N := by
 obtain ⟨a, ha⟩ := h; obtain ⟨b, hb⟩ := h'
 exact ⟨max a b, fun N hN => ⟨ha N (by omega), hb N (by omega)⟩⟩
theorem Big2.and {p q : Nat → Nat → Prop} (h : Big2 p) (h' : Big2 q) : Big2 fun N n => p N n ∧ q N n := by
 obtain ⟨a, ha⟩ := h; obtain ⟨b, hb⟩ := h'
 exact ⟨max a b, fun N n h1 h2 => ⟨ha N n (by omega) (by omega), hb N n (by omega) (by omega)⟩⟩
theorem Big.two {p : Nat → Prop} (h : Big p) : Big2 fun N _ => p N := h.elim fun k hk => ⟨k, fun N _ h _ => hk N h⟩
theorem Big2.diag {p : Nat → Nat → Prop} (h : Big2 p) : Big fun N => p N N := h.elim fun k hk => ⟨k, fun N h => hk N N h h⟩
theorem Big2.succ {p : Nat → Nat → Prop} (h : Big2 fun N n => p N (n + 1)) : Big2 p := by
 obtain ⟨k, hk⟩ := h
 refine ⟨k + 1, fun N n h1 h2 => ?_⟩
 obtain ⟨m, rfl⟩ : ∃ m, n = m + 1 := ⟨n - 1, by omega⟩
 exact hk N m (by omega) (by omega)
theorem Big2.list {α : Type} {p : α → Nat → Nat → Prop} {l : List α} (h : ∀ x ∈ l, Big2 (p x)) : Big2 fun N n => ∀ x ∈ l, p x N n := by
 induction l with
 | nil => exact .of fun N n x hx => by cases hx
 | cons a l ih =>
   refine ((h a List.mem_cons_self).and (ih fun x hx => h x (List.mem_cons_of_mem _ hx))).imp fun N n ⟨h1, h2⟩ x hx => ?_
   rcases List.mem_cons.1 hx with rfl | hx
   · exact h1
   · exact h2 x hx
theorem Big.get {p : Nat → Prop} (h : Big p) : ∃ N, p N := h.elim fun k hk => ⟨k, hk k (Nat.le_refl k)⟩
def I64 (x : Int) : Prop := -9223372036854775808 ≤ x ∧ x ≤ 9223372036854775807
theorem xHB (x : Int) : IntKind.i64.wrap x = if x % 18446744073709551616 ≥ 9223372036854775808 then x % 18446744073709551616 - 18446744073709551616 else x % 18446744073709551616 := by
 show (if (true && decide (x % 18446744073709551616 ≥ 9223372036854775808)) = true then x % 18446744073709551616 - 18446744073709551616 else x % 18446744073709551616) = _
 simp only [Bool.true_and, decide_eq_true_eq]
theorem xDX {x : Int} (h1 : -9223372036854775808 ≤ x) (h2 : x ≤ 9223372036854775807) : IntKind.i64.wrap x = x := by
 rw [xHB]
 split <;> omega
theorem xGs {α : Type} {xs : List α} {i : Nat} {x : α} {l : List α} (h : xs.drop i = x :: l) : i < xs.length ∧ xs[i]? = some x ∧ xs.drop (i + 1) = l := by
 have h1 : i < xs.length := by
  rcases Nat.lt_or_ge i xs.length with h1 | h1
  · exact h1
  · rw [List.drop_eq_nil_of_le h1] at h; cases h
 rw [List.drop_eq_getElem_cons h1] at h
 cases h
 exact ⟨h1, by simp [h1], rfl⟩
theorem xHV {α : Type} {xs : List α} {i : Nat} (h : xs.drop i = []) : xs.length ≤ i := by simpa using h
end Go.Ab
end
section
namespace Go.Ab
inductive DK (K : Nat) : D → Prop where
 | int {k n} (h : (Lit.int k n).wf = true) : DK K (.int k n)
 | bool (b) : DK K (.bool b)
 | str {s : Str} (h : s.length ≤ K) : DK K (.str s)
 | sl {sz rows} (h : rows.length ≤ K) (hr : ∀ r ∈ rows, ∀ x ∈ r, DK K x) : DK K (.sl sz rows)
theorem DFit.dk {d : D} (h : DFit d) : DK maxLen d := by
 induction h with
 | int h => exact .int h
 | bool b => exact .bool b
 | str h => exact .str h
 | sl h _ ih => exact .sl h ih
theorem xKp {n : Int} : (Lit.int .i64 n).wf = true ↔ I64 n := by
 show (decide (_ ≤ n) && decide (n ≤ _)) = true ↔ _
 rw [Bool.and_eq_true, decide_eq_true_eq, decide_eq_true_eq]
 exact Iff.rfl
theorem DK.i64 {K : Nat} {n : Int} : DK K (.int .i64 n) ↔ I64 n := ⟨fun h => by cases h with | int h => exact xKp.1 h, fun h => .int (xKp.2 h)⟩
theorem DK.str_iff {K : Nat} {s : Str} : DK K (.str s) ↔ s.length ≤ K := ⟨fun h => by cases h; assumption, .str⟩
theorem DK.sl_iff {K sz : Nat} {α : Type} {f : α → List D} {xs : List α} : DK K (.sl sz (xs.map f)) ↔ xs.length ≤ K ∧ ∀ x ∈ xs, ∀ d ∈ f x, DK K d := by
 constructor
 · intro h
   cases h with
   | sl h hr => exact ⟨by simpa using h, fun x hx => hr _ (List.mem_map_of_mem hx)⟩
 · rintro ⟨h, hr⟩
   refine .sl (by simpa using h) fun r hr' => ?_
   obtain ⟨x, hx, rfl⟩ := List.mem_map.1 hr'
   exact hr x hx
def LFit {α : Type} (K : Nat) (p : α → Prop) (l : List α) : Prop := l.length ≤ K ∧ ∀ x ∈ l, p x
def Ty.Fit (K : Nat) (T : Ty) (x : T.den) : Prop := ∀ d ∈ T.toD x, DK K d
def Org.Fit (o : Org) : Prop := I64 o.cell ∧ I64 o.row
def Rowd.Fit (K : Nat) (r : Rowd) : Prop := LFit K I64 r.cells ∧ LFit K Org.Fit r.frm
def Str.Fit (K : Nat) (s : Str) : Prop := s.length ≤ K
def Exp.Fit (K : Nat) (v : Exp) : Prop := ∀ d ∈ Exp.toD v, DK K d
def Fil.Fit (K : Nat) (v : Fil) : Prop := Str.Fit K v.name ∧ I64 v.n
theorem xOy {K : Nat} {r : Rowd} : (∀ d ∈ Rowd.toD r, DK K d) ↔ r.Fit K := by
 simp only [Rowd.toD, List.mem_cons, List.not_mem_nil, or_false, forall_eq_or_imp, forall_eq, DK.sl_iff, DK.i64, Rowd.Fit, LFit, Org.Fit]
theorem xPB {K : Nat} {r : Fil} : Ty.Fit K .fil r ↔ r.Fit K := by
 simp only [Ty.Fit, Ty.toD, List.mem_cons, List.not_mem_nil, or_false, forall_eq_or_imp, forall_eq, DK.str_iff, DK.i64, Fil.Fit, Str.Fit]
theorem Exp.fit_iff {K : Nat} {v : Exp} : v.Fit K ↔ I64 v.kind ∧ I64 v.n ∧ Str.Fit K v.text ∧ LFit K (Exp.Fit K) v.args := by
 cases v
 simp only [Exp.Fit, Exp.toD, Exp.toDs_eq, List.mem_cons, List.not_mem_nil, or_false, forall_eq_or_imp, forall_eq, DK.sl_iff, DK.i64, DK.str_iff, Str.Fit, LFit, Exp.kind, Exp.n, Exp.text, Exp.args]
theorem xGE {l : List Exp} {x : Exp} (h : x ∈ l) (k n : Int) (t : Str) : SizeOf.sizeOf x < SizeOf.sizeOf (Exp.mk k n t l) := by
 have := List.sizeOf_lt_of_mem h
 simp only [Exp.mk.sizeOf_spec]
 omega
theorem Exp.ind {p : Exp → Prop} (h : ∀ k n t l, (∀ x ∈ l, p x) → p (.mk k n t l)) : ∀ v, p v
 | .mk k n t l => h k n t l fun x hx => Exp.ind h x
termination_by v => SizeOf.sizeOf v
decreasing_by exact xGE hx k n t
theorem xHU {n : Int} (h : DK maxLen (CV.int .i64 n).toD) : I64 n := DK.i64.1 h
theorem xJe {s : Str} (h : DK maxLen (CV.str s).toD) : Str.Fit maxLen s := DK.str_iff.1 h
theorem xKu {T : Ty} {f : Fl} {xs : List T.den} (h : DK maxLen (CV.sl f T xs).toD) : LFit maxLen (T.Fit maxLen) xs := DK.sl_iff.1 h
end Go.Ab
end
section
namespace Go.Ab
theorem xJd {σ ρ : Type} {L : Nat → σ → Option ρ} (m : σ → Nat) (Inv : σ → Prop) (Post : ρ → Prop)
 (hstep : ∀ s, Inv s → (∃ s', Inv s' ∧ m s' < m s ∧ ∀ n, L (n + 1) s = L n s') ∨ (∃ r, Post r ∧ ∀ n, L (n + 1) s = some r)) :
 ∀ n s, Inv s → m s < n → ∃ r, Post r ∧ L n s = some r := by
 intro n
 induction n with
 | zero => intro s _ h; omega
 | succ n ih =>
   intro s hs hn
   rcases hstep s hs with ⟨s', h1, h2, h3⟩ | ⟨r, h1, h2⟩
   · obtain ⟨r, h4, h5⟩ := ih s' h1 (by omega)
     exact ⟨r, h4, by rw [h3]; exact h5⟩
   · exact ⟨r, h1, h2 n⟩
theorem xCZ {α σ ρ : Type} {L : Nat → Int → σ → Option ρ} (x0 : List α) (g : List α → σ → ρ) (Inv : Nat → σ → Prop)
 (hnil : ∀ n s, Inv x0.length s → L (n + 1) (x0.length : Nat) s = some (g [] s))
 (hcons : ∀ i x l s, x0.drop i = x :: l → i < x0.length → x0[i]? = some x → Inv i s →
   (∃ s', Inv (i + 1) s' ∧ g (x :: l) s = g l s' ∧ ∀ n, L (n + 1) (i : Nat) s = L n ((i + 1 : Nat) : Int) s') ∨ (∀ n, L (n + 1) (i : Nat) s = some (g (x :: l) s))) :
 ∀ n i s, Inv i s → i ≤ x0.length → x0.length < n + i → L n (i : Nat) s = some (g (x0.drop i) s) := by
 intro n
 induction n with
 | zero => intro i s _ h1 h2; omega
 | succ n ih =>
   intro i s hs hi hn
   cases hd : x0.drop i with
   | nil =>
     have := xHV hd
     obtain rfl : i = x0.length := by omega
     exact hnil n s hs
   | cons x l =>
     obtain ⟨h1, h2, h3⟩ := xGs hd
     rcases hcons i x l s hd h1 h2 hs with ⟨s', h4, h5, h6⟩ | h
     · rw [h6, ih (i + 1) s' h4 (by omega) (by omega), h3, h5]
     · exact h n
theorem xBG {α : Type} {xs : List α} {i : Nat} {x : α} (h : xs[i]? = some x) (d : α) : xs.getD i d = x := by simp [List.getD, h]
theorem xBh {i : Nat} {len : Nat} (h : i < len) (hl : len ≤ 9223372036854775807) : IntKind.i64.wrap ((i : Int) + 1) = ((i + 1 : Nat) : Int) := by
 rw [xDX (by omega) (by omega)]; omega
def left (s : Nat) (l : Int) : Int := if (s : Int) ≤ l then l - s else -1
theorem xGw {s : Nat} {l : Int} (h : (s : Int) ≤ l) : left s l = l - s := by unfold left; rw [if_pos h]
theorem xFx {s : Nat} {l : Int} (h : ¬ (s : Int) ≤ l) : left s l = -1 := by unfold left; rw [if_neg h]
theorem xKo {s b : Nat} {F : Option Int} {R : Int → Option Int} {l : Int} (hl : s ≤ 9223372036854775807) (h0 : 0 ≤ l) (h1 : l ≤ 1048576)
 (hF : F = bif decide (IntKind.i64.wrap (l - (s : Int)) < 0) then some (-1) else R (IntKind.i64.wrap (l - (s : Int))))
 (hR : ∀ m, 0 ≤ m → m ≤ 1048576 → R m = some (left b m)) : F = some (left (s + b) l) := by
 rw [hF, xDX (by omega) (by omega)]
 by_cases h : (s : Int) ≤ l
 · rw [decide_eq_false (by omega), jF, hR _ (by omega) (by omega)]
   unfold left
   split <;> split <;> first | rfl | omega | (congr 1; omega)
 · rw [decide_eq_true (by omega), jT, xFx (by omega)]
theorem xJh {a : Nat} {l : Int} {x : Option Int} (h : x = some (left a l)) : (x.bind fun r1 => bif decide (r1 < 0) then (some (-1) : Option Int) else some r1) = some (left a l) := by
 rw [h, jS]
 unfold left
 split
 · rw [decide_eq_false (by omega)]; rfl
 · rfl
section
variable {α : Type} {d : α}
theorem xOv {L : Nat → List α → Int → Int → Option Int} {sz : α → Int → Option Int} {size : α → Nat} {x0 : List α}
 (hL : ∀ n x1 x5, L (n + 1) x0 x1 x5 = bif decide (x5 < (x0.length : Int)) then (if (0 : Int) ≤ x5 ∧ x5 < (x0.length : Int) then Option.bind (sz (x0.getD x5.toNat d) x1) fun r1 => bif decide (r1 < 0) then some (-1) else L n x0 r1 (IntKind.i64.wrap (x5 + 1)) else none) else some x1)
 (hlen : x0.length ≤ 9223372036854775807) (hsz : ∀ x ∈ x0, ∀ l, 0 ≤ l → l ≤ 1048576 → sz x l = some (left (size x) l)) {n : Nat} (hn : x0.length < n) {l : Int} (h0 : 0 ≤ l) (h1 : l ≤ 1048576) :
 L n x0 l 0 = some (left (x0.map size).sum l) := by
 have key := xCZ (L := fun n i s => L n x0 s i) x0 (fun l s => left (l.map size).sum s) (fun _ s => 0 ≤ s ∧ s ≤ 1048576) (fun n s hs => by
  have hs : 0 ≤ s ∧ s ≤ 1048576 := hs
  simp only [hL]; simp [left]; omega)
  (fun i x r s hd hi hx hs => by
    have hs : 0 ≤ s ∧ s ≤ 1048576 := hs
    have hi' : (i : Int) < (x0.length : Int) := by omega
    have hm : x ∈ x0 := List.mem_of_getElem? hx
    by_cases hle : (size x : Int) ≤ s
    · refine .inl ⟨s - size x, by omega, ?_, fun n => ?_⟩
      · simp only [List.map_cons, List.sum_cons, left]
        split <;> split <;> omega
      · simp only [hL, decide_eq_true hi', jT, Int.toNat_natCast, xBG hx, hsz x hm s hs.1 hs.2, xGw hle, jS, xBh hi hlen]
        rw [if_pos (by omega), decide_eq_false (by omega), jF]
    · refine .inr fun n => ?_
      simp only [hL, decide_eq_true hi', jT, Int.toNat_natCast, xBG hx, hsz x hm s hs.1 hs.2, xFx hle, jS]
      rw [if_pos (by omega), decide_eq_true (by omega), jT]
      simp only [List.map_cons, List.sum_cons, left]
      rw [if_neg (by omega)])
  n 0 l ⟨h0, h1⟩ (by omega) (by omega)
 simpa using key
theorem xOx {L : Nat → List α → List α → Int → Option (List α)} {to : α → Option α} {re : α → α} {x0 : List α}
 (hL : ∀ n x3 x4, L (n + 1) x0 x3 x4 = bif decide (x4 < (x0.length : Int)) then (if (0 : Int) ≤ x4 ∧ x4 < (x0.length : Int) then Option.bind (to (x0.getD x4.toNat d)) fun r1 => (if (0 : Int) ≤ x4 ∧ x4 < (x3.length : Int) then L n x0 (x3.set x4.toNat (re r1)) (IntKind.i64.wrap (x4 + 1)) else none) else none) else some x3)
 (hlen : x0.length ≤ 9223372036854775807) (hto : ∀ x ∈ x0, ∃ y, to x = some y ∧ re y = x) {n : Nat} (hn : x0.length < n) :
 L n x0 (List.replicate x0.length d) 0 = some x0 := by
 have key := xCZ (L := fun n i s => L n x0 s i) x0 (fun _ _ => x0) (fun i s => s = x0.take i ++ List.replicate (x0.length - i) d) (fun n s hs => by
  have hs : s = x0.take x0.length ++ List.replicate (x0.length - x0.length) d := hs
  simp only [hL]; simp [hs])
  (fun i x r s hd hi hx hs => by
    have hs : s = x0.take i ++ List.replicate (x0.length - i) d := hs
    have hi' : (i : Int) < (x0.length : Int) := by omega
    have hm : x ∈ x0 := List.mem_of_getElem? hx
    obtain ⟨y, h1, h2⟩ := hto x hm
    have hsl : s.length = x0.length := by rw [hs]; simp; omega
    refine .inl ⟨s.set i x, ?_, rfl, fun n => ?_⟩
    · show s.set i x = x0.take (i + 1) ++ List.replicate (x0.length - (i + 1)) d
      rw [hs, List.set_append]
      have : (x0.take i).length = i := by simp; omega
      rw [this, if_neg (by omega), List.take_add_one, hx, Option.toList_some, List.append_assoc, Nat.sub_self]
      rw [show x0.length - i = (x0.length - (i + 1)) + 1 from by omega, List.replicate_succ, List.set_cons_zero]
      rfl
    · simp only [hL, decide_eq_true hi', jT, Int.toNat_natCast, xBG hx, h1, h2, jS, xBh hi hlen, hsl]
      rw [if_pos (by omega), if_pos (by omega)])
  n 0 (List.replicate x0.length d) (by simp) (by omega) (by omega)
 exact key
theorem xOa {L : Nat → Int → Option Bool} {x0 : List α} (hend : ∀ n, L (n + 1) (x0.length : Nat) = some true)
 (hcons : ∀ (i : Nat) x n, i < x0.length → x0[i]? = some x → x ∈ x0 → L (n + 1) (i : Nat) = L n ((i + 1 : Nat) : Int)) {n : Nat} (hn : x0.length < n) : L n 0 = some true := by
 have key := xCZ (σ := Unit) (L := fun n i _ => L n i) x0 (fun _ _ => true) (fun _ _ => True) (fun n _ _ => hend n)
  (fun i x r s hd hi hx _ => .inl ⟨(), trivial, rfl, fun n => hcons i x n hi hx (List.mem_of_getElem? hx)⟩) n 0 () trivial (by omega) (by omega)
 exact key
end
end Go.Ab
end
section
namespace Go.Ab
theorem vk (a b c : Int) (t : Str) (l : List Val) (k : List Str) (r : List Rowd) : (Val.mk a b c t l k r).kind = a := rfl
theorem vs (a b c : Int) (t : Str) (l : List Val) (k : List Str) (r : List Rowd) : (Val.mk a b c t l k r).step = c := rfl
theorem vl (a b c : Int) (t : Str) (l : List Val) (k : List Str) (r : List Rowd) : (Val.mk a b c t l k r).list = l := rfl
theorem vr (a b c : Int) (t : Str) (l : List Val) (k : List Str) (r : List Rowd) : (Val.mk a b c t l k r).rows = r := rfl
theorem ek (a b : Int) (t : Str) (l : List Exp) : (Exp.mk a b t l).kind = a := rfl
theorem en (a b : Int) (t : Str) (l : List Exp) : (Exp.mk a b t l).n = b := rfl
theorem et (a b : Int) (t : Str) (l : List Exp) : (Exp.mk a b t l).text = t := rfl
theorem ea (a b : Int) (t : Str) (l : List Exp) : (Exp.mk a b t l).args = l := rfl
mutual
def Exp.size : Exp → Nat
 | .mk _ _ t a => t.length + (a.length + Exp.sizes a)
def Exp.sizes : List Exp → Nat
 | [] => 0
 | x :: r => Exp.size x + Exp.sizes r
end
theorem Exp.sizes_eq (l : List Exp) : Exp.sizes l = (l.map Exp.size).sum := by
 induction l with
 | nil => rfl
 | cons x l ih => simp [Exp.sizes, ih]
theorem xHa {α : Type} {f : α → Nat} {l : List α} {x : α} (h : x ∈ l) : f x ≤ (l.map f).sum := by
 induction l with
 | nil => cases h
 | cons a l ih =>
   simp only [List.map_cons, List.sum_cons]
   rcases List.mem_cons.1 h with rfl | h
   · omega
   · have := ih h; omega
theorem Exp.size_eq (e : Exp) : e.size = e.text.length + (e.args.length + (e.args.map Exp.size).sum) := by
 cases e; simp [Exp.size, Exp.sizes_eq, Exp.text, Exp.args]
theorem xIM {α : Type} {K M : Nat} {p q : α → Prop} {f : α → Nat} {l : List α} (h : LFit M p l) (hs : l.length + (l.map f).sum ≤ K) (hpq : ∀ x ∈ l, p x → f x ≤ K → q x) : LFit K q l :=
 ⟨by omega, fun x hx => hpq x hx (h.2 x hx) (by have := xHa (f := f) hx; omega)⟩
theorem Exp.fit_size {K M : Nat} : ∀ e : Exp, e.Fit M → e.size ≤ K → e.Fit K := by
 refine Exp.ind fun k n t l ih h hs => ?_
 rw [Exp.fit_iff] at h ⊢
 obtain ⟨h1, h2, h3, h4⟩ := h
 have hs := hs
 rw [Exp.size_eq] at hs
 exact ⟨h1, h2, show List.length _ ≤ K from by omega, xIM h4 (by omega) fun x hx => ih x hx⟩
theorem xFm (n : Nat) : Big fun N => n < N := ⟨n + 1, fun N h => by omega⟩
end Go.Ab
end
section
namespace Go.Ab
theorem xJi {α : Type} {Lm : Nat → List α → Int → Int → Option (Int × List α)} {Lh : Nat → List α → Int → Int → Option Int} {c : α → Nat} {x0 : List α} {k0 B : Int} {n : Nat}
 (hm : ∀ n xs k, xs.length = x0.length → Lm (n + 1) xs k (xs.length : Nat) = some (k, xs)) (hh : ∀ n ys k, ys.length = x0.length → Lh (n + 1) ys k (ys.length : Nat) = some k)
 (hx : ∀ x ∈ x0, ∀ k, k0 ≤ k → k + c x ≤ B → ∃ y, (∀ n xs (i : Nat), xs.length = x0.length → xs[i]? = some x → Lm (n + 1) xs k i = Lm n (xs.set i y) (k + c x) ((i + 1 : Nat) : Int)) ∧
   (∀ n ys (i : Nat), ys.length = x0.length → ys[i]? = some y → Lh (n + 1) ys k i = Lh n ys (k + c x) ((i + 1 : Nat) : Int)))
 (hk : k0 + (x0.map c).sum ≤ B) (hn : x0.length < n) : ∃ ys, ys.length = x0.length ∧ Lm n x0 k0 0 = some (k0 + (x0.map c).sum, ys) ∧ Lh n ys k0 0 = some (k0 + (x0.map c).sum) := by
 have key : ∀ (l pre : List α) (k : Int) (n : Nat), pre.length + l.length = x0.length → (∀ x ∈ l, x ∈ x0) → k0 ≤ k → k + (l.map c).sum ≤ B → l.length < n →
  ∃ ys, ys.length = l.length ∧ Lm n (pre ++ l) k (pre.length : Nat) = some (k + (l.map c).sum, pre ++ ys) ∧ ∀ pre' : List α, pre'.length = pre.length → Lh n (pre' ++ ys) k (pre.length : Nat) = some (k + (l.map c).sum) := by
  intro l
  induction l with
  | nil =>
    intro pre k n hl hmem h0 hB hn
    obtain ⟨n, rfl⟩ : ∃ m, n = m + 1 := ⟨n - 1, by simp at hn; omega⟩
    refine ⟨[], rfl, ?_, fun pre' hp => ?_⟩
    · have := hm n (pre ++ []) k (by simpa using hl)
      simpa using this
    · have := hh n (pre' ++ []) k (by simp [hp]; simpa using hl)
      simp only [List.append_nil, hp] at this
      simpa using this
  | cons x l ih =>
    intro pre k n hl hmem h0 hB hn
    obtain ⟨n, rfl⟩ : ∃ m, n = m + 1 := ⟨n - 1, by simp at hn; omega⟩
    simp only [List.map_cons, List.sum_cons, jC] at hB hl hn
    obtain ⟨y, h1, h2⟩ := hx x (hmem x List.mem_cons_self) k h0 (by omega)
    obtain ⟨ys, g1, g2, g3⟩ := ih (pre ++ [y]) (k + c x) n (by simp; omega) (fun z hz => hmem z (List.mem_cons_of_mem _ hz)) (by omega) (by omega) (by omega)
    refine ⟨y :: ys, by simp [g1], ?_, fun pre' hp => ?_⟩
    · rw [h1 n (pre ++ x :: l) pre.length (by simp; omega) (by simp)]
      rw [List.set_append, if_neg (by omega), Nat.sub_self, List.set_cons_zero]
      have e : ((pre.length + 1 : Nat) : Int) = ((pre ++ [y]).length : Nat) := by simp
      rw [e, show pre ++ y :: l = (pre ++ [y]) ++ l from by simp, g2]
      simp only [List.map_cons, List.sum_cons, List.append_assoc, List.cons_append, List.nil_append]
      congr 2
      omega
    · rw [h2 n (pre' ++ y :: ys) pre.length (by simp [hp, g1]; omega) (by rw [← hp]; simp)]
      have e : ((pre.length + 1 : Nat) : Int) = ((pre ++ [y]).length : Nat) := by simp
      rw [e, show pre' ++ y :: ys = (pre' ++ [y]) ++ ys from by simp, g3 (pre' ++ [y]) (by simp [hp])]
      simp only [List.map_cons, List.sum_cons]
      congr 1
      omega
 obtain ⟨ys, h1, h2, h3⟩ := key x0 [] k0 n (by simp) (fun x h => h) (Int.le_refl _) hk hn
 exact ⟨ys, h1, h2, by simpa using h3 [] rfl⟩
theorem xG0 {α : Type} {xs : List α} {i : Nat} (h : i < xs.length) (y d : α) : (xs.set i y).getD i d = y := by simp [List.getD, h]
end Go.Ab
end
section
namespace Go.Ab
theorem xIy : ∀ e : Exp, e.Fit maxLen → Big2 fun N d => ∀ l, 0 ≤ l → l ≤ 1048576 → (xBm N d).c_laws_szExpr e l = some (left e.size l) := by
 refine Exp.ind fun k n t a ih h => ?_
 obtain ⟨h1, h2, h3, h4⟩ := Exp.fit_iff.1 h
 refine Big2.succ (Big2.succ ?_)
 refine ((Big2.list fun x hx => ih x hx (h4.2 x hx)).and (xFm a.length).two).imp fun N d ⟨hx, hn⟩ l h0 l1 => ?_
 rw [Exp.size_eq]
 exact xKo h3 h0 l1 rfl fun m m0 m1 => xJh (xKo h4.1 m0 m1 rfl fun m m0 m1 =>
  xOv (L := fun n x0 x1 x5 => xDR N (xBm N d).c_laws_szExpr (xBm N d).c_laws_szExprS n x0 x1 x5) (d := Ty.exp.dflt) (sz := (xBm N d).c_laws_szExpr)
   (fun _ _ _ => rfl) h4.1 (fun x hxm l h0 h1 => hx x hxm l h0 h1) hn m0 m1)
theorem xIz {K : Nat} (hK : K ≤ 1048576) : ∀ e : Exp, e.Fit K → Big2 fun N d => (xAQ N d).c_laws_toExpr e = some e := by
 refine Exp.ind fun k n t a ih h => ?_
 obtain ⟨h1, h2, h3, h4⟩ := Exp.fit_iff.1 h
 refine Big2.succ (Big2.succ ?_)
 refine ((Big2.list fun x hx => ih x hx (h4.2 x hx)).and (xFm a.length).two).imp fun N d ⟨hx, hn⟩ => ?_
 have hl : a.length ≤ K := h4.1
 have key : (xAQ N (d + 1)).c_laws_toExprS a = some a := by
  show xCO _ _ _ a = _
  unfold xCO
  rw [if_pos ⟨by omega, rfl, by unfold Lim; omega⟩]
  exact xOx (L := fun n x0 x3 x4 => xDS N (xAQ N d).c_laws_toExpr (xAQ N d).c_laws_toExprS n x0 x3 x4) (to := (xAQ N d).c_laws_toExpr) (re := Exp.re) (fun _ _ _ => rfl) (by omega) (fun x hxm => ⟨x, hx x hxm, Exp.re_eq x⟩) hn
 show xC7 N (xAQ N (d + 1)).c_laws_toExpr (xAQ N (d + 1)).c_laws_toExprS _ = _
 unfold xC7
 show Option.bind ((xAQ N (d + 1)).c_laws_toExprS a) _ = _
 rw [key]; rfl
theorem xIw {K : Nat} (hK : K ≤ 9223372036854775807) : ∀ e : Exp, e.Fit K → Big2 fun N d => (xA1 N d).c_laws_eqExpr e e = some true := by
 refine Exp.ind fun k n t a ih h => ?_
 obtain ⟨h1, h2, h3, h4⟩ := Exp.fit_iff.1 h
 refine Big2.succ (Big2.succ ?_)
 refine ((Big2.list fun x hx => ih x hx (h4.2 x hx)).and (xFm a.length).two).imp fun N d ⟨hx, hn⟩ => ?_
 have hl : a.length ≤ K := h4.1
 have key : (xA1 N (d + 1)).c_laws_eqExprS a a = some true := by
  show xCN _ _ _ a a = _
  unfold xCN
  rw [bne_self_eq_false, jF]
  exact xOa (L := fun n i => xCM N (xA1 N d).c_laws_eqExpr (xA1 N d).c_laws_eqExprS n a a i) (fun n => by simp [xCM]) (fun i x n hi hxi hm => by
   have hi' : (i : Int) < (a.length : Int) := by omega
   simp only [xCM, decide_eq_true hi', jT, Int.toNat_natCast, xBG hxi, hx x hm, jS, xBh hi (by omega), Bool.not_true, jF]
   rw [if_pos (by omega), if_pos (by omega)]) hn
 show xC3 N (xA1 N (d + 1)).c_laws_eqExpr (xA1 N (d + 1)).c_laws_eqExprS _ _ = _
 unfold xC3
 simp [Exp.args, key]
theorem xHz {e : Exp} (h : e.Fit maxLen) : Big fun N => xFN N e 1048576 = some (left e.size 1048576) := (xIy e h).diag.imp fun N h => h _ (by omega) (by omega)
theorem xJc {e : Exp} (h : e.Fit 1048576) : Big fun N => xD2 N e = some e := (xIz (by omega) e h).diag
theorem xGt {e : Exp} {K : Nat} (h : e.Fit K) (hK : K ≤ 9223372036854775807) : Big fun N => xD0 N e e = some true := (xIw hK e h).diag
end Go.Ab
end
section
namespace Go.Ab
def xFQ (c : UInt8) : Bool := decide ((c.toNat : Int) ≥ 97) && decide ((c.toNat : Int) ≤ 122)
def xGr (c : UInt8) : Bool := decide ((c.toNat : Int) ≥ 48) && decide ((c.toNat : Int) ≤ 57)
def xEJ : List UInt8 → Bool → Bool
 | [], _ => true
 | x :: r, f => (xFQ x || (!f && xGr x)) && xEJ r false
theorem xGH {N : Nat} {s : Str} (hl : s.length ≤ 9223372036854775807) (hn : s.length < N) : xEM N s = some (xEJ s true && decide ((s.length : Int) > 0)) :=
 xCZ (L := fun n i _ => xBz N n s i) s (fun l f => xEJ l f && decide ((s.length : Int) > 0)) (fun i f => f = (i == 0)) (fun n _ _ => by simp [xBz, xEJ])
  (fun i x l f hd hi hx hf => by
    have hi' : (i : Int) < (s.length : Int) := by omega
    have hi0 : ((i : Int) == 0) = f := by rw [hf]; cases i <;> simp <;> omega
    by_cases h1 : (xFQ x || (!f && xGr x)) = true
    · refine .inl ⟨false, by simp, by simp [xEJ, h1], fun n => ?_⟩
      simp only [xBz, decide_eq_true hi', jT, Int.toNat_natCast, xBG hx, xBh hi hl, hi0]
      rw [if_pos (by omega)]
      unfold xFQ xGr at h1
      by_cases c1 : (x.toNat : Int) ≥ 97 <;> by_cases c2 : (x.toNat : Int) ≤ 122 <;> by_cases c3 : (x.toNat : Int) ≥ 48 <;> by_cases c4 : (x.toNat : Int) ≤ 57 <;> cases f <;>
       simp only [c1, c2, c3, c4, decide_true, decide_false, jT, jF, Bool.not_true, Bool.not_false, Bool.and_true, Bool.and_false, Bool.or_true, Bool.or_false, Bool.false_and, Bool.true_and, Bool.false_or, Bool.false_eq_true] at h1 ⊢
    · refine .inr fun n => ?_
      have h1 := Bool.eq_false_iff.2 h1
      simp only [xBz, decide_eq_true hi', jT, Int.toNat_natCast, xBG hx, xBh hi hl, hi0, xEJ, h1, Bool.false_and]
      rw [if_pos (by omega)]
      unfold xFQ xGr at h1
      by_cases c1 : (x.toNat : Int) ≥ 97 <;> by_cases c2 : (x.toNat : Int) ≤ 122 <;> by_cases c3 : (x.toNat : Int) ≥ 48 <;> by_cases c4 : (x.toNat : Int) ≤ 57 <;> cases f <;>
       simp only [c1, c2, c3, c4, decide_true, decide_false, jT, jF, Bool.not_true, Bool.not_false, Bool.and_true, Bool.and_false, Bool.or_true, Bool.or_false, Bool.false_and, Bool.true_and, Bool.false_or, Bool.true_eq_false] at h1 ⊢) N 0 true rfl (by omega) (by omega)
theorem xFH (N : Nat) (a b c : Int) : xDF N a b c = some (decide (b ≤ a) && decide (a ≤ c)) := by
 unfold xDF
 cases h : decide (b ≤ a) <;> simp
theorem xHy (N : Nat) (a b c : Int) : xE2 N a b c = some (decide (b ≤ a) && decide (a ≤ c)) := by
 unfold xE2
 cases h : decide (b ≤ a)
 · rfl
 · rfl
theorem xGL {N : Nat} {s : Str} (hl : s.length ≤ 9223372036854775807) (hn : s.length < N) : xE8 N s = some (xEJ s true && (decide ((1 : Int) ≤ s.length) && decide ((s.length : Int) ≤ 8))) :=
 xCZ (L := fun n i _ => xBR N n s i) s (fun l f => xEJ l f && (decide ((1 : Int) ≤ s.length) && decide ((s.length : Int) ≤ 8))) (fun i f => f = (i == 0)) (fun n _ _ => by simp [xBR, xEJ, xFH])
  (fun i x l f hd hi hx hf => by
    have hi' : (i : Int) < (s.length : Int) := by omega
    have hi0 : ((i : Int) == 0) = f := by rw [hf]; cases i <;> simp <;> omega
    have e1 : decide ((x.toNat : Int) < 48) = !decide ((x.toNat : Int) ≥ 48) := by by_cases c : (x.toNat : Int) ≥ 48 <;> simp [c] <;> omega
    have e2 : decide ((x.toNat : Int) > 57) = !decide ((x.toNat : Int) ≤ 57) := by by_cases c : (x.toNat : Int) ≤ 57 <;> simp [c] <;> omega
    by_cases h1 : (xFQ x || (!f && xGr x)) = true
    · refine .inl ⟨false, by simp, by simp [xEJ, h1], fun n => ?_⟩
      simp only [xBR, decide_eq_true hi', jT, Int.toNat_natCast, xBG hx, xBh hi hl, hi0, e1, e2]
      rw [if_pos (by omega)]
      unfold xFQ xGr at h1
      by_cases c1 : (x.toNat : Int) ≥ 97 <;> by_cases c2 : (x.toNat : Int) ≤ 122 <;> by_cases c3 : (x.toNat : Int) ≥ 48 <;> by_cases c4 : (x.toNat : Int) ≤ 57 <;> cases f <;>
       simp only [c1, c2, c3, c4, decide_true, decide_false, jT, jF, Bool.not_true, Bool.not_false, Bool.and_true, Bool.and_false, Bool.or_true, Bool.or_false, Bool.false_and, Bool.true_and, Bool.false_or, Bool.false_eq_true] at h1 ⊢
    · refine .inr fun n => ?_
      have h1 := Bool.eq_false_iff.2 h1
      simp only [xBR, decide_eq_true hi', jT, Int.toNat_natCast, xBG hx, xBh hi hl, hi0, e1, e2, xEJ, h1, Bool.false_and]
      rw [if_pos (by omega)]
      unfold xFQ xGr at h1
      by_cases c1 : (x.toNat : Int) ≥ 97 <;> by_cases c2 : (x.toNat : Int) ≤ 122 <;> by_cases c3 : (x.toNat : Int) ≥ 48 <;> by_cases c4 : (x.toNat : Int) ≤ 57 <;> cases f <;>
       simp only [c1, c2, c3, c4, decide_true, decide_false, jT, jF, Bool.not_true, Bool.not_false, Bool.and_true, Bool.and_false, Bool.or_true, Bool.or_false, Bool.false_and, Bool.true_and, Bool.false_or, Bool.true_eq_false] at h1 ⊢) N 0 true rfl (by omega) (by omega)
def xE0 : List Str := [[108, 101, 116], [105, 110], [105, 102], [116, 104, 101, 110], [101, 108, 115, 101], [102, 111, 114], [100, 111], [108, 101, 110], [115, 117, 109], [116, 97, 107, 101], [115, 107, 105, 112], [114, 97, 110, 103, 101], [110, 116, 104], [119, 104, 101, 114, 101], [107, 101, 101, 112], [97, 100, 100], [103, 114, 111, 117, 112], [106, 111, 105, 110], [99, 111, 108, 117, 109, 110], [114, 111, 119, 115], [99, 108, 111, 99, 107], [99, 104, 97, 110, 99, 101], [102, 105, 108, 101], [116, 97, 98, 108, 101]]
theorem xGb {N : Nat} {xs : List Str} {s : Str} (hl : xs.length ≤ 9223372036854775807) (hn : xs.length < N) : xD6 N xs s = some (xs.any (· == s)) :=
 xCZ (σ := Unit) (L := fun n i _ => xC1 N n xs s i) xs (fun l _ => l.any (· == s)) (fun _ _ => True) (fun n _ _ => by simp [xC1])
  (fun i x l _ hd hi hx _ => by
    have hi' : (i : Int) < (xs.length : Int) := by omega
    cases h1 : x == s
    · refine .inl ⟨(), trivial, by simp [h1], fun n => ?_⟩
      simp only [xC1, decide_eq_true hi', jT, Int.toNat_natCast, xBG hx, h1, jF, xBh hi hl]
      rw [if_pos (by omega)]
    · refine .inr fun n => ?_
      simp only [xC1, decide_eq_true hi', jT, Int.toNat_natCast, xBG hx, h1]
      rw [if_pos (by omega)]
      simp [h1]) N 0 () trivial (by omega) (by omega)
def xFy (s : Str) : Bool := xE0.any (· == s)
theorem xF8 {N : Nat} {s : Str} (hn : 24 < N) : xDn N s = some (xFy s) := by
 unfold xDn xDW
 rw [jS, show ([[108, 101, 116], [105, 110], [105, 102], [116, 104, 101, 110], [101, 108, 115, 101], [102, 111, 114], [100, 111], [108, 101, 110], [115, 117, 109], [116, 97, 107, 101], [115, 107, 105, 112], [114, 97, 110, 103, 101], [110, 116, 104], [119, 104, 101, 114, 101], [107, 101, 101, 112], [97, 100, 100], [103, 114, 111, 117, 112], [106, 111, 105, 110], [99, 111, 108, 117, 109, 110], [114, 111, 119, 115], [99, 108, 111, 99, 107], [99, 104, 97, 110, 99, 101], [102, 105, 108, 101], [116, 97, 98, 108, 101]] : List Str) = xE0 from rfl, xGb (by decide) hn]
 rfl
theorem xFZ (N : Nat) (s : Str) : xDi N s = some (xFy s) := by
 by_cases h : s ∈ xE0
 · have h' : xFy s = true := List.any_eq_true.2 ⟨s, h, by simp⟩
   rw [h']
   simp only [xE0, List.mem_cons, List.not_mem_nil, or_false] at h
   rcases h with h | h | h | h | h | h | h | h | h | h | h | h | h | h | h | h | h | h | h | h | h | h | h | h <;> subst h <;> rfl
 · have h' : xFy s = false := by
    unfold xFy
    rw [List.any_eq_false]
    intro x hx hxs
    exact h (by rw [← eq_of_beq hxs]; exact hx)
   rw [h']
   have hne : ∀ x ∈ xE0, (s == x) = false := by
    intro x hx
    cases hb : s == x
    · rfl
    · exact absurd (by rw [eq_of_beq hb]; exact hx) h
   simp only [xE0, List.mem_cons, List.not_mem_nil, or_false, forall_eq_or_imp, forall_eq] at hne
   simp only [xDi, xBH, hne, jF, jS]
   rfl
def xB3 (s : Str) : Bool := xEJ s true && (decide ((1 : Int) ≤ s.length) && decide ((s.length : Int) ≤ 8)) && !xFy s
theorem xDC {N : Nat} {s : Str} (hl : s.length ≤ 9223372036854775807) (hn : s.length < N) : xBA N s = some (xB3 s) := by
 unfold xBA xB3
 rw [xGL hl hn, jS]
 cases (xEJ s true && (decide ((1 : Int) ≤ s.length) && decide ((s.length : Int) ≤ 8)))
 · rfl
 · rw [xFZ]; rfl
theorem xDI {N : Nat} {s : Str} (hl : s.length ≤ 9223372036854775807) (hn : s.length < N) (hn2 : 24 < N) : xBB N s = some (xB3 s) := by
 unfold xBB xB3
 rw [xGH hl hn, jS, xF8 hn2]
 have : decide ((s.length : Int) > 0) = decide ((1 : Int) ≤ s.length) := by by_cases c : (s.length : Int) > 0 <;> simp [c] <;> omega
 rw [this]
 cases xEJ s true <;> cases decide ((1 : Int) ≤ s.length) <;> cases decide ((s.length : Int) ≤ 8) <;> rfl
end Go.Ab
end
section
namespace Go.Ab
theorem guard {s : Nat} (h : ¬ left s 1048576 < 0) : s ≤ 1048576 := by unfold left at h; split at h <;> omega
theorem xHe {a0 : Exp} (f0 : ∀ z ∈ [CV.int .i64 (Exp.kind a0), .int .i64 (Exp.n a0), .str (Exp.text a0), .sl .ro .exp (Exp.args a0)], DFit z.toD) : a0.Fit maxLen := by
 have f := fun z hz => (f0 z hz).dk
 simp only [List.mem_cons, List.not_mem_nil, or_false, forall_eq_or_imp, forall_eq] at f
 obtain ⟨h1, h2, h3, h4⟩ := f
 exact Exp.fit_iff.2 ⟨xHU h1, xHU h2, xJe h3, xKu h4⟩
end Go.Ab
end
section
namespace Go.Ab
theorem xG2 {N : Nat} (hN : 274877906944 < N) {k : Int} (h0 : 0 ≤ k) (h1 : k ≤ 137438953472) : ∃ t, xDs N k = some t := by
 unfold xDs
 cases decide (k ≤ 0)
 · rw [jF]
   obtain ⟨r, _, hr⟩ := xJd (L := fun n (s : Int × Str) => xCs N n s.1 s.2) (fun s => s.1.toNat) (fun s => 0 ≤ s.1 ∧ (s.2.length : Int) + s.1 ≤ 137438953472) (fun _ => True) (fun s hs => by
    obtain ⟨x, t⟩ := s
    obtain ⟨g0, g1⟩ := hs
    have g0 : 0 ≤ x := g0
    have g1 : (t.length : Int) + x ≤ 137438953472 := g1
    by_cases hx : x > 0
    · have hq : Int.tdiv x 10 = x / 10 := Int.tdiv_eq_ediv_of_nonneg g0
      refine .inl ⟨(IntKind.i64.wrap (Int.tdiv x 10), (List.map (fun n => UInt8.ofNat (Int.toNat n)) [(IntKind.u8.wrap ((IntKind.i64.wrap (48 + (Int.tmod x 10)))))]) ++ t), ?_, ?_, fun n => ?_⟩
      · show 0 ≤ IntKind.i64.wrap (Int.tdiv x 10) ∧ _
        rw [hq, xDX (by omega) (by omega)]
        simp only [List.map_cons, List.map_nil, List.cons_append, List.nil_append, jC]
        omega
      · show (IntKind.i64.wrap (Int.tdiv x 10)).toNat < x.toNat
        rw [hq, xDX (by omega) (by omega)]
        omega
      · simp only [xCs, decide_eq_true hx, jT]
        rw [if_pos (by simp only [List.map_cons, List.map_nil, jC, jN]; unfold Lim; omega)]
    · refine .inr ⟨[109] ++ t, trivial, fun n => ?_⟩
      simp only [xCs, decide_eq_false hx, jF]
      rw [if_pos (by simp only [jC, jN]; unfold Lim; omega)]) N (k, []) ⟨h0, by simpa using h1⟩ (by show k.toNat < N; omega)
   exact ⟨r, hr⟩
 · exact ⟨_, rfl⟩
end Go.Ab
end
section
namespace Go.Ab
def allI {α : Type} (p : Nat → α → Bool) : List α → Nat → Bool
 | [], _ => true
 | x :: r, i => p i x && allI p r (i + 1)
theorem xKr {α : Type} {L : Nat → Int → Option Bool} {x0 : List α} {p : Nat → α → Bool} {e : Option Bool} (hend : ∀ n, L (n + 1) (x0.length : Nat) = e)
 (hcons : ∀ (i : Nat) x n, i < x0.length → x0[i]? = some x → x ∈ x0 → L (n + 1) (i : Nat) = bif p i x then L n ((i + 1 : Nat) : Int) else some false) {n : Nat} (hn : x0.length < n) :
 L n 0 = bif allI p x0 0 then e else some false := by
 have key : ∀ (m i : Nat), i ≤ x0.length → x0.length < m + i → L m (i : Nat) = bif allI p (x0.drop i) i then e else some false := by
  intro m
  induction m with
  | zero => intro i h1 h2; omega
  | succ m ih =>
    intro i h1 h2
    cases hd : x0.drop i with
    | nil =>
      have := xHV hd
      obtain rfl : i = x0.length := by omega
      rw [hend]; rfl
    | cons x l =>
      obtain ⟨g1, g2, g3⟩ := xGs hd
      rw [hcons i x m g1 g2 (List.mem_of_getElem? g2), ih (i + 1) (by omega) (by omega), g3]
      simp only [allI]
      cases p i x <;> rfl
 exact key n 0 (by omega) (by omega)
def xOw (c : UInt8) : Bool := !(decide ((c.toNat : Int) < 32)) && (!(decide ((c.toNat : Int) > 126)) && !((c.toNat : Int) == 34))
def xGl (s : Str) : Bool := allI (fun _ => xOw) s 0 && decide ((s.length : Int) ≤ 20)
theorem xKs {a b : Bool} : (bif a then some b else some false) = some (a && b) := by cases a <;> rfl
theorem xEA {N : Nat} {s : Str} (hl : s.length ≤ 9223372036854775807) (hn : s.length < N) : xDA N s = some (xGl s) := by
 rw [xGl, ← xKs]
 exact xKr (L := fun n i => xBn N n s i) (fun n => by simp [xBn]) (fun i x n hi hx hm => by
  have hi' : (i : Int) < (s.length : Int) := by omega
  simp only [xBn, decide_eq_true hi', jT, Int.toNat_natCast, xBG hx, xBh hi hl, xOw]
  rw [if_pos (by omega)]
  cases decide ((x.toNat : Int) < 32) <;> cases decide ((x.toNat : Int) > 126) <;> cases ((x.toNat : Int) == 34) <;> rfl) hn
theorem xFe (N n : Nat) (s : Str) (i : Int) : xCe N n s i = xBn N n s i := by
 induction n generalizing i with
 | zero => rfl
 | succ n ih => simp only [xCe, xBn, ih]
theorem xFL {N : Nat} {s : Str} (hl : s.length ≤ 9223372036854775807) (hn : s.length < N) : xDy N s = some (xGl s) := (xFe N N s 0).trans (xEA hl hn)
def idxS : List Str → Str → Nat → Int
 | [], _, _ => -1
 | x :: r, s, i => bif x == s then (i : Int) else idxS r s (i + 1)
theorem xGu {N : Nat} {xs : List Str} {s : Str} (hl : xs.length ≤ 9223372036854775807) (hn : xs.length < N) : xDK N xs s = some (idxS xs s 0) :=
 xCZ (L := fun n i _ => xCb N n s xs xs.length i) xs (fun l q => idxS l s q) (fun i q => q = i) (fun n q _ => by simp [xCb, idxS])
  (fun i x l q hd hi hx hq => by
    have hi' : (i : Int) < (xs.length : Int) := by omega
    have hq : q = i := hq
    subst hq
    cases h1 : x == s
    · refine .inl ⟨q + 1, rfl, by simp only [idxS, h1, jF], fun n => ?_⟩
      simp only [xCb, decide_eq_true hi', jT, Int.toNat_natCast, xBG hx, h1, jF, xBh hi hl]
      rw [if_pos (by omega)]
    · refine .inr fun n => ?_
      simp only [xCb, decide_eq_true hi', jT, Int.toNat_natCast, xBG hx, h1]
      rw [if_pos (by omega)]
      simp only [idxS, h1, jT]) N 0 0 rfl (by omega) (by omega)
end Go.Ab
end
section
namespace Go.Ab
def kb : List Val → List Int → Bool
 | [], _ => false
 | _ :: _, [] => false
 | x :: r, k :: ks => (x.kind != k) || kb r ks
end Go.Ab
end
section
namespace Go.Ab
def pick (k : Int) (n : Int) (rs : List Rowd) : List Rowd := rs.filter fun r => r.cells.getD k.toNat Ty.int.dflt == n
end Go.Ab
end
section
namespace Go.Ab
def dd (n : Nat) : Str := if n = 0 then [] else Lib.decDigits n
mutual
def Exp.cnt : Exp → Nat
 | .mk _ _ _ a => 1 + Exp.cnts a
def Exp.cnts : List Exp → Nat
 | [] => 0
 | x :: r => Exp.cnt x + Exp.cnts r
end
theorem Exp.cnts_eq (l : List Exp) : Exp.cnts l = (l.map Exp.cnt).sum := by
 induction l with
 | nil => rfl
 | cons x l ih => simp only [Exp.cnts, List.map_cons, List.sum_cons, ih]
theorem Exp.cnt_eq (e : Exp) : e.cnt = 1 + (e.args.map Exp.cnt).sum := by
 cases e; simp only [Exp.cnt, Exp.cnts_eq, Exp.args]
mutual
def Exp.nest : Exp → Nat
 | .mk _ _ _ a => Exp.nests a + 1
def Exp.nests : List Exp → Nat
 | [] => 0
 | x :: r => max (Exp.nest x) (Exp.nests r)
end
theorem Exp.nest_eq (e : Exp) : e.nest = Exp.nests e.args + 1 := by cases e; rfl
theorem xJb {f g : Exp → Nat} : ∀ {a : List Exp}, (∀ x ∈ a, f x ≤ g x + 1) → (a.map f).sum ≤ a.length + (a.map g).sum
 | [], _ => Nat.le_refl _
 | x :: l, ih => by
   have h1 := ih x List.mem_cons_self
   have h2 := xJb fun y hy => ih y (List.mem_cons_of_mem _ hy)
   simp only [List.map_cons, List.sum_cons, jC]; omega
theorem Exp.cnt_le : ∀ e : Exp, e.cnt ≤ e.size + 1 := by
 refine Exp.ind fun k n t a ih => ?_
 rw [Exp.cnt_eq, Exp.size_eq]
 have := xJb ih
 show 1 + (a.map Exp.cnt).sum ≤ t.length + (a.length + (a.map Exp.size).sum) + 1
 omega
theorem xHX : ∀ {a : List Exp}, (∀ x ∈ a, x.nest ≤ x.cnt) → Exp.nests a ≤ (a.map Exp.cnt).sum
 | [], _ => Nat.le_refl _
 | x :: l, ih => by
   have h1 := ih x List.mem_cons_self
   have h2 := xHX fun y hy => ih y (List.mem_cons_of_mem _ hy)
   simp only [Exp.nests, List.map_cons, List.sum_cons]; omega
theorem Exp.nest_le : ∀ e : Exp, e.nest ≤ e.cnt := by
 refine Exp.ind fun k n t a ih => ?_
 rw [Exp.nest_eq, Exp.cnt_eq]
 have := xHX ih
 show Exp.nests a + 1 ≤ 1 + (a.map Exp.cnt).sum
 omega
def xGx (vT vN : Str → Bool) (ac : Str → Int) (k n : Int) (t : Str) (l : Nat) : Bool :=
 bif k == 1 then (decide (0 ≤ n) && decide (n ≤ 1000000000)) && ((t == []) && (l == 0))
 else bif k == 2 then (n == 0) && (vT t && (l == 0))
 else bif k == 3 then (n == 0) && (vN t && (l == 0))
 else bif k == 4 then (n == 0) && ((t == []) && decide (l ≤ 8))
 else bif k == 5 then (n == 0) && ((l : Int) == ac t)
 else bif k == 6 then (decide (1 ≤ n) && decide (n ≤ 5)) && ((t == []) && (l == 2))
 else bif k == 7 then (n == 0) && (vN t && (l == 2))
 else bif k == 9 then (n == 0) && (vN t && (l == 2))
 else bif k == 8 then (n == 0) && ((t == []) && (l == 3)) else false
end Go.Ab
end
section
namespace Go.Ab
theorem xN8 {α : Type} {b : Bool} {x y : Option α} (h1 : ∃ r, x = some r) (h2 : ∃ r, y = some r) : ∃ r, (bif b then x else y) = some r := by cases b <;> assumption
theorem xCn {α : Type} {b : Bool} {x y : Option α} {p q : α} (h1 : x = some p) (h2 : y = some q) : (bif b then x else y) = some (bif b then p else q) := by cases b <;> assumption
def argc (s : Str) : Int := (xBg 0 s).getD 0
theorem xEc (N : Nat) (s : Str) : xBg N s = some (argc s) := by
 have key : ∃ r, xBg 0 s = some r := by
  unfold xBg
  repeat (first | exact ⟨_, rfl⟩ | refine xN8 ⟨_, rfl⟩ ?_)
 obtain ⟨r, hr⟩ := key
 show xBg 0 s = _
 rw [argc, hr]; rfl
theorem xFn (N : Nat) (s : Str) : xBH N s = some (argc s) := (show xBH N s = xBg N s from rfl).trans (xEc N s)
def xHf (e : Exp) : Bool := xGx xGl xB3 argc e.kind e.n e.text e.args.length
theorem xOc (l : Nat) : ((l : Int) == 0) = (l == 0) := by
 rcases Nat.eq_zero_or_pos l with rfl | h
 · rfl
 · rw [beq_eq_false_iff_ne.2 (by omega : l ≠ 0), beq_eq_false_iff_ne.2 (by omega : (l : Int) ≠ 0)]
theorem xOd (l : Nat) : ((l : Int) == 2) = (l == 2) := by
 rcases Decidable.em (l = 2) with rfl | h
 · rfl
 · rw [beq_eq_false_iff_ne.2 h, beq_eq_false_iff_ne.2 (by omega : (l : Int) ≠ 2)]
theorem xOe (l : Nat) : ((l : Int) == 3) = (l == 3) := by
 rcases Decidable.em (l = 3) with rfl | h
 · rfl
 · rw [beq_eq_false_iff_ne.2 h, beq_eq_false_iff_ne.2 (by omega : (l : Int) ≠ 3)]
theorem xOf (l : Nat) : decide ((l : Int) ≤ 8) = decide (l ≤ 8) := by
 rcases Decidable.em (l ≤ 8) with h | h
 · rw [decide_eq_true h, decide_eq_true (by omega : (l : Int) ≤ 8)]
 · rw [decide_eq_false h, decide_eq_false (by omega : ¬ (l : Int) ≤ 8)]
theorem xGJ {N : Nat} {e : Exp} (ht : e.text.length ≤ 9223372036854775807) (hn : e.text.length < N) : xEu N e = some (xHf e) := by
 simp only [xEu, xHf, xGx, xFH, xFL ht hn, xDC (N := N) ht hn, xFn, jS, xOc, xOd, xOe, xOf]
 refine xCn ?_ (xCn ?_ (xCn ?_ (xCn ?_ (xCn ?_ (xCn ?_ (xCn ?_ (xCn ?_ (xCn ?_ rfl)))))))) <;>
  first
  | rfl
  | (cases (decide ((0 : Int) ≤ e.n) && decide (e.n ≤ 1000000000)) <;> cases (e.text == []) <;> rfl)
  | (cases (decide ((1 : Int) ≤ e.n) && decide (e.n ≤ 5)) <;> cases (e.text == []) <;> rfl)
  | (cases (e.n == 0) <;> cases (e.text == []) <;> rfl)
  | (cases (e.n == 0) <;> cases (xGl e.text) <;> rfl)
  | (cases (e.n == 0) <;> cases (xB3 e.text) <;> rfl)
theorem xGF {N : Nat} {e : Exp} (ht : e.text.length ≤ 9223372036854775807) (hn : e.text.length < N) (h24 : 24 < N) : xEf N e = some (xHf e) := by
 simp only [xEf, xHf, xGx, xHy, xEA ht hn, xDI (N := N) (s := e.text) ht hn h24, xEc, jS, xOc, xOd, xOe, xOf]
 refine xCn ?_ (xCn ?_ (xCn ?_ (xCn ?_ (xCn ?_ (xCn ?_ (xCn ?_ (xCn ?_ (xCn ?_ rfl)))))))) <;>
  first
  | rfl
  | (cases (e.args.length == 0) <;> cases (e.text == []) <;> cases (decide ((0 : Int) ≤ e.n) && decide (e.n ≤ 1000000000)) <;> rfl)
  | (cases (e.args.length == 0) <;> cases (e.n == 0) <;> cases (xGl e.text) <;> rfl)
  | (cases (e.args.length == 0) <;> cases (e.n == 0) <;> cases (xB3 e.text) <;> rfl)
  | (cases (e.n == 0) <;> cases (e.text == []) <;> rfl)
  | (cases (e.args.length == 2) <;> cases (e.text == []) <;> cases (decide ((1 : Int) ≤ e.n) && decide (e.n ≤ 5)) <;> rfl)
  | (cases (e.args.length == 2) <;> cases (e.n == 0) <;> cases (xB3 e.text) <;> rfl)
  | (cases (e.args.length == 3) <;> cases (e.n == 0) <;> cases (e.text == []) <;> rfl)
mutual
def okE : Exp → Bool
 | .mk k n t a => okEs a && xHf (.mk k n t a)
def okEs : List Exp → Bool
 | [] => true
 | x :: r => okE x && okEs r
end
theorem xKy (l : List Exp) : okEs l = l.all okE := by
 induction l with
 | nil => rfl
 | cons x l ih => simp only [okEs, List.all_cons, ih]
theorem xKm (e : Exp) : okE e = (e.args.all okE && xHf e) := by
 cases e; simp only [okE, xKy]; rfl
theorem xN7 {K : Nat} (hK : K ≤ 1048576) : ∀ e : Exp, e.Fit K → Big2 fun N d => xCJ N d e = some (okE e) ∧ xDo N d e = some (okE e) := by
 refine Exp.ind fun k n t a ih h => ?_
 obtain ⟨h1, h2, h3, h4⟩ := Exp.fit_iff.1 h
 refine Big2.succ ?_
 refine ((Big2.list fun x hx => ih x hx (h4.2 x hx)).and (xFm (K + 30)).two).imp fun N d ⟨hx, hn⟩ => ?_
 have hl : a.length ≤ K := h4.1
 have ht : (Exp.mk k n t a).text.length ≤ K := h3
 rw [xKm]
 refine ⟨?_, ?_⟩
 · exact xCZ (σ := Unit) (L := fun m i _ => xB0 N (xCJ N d) m a a.length i (.mk k n t a)) a (fun l _ => l.all okE && xHf (.mk k n t a)) (fun _ _ => True) (fun m _ _ => by simp [xB0, xGJ (N := N) (e := .mk k n t a) (by omega) (by omega)])
    (fun i x l _ hd hi hxi _ => by
      have hi' : (i : Int) < (a.length : Int) := by omega
      have hm := List.mem_of_getElem? hxi
      cases ho : okE x
      · refine .inr fun m => ?_
        simp only [xB0, decide_eq_true hi', jT, Int.toNat_natCast, xBG hxi, (hx x hm).1, ho, jS, Bool.not_false, List.all_cons, Bool.false_and]
        rw [if_pos (by omega)]
      · refine .inl ⟨(), trivial, by simp [ho], fun m => ?_⟩
        simp only [xB0, decide_eq_true hi', jT, Int.toNat_natCast, xBG hxi, (hx x hm).1, ho, jS, Bool.not_true, jF, xBh hi (by omega : a.length ≤ _)]
        rw [if_pos (by omega)]) N 0 () trivial (by omega) (by omega)
 · exact xCZ (σ := Unit) (L := fun m i _ => xCG N (xDo N d) m i (.mk k n t a)) a (fun l _ => l.all okE && xHf (.mk k n t a)) (fun _ _ => True) (fun m _ _ => by simp [xCG, ea, xGF (N := N) (e := .mk k n t a) (by omega) (by omega) (by omega)])
    (fun i x l _ hd hi hxi _ => by
      have hi' : (i : Int) < ((Exp.mk k n t a).args.length : Int) := by show (i : Int) < (a.length : Int); omega
      have hi2 : (0 : Int) ≤ (i : Int) ∧ (i : Int) < ((Exp.mk k n t a).args.length : Int) := ⟨by omega, hi'⟩
      have hm := List.mem_of_getElem? hxi
      have hxi2 : (Exp.mk k n t a).args[i]? = some x := hxi
      cases ho : okE x
      · refine .inr fun m => ?_
        simp only [xCG, decide_eq_true hi', if_pos hi2, jT, Int.toNat_natCast, xBG hxi2, (hx x hm).2, ho, jS, Bool.not_false, List.all_cons, Bool.false_and]
      · refine .inl ⟨(), trivial, by simp [ho], fun m => ?_⟩
        simp only [xCG, decide_eq_true hi', if_pos hi2, jT, Int.toNat_natCast, xBG hxi2, (hx x hm).2, ho, jS, Bool.not_true, jF, xBh hi (by omega : a.length ≤ _)]) N 0 () trivial (by omega) (by omega)
end Go.Ab
end
section
namespace Go.Ab
def sumC (l : List Exp) : Nat := (l.map Exp.cnt).sum
theorem xGI (x : Exp) (l : List Exp) : sumC (x :: l) = x.cnt + sumC l := by simp only [sumC, List.map_cons, List.sum_cons]
theorem xIL (c s : Nat) {l : Int} (h : 0 ≤ l) : left (c + s) l = if left c l < 0 then left c l else left s (left c l) := by
 by_cases c1 : (c : Int) ≤ l
 · rw [xGw c1, if_neg (by omega)]
   by_cases c2 : (s : Int) ≤ l - c
   · rw [xGw c2, xGw (by omega)]; omega
   · rw [xFx c2, xFx (by omega)]
 · rw [xFx c1, if_pos (by omega), xFx (by omega)]
theorem xJg {K : Nat} (hK : K ≤ 1048576) : ∀ e : Exp, e.Fit K → e.cnt ≤ 2000000 → Big2 fun N d => xBV N d e = some (e.cnt : Int) ∧ ∀ l : Int, 0 ≤ l → l ≤ 1000 → xCt N d e l = some (left e.cnt l) := by
 refine Exp.ind fun k n t a ih h hc => ?_
 obtain ⟨h1, h2, h3, h4⟩ := Exp.fit_iff.1 h
 rw [Exp.cnt_eq] at hc
 have hc : 1 + sumC a ≤ 2000000 := hc
 have hmem : ∀ x ∈ a, x.cnt ≤ sumC a := fun x hx => xHa (f := Exp.cnt) hx
 refine Big2.succ ?_
 refine ((Big2.list fun x hx => ih x hx (h4.2 x hx) (by have := hmem x hx; omega)).and (xFm (K + 30)).two).imp fun N d ⟨hx, hn⟩ => ?_
 have hl : a.length ≤ K := h4.1
 rw [Exp.cnt_eq]
 refine ⟨?_, fun l hl0 hl1 => ?_⟩
 · have := xCZ (L := fun m i s => xBO N (xBV N d) m s a a.length i) a (fun l s => s + (sumC l : Int)) (fun i s => 0 ≤ s ∧ s + (sumC (a.drop i) : Int) ≤ 2000000) (fun m s _ => by simp [xBO, sumC])
    (fun i x l s hd hi hxi hs => by
      have hi' : (i : Int) < (a.length : Int) := by omega
      have hm := List.mem_of_getElem? hxi
      rw [hd, xGI] at hs
      have hw : IntKind.i64.wrap (s + (x.cnt : Int)) = s + (x.cnt : Int) := xDX (by omega) (by omega)
      refine .inl ⟨s + (x.cnt : Int), ⟨by omega, by rw [(xGs hd).2.2]; omega⟩, by rw [xGI]; omega, fun m => ?_⟩
      simp only [xBO, decide_eq_true hi', jT, Int.toNat_natCast, xBG hxi, (hx x hm).1, jS, hw, xBh hi (by omega : a.length ≤ _)]
      rw [if_pos (by omega)]) N 0 1 ⟨by omega, by rw [List.drop_zero]; omega⟩ (by omega) (by omega)
   rw [List.drop_zero] at this
   show xBO N (xBV N d) N 1 a a.length 0 = some ((1 + sumC a : Nat) : Int)
   rw [show ((1 + sumC a : Nat) : Int) = 1 + (sumC a : Int) from by omega]
   exact this
 · have := xCZ (L := fun m i s => xBU N (xCt N d) m s i (.mk k n t a)) a (fun l s => if s < 0 then s else left (sumC l) s) (fun i s => -1 ≤ s ∧ s ≤ 1000) (fun m s hs => by
    simp only [xBU, ea, Int.lt_irrefl, decide_false, jF, sumC, List.map_nil, List.sum_nil]
    split
    · rfl
    · rw [xGw (by omega)]; simp)
    (fun i x l s hd hi hxi hs => by
      have hi' : (i : Int) < ((Exp.mk k n t a).args.length : Int) := by show (i : Int) < (a.length : Int); omega
      have hi2 : (0 : Int) ≤ (i : Int) ∧ (i : Int) < ((Exp.mk k n t a).args.length : Int) := ⟨by omega, hi'⟩
      have hm := List.mem_of_getElem? hxi
      have hxi2 : (Exp.mk k n t a).args[i]? = some x := hxi
      by_cases hneg : s < 0
      · refine .inr fun m => ?_
        have h2 : ¬ s ≥ 0 := by omega
        simp only [xBU, decide_eq_true hi', jT, decide_eq_false h2, jF, if_pos hneg]
      · have h2 : s ≥ 0 := by omega
        refine .inl ⟨left x.cnt s, ?_, ?_, fun m => ?_⟩
        · unfold left; split <;> omega
        · rw [if_neg hneg, xGI, xIL _ _ (by omega)]
        · simp only [xBU, decide_eq_true hi', jT, decide_eq_true h2, if_pos hi2, Int.toNat_natCast, xBG hxi2, (hx x hm).2 s (by omega) (by omega), jS, xBh hi (by omega : a.length ≤ _)]) N 0 (l - 1) ⟨by omega, by omega⟩ (by omega) (by omega)
   rw [List.drop_zero] at this
   show xBU N (xCt N d) N (IntKind.i64.wrap (l - 1)) 0 (.mk k n t a) = some (left (1 + sumC a) l)
   rw [xDX (by omega) (by omega)]
   refine Eq.trans this ?_
   unfold left
   by_cases c0 : l - 1 < 0
   · rw [if_pos c0, if_neg (by omega)]; congr 1; omega
   · rw [if_neg c0]
     by_cases c2 : (sumC a : Int) ≤ l - 1
     · rw [if_pos c2, if_pos (by omega)]; congr 1; omega
     · rw [if_neg c2, if_neg (by omega)]
theorem xHW {x : Exp} : ∀ {a : List Exp}, x ∈ a → x.nest ≤ Exp.nests a
 | y :: l, h => by
   rcases List.mem_cons.1 h with rfl | h
   · simp only [Exp.nests]; omega
   · have := xHW h; simp only [Exp.nests]; omega
theorem maxI (a b : Nat) : (if (a : Int) > (b : Int) then (a : Int) else (b : Int)) = ((max b a : Nat) : Int) := by
 split <;> omega
theorem nest_eq {K : Nat} (hK : K ≤ 1048576) : ∀ e : Exp, e.Fit K → e.nest ≤ 2000000 → Big2 fun N d => xCv N d e = some (e.nest : Int) ∧ xCB N d e = some (e.nest : Int) := by
 refine Exp.ind fun k n t a ih h hc => ?_
 obtain ⟨h1, h2, h3, h4⟩ := Exp.fit_iff.1 h
 rw [Exp.nest_eq] at hc
 have hc : Exp.nests a + 1 ≤ 2000000 := hc
 have hmem : ∀ x ∈ a, x.nest ≤ Exp.nests a := fun x hx => xHW hx
 refine Big2.succ ?_
 refine ((Big2.list fun x hx => ih x hx (h4.2 x hx) (by have := hmem x hx; omega)).and (xFm (K + 30)).two).imp fun N d ⟨hx, hn⟩ => ?_
 have hl : a.length ≤ K := h4.1
 rw [Exp.nest_eq]
 refine ⟨?_, ?_⟩
 · have := xCZ (L := fun m i (s : Nat) => xB7 N (xCv N d) m (s : Int) a a.length i) a (fun l s => ((max s (Exp.nests l) + 1 : Nat) : Int)) (fun i s => s ≤ 2000000) (fun m s hs => by
    have hw : IntKind.i64.wrap ((s : Int) + 1) = ((max s 0 + 1 : Nat) : Int) := by rw [xDX (by omega) (by omega)]; omega
    simp only [xB7, Int.lt_irrefl, decide_false, jF, hw, Exp.nests])
    (fun i x l s hd hi hxi hs => by
      have hi' : (i : Int) < (a.length : Int) := by omega
      have hm := List.mem_of_getElem? hxi
      have := hmem x hm
      refine .inl ⟨max s x.nest, by omega, by simp only [Exp.nests]; omega, fun m => ?_⟩
      simp only [xB7, decide_eq_true hi', jT, Int.toNat_natCast, xBG hxi, (hx x hm).1, jS, maxI, xBh hi (by omega : a.length ≤ _)]
      rw [if_pos (by omega)]) N 0 0 (by omega) (by omega) (by omega)
   rw [List.drop_zero] at this
   refine Eq.trans this ?_
   simp; rfl
 · have := xCZ (L := fun m i (s : Nat) => xCa N (xCB N d) m (s : Int) i (.mk k n t a)) a (fun l s => ((max s (Exp.nests l) + 1 : Nat) : Int)) (fun i s => s ≤ 2000000) (fun m s hs => by
    have hw : IntKind.i64.wrap ((s : Int) + 1) = ((max s 0 + 1 : Nat) : Int) := by rw [xDX (by omega) (by omega)]; omega
    simp only [xCa, ea, Int.lt_irrefl, decide_false, jF, hw, Exp.nests])
    (fun i x l s hd hi hxi hs => by
      have hi' : (i : Int) < ((Exp.mk k n t a).args.length : Int) := by show (i : Int) < (a.length : Int); omega
      have hi2 : (0 : Int) ≤ (i : Int) ∧ (i : Int) < ((Exp.mk k n t a).args.length : Int) := ⟨by omega, hi'⟩
      have hm := List.mem_of_getElem? hxi
      have hxi2 : (Exp.mk k n t a).args[i]? = some x := hxi
      have := hmem x hm
      have hmax : xE3 N (s : Int) (x.nest : Int) = some ((max s x.nest : Nat) : Int) := by
       unfold xE3
       by_cases c : (s : Int) > (x.nest : Int)
       · rw [decide_eq_true c]; show some (s : Int) = _; congr 1; omega
       · rw [decide_eq_false c]; show some (x.nest : Int) = _; congr 1; omega
      refine .inl ⟨max s x.nest, by omega, by simp only [Exp.nests]; omega, fun m => ?_⟩
      simp only [xCa, decide_eq_true hi', jT, if_pos hi2, Int.toNat_natCast, xBG hxi2, (hx x hm).2, jS, hmax, xBh hi (by omega : a.length ≤ _)]) N 0 0 (by omega) (by omega) (by omega)
   rw [List.drop_zero] at this
   refine Eq.trans this ?_
   simp; rfl
def xGm (e : Exp) : Bool := (decide (e.cnt ≤ 40) && decide (e.nest ≤ 8)) && okE e
theorem xHA {K : Nat} (hK : K ≤ 1048576) {e : Exp} (h : e.Fit K) (hs : e.size ≤ 1048576) : Big fun N => xC2 N e = some (xGm e) ∧ xC8 N e = some (xGm e) := by
 have h1 := Exp.cnt_le e
 have h2 := Exp.nest_le e
 refine (((xJg hK e h (by omega)).diag.and (nest_eq hK e h (by omega)).diag).and (xN7 hK e h).diag).imp fun N ⟨⟨⟨c1, c2⟩, n1, n2⟩, a1, a2⟩ => ?_
 have c3 : xEO N e = some (e.cnt : Int) := c1
 have c4 : xFv N e 40 = some (left e.cnt 40) := c2 40 (by omega) (by omega)
 have n3 : xEN N e = some (e.nest : Int) := n1
 have n4 : xEU N e = some (e.nest : Int) := n2
 have a3 : xE7 N e = some (okE e) := a1
 have a4 : xFV N e = some (okE e) := a2
 have d1 : decide ((e.cnt : Int) ≤ 40) = decide (e.cnt ≤ 40) := decide_eq_decide.2 (by omega)
 have d2 : decide (left e.cnt 40 ≥ 0) = decide (e.cnt ≤ 40) := decide_eq_decide.2 (by unfold left; split <;> omega)
 have d3 : decide ((e.nest : Int) ≤ 8) = decide (e.nest ≤ 8) := decide_eq_decide.2 (by omega)
 refine ⟨?_, ?_⟩
 · simp only [xC2, c3, n3, a3, jS, d1, d3, xGm]
   cases decide (e.cnt ≤ 40) <;> cases decide (e.nest ≤ 8) <;> rfl
 · simp only [xC8, c4, n4, a4, jS, d2, d3, xGm]
   cases decide (e.cnt ≤ 40) <;> cases decide (e.nest ≤ 8) <;> rfl
theorem kinds {k n : Int} {t : Str} {l : Nat} (h : xGx xGl xB3 argc k n t l = true) : k = 1 ∨ k = 2 ∨ k = 3 ∨ k = 4 ∨ k = 5 ∨ (k = 6 ∧ 1 ≤ n ∧ n ≤ 5 ∧ l = 2) ∨ (k = 7 ∧ l = 2) ∨ (k = 9 ∧ l = 2) ∨ (k = 8 ∧ l = 3) := by
 unfold xGx at h
 by_cases h1 : k = 1; · exact .inl h1
 by_cases h2 : k = 2; · exact .inr (.inl h2)
 by_cases h3 : k = 3; · exact .inr (.inr (.inl h3))
 by_cases h4 : k = 4; · exact .inr (.inr (.inr (.inl h4)))
 by_cases h5 : k = 5; · exact .inr (.inr (.inr (.inr (.inl h5))))
 rw [beq_eq_false_iff_ne.2 h1, beq_eq_false_iff_ne.2 h2, beq_eq_false_iff_ne.2 h3, beq_eq_false_iff_ne.2 h4, beq_eq_false_iff_ne.2 h5] at h
 simp only [jF] at h
 by_cases h6 : k = 6
 · subst h6
   simp only [beq_self_eq_true, jT, Bool.and_eq_true, decide_eq_true_eq, beq_iff_eq] at h
   exact .inr (.inr (.inr (.inr (.inr (.inl ⟨rfl, h.1.1, h.1.2, h.2.2⟩)))))
 by_cases h7 : k = 7
 · subst h7
   simp only [show ((7 : Int) == 6) = false from rfl, jF, beq_self_eq_true, jT, Bool.and_eq_true, beq_iff_eq] at h
   exact .inr (.inr (.inr (.inr (.inr (.inr (.inl ⟨rfl, h.2.2⟩))))))
 by_cases h9 : k = 9
 · subst h9
   simp only [show ((9 : Int) == 6) = false from rfl, show ((9 : Int) == 7) = false from rfl, jF, beq_self_eq_true, jT, Bool.and_eq_true, beq_iff_eq] at h
   exact .inr (.inr (.inr (.inr (.inr (.inr (.inr (.inl ⟨rfl, h.2.2⟩)))))))
 by_cases h8 : k = 8
 · subst h8
   simp only [show ((8 : Int) == 6) = false from rfl, show ((8 : Int) == 7) = false from rfl, show ((8 : Int) == 9) = false from rfl, jF, beq_self_eq_true, jT, Bool.and_eq_true, beq_iff_eq] at h
   exact .inr (.inr (.inr (.inr (.inr (.inr (.inr (.inr ⟨rfl, h.2.2⟩)))))))
 rw [beq_eq_false_iff_ne.2 h6, beq_eq_false_iff_ne.2 h7, beq_eq_false_iff_ne.2 h9, beq_eq_false_iff_ne.2 h8] at h
 cases h
end Go.Ab
end
section
namespace Go.Ab
theorem xG1 {s : Str} : ∀ (xs : List Str) (j : Nat), decide (idxS xs s j < 0) = !(xs.any (· == s))
 | [], j => rfl
 | x :: r, j => by
   by_cases h : (x == s) = true
   · rw [show idxS (x :: r) s j = (j : Int) from by simp only [idxS, h, jT]]
     simp only [List.any_cons, h, Bool.true_or, Bool.not_true]
     exact decide_eq_false (by omega)
   · have h := Bool.eq_false_iff.2 h
     rw [show idxS (x :: r) s j = idxS r s (j + 1) from by simp only [idxS, h, jF], xG1 r (j + 1)]
     simp only [List.any_cons, h, Bool.false_or]
def inn (bd : List Str) (b : Bool) (t : Str) (f : Bool) : List Str := bif b && !f then bd ++ [t] else bd
theorem xKv {bd : List Str} {b : Bool} {t : Str} {f : Bool} : (inn bd b t f).length ≤ bd.length + 1 := by
 unfold inn
 cases b && !f
 · simp
 · simp
def xBT (k : Int) : Bool := k == 7 || k == 9
mutual
def xDg : Exp → Str → Str → List Str → Bool
 | .mk k n t a, p, q, bd => bif (k == 3) && !(bd.any (· == t)) then (bif t == p then bd.any (· == q) else false) else xEi a p q bd (xBT k) t true
def xEi : List Exp → Str → Str → List Str → Bool → Str → Bool → Bool
 | [], _, _, _, _, _, _ => false
 | x :: r, p, q, bd, b, t, f => xDg x p q (inn bd b t f) || xEi r p q bd b t false
end
theorem xJa {k n : Int} {t : Str} {a : List Exp} {x : Exp} (h : x ∈ a) : x.size + 1 ≤ (Exp.mk k n t a).size ∧ a.length ≤ (Exp.mk k n t a).size := by
 have e : (Exp.mk k n t a).size = t.length + (a.length + (a.map Exp.size).sum) := Exp.size_eq _
 have := xHa (f := Exp.size) h
 have := List.length_pos_of_mem h
 omega
theorem xKl {k n : Int} {t : Str} {a : List Exp} : a.length ≤ (Exp.mk k n t a).size := by
 rw [Exp.size_eq]
 show a.length ≤ t.length + (a.length + (a.map Exp.size).sum)
 omega
theorem xOb {k : Int} (h : (k == 3) = true) : xBT k = false ∧ (k == 7) = false ∧ (k == 9) = false := by
 have : k = 3 := by simpa using h
 subst this; exact ⟨rfl, rfl, rfl⟩
section
variable {N d : Nat} {k n : Int} {t : Str} {a : List Exp} {bd : List Str}
theorem xI9 {i : Nat} (h : (decide ((i : Int) > 0)) = true) : (i == 0) = false := by
 have := of_decide_eq_true h
 simp; omega
theorem xHT {i : Nat} (h : (decide ((i : Int) > 0)) = false) : (i == 0) = true := by
 have := of_decide_eq_false h
 simp; omega
end
end Go.Ab
end
