/- The statement FnExactIsCaptured holds: plain functions, certificates, laws. Conditions: none. -/
import Derived.Shelf.Slices.In.SortNone2
import Derived.Shelf.Sort.Plain
import Derived.Test.YtkfoneofdidhkaaChecked
import Derived.Test.YtkfoneofdidhkaaProg
import Derived.Test.YtkfoneofdidhkaaRows
import Derived.Test.YtkfoneofdidhkaaL2
set_option linter.all false
section
namespace Go.Ab
abbrev Ex (f : Fl) (e : Exp) : List CV := [.int .i64 (Exp.kind e), .int .i64 (Exp.n e), .str (Exp.text e), .sl f .exp (Exp.args e)]
end Go.Ab
end
section
namespace Go.Ab
def xAz (a0 : Exp) (a1 : Int) : List Arg := [.val (.v true (Ex .ro a0)), .val (.v false [.int .i64 a1])]
def xAl (r : Int) : CallO := ⟨.v false [.int .i64 r], [], []⟩
def xBg (N : Nat) (q0 : Exp → Int → Option (Int)) (q1 : (List Exp) → Int → Option (Int)) (a0 : Exp) (a1 : Int) : Option (Int) := bif (decide (((IntKind.i64.wrap (a1 - (List.length (Exp.text a0) : Int))) : Int) < 0)) then (some (-1)) else ((q1 (Exp.args a0) (IntKind.i64.wrap (a1 - (List.length (Exp.text a0) : Int)))).bind fun r1 => bif (decide (r1 < 0)) then (some (-1)) else (some r1))
def xAK (a0 : List Exp) (a1 : Int) : List Arg := [.val (.v false [.sl .ro .exp a0]), .val (.v false [.int .i64 a1])]
def xAv (r : Int) : CallO := ⟨.v false [.int .i64 r], [], []⟩
def xA8 (N : Nat) (q0 : Exp → Int → Option (Int)) (q1 : (List Exp) → Int → Option (Int)) : Nat → (List Exp) → Int → Int → Option (Int)
 | 0, _, _, _ => none
 | n + 1, x0, x1, x5 => bif (decide (x5 < (List.length x0 : Int))) then (if (0 : Int) ≤ x5 ∧ x5 < (List.length x0) then (q0 (List.getD x0 (Int.toNat x5) Ty.exp.dflt) x1).bind fun r1 => bif (decide (r1 < 0)) then (some (-1)) else ((xA8 N q0 q1 n x0 r1 (IntKind.i64.wrap (x5 + 1)))) else none) else (some x1)
def xBc (N : Nat) (q0 : Exp → Int → Option (Int)) (q1 : (List Exp) → Int → Option (Int)) (a0 : List Exp) (a1 : Int) : Option (Int) := bif (decide (((IntKind.i64.wrap (a1 - (List.length a0 : Int))) : Int) < 0)) then (some (-1)) else ((xA8 N q0 q1 N a0 (IntKind.i64.wrap (a1 - (List.length a0 : Int))) 0))
structure laws_szExpr_rec where
 c_laws_szExpr : Exp → Int → Option (Int)
 c_laws_szExprS : (List Exp) → Int → Option (Int)
def xAw (N : Nat) : Nat → laws_szExpr_rec
 | 0 => ⟨fun _ _ => none, fun _ _ => none⟩
 | d + 1 => ⟨xBg N (xAw N d).c_laws_szExpr (xAw N d).c_laws_szExprS, xBc N (xAw N d).c_laws_szExpr (xAw N d).c_laws_szExprS⟩
def xBB (N : Nat) (a0 : Exp) (a1 : Int) : Option (Int) := (xAw N N).c_laws_szExpr a0 a1
def xAN (a0 : Exp) : List Arg := [.val (.v true (Ex .ro a0))]
def xAm (r : Exp) : CallO := ⟨.v true (Ex .own r), [], []⟩
def xAV (N : Nat) (q0 : Exp → Option (Exp)) (q1 : (List Exp) → Option ((List Exp))) (a0 : Exp) : Option (Exp) := (q1 (Exp.args a0)).bind fun r1 => some (Exp.mk (Exp.kind a0) (Exp.n a0) (Exp.text a0) r1)
def xA0 (a0 : List Exp) : List Arg := [.val (.v false [.sl .ro .exp a0])]
def xAL (r : (List Exp)) : CallO := ⟨.v false [.sl .own .exp r], [], []⟩
def xA9 (N : Nat) (q0 : Exp → Option (Exp)) (q1 : (List Exp) → Option ((List Exp))) : Nat → (List Exp) → (List Exp) → Int → Option ((List Exp))
 | 0, _, _, _ => none
 | n + 1, x0, x3, x4 => bif (decide (x4 < (List.length x0 : Int))) then (if (0 : Int) ≤ x4 ∧ x4 < (List.length x0) then (q0 (List.getD x0 (Int.toNat x4) Ty.exp.dflt)).bind fun r1 => if (0 : Int) ≤ x4 ∧ x4 < (List.length x3) then (xA9 N q0 q1 n x0 (List.set x3 (Int.toNat x4) (Exp.re r1)) (IntKind.i64.wrap (x4 + 1))) else none else none) else (some x3)
def xAR (N : Nat) (q0 : Exp → Option (Exp)) (q1 : (List Exp) → Option ((List Exp))) (a0 : List Exp) : Option ((List Exp)) := if (0 : Int) ≤ (List.length a0 : Int) ∧ (List.length a0 : Int) = (List.length a0 : Int) ∧ (List.length a0 : Int) ≤ Lim then (xA9 N q0 q1 N a0 (List.replicate (Int.toNat (List.length a0 : Int)) Ty.exp.dflt) 0) else none
structure laws_toExpr_rec where
 c_laws_toExpr : Exp → Option (Exp)
 c_laws_toExprS : (List Exp) → Option ((List Exp))
def xAk (N : Nat) : Nat → laws_toExpr_rec
 | 0 => ⟨fun _ => none, fun _ => none⟩
 | d + 1 => ⟨xAV N (xAk N d).c_laws_toExpr (xAk N d).c_laws_toExprS, xAR N (xAk N d).c_laws_toExpr (xAk N d).c_laws_toExprS⟩
def xBl (N : Nat) (a0 : Exp) : Option (Exp) := (xAk N N).c_laws_toExpr a0
def xAS (a0 : List Str) (a1 : Str) : List Arg := [.val (.v false [.sl .ro .str a0]), .val (.v false [.str a1])]
def xAx (r : Bool) : CallO := ⟨.v false [.bool r], [], []⟩
def xAT (N : Nat) : Nat → (List Str) → Str → Int → Option (Bool)
 | 0, _, _, _ => none
 | n + 1, x0, x1, x5 => bif (decide (x5 < (List.length x0 : Int))) then (if (0 : Int) ≤ x5 ∧ x5 < (List.length x0) then bif (((List.getD x0 (Int.toNat x5) Ty.str.dflt) : Str) == x1) then (some true) else ((xAT N n x0 x1 (IntKind.i64.wrap (x5 + 1)))) else none) else (some false)
def xBi (N : Nat) (a0 : List Str) (a1 : Str) : Option (Bool) := (xAT N N a0 a1 0)
def xAo (a0 : Exp) (a1 : Str) (a2 : Str) (a3 : List Str) : List Arg := [.val (.v true (Ex .ro a0)), .val (.v false [.str a1]), .val (.v false [.str a2]), .val (.v false [.sl .ro .str a3])]
def xAd (r : Bool) : CallO := ⟨.v false [.bool r], [], []⟩
def xAf (N : Nat) (q0 : Exp → Str → Str → (List Str) → Option (Bool)) : Nat → Str → Str → (List Str) → Int → Exp → Option (Bool)
 | 0, _, _, _, _, _ => none
 | n + 1, x1, x2, x3, x9, b4 => bif (decide (x9 < (List.length (Exp.args b4) : Int))) then (bif ((Exp.kind b4) == 7) then (bif (decide (x9 > 0)) then (if 0 + List.length x3 ≤ Lim then if List.length ([] ++ x3) + List.length [(Exp.text b4)] ≤ Lim then if (0 : Int) ≤ x9 ∧ x9 < (List.length (Exp.args b4)) then (q0 (List.getD (Exp.args b4) (Int.toNat x9) Ty.exp.dflt) x1 x2 (([] ++ x3) ++ [(Exp.text b4)])).bind fun r1 => bif r1 then (some true) else ((xAf N q0 n x1 x2 x3 (IntKind.i64.wrap (x9 + 1)) b4)) else none else none else none) else (if (0 : Int) ≤ x9 ∧ x9 < (List.length (Exp.args b4)) then (q0 (List.getD (Exp.args b4) (Int.toNat x9) Ty.exp.dflt) x1 x2 x3).bind fun r1 => bif r1 then (some true) else ((xAf N q0 n x1 x2 x3 (IntKind.i64.wrap (x9 + 1)) b4)) else none)) else (bif ((Exp.kind b4) == 9) then (bif (decide (x9 > 0)) then (if 0 + List.length x3 ≤ Lim then if List.length ([] ++ x3) + List.length [(Exp.text b4)] ≤ Lim then if (0 : Int) ≤ x9 ∧ x9 < (List.length (Exp.args b4)) then (q0 (List.getD (Exp.args b4) (Int.toNat x9) Ty.exp.dflt) x1 x2 (([] ++ x3) ++ [(Exp.text b4)])).bind fun r1 => bif r1 then (some true) else ((xAf N q0 n x1 x2 x3 (IntKind.i64.wrap (x9 + 1)) b4)) else none else none else none) else (if (0 : Int) ≤ x9 ∧ x9 < (List.length (Exp.args b4)) then (q0 (List.getD (Exp.args b4) (Int.toNat x9) Ty.exp.dflt) x1 x2 x3).bind fun r1 => bif r1 then (some true) else ((xAf N q0 n x1 x2 x3 (IntKind.i64.wrap (x9 + 1)) b4)) else none)) else (if (0 : Int) ≤ x9 ∧ x9 < (List.length (Exp.args b4)) then (q0 (List.getD (Exp.args b4) (Int.toNat x9) Ty.exp.dflt) x1 x2 x3).bind fun r1 => bif r1 then (some true) else ((xAf N q0 n x1 x2 x3 (IntKind.i64.wrap (x9 + 1)) b4)) else none))) else (some false)
def xAM (N : Nat) (q0 : Exp → Str → Str → (List Str) → Option (Bool)) (a0 : Exp) (a1 : Str) (a2 : Str) (a3 : List Str) : Option (Bool) := bif ((Exp.kind a0) == 3) then ((xBi N a3 (Exp.text a0)).bind fun r1 => bif (!r1) then (bif (((Exp.text a0) : Str) == a1) then ((xBi N a3 a2).bind fun r2 => some r2) else (some false)) else ((xAf N q0 N a1 a2 a3 0 a0))) else ((xAf N q0 N a1 a2 a3 0 a0))
def xAF (N : Nat) : Nat → Exp → Str → Str → (List Str) → Option (Bool)
 | 0, _, _, _, _ => none
 | d + 1, a0, a1, a2, a3 => xAM N (xAF N d) a0 a1 a2 a3
def xBo (N : Nat) (a0 : Exp) (a1 : Str) (a2 : Str) (a3 : List Str) : Option (Bool) := xAF N N a0 a1 a2 a3
def xAE (a0 : Exp) (a1 : Str) (a2 : Str) : List Arg := [.val (.v true (Ex .ro a0)), .val (.v false [.str a1]), .val (.v false [.str a2])]
def xAs (r : Bool) : CallO := ⟨.v false [.bool r], [], []⟩
def xA1 (N : Nat) (a0 : Exp) (a1 : Str) (a2 : Str) : Option (Bool) := (xBo N a0 a1 a2 []).bind fun r1 => some r1
def xAO (a0 : List Str) (a1 : Str) : List Arg := [.val (.v false [.sl .ro .str a0]), .val (.v false [.str a1])]
def xAt (r : Int) : CallO := ⟨.v false [.int .i64 r], [], []⟩
def xAI (N : Nat) : Nat → Str → (List Str) → Int → Int → Option (Int)
 | 0, _, _, _, _ => none
 | n + 1, x1, x7, x8, x9 => bif (decide (x9 < x8)) then (if (0 : Int) ≤ x9 ∧ x9 < (List.length x7) then bif (((List.getD x7 (Int.toNat x9) Ty.str.dflt) : Str) == x1) then (some x9) else ((xAI N n x1 x7 x8 (IntKind.i64.wrap (x9 + 1)))) else none) else (some (-1))
def xA4 (N : Nat) (a0 : List Str) (a1 : Str) : Option (Int) := (xAI N N a1 a0 (List.length a0 : Int) 0)
def xAA (a0 : Str) (a1 : List Str) (a2 : Bool) (a3 : Str) (a4 : Str) : List Arg := [.val (.v false [.str a0]), .val (.v false [.sl .ro .str a1]), .box [.bool a2], .box [.str a3], .box [.str a4]]
def xAy (r : Bool × Str × Str) : CallO := ⟨.tup [], [[.bool r.1], [.str r.2.1], [.str r.2.2]], []⟩
def xA2 (N : Nat) (a0 : Str) (a1 : List Str) (a2 : Bool) (a3 : Str) (a4 : Str) : Option (Bool × Str × Str) := bif a2 then (some (true, a3, a4)) else (bif ((a0 : Str) == a3) then ((xA4 N a1 a4).bind fun r1 => some ((decide (r1 ≥ 0)), a3, a4)) else (some (false, a3, a4)))
def xAb (a0 : Exp) (a1 : List Str) (a2 : Bool) (a3 : Str) (a4 : Str) : List Arg := [.box [.clo 33 [1000003, 1000004, 1000005], .val .nilFunc], .val (.v true (Ex .ro a0)), .val (.v false [.sl .ro .str a1]), .gbox [.bool a2], .gbox [.str a3], .gbox [.str a4]]
def xAa (r : Bool × Str × Str) : CallO := ⟨.tup [], [[.clo 33 [1000003, 1000004, 1000005], .val .nilFunc], [.bool r.1], [.str r.2.1], [.str r.2.2]], []⟩
def xAc (N : Nat) (q0 : Exp → (List Str) → Bool → Str → Str → Option (Bool × Str × Str)) : Nat → (List Str) → Bool → (List Exp) → Int → Int → Exp → Bool → Str → Str → Option (Bool × Str × Str)
 | 0, _, _, _, _, _, _, _, _, _ => none
 | n + 1, x2, x6, x57, x58, x59, b4, b1000003, b1000004, b1000005 => bif (decide (x59 < x58)) then (if (0 : Int) ≤ x59 ∧ x59 < (List.length x57) then bif x6 then (bif (decide (x59 > 0)) then (if 0 + List.length x2 ≤ Lim then if List.length ([] ++ x2) + List.length [(Exp.text b4)] ≤ Lim then (q0 (List.getD x57 (Int.toNat x59) Ty.exp.dflt) (([] ++ x2) ++ [(Exp.text b4)]) b1000003 b1000004 b1000005).bind fun r1 => (xAc N q0 n x2 x6 x57 x58 (IntKind.i64.wrap (x59 + 1)) b4 r1.1 r1.2.1 r1.2.2) else none else none) else ((q0 (List.getD x57 (Int.toNat x59) Ty.exp.dflt) x2 b1000003 b1000004 b1000005).bind fun r1 => (xAc N q0 n x2 x6 x57 x58 (IntKind.i64.wrap (x59 + 1)) b4 r1.1 r1.2.1 r1.2.2))) else ((q0 (List.getD x57 (Int.toNat x59) Ty.exp.dflt) x2 b1000003 b1000004 b1000005).bind fun r1 => (xAc N q0 n x2 x6 x57 x58 (IntKind.i64.wrap (x59 + 1)) b4 r1.1 r1.2.1 r1.2.2)) else none) else (some (b1000003, b1000004, b1000005))
def xAg (N : Nat) (q0 : Exp → (List Str) → Bool → Str → Str → Option (Bool × Str × Str)) (a0 : Exp) (a1 : List Str) (a2 : Bool) (a3 : Str) (a4 : Str) : Option (Bool × Str × Str) := bif ((Exp.kind a0) == 3) then ((xA4 N a1 (Exp.text a0)).bind fun r1 => bif (decide (r1 < 0)) then ((xA2 N (Exp.text a0) a1 a2 a3 a4).bind fun r2 => some (r2.1, r2.2.1, r2.2.2)) else ((xAc N q0 N a1 ((Exp.kind a0) == 9) (Exp.args a0) (List.length (Exp.args a0) : Int) 0 a0 a2 a3 a4))) else (bif ((Exp.kind a0) == 7) then ((xAc N q0 N a1 true (Exp.args a0) (List.length (Exp.args a0) : Int) 0 a0 a2 a3 a4)) else (bif ((Exp.kind a0) == 9) then ((xAc N q0 N a1 ((Exp.kind a0) == 9) (Exp.args a0) (List.length (Exp.args a0) : Int) 0 a0 a2 a3 a4)) else ((xAc N q0 N a1 ((Exp.kind a0) == 9) (Exp.args a0) (List.length (Exp.args a0) : Int) 0 a0 a2 a3 a4))))
def xAe (N : Nat) : Nat → Exp → (List Str) → Bool → Str → Str → Option (Bool × Str × Str)
 | 0, _, _, _, _, _ => none
 | d + 1, a0, a1, a2, a3, a4 => xAg N (xAe N d) a0 a1 a2 a3 a4
def xAB (N : Nat) (a0 : Exp) (a1 : List Str) (a2 : Bool) (a3 : Str) (a4 : Str) : Option (Bool × Str × Str) := xAe N N a0 a1 a2 a3 a4
def xAC (a0 : Exp) (a1 : Str) (a2 : Str) : List Arg := [.val (.v true (Ex .ro a0)), .val (.v false [.str a1]), .val (.v false [.str a2])]
def xAr (r : Bool) : CallO := ⟨.v false [.bool r], [], []⟩
def xAY (N : Nat) (a0 : Exp) (a1 : Str) (a2 : Str) : Option (Bool) := (xAB N a0 [] false a1 a2).bind fun r1 => some r1.1
def xAp (a0 : Exp) (a1 : Exp) : List Arg := [.val (.v true (Ex .ro a0)), .val (.v true (Ex .ro a1))]
def xAj (r : Bool) : CallO := ⟨.v false [.bool r], [], []⟩
def xAU (N : Nat) (q0 : Exp → Exp → Option (Bool)) (q1 : (List Exp) → (List Exp) → Option (Bool)) (a0 : Exp) (a1 : Exp) : Option (Bool) := bif ((Exp.kind a0) != (Exp.kind a1)) then (some false) else (bif ((Exp.n a0) != (Exp.n a1)) then (some false) else (bif (!(((Exp.text a0) : Str) == (Exp.text a1))) then (some false) else ((q1 (Exp.args a0) (Exp.args a1)).bind fun r1 => bif (!r1) then (some false) else (some true))))
def xAJ (a0 : List Exp) (a1 : List Exp) : List Arg := [.val (.v false [.sl .ro .exp a0]), .val (.v false [.sl .ro .exp a1])]
def xAu (r : Bool) : CallO := ⟨.v false [.bool r], [], []⟩
def xAP (N : Nat) (q0 : Exp → Exp → Option (Bool)) (q1 : (List Exp) → (List Exp) → Option (Bool)) : Nat → (List Exp) → (List Exp) → Int → Option (Bool)
 | 0, _, _, _ => none
 | n + 1, x0, x1, x5 => bif (decide (x5 < (List.length x0 : Int))) then (if (0 : Int) ≤ x5 ∧ x5 < (List.length x0) then if (0 : Int) ≤ x5 ∧ x5 < (List.length x1) then (q0 (List.getD x0 (Int.toNat x5) Ty.exp.dflt) (List.getD x1 (Int.toNat x5) Ty.exp.dflt)).bind fun r1 => bif (!r1) then (some false) else ((xAP N q0 q1 n x0 x1 (IntKind.i64.wrap (x5 + 1)))) else none else none) else (some true)
def xAQ (N : Nat) (q0 : Exp → Exp → Option (Bool)) (q1 : (List Exp) → (List Exp) → Option (Bool)) (a0 : List Exp) (a1 : List Exp) : Option (Bool) := bif ((List.length a0 : Int) != (List.length a1 : Int)) then (some false) else ((xAP N q0 q1 N a0 a1 0))
structure laws_eqExpr_rec where
 c_laws_eqExpr : Exp → Exp → Option (Bool)
 c_laws_eqExprS : (List Exp) → (List Exp) → Option (Bool)
def xAn (N : Nat) : Nat → laws_eqExpr_rec
 | 0 => ⟨fun _ _ => none, fun _ _ => none⟩
 | d + 1 => ⟨xAU N (xAn N d).c_laws_eqExpr (xAn N d).c_laws_eqExprS, xAQ N (xAn N d).c_laws_eqExpr (xAn N d).c_laws_eqExprS⟩
def xBz (N : Nat) (a0 : Exp) (a1 : Exp) : Option (Bool) := (xAn N N).c_laws_eqExpr a0 a1
def xAh (a0 : Exp) (a1 : Str) (a2 : Str) : List Arg := [.val (.v true (Ex .ro a0)), .val (.v false [.str a1]), .val (.v false [.str a2])]
def xAi (r : Bool) : CallO := ⟨.v false [.bool r], [], []⟩
def xAq (N : Nat) (a0 : Exp) (a1 : Str) (a2 : Str) : Option (Bool) := bif (decide ((List.length a1 : Int) > 1048576)) then (some true) else (bif (decide ((List.length a2 : Int) > 1048576)) then (some true) else ((xBB N a0 1048576).bind fun r1 => bif (decide (r1 < 0)) then (some true) else ((xBl N a0).bind fun r2 => (xA1 N r2 a1 a2).bind fun r3 => (xBl N a0).bind fun r4 => (xAY N r4 a1 a2).bind fun r5 => bif (!((r5 : Bool) == r3)) then (some false) else ((xBl N a0).bind fun r6 => (xBz N r4 r6).bind fun r7 => bif (!r7) then (some false) else (some true)))))
end Go.Ab
end
section
open Go.Proofs
namespace Go.Ab.T
variable [Inhabited Lb]
abbrev AbC (f : FuncId) (a : List Arg) (r : CallO) : Prop := AbsCalls Try.prog f a r
abbrev W (x : Int) : Int := IntKind.i64.wrap x
abbrev Ln {α : Type} (l : List α) : Nat := List.length l
abbrev tN (x : Int) : Nat := Int.toNat x
abbrev gD {α : Type} (l : List α) (i : Nat) (d : α) : α := List.getD l i d
abbrev iY (b : Bool) : Prop := b = true
abbrev iN (b : Bool) : Prop := b = false
abbrev dc (p : Prop) [Decidable p] : Bool := decide p
abbrev vd : Val := Ty.val.dflt
abbrev rd : Rowd := Ty.row.dflt
end Go.Ab.T
end
section
open Go.Proofs
namespace Go.Ab.T
set_option maxRecDepth 100000
variable [Inhabited Lb]
def tt : TT := [(3, { zero := some [.int .i64 0], ik := some .i64 }),
 (4, { zero := some [.bool false], isBool := true }),
 (5, { zero := some [.int .u8 0], ik := some .u8 }),
 (9, { zero := some [.str []], isStr := true }),
 (22, { zero := some [.sl .own .exp []], elem := some (24, .exp) }),
 (24, { sz := 4, agg := true, zero := some [.int .i64 0, .int .i64 0, .str [], .sl .own .exp []], offs := [0, 1, 2, 3], fsz := [1, 1, 1, 1] }),
 (27, { zero := some [.sl .own .exp []], elem := some (29, .exp) }),
 (29, { sz := 4, agg := true, zero := some [.int .i64 0, .int .i64 0, .str [], .sl .own .exp []], offs := [0, 1, 2, 3], fsz := [1, 1, 1, 1] }),
 (36, { zero := some [.sl .own .str []], elem := some (9, .str) }),
 (41, { zero := some [.sl .own .byte []], elem := some (5, .byte) }),
 (52, { zero := some [.val .nilFunc], isFn := true }),
 (53, { zero := some [.val .nilFunc], isFn := true }),
 (55, { sz := 2, agg := true, zero := some [.val .nilFunc, .val .nilFunc], offs := [0, 1], fsz := [1, 1] }),
 (78, { sz := 3, agg := true, zero := some [.sl .own .byte [], .int .i64 0, .int .i64 0], offs := [0, 1, 2], fsz := [1, 1, 1] }),
 (83, { zero := some [.sl .own .int []], elem := some (3, .int) })]
theorem ttok : TTok Try.prog tt := zJb (by kernel_rfl)
theorem mix : Try.prog.follows .mixedOrders = true := by kernel_rfl
def F : Bool := false
def cl (r : CallO) : CallO := ⟨r.res, r.outs, [.clo 0 []]⟩
def Y : Bool := true
noncomputable def rE (I : Info) (ag : List Arg) (bs : List Bool) (cs : List CallO) : Option Res := run tt (AbsCalls Try.prog) I 3000 false [.code I.body] ⟨zA8 0 ag, bs, cs, []⟩
noncomputable def rS (k : Nat) (I : Info) (σ : St) (bs : List Bool) (cs : List CallO) : Option Res := run tt (AbsCalls Try.prog) I 3000 true (stkAt k I.body) ⟨σ, bs, cs, []⟩
noncomputable def dn (r : CallO) (ob : List Prop) : Option Res := some (.done r ob)
noncomputable def st (k : Nat) (I : Info) (σ : St) (ob : List Prop) : Option Res := some (.stop (stkAt k I.body) σ ob)
def RE (fn : Func) (I : Info) (ag : List Arg) (r : CallO) : Prop := Reach Try.prog fn I [.code I.body] (zA8 0 ag) r
def RS (fn : Func) (I : Info) (k : Nat) (σ : St) (r : CallO) : Prop := Reach Try.prog fn I (stkAt k I.body) σ r
section
variable {ρ : Type} {f : FuncId} {fn : Func} {I : Info} {ag : List Arg} {bs : List Bool} {cs : List CallO} {k j : Nat} {σ σ' : St} {ob : List Prop} {ro : ρ → CallO} {x r : ρ} {q : CallO}
theorem dE (e : some x = some r) (hf : FnOk Try.prog f fn I) (h : rE I ag bs cs = dn (ro x) ob) (o : ∀ p ∈ ob, p) : RE fn I ag (ro r) := by
 cases e; exact Reach.done ttok mix hf h o
theorem dS (e : some x = some r) (hf : FnOk Try.prog f fn I) (h : rS k I σ bs cs = dn (ro x) ob) (o : ∀ p ∈ ob, p) : RS fn I k σ (ro r) := by
 cases e; exact Reach.done ttok mix hf h o
theorem tE (hf : FnOk Try.prog f fn I) (h : rE I ag bs cs = st k I σ ob) (o : ∀ p ∈ ob, p) (t : RS fn I k σ q) : RE fn I ag q := Reach.stop ttok mix hf h o t
theorem tS (hf : FnOk Try.prog f fn I) (h : rS j I σ' bs cs = st k I σ ob) (o : ∀ p ∈ ob, p) (t : RS fn I k σ q) : RS fn I j σ' q := Reach.stop ttok mix hf h o t
end
theorem oc {p : Prop} {l : List Prop} (h : p) (t : ∀ q ∈ l, q) : ∀ q ∈ p :: l, q := zJa h t
theorem on : ∀ q ∈ ([] : List Prop), q := zJd
theorem oc2 {p0 p1 : Prop} {l : List Prop} (h0 : p0) (h1 : p1) (t : ∀ q ∈ l, q) : ∀ q ∈ p0 :: p1 :: l, q := oc h0 (oc h1 t)
theorem oc3 {p0 p1 p2 : Prop} {l : List Prop} (h0 : p0) (h1 : p1) (h2 : p2) (t : ∀ q ∈ l, q) : ∀ q ∈ p0 :: p1 :: p2 :: l, q := oc h0 (oc2 h1 h2 t)
theorem oc4 {p0 p1 p2 p3 : Prop} {l : List Prop} (h0 : p0) (h1 : p1) (h2 : p2) (h3 : p3) (t : ∀ q ∈ l, q) : ∀ q ∈ p0 :: p1 :: p2 :: p3 :: l, q := oc h0 (oc3 h1 h2 h3 t)
theorem oc5 {p0 p1 p2 p3 p4 : Prop} {l : List Prop} (h0 : p0) (h1 : p1) (h2 : p2) (h3 : p3) (h4 : p4) (t : ∀ q ∈ l, q) : ∀ q ∈ p0 :: p1 :: p2 :: p3 :: p4 :: l, q := oc h0 (oc4 h1 h2 h3 h4 t)
theorem oc6 {p0 p1 p2 p3 p4 p5 : Prop} {l : List Prop} (h0 : p0) (h1 : p1) (h2 : p2) (h3 : p3) (h4 : p4) (h5 : p5) (t : ∀ q ∈ l, q) : ∀ q ∈ p0 :: p1 :: p2 :: p3 :: p4 :: p5 :: l, q := oc h0 (oc5 h1 h2 h3 h4 h5 t)
theorem oc7 {p0 p1 p2 p3 p4 p5 p6 : Prop} {l : List Prop} (h0 : p0) (h1 : p1) (h2 : p2) (h3 : p3) (h4 : p4) (h5 : p5) (h6 : p6) (t : ∀ q ∈ l, q) : ∀ q ∈ p0 :: p1 :: p2 :: p3 :: p4 :: p5 :: p6 :: l, q := oc h0 (oc6 h1 h2 h3 h4 h5 h6 t)
theorem oc8 {p0 p1 p2 p3 p4 p5 p6 p7 : Prop} {l : List Prop} (h0 : p0) (h1 : p1) (h2 : p2) (h3 : p3) (h4 : p4) (h5 : p5) (h6 : p6) (h7 : p7) (t : ∀ q ∈ l, q) : ∀ q ∈ p0 :: p1 :: p2 :: p3 :: p4 :: p5 :: p6 :: p7 :: l, q := oc h0 (oc7 h1 h2 h3 h4 h5 h6 h7 t)
theorem oc9 {p0 p1 p2 p3 p4 p5 p6 p7 p8 : Prop} {l : List Prop} (h0 : p0) (h1 : p1) (h2 : p2) (h3 : p3) (h4 : p4) (h5 : p5) (h6 : p6) (h7 : p7) (h8 : p8) (t : ∀ q ∈ l, q) : ∀ q ∈ p0 :: p1 :: p2 :: p3 :: p4 :: p5 :: p6 :: p7 :: p8 :: l, q := oc h0 (oc8 h1 h2 h3 h4 h5 h6 h7 h8 t)
theorem oc10 {p0 p1 p2 p3 p4 p5 p6 p7 p8 p9 : Prop} {l : List Prop} (h0 : p0) (h1 : p1) (h2 : p2) (h3 : p3) (h4 : p4) (h5 : p5) (h6 : p6) (h7 : p7) (h8 : p8) (h9 : p9) (t : ∀ q ∈ l, q) : ∀ q ∈ p0 :: p1 :: p2 :: p3 :: p4 :: p5 :: p6 :: p7 :: p8 :: p9 :: l, q := oc h0 (oc9 h1 h2 h3 h4 h5 h6 h7 h8 h9 t)
theorem oc11 {p0 p1 p2 p3 p4 p5 p6 p7 p8 p9 p10 : Prop} {l : List Prop} (h0 : p0) (h1 : p1) (h2 : p2) (h3 : p3) (h4 : p4) (h5 : p5) (h6 : p6) (h7 : p7) (h8 : p8) (h9 : p9) (h10 : p10) (t : ∀ q ∈ l, q) : ∀ q ∈ p0 :: p1 :: p2 :: p3 :: p4 :: p5 :: p6 :: p7 :: p8 :: p9 :: p10 :: l, q := oc h0 (oc10 h1 h2 h3 h4 h5 h6 h7 h8 h9 h10 t)
theorem oc12 {p0 p1 p2 p3 p4 p5 p6 p7 p8 p9 p10 p11 : Prop} {l : List Prop} (h0 : p0) (h1 : p1) (h2 : p2) (h3 : p3) (h4 : p4) (h5 : p5) (h6 : p6) (h7 : p7) (h8 : p8) (h9 : p9) (h10 : p10) (h11 : p11) (t : ∀ q ∈ l, q) : ∀ q ∈ p0 :: p1 :: p2 :: p3 :: p4 :: p5 :: p6 :: p7 :: p8 :: p9 :: p10 :: p11 :: l, q := oc h0 (oc11 h1 h2 h3 h4 h5 h6 h7 h8 h9 h10 h11 t)
theorem cE {α : Type} {C : Prop} {b : Bool} {x y : Option α} {r : α} (h : cond b x y = some r) (f : b = true → x = some r → C) (g : b = false → y = some r → C) : C := (zI9 h).elim (fun h => f h.1 h.2) fun h => g h.1 h.2
theorem bE {α β : Type} {C : Prop} {o : Option α} {f : α → Option β} {r : β} (h : Option.bind o f = some r) (g : ∀ a, o = some a → f a = some r → C) : C := (zI7 h).elim fun a h => g a h.1 h.2
theorem iE {α : Type} {C p : Prop} [Decidable p] {x : Option α} {r : α} (h : (if p then x else none) = some r) (g : p → x = some r → C) : C := (zJc h).elim g
theorem nE {α : Type} {C : Prop} {r : α} (h : none = some r) : C := nomatch h
def G8 (q : Exp → Int → Option (Int)) : Prop := ∀ a0 a1 r, q a0 a1 = some r → AbC 8 (xAz a0 a1) (xAl r)
def G30 (q : (List Exp) → Int → Option (Int)) : Prop := ∀ a0 a1 r, q a0 a1 = some r → AbC 30 (xAK a0 a1) (xAv r)
noncomputable def I8 : Info := { body := (Try.f8.body).getD .skip, nt := 19, results := [.tmp 4], keep := [0, 2, 4, 8, 22, 34, 5], live := [], modes := [] }
theorem fk8 : FnOk Try.prog 8 Try.f8 I8 := ⟨Try.func8, by kernel_rfl, by kernel_rfl, by kernel_rfl, by kernel_rfl⟩
abbrev xCD (v0 : Int) (v1 : Exp) := dc (((W (v0 - (Ln (Exp.text v1) : Int))) : Int) < 0)
def xDP (a0 : Exp) (a1 : Int) : rE I8 (xAz a0 a1) [Y] [] = dn (xAl (-1)) [iY (xCD a1 a0)] := by kernel_rfl
abbrev xCW (v0 : Int) (v1 : Exp) := W (v0 - (Ln (Exp.text v1) : Int))
def xDQ (a0 : Exp) (a1 r1 : Int) : rE I8 (xAz a0 a1) [F, Y] [xAv r1] = dn (xAl (-1)) [iN (xCD a1 a0), AbC 30 (xAK (Exp.args a0) (xCW a1 a0)) (xAv r1), iY (dc (r1 < 0))] := by kernel_rfl
def xDR (a0 : Exp) (a1 r1 : Int) : rE I8 (xAz a0 a1) [F, F] [xAv r1] = dn (xAl r1) [iN (xCD a1 a0), AbC 30 (xAK (Exp.args a0) (xCW a1 a0)) (xAv r1), iN (dc (r1 < 0))] := by kernel_rfl
theorem c8_e {N q0 q1} (g0 : G8 q0) (g1 : G30 q1) : ∀ a0 a1 r, xBg N q0 q1 a0 a1 = some r → RE Try.f8 I8 (xAz a0 a1) (xAl r) := fun a0 a1 r h =>
 cE h (fun h0 h => dE h fk8 (xDP a0 a1) (oc h0 on)) fun h0 h =>
 bE h fun r1 h1 h => cE h (fun h2 h => dE h fk8 (xDQ a0 a1 r1) (oc3 h0 (g1 _ _ _ h1) h2 on)) fun h2 h =>
 dE h fk8 (xDR a0 a1 r1) (oc3 h0 (g1 _ _ _ h1) h2 on)
theorem xBC {N q0 q1} (g0 : G8 q0) (g1 : G30 q1) {a0} {a1} {r} (h : xBg N q0 q1 a0 a1 = some r) : AbC 8 (xAz a0 a1) (xAl r) :=
 AbsCalls.of_reach fk8 rfl rfl rfl (Nat.le_of_ble_eq_true rfl) (c8_e g0 g1 a0 a1 r h)
noncomputable def I30 : Info := { body := (Try.f30.body).getD .skip, nt := 27, results := [.tmp 4], keep := [0, 2, 8, 10, 22, 30, 50], live := [(5, [0, 2, 10])], modes := [] }
theorem fk30 : FnOk Try.prog 30 Try.f30 I30 := ⟨Try.func30, by kernel_rfl, by kernel_rfl, by kernel_rfl, by kernel_rfl⟩
def xCn (x0 : List Exp) (x1 x5 : Int) : St := [(0, .v false [.sl .ro .exp x0]), (2, .v false [.int .i64 x1]), (10, .v false [.int .i64 x5])]
abbrev xCC (v0 : Int) (v1 : List Exp) : Prop := iY (dc (v0 < (Ln v1 : Int)))
abbrev xBO (v0 : Int) (v1 : List Exp) : Prop := (0 : Int) ≤ v0 ∧ v0 < (Ln v1)
abbrev xBx (v0 : List Exp) (v1 : Int) := gD v0 (tN v1) Ty.exp.dflt
def xDa (x0 : List Exp) (x1 x5 r1 : Int) : rS 5 I30 (xCn x0 x1 x5) [Y, Y] [xAl r1] = dn (xAv (-1)) [xCC x5 x0, xBO x5 x0, AbC 8 (xAz (xBx x0 x5) x1) (xAl r1), iY (dc (r1 < 0))] := by kernel_rfl
def xDb (x0 : List Exp) (x1 x5 r1 : Int) : rS 5 I30 (xCn x0 x1 x5) [Y, F] [xAl r1] = st 5 I30 (xCn x0 r1 (W (x5 + 1))) [xCC x5 x0, xBO x5 x0, AbC 8 (xAz (xBx x0 x5) x1) (xAl r1), iN (dc (r1 < 0))] := by kernel_rfl
def xDc (x0 : List Exp) (x1 x5 : Int) : rS 5 I30 (xCn x0 x1 x5) [F] [] = dn (xAv x1) [iN (dc (x5 < (Ln x0 : Int)))] := by kernel_rfl
def xDd (a0 : List Exp) (a1 : Int) : rE I30 (xAK a0 a1) [Y] [] = dn (xAv (-1)) [iY (dc (((W (a1 - (Ln a0 : Int))) : Int) < 0))] := by kernel_rfl
def xDe (a0 : List Exp) (a1 : Int) : rE I30 (xAK a0 a1) [F] [] = st 5 I30 (xCn a0 (W (a1 - (Ln a0 : Int))) 0) [iN (dc (((W (a1 - (Ln a0 : Int))) : Int) < 0))] := by kernel_rfl
theorem xDZ {N q0 q1} (g0 : G8 q0) (g1 : G30 q1) : ∀ n x0 x1 x5 r, xA8 N q0 q1 n x0 x1 x5 = some r → RS Try.f30 I30 5 (xCn x0 x1 x5) (xAv r) := by
 intro n
 induction n with
 | zero => exact fun _ _ _ _ h => nE h
 | succ n ih =>
  exact fun x0 x1 x5 r h =>
   cE h (fun h0 h => iE h fun h1 h => bE h fun r1 h2 h => cE h (fun h3 h => dS h fk30 (xDa x0 x1 x5 r1) (oc4 h0 h1 (g0 _ _ _ h2) h3 on)) fun h3 h =>
   tS fk30 (xDb x0 x1 x5 r1) (oc4 h0 h1 (g0 _ _ _ h2) h3 on) (ih _ _ _ _ h)) fun h0 h =>
   dS h fk30 (xDc x0 x1 x5) (oc h0 on)
theorem xD0 {N q0 q1} (g0 : G8 q0) (g1 : G30 q1) : ∀ a0 a1 r, xBc N q0 q1 a0 a1 = some r → RE Try.f30 I30 (xAK a0 a1) (xAv r) := fun a0 a1 r h =>
 cE h (fun h0 h => dE h fk30 (xDd a0 a1) (oc h0 on)) fun h0 h =>
 tE fk30 (xDe a0 a1) (oc h0 on) (xDZ g0 g1 _ _ _ _ _ h)
theorem xBu {N q0 q1} (g0 : G8 q0) (g1 : G30 q1) {a0} {a1} {r} (h : xBc N q0 q1 a0 a1 = some r) : AbC 30 (xAK a0 a1) (xAv r) :=
 AbsCalls.of_reach fk30 rfl rfl rfl (Nat.le_of_ble_eq_true rfl) (xD0 g0 g1 a0 a1 r h)
theorem xBH {N : Nat} : ∀ d, G8 (xAw N d).c_laws_szExpr ∧ G30 (xAw N d).c_laws_szExprS := by
 intro d
 induction d with
 | zero => exact ⟨fun _ _ _ h => nE h, fun _ _ _ h => nE h⟩
 | succ d ih =>
  obtain ⟨ih0, ih1⟩ := ih
  exact ⟨fun _ _ _ h => xBC (N := N) ih0 ih1 h, fun _ _ _ h => xBu (N := N) ih0 ih1 h⟩
theorem xBd {N : Nat} {a0 : Exp} {a1 : Int} {r : Int} (h : xBB N a0 a1 = some r) : AbC 8 (xAz a0 a1) (xAl r) := (xBH N).1 _ _ r h
def G10 (q : Exp → Option (Exp)) : Prop := ∀ a0 r, q a0 = some r → AbC 10 (xAN a0) (xAm r)
def G32 (q : (List Exp) → Option ((List Exp))) : Prop := ∀ a0 r, q a0 = some r → AbC 32 (xA0 a0) (xAL r)
noncomputable def I10 : Info := { body := (Try.f10.body).getD .skip, nt := 18, results := [.cell 2 29], keep := [0, 2, 4, 6, 3, 5, 7], live := [], modes := [(6, [(0, .take, false)])] }
theorem fk10 : FnOk Try.prog 10 Try.f10 I10 := ⟨Try.func10, by kernel_rfl, by kernel_rfl, by kernel_rfl, by kernel_rfl⟩
def xC3 (a0 : Exp) (r1 : (List Exp)) : rE I10 (xAN a0) [] [xAL r1] = dn (xAm (Exp.mk (Exp.kind a0) (Exp.n a0) (Exp.text a0) r1)) [AbC 32 (xA0 (Exp.args a0)) (xAL r1)] := by kernel_rfl
theorem xDW {N q0 q1} (g0 : G10 q0) (g1 : G32 q1) : ∀ a0 r, xAV N q0 q1 a0 = some r → RE Try.f10 I10 (xAN a0) (xAm r) := fun a0 r h =>
 bE h fun r1 h0 h => dE h fk10 (xC3 a0 r1) (oc (g1 _ _ h0) on)
theorem xBD {N q0 q1} (g0 : G10 q0) (g1 : G32 q1) {a0} {r} (h : xAV N q0 q1 a0 = some r) : AbC 10 (xAN a0) (xAm r) :=
 AbsCalls.of_reach fk10 rfl rfl rfl (Nat.le_of_ble_eq_true rfl) (xDW g0 g1 a0 r h)
noncomputable def I32 : Info := { body := (Try.f32.body).getD .skip, nt := 23, results := [.tmp 2], keep := [0, 4, 6, 8, 22], live := [(3, [0, 6, 8])], modes := [(5, [(0, .ref, false)]), (6, [(0, .take, false)])] }
theorem fk32 : FnOk Try.prog 32 Try.f32 I32 := ⟨Try.func32, by kernel_rfl, by kernel_rfl, by kernel_rfl, by kernel_rfl⟩
def xCy (x0 x3 : List Exp) (x4 : Int) : St := [(0, .v false [.sl .ro .exp x0]), (6, .v false [.sl .own .exp x3]), (8, .v false [.int .i64 x4])]
def xDp (x0 x3 : List Exp) (x4 : Int) (r1 : Exp) : rS 3 I32 (xCy x0 x3 x4) [Y] [xAm r1] = st 3 I32 (xCy x0 (List.set x3 (tN x4) (Exp.re r1)) (W (x4 + 1))) [xCC x4 x0, xBO x4 x0, AbC 10 (xAN (xBx x0 x4)) (xAm r1), xBO x4 x3] := by kernel_rfl
def xDq (x0 x3 : List Exp) (x4 : Int) : rS 3 I32 (xCy x0 x3 x4) [F] [] = dn (xAL x3) [iN (dc (x4 < (Ln x0 : Int)))] := by kernel_rfl
def xDr (a0 : List Exp) : rE I32 (xA0 a0) [] [] = st 3 I32 (xCy a0 (List.replicate (tN (Ln a0 : Int)) Ty.exp.dflt) 0) [(0 : Int) ≤ (Ln a0 : Int) ∧ (Ln a0 : Int) = (Ln a0 : Int) ∧ (Ln a0 : Int) ≤ Lim] := by kernel_rfl
theorem xD2 {N q0 q1} (g0 : G10 q0) (g1 : G32 q1) : ∀ n x0 x3 x4 r, xA9 N q0 q1 n x0 x3 x4 = some r → RS Try.f32 I32 3 (xCy x0 x3 x4) (xAL r) := by
 intro n
 induction n with
 | zero => exact fun _ _ _ _ h => nE h
 | succ n ih =>
  exact fun x0 x3 x4 r h =>
   cE h (fun h0 h => iE h fun h1 h => bE h fun r1 h2 h => iE h fun h3 h => tS fk32 (xDp x0 x3 x4 r1) (oc4 h0 h1 (g0 _ _ h2) h3 on) (ih _ _ _ _ h)) fun h0 h =>
   dS h fk32 (xDq x0 x3 x4) (oc h0 on)
theorem xD3 {N q0 q1} (g0 : G10 q0) (g1 : G32 q1) : ∀ a0 r, xAR N q0 q1 a0 = some r → RE Try.f32 I32 (xA0 a0) (xAL r) := fun a0 r h =>
 iE h fun h0 h => tE fk32 (xDr a0) (oc h0 on) (xD2 g0 g1 _ _ _ _ _ h)
theorem xBv {N q0 q1} (g0 : G10 q0) (g1 : G32 q1) {a0} {r} (h : xAR N q0 q1 a0 = some r) : AbC 32 (xA0 a0) (xAL r) :=
 AbsCalls.of_reach fk32 rfl rfl rfl (Nat.le_of_ble_eq_true rfl) (xD3 g0 g1 a0 r h)
theorem xBI {N : Nat} : ∀ d, G10 (xAk N d).c_laws_toExpr ∧ G32 (xAk N d).c_laws_toExprS := by
 intro d
 induction d with
 | zero => exact ⟨fun _ _ h => nE h, fun _ _ h => nE h⟩
 | succ d ih =>
  obtain ⟨ih0, ih1⟩ := ih
  exact ⟨fun _ _ h => xBD (N := N) ih0 ih1 h, fun _ _ h => xBv (N := N) ih0 ih1 h⟩
theorem xAH {N : Nat} {a0 : Exp} {r : Exp} (h : xBl N a0 = some r) : AbC 10 (xAN a0) (xAm r) := (xBI N).1 _ r h
noncomputable def I54 : Info := { body := (Try.f54.body).getD .skip, nt := 18, results := [.tmp 4], keep := [0, 2, 8, 10, 18, 34], live := [(2, [0, 2, 10])], modes := [] }
theorem fk54 : FnOk Try.prog 54 Try.f54 I54 := ⟨Try.func54, by kernel_rfl, by kernel_rfl, by kernel_rfl, by kernel_rfl⟩
def xCq (x0 : List Str) (x1 : Str) (x5 : Int) : St := [(0, .v false [.sl .ro .str x0]), (2, .v false [.str x1]), (10, .v false [.int .i64 x5])]
abbrev xCk (v0 : List Str) (v1 : Int) (v2 : Str) := ((gD v0 (tN v1) Ty.str.dflt) : Str) == v2
def xDB (x0 : List Str) (x1 : Str) (x5 : Int) : rS 2 I54 (xCq x0 x1 x5) [Y, Y] [] = dn (xAx true) [iY (dc (x5 < (Ln x0 : Int))), (0 : Int) ≤ x5 ∧ x5 < (Ln x0), iY (xCk x0 x5 x1)] := by kernel_rfl
def xDC (x0 : List Str) (x1 : Str) (x5 : Int) : rS 2 I54 (xCq x0 x1 x5) [Y, F] [] = st 2 I54 (xCq x0 x1 (W (x5 + 1))) [iY (dc (x5 < (Ln x0 : Int))), (0 : Int) ≤ x5 ∧ x5 < (Ln x0), iN (xCk x0 x5 x1)] := by kernel_rfl
def xDD (x0 : List Str) (x1 : Str) (x5 : Int) : rS 2 I54 (xCq x0 x1 x5) [F] [] = dn (xAx false) [iN (dc (x5 < (Ln x0 : Int)))] := by kernel_rfl
def xDE (a0 : List Str) (a1 : Str) : rE I54 (xAS a0 a1) [] [] = st 2 I54 (xCq a0 a1 0) [] := by kernel_rfl
theorem xD8 {N : Nat} : ∀ n x0 x1 x5 r, xAT N n x0 x1 x5 = some r → RS Try.f54 I54 2 (xCq x0 x1 x5) (xAx r) := by
 intro n
 induction n with
 | zero => exact fun _ _ _ _ h => nE h
 | succ n ih =>
  exact fun x0 x1 x5 r h =>
   cE h (fun h0 h => iE h fun h1 h => cE h (fun h2 h => dS h fk54 (xDB x0 x1 x5) (oc3 h0 h1 h2 on)) fun h2 h =>
   tS fk54 (xDC x0 x1 x5) (oc3 h0 h1 h2 on) (ih _ _ _ _ h)) fun h0 h =>
   dS h fk54 (xDD x0 x1 x5) (oc h0 on)
theorem xD9 {N : Nat} : ∀ a0 a1 r, xBi N a0 a1 = some r → RE Try.f54 I54 (xAS a0 a1) (xAx r) := fun a0 a1 r h =>
 tE fk54 (xDE a0 a1) on (xD8 _ _ _ _ _ h)
theorem xBh {N : Nat} {a0 : List Str} {a1 : Str} {r : Bool} (h : xBi N  a0 a1 = some r) : AbC 54 (xAS a0 a1) (xAx r) :=
 AbsCalls.of_reach fk54 rfl rfl rfl (Nat.le_of_ble_eq_true rfl) (xD9 a0 a1 r h)
def G31 (q : Exp → Str → Str → (List Str) → Option (Bool)) : Prop := ∀ a0 a1 a2 a3 r, q a0 a1 a2 a3 = some r → AbC 31 (xAo a0 a1 a2 a3) (xAd r)
noncomputable def I31 : Info := { body := (Try.f31.body).getD .skip, nt := 66, results := [.tmp 8], keep := [0, 2, 4, 6, 8, 16, 18, 20, 40, 68, 98, 130, 9], live := [(4, [2, 4, 6, 8, 18, 9])], modes := [(1, [(3, .take, false)]), (2, [(4, .take, false)]), (7, [(3, .take, false), (8, .take, false)]), (9, [(7, .take, false)])] }
theorem fk31 : FnOk Try.prog 31 Try.f31 I31 := ⟨Try.func31, by kernel_rfl, by kernel_rfl, by kernel_rfl, by kernel_rfl⟩
def xBp (x1 x2 : Str) (x3 : List Str) (x9 : Int) (b4 : Exp) : St := [(2, .v false [.str x1]), (4, .v false [.str x2]), (6, .v false [.sl .ro .str x3]), (8, .v false [.ptr 4 0]), (18, .v false [.int .i64 x9]), (9, .v true [.int .i64 (Exp.kind b4), .int .i64 (Exp.n b4), .str (Exp.text b4), .sl .ro .exp (Exp.args b4)])]
abbrev xCE (v0 : Exp) := (Ln (Exp.args v0) : Int)
abbrev xBQ (v0 : Int) (v1 : Exp) : Prop := iY (dc (v0 < (xCE v1)))
abbrev xCG (v0 : Exp) : Prop := iY ((Exp.kind v0) == 7)
abbrev xCH (v0 : List Str) (v1 : Exp) : Prop := Ln ([] ++ v0) + Ln [(Exp.text v1)] ≤ Lim
abbrev xBR (v0 : Int) (v1 : Exp) : Prop := (0 : Int) ≤ v0 ∧ v0 < (Ln (Exp.args v1))
abbrev xCP (v0 : Exp) (v1 : Int) (v2 v3 : Str) (v4 : List Str) (v5 : Bool) : Prop := AbC 31 (xAo (gD (Exp.args v0) (tN v1) Ty.exp.dflt) v2 v3 (([] ++ v4) ++ [(Exp.text v0)])) (xAd v5)
def xDf (x1 x2 : Str) (x3 : List Str) (x9 : Int) (b4 : Exp) (r1 : Bool) : rS 4 I31 (xBp x1 x2 x3 x9 b4) [Y, Y, Y, Y, Y] [xAd r1] = dn (xAd true) [xBQ x9 b4, xCG b4, iY true, iY (dc (x9 > 0)), 0 + Ln x3 ≤ Lim, xCH x3 b4, xBR x9 b4, xCP b4 x9 x1 x2 x3 r1, iY r1] := by kernel_rfl
def xDg (x1 x2 : Str) (x3 : List Str) (x9 : Int) (b4 : Exp) (r1 : Bool) : rS 4 I31 (xBp x1 x2 x3 x9 b4) [Y, Y, Y, Y, F] [xAd r1] = st 4 I31 (xBp x1 x2 x3 (W (x9 + 1)) b4) [xBQ x9 b4, xCG b4, iY true, iY (dc (x9 > 0)), 0 + Ln x3 ≤ Lim, xCH x3 b4, xBR x9 b4, xCP b4 x9 x1 x2 x3 r1, iN r1] := by kernel_rfl
abbrev xCv (v0 : Exp) (v1 : Int) (v2 v3 : Str) (v4 : List Str) (v5 : Bool) : Prop := AbC 31 (xAo (gD (Exp.args v0) (tN v1) Ty.exp.dflt) v2 v3 v4) (xAd v5)
def xDh (x1 x2 : Str) (x3 : List Str) (x9 : Int) (b4 : Exp) (r1 : Bool) : rS 4 I31 (xBp x1 x2 x3 x9 b4) [Y, Y, Y, F, Y] [xAd r1] = dn (xAd true) [xBQ x9 b4, xCG b4, iY true, iN (dc (x9 > 0)), xBR x9 b4, xCv b4 x9 x1 x2 x3 r1, iY r1] := by kernel_rfl
def xDi (x1 x2 : Str) (x3 : List Str) (x9 : Int) (b4 : Exp) (r1 : Bool) : rS 4 I31 (xBp x1 x2 x3 x9 b4) [Y, Y, Y, F, F] [xAd r1] = st 4 I31 (xBp x1 x2 x3 (W (x9 + 1)) b4) [xBQ x9 b4, xCG b4, iY true, iN (dc (x9 > 0)), xBR x9 b4, xCv b4 x9 x1 x2 x3 r1, iN r1] := by kernel_rfl
abbrev xBT (v0 : Exp) : Prop := iN ((Exp.kind v0) == 7)
abbrev xCI (v0 : Exp) : Prop := iY ((Exp.kind v0) == 9)
def xDj (x1 x2 : Str) (x3 : List Str) (x9 : Int) (b4 : Exp) (r1 : Bool) : rS 4 I31 (xBp x1 x2 x3 x9 b4) [Y, F, Y, Y, Y] [xAd r1] = dn (xAd true) [xBQ x9 b4, xBT b4, xCI b4, iY (dc (x9 > 0)), 0 + Ln x3 ≤ Lim, xCH x3 b4, xBR x9 b4, xCP b4 x9 x1 x2 x3 r1, iY r1] := by kernel_rfl
def xDk (x1 x2 : Str) (x3 : List Str) (x9 : Int) (b4 : Exp) (r1 : Bool) : rS 4 I31 (xBp x1 x2 x3 x9 b4) [Y, F, Y, Y, F] [xAd r1] = st 4 I31 (xBp x1 x2 x3 (W (x9 + 1)) b4) [xBQ x9 b4, xBT b4, xCI b4, iY (dc (x9 > 0)), 0 + Ln x3 ≤ Lim, xCH x3 b4, xBR x9 b4, xCP b4 x9 x1 x2 x3 r1, iN r1] := by kernel_rfl
def xDl (x1 x2 : Str) (x3 : List Str) (x9 : Int) (b4 : Exp) (r1 : Bool) : rS 4 I31 (xBp x1 x2 x3 x9 b4) [Y, F, Y, F, Y] [xAd r1] = dn (xAd true) [xBQ x9 b4, xBT b4, xCI b4, iN (dc (x9 > 0)), xBR x9 b4, xCv b4 x9 x1 x2 x3 r1, iY r1] := by kernel_rfl
def xDm (x1 x2 : Str) (x3 : List Str) (x9 : Int) (b4 : Exp) (r1 : Bool) : rS 4 I31 (xBp x1 x2 x3 x9 b4) [Y, F, Y, F, F] [xAd r1] = st 4 I31 (xBp x1 x2 x3 (W (x9 + 1)) b4) [xBQ x9 b4, xBT b4, xCI b4, iN (dc (x9 > 0)), xBR x9 b4, xCv b4 x9 x1 x2 x3 r1, iN r1] := by kernel_rfl
abbrev xCg (v0 : Exp) : Prop := iN ((Exp.kind v0) == 9)
def xDn (x1 x2 : Str) (x3 : List Str) (x9 : Int) (b4 : Exp) (r1 : Bool) : rS 4 I31 (xBp x1 x2 x3 x9 b4) [Y, F, F, F, Y] [xAd r1] = dn (xAd true) [xBQ x9 b4, xBT b4, xCg b4, iN false, xBR x9 b4, xCv b4 x9 x1 x2 x3 r1, iY r1] := by kernel_rfl
def xDo (x1 x2 : Str) (x3 : List Str) (x9 : Int) (b4 : Exp) (r1 : Bool) : rS 4 I31 (xBp x1 x2 x3 x9 b4) [Y, F, F, F, F] [xAd r1] = st 4 I31 (xBp x1 x2 x3 (W (x9 + 1)) b4) [xBQ x9 b4, xBT b4, xCg b4, iN false, xBR x9 b4, xCv b4 x9 x1 x2 x3 r1, iN r1] := by kernel_rfl
def xCQ (x1 x2 : Str) (x3 : List Str) (x9 : Int) (b4 : Exp) : rS 4 I31 (xBp x1 x2 x3 x9 b4) [F] [] = dn (xAd false) [iN (dc (x9 < (xCE b4)))] := by kernel_rfl
abbrev xBW (v0 : Exp) : Prop := iY ((Exp.kind v0) == 3)
def xCR (a0 : Exp) (a1 a2 : Str) (a3 : List Str) (r1 r2 : Bool) : rE I31 (xAo a0 a1 a2 a3) [Y, Y, Y] [xAx r1, xAx r2] = dn (xAd r2) [xBW a0, AbC 54 (xAS a3 (Exp.text a0)) (xAx r1), iY (!r1), iY (((Exp.text a0) : Str) == a1), AbC 54 (xAS a3 a2) (xAx r2)] := by kernel_rfl
def xCS (a0 : Exp) (a1 a2 : Str) (a3 : List Str) (r1 : Bool) : rE I31 (xAo a0 a1 a2 a3) [Y, Y, F] [xAx r1] = dn (xAd false) [xBW a0, AbC 54 (xAS a3 (Exp.text a0)) (xAx r1), iY (!r1), iN (((Exp.text a0) : Str) == a1)] := by kernel_rfl
def xCT (a0 : Exp) (a1 a2 : Str) (a3 : List Str) (r1 : Bool) : rE I31 (xAo a0 a1 a2 a3) [Y, F] [xAx r1] = st 4 I31 (xBp a1 a2 a3 0 a0) [xBW a0, AbC 54 (xAS a3 (Exp.text a0)) (xAx r1), iN (!r1)] := by kernel_rfl
abbrev xCh (v0 : Exp) : Prop := iN ((Exp.kind v0) == 3)
def xCU (a0 : Exp) (a1 a2 : Str) (a3 : List Str) : rE I31 (xAo a0 a1 a2 a3) [F, F] [] = st 4 I31 (xBp a1 a2 a3 0 a0) [xCh a0, iN false] := by kernel_rfl
theorem xDH {N q0} (g0 : G31 q0) : ∀ n x1 x2 x3 x9 b4 r, xAf N q0 n x1 x2 x3 x9 b4 = some r → RS Try.f31 I31 4 (xBp x1 x2 x3 x9 b4) (xAd r) := by
 intro n
 induction n with
 | zero => exact fun _ _ _ _ _ _ h => nE h
 | succ n ih =>
  exact fun x1 x2 x3 x9 b4 r h =>
   cE h (fun h0 h => cE h (fun h1 h => cE h (fun h3 h => iE h fun h4 h => iE h fun h5 h => iE h fun h6 h => bE h fun r1 h7 h => cE h (fun h8 h => dS h fk31 (xDf x1 x2 x3 x9 b4 r1) (oc9 h0 h1 rfl h3 h4 h5 h6 (g0 _ _ _ _ _ h7) h8 on)) fun h8 h =>
   tS fk31 (xDg x1 x2 x3 x9 b4 r1) (oc9 h0 h1 rfl h3 h4 h5 h6 (g0 _ _ _ _ _ h7) h8 on) (ih _ _ _ _ _ _ h)) fun h3 h =>
   iE h fun h4 h => bE h fun r1 h5 h => cE h (fun h6 h => dS h fk31 (xDh x1 x2 x3 x9 b4 r1) (oc7 h0 h1 rfl h3 h4 (g0 _ _ _ _ _ h5) h6 on)) fun h6 h =>
   tS fk31 (xDi x1 x2 x3 x9 b4 r1) (oc7 h0 h1 rfl h3 h4 (g0 _ _ _ _ _ h5) h6 on) (ih _ _ _ _ _ _ h)) fun h1 h =>
   cE h (fun h2 h => cE h (fun h3 h => iE h fun h4 h => iE h fun h5 h => iE h fun h6 h => bE h fun r1 h7 h => cE h (fun h8 h => dS h fk31 (xDj x1 x2 x3 x9 b4 r1) (oc9 h0 h1 h2 h3 h4 h5 h6 (g0 _ _ _ _ _ h7) h8 on)) fun h8 h =>
   tS fk31 (xDk x1 x2 x3 x9 b4 r1) (oc9 h0 h1 h2 h3 h4 h5 h6 (g0 _ _ _ _ _ h7) h8 on) (ih _ _ _ _ _ _ h)) fun h3 h =>
   iE h fun h4 h => bE h fun r1 h5 h => cE h (fun h6 h => dS h fk31 (xDl x1 x2 x3 x9 b4 r1) (oc7 h0 h1 h2 h3 h4 (g0 _ _ _ _ _ h5) h6 on)) fun h6 h =>
   tS fk31 (xDm x1 x2 x3 x9 b4 r1) (oc7 h0 h1 h2 h3 h4 (g0 _ _ _ _ _ h5) h6 on) (ih _ _ _ _ _ _ h)) fun h2 h =>
   iE h fun h4 h => bE h fun r1 h5 h => cE h (fun h6 h => dS h fk31 (xDn x1 x2 x3 x9 b4 r1) (oc7 h0 h1 h2 rfl h4 (g0 _ _ _ _ _ h5) h6 on)) fun h6 h =>
   tS fk31 (xDo x1 x2 x3 x9 b4 r1) (oc7 h0 h1 h2 rfl h4 (g0 _ _ _ _ _ h5) h6 on) (ih _ _ _ _ _ _ h)) fun h0 h =>
   dS h fk31 (xCQ x1 x2 x3 x9 b4) (oc h0 on)
theorem xD1 {N q0} (g0 : G31 q0) : ∀ a0 a1 a2 a3 r, xAM N q0 a0 a1 a2 a3 = some r → RE Try.f31 I31 (xAo a0 a1 a2 a3) (xAd r) := fun a0 a1 a2 a3 r h =>
 cE h (fun h0 h => bE h fun r1 h1 h => cE h (fun h2 h => cE h (fun h3 h => bE h fun r2 h4 h => dE h fk31 (xCR a0 a1 a2 a3 r1 r2) (oc5 h0 (xBh h1) h2 h3 (xBh h4) on)) fun h3 h =>
 dE h fk31 (xCS a0 a1 a2 a3 r1) (oc4 h0 (xBh h1) h2 h3 on)) fun h2 h =>
 tE fk31 (xCT a0 a1 a2 a3 r1) (oc3 h0 (xBh h1) h2 on) (xDH g0 _ _ _ _ _ _ _ h)) fun h0 h =>
 tE fk31 (xCU a0 a1 a2 a3) (oc2 h0 rfl on) (xDH g0 _ _ _ _ _ _ _ h)
theorem xBq {N q0} (g0 : G31 q0) {a0} {a1} {a2} {a3} {r} (h : xAM N q0 a0 a1 a2 a3 = some r) : AbC 31 (xAo a0 a1 a2 a3) (xAd r) :=
 AbsCalls.of_reach fk31 rfl rfl rfl (Nat.le_of_ble_eq_true rfl) (xD1 g0 a0 a1 a2 a3 r h)
theorem xBe {N : Nat} : ∀ d, G31 (xAF N d)
 | 0 => fun _ _ _ _ _ h => nE h
 | d + 1 => fun _ _ _ _ _ h => xBq (N := N) (xBe d) h
theorem xBK {N : Nat} {a0 : Exp} {a1 : Str} {a2 : Str} {a3 : List Str} {r : Bool} (h : xBo N a0 a1 a2 a3 = some r) : AbC 31 (xAo a0 a1 a2 a3) (xAd r) := xBe N _ _ _ _ r h
noncomputable def I9 : Info := { body := (Try.f9.body).getD .skip, nt := 12, results := [.tmp 6], keep := [0, 2, 4, 6, 12, 7], live := [], modes := [] }
theorem fk9 : FnOk Try.prog 9 Try.f9 I9 := ⟨Try.func9, by kernel_rfl, by kernel_rfl, by kernel_rfl, by kernel_rfl⟩
def xDS (a0 : Exp) (a1 a2 : Str) (r1 : Bool) : rE I9 (xAE a0 a1 a2) [] [xAd r1] = dn (xAs r1) [AbC 31 (xAo a0 a1 a2 []) (xAd r1)] := by kernel_rfl
theorem c9_e {N : Nat} : ∀ a0 a1 a2 r, xA1 N a0 a1 a2 = some r → RE Try.f9 I9 (xAE a0 a1 a2) (xAs r) := fun a0 a1 a2 r h =>
 bE h fun r1 h0 h => dE h fk9 (xDS a0 a1 a2 r1) (oc (xBK h0) on)
theorem xBa {N : Nat} {a0 : Exp} {a1 : Str} {a2 : Str} {r : Bool} (h : xA1 N  a0 a1 a2 = some r) : AbC 9 (xAE a0 a1 a2) (xAs r) :=
 AbsCalls.of_reach fk9 rfl rfl rfl (Nat.le_of_ble_eq_true rfl) (c9_e a0 a1 a2 r h)
noncomputable def I34 : Info := { body := (Try.f34.body).getD .skip, nt := 19, results := [.tmp 4], keep := [0, 2, 8, 10, 12, 14, 16, 18, 20, 32], live := [(2, [2, 14, 16, 18])], modes := [(4, [(0, .take, false)]), (5, [(0, .take, false)]), (6, [(1, .take, false)])] }
theorem fk34 : FnOk Try.prog 34 Try.f34 I34 := ⟨Try.func34, by kernel_rfl, by kernel_rfl, by kernel_rfl, by kernel_rfl⟩
def xCo (x1 : Str) (x7 : List Str) (x8 x9 : Int) : St := [(2, .v false [.str x1]), (14, .v false [.sl .ro .str x7]), (16, .v false [.int .i64 x8]), (18, .v false [.int .i64 x9])]
def xDs (x1 : Str) (x7 : List Str) (x8 x9 : Int) : rS 2 I34 (xCo x1 x7 x8 x9) [Y, Y] [] = dn (xAt x9) [iY (dc (x9 < x8)), (0 : Int) ≤ x9 ∧ x9 < (Ln x7), iY (xCk x7 x9 x1)] := by kernel_rfl
def xDt (x1 : Str) (x7 : List Str) (x8 x9 : Int) : rS 2 I34 (xCo x1 x7 x8 x9) [Y, F] [] = st 2 I34 (xCo x1 x7 x8 (W (x9 + 1))) [iY (dc (x9 < x8)), (0 : Int) ≤ x9 ∧ x9 < (Ln x7), iN (xCk x7 x9 x1)] := by kernel_rfl
def xDu (x1 : Str) (x7 : List Str) (x8 x9 : Int) : rS 2 I34 (xCo x1 x7 x8 x9) [F] [] = dn (xAt (-1)) [iN (dc (x9 < x8))] := by kernel_rfl
def xDv (a0 : List Str) (a1 : Str) : rE I34 (xAO a0 a1) [] [] = st 2 I34 (xCo a1 a0 (Ln a0 : Int) 0) [] := by kernel_rfl
theorem xD4 {N : Nat} : ∀ n x1 x7 x8 x9 r, xAI N n x1 x7 x8 x9 = some r → RS Try.f34 I34 2 (xCo x1 x7 x8 x9) (xAt r) := by
 intro n
 induction n with
 | zero => exact fun _ _ _ _ _ h => nE h
 | succ n ih =>
  exact fun x1 x7 x8 x9 r h =>
   cE h (fun h0 h => iE h fun h1 h => cE h (fun h2 h => dS h fk34 (xDs x1 x7 x8 x9) (oc3 h0 h1 h2 on)) fun h2 h =>
   tS fk34 (xDt x1 x7 x8 x9) (oc3 h0 h1 h2 on) (ih _ _ _ _ _ h)) fun h0 h =>
   dS h fk34 (xDu x1 x7 x8 x9) (oc h0 on)
theorem xD5 {N : Nat} : ∀ a0 a1 r, xA4 N a0 a1 = some r → RE Try.f34 I34 (xAO a0 a1) (xAt r) := fun a0 a1 r h =>
 tE fk34 (xDv a0 a1) on (xD4 _ _ _ _ _ _ h)
theorem xBj {N : Nat} {a0 : List Str} {a1 : Str} {r : Int} (h : xA4 N  a0 a1 = some r) : AbC 34 (xAO a0 a1) (xAt r) :=
 AbsCalls.of_reach fk34 rfl rfl rfl (Nat.le_of_ble_eq_true rfl) (xD5 a0 a1 r h)
noncomputable def xBE : Info := { body := (Try.f33.body).getD .skip, nt := 19, results := [], keep := [0, 2, 4, 6, 8, 5, 7, 9], live := [], modes := [(0, [(1, .take, false), (5, .take, false)])], ext := [2, 3, 4] }
theorem xBF : FnOk Try.prog 33 Try.f33 xBE := ⟨Try.func33, by kernel_rfl, by kernel_rfl, by kernel_rfl, by kernel_rfl⟩
def xB6 (a0 : Str) (a1 : List Str) (a2 : Bool) (a3 a4 : Str) : rE xBE (xAA a0 a1 a2 a3 a4) [Y] [] = dn (xAy (true, a3, a4)) [iY a2] := by kernel_rfl
def xB7 (a0 : Str) (a1 : List Str) (a2 : Bool) (a3 a4 : Str) (r1 : Int) : rE xBE (xAA a0 a1 a2 a3 a4) [F, Y] [xAt r1] = dn (xAy ((dc (r1 ≥ 0)), a3, a4)) [iN a2, iY ((a0 : Str) == a3), AbC 34 (xAO a1 a4) (xAt r1)] := by kernel_rfl
def xB8 (a0 : Str) (a1 : List Str) (a2 : Bool) (a3 a4 : Str) : rE xBE (xAA a0 a1 a2 a3 a4) [F, F] [] = dn (xAy (false, a3, a4)) [iN a2, iN ((a0 : Str) == a3)] := by kernel_rfl
theorem xCs {N : Nat} : ∀ a0 a1 a2 a3 a4 r, xA2 N a0 a1 a2 a3 a4 = some r → RE Try.f33 xBE (xAA a0 a1 a2 a3 a4) (xAy r) := fun a0 a1 a2 a3 a4 r h =>
 cE h (fun h0 h => dE h xBF (xB6 a0 a1 a2 a3 a4) (oc h0 on)) fun h0 h =>
 cE h (fun h1 h => bE h fun r1 h2 h => dE h xBF (xB7 a0 a1 a2 a3 a4 r1) (oc3 h0 h1 (xBj h2) on)) fun h1 h =>
 dE h xBF (xB8 a0 a1 a2 a3 a4) (oc2 h0 h1 on)
theorem xBs {N : Nat} {a0 : Str} {a1 : List Str} {a2 : Bool} {a3 : Str} {a4 : Str} {r : Bool × Str × Str} (h : xA2 N  a0 a1 a2 a3 a4 = some r) : AbC 33 (xAA a0 a1 a2 a3 a4) (xAy r) :=
 AbsCalls.of_reach xBF rfl rfl rfl (Nat.le_of_ble_eq_true rfl) (xCs a0 a1 a2 a3 a4 r h)
def xBM (q : Exp → (List Str) → Bool → Str → Str → Option (Bool × Str × Str)) : Prop := ∀ a0 a1 a2 a3 a4 r, q a0 a1 a2 a3 a4 = some r → AbC 35 (xAb a0 a1 a2 a3 a4) (xAa r)
noncomputable def xAG : Info := { body := (Try.f35.body).getD .skip, nt := 82, results := [], keep := [0, 2, 4, 8, 12, 14, 16, 18, 38, 48, 96, 114, 116, 118, 120, 138, 2000006, 2000008, 2000010, 1, 9, 17, 2000007, 2000009, 2000011], live := [(8, [0, 4, 8, 12, 114, 116, 118, 2000006, 2000008, 2000010, 1, 9, 2000007, 2000009, 2000011])], modes := [(1, [(3, .take, false)]), (4, [(3, .take, false)]), (5, [(1, .take, false)]), (11, [(1, .take, false), (2, .take, false)]), (12, [(6, .cp, true)]), (13, [(2, .take, false), (3, .take, false)]), (14, [(1, .take, false)])], ext := [0, 1000003, 1000004, 1000005] }
theorem xA3 : FnOk Try.prog 35 Try.f35 xAG := ⟨Try.func35, by kernel_rfl, by kernel_rfl, by kernel_rfl, by kernel_rfl⟩
def xAW (x2 : List Str) (x6 : Bool) (x57 : List Exp) (x58 x59 : Int) (b4 : Exp) (b1000003 : Bool) (b1000004 b1000005 : Str) : St := [(0, .v false [.ptr 0 0]), (4, .v false [.sl .ro .str x2]), (8, .v false [.ptr 4 0]), (12, .v false [.bool x6]), (114, .v false [.sl .ro .exp x57]), (116, .v false [.int .i64 x58]), (118, .v false [.int .i64 x59]), (1, .v true [.clo 33 [1000003, 1000004, 1000005], .val .nilFunc]), (9, .v true [.int .i64 (Exp.kind b4), .int .i64 (Exp.n b4), .str (Exp.text b4), .sl .ro .exp (Exp.args b4)]), (2000007, .v true [.bool b1000003]), (2000009, .v true [.str b1000004]), (2000011, .v true [.str b1000005])]
def xBX (x2 : List Str) (x6 : Bool) (x57 : List Exp) (x58 x59 : Int) (b4 : Exp) (b1000003 : Bool) (b1000004 b1000005 : Str) (r1 : Bool × Str × Str) : rS 8 xAG (xAW x2 x6 x57 x58 x59 b4 b1000003 b1000004 b1000005) [Y, Y, Y] [cl (xAa r1)] = st 8 xAG (xAW x2 x6 x57 x58 (W (x59 + 1)) b4 r1.1 r1.2.1 r1.2.2) [iY (dc (x59 < x58)), xBO x59 x57, iY x6, iY (dc (x59 > 0)), 0 + Ln x2 ≤ Lim, xCH x2 b4, AbC 35 (xAb (xBx x57 x59) (([] ++ x2) ++ [(Exp.text b4)]) b1000003 b1000004 b1000005) (xAa r1)] := by kernel_rfl
def xBY (x2 : List Str) (x6 : Bool) (x57 : List Exp) (x58 x59 : Int) (b4 : Exp) (b1000003 : Bool) (b1000004 b1000005 : Str) (r1 : Bool × Str × Str) : rS 8 xAG (xAW x2 x6 x57 x58 x59 b4 b1000003 b1000004 b1000005) [Y, Y, F] [cl (xAa r1)] = st 8 xAG (xAW x2 x6 x57 x58 (W (x59 + 1)) b4 r1.1 r1.2.1 r1.2.2) [iY (dc (x59 < x58)), xBO x59 x57, iY x6, iN (dc (x59 > 0)), AbC 35 (xAb (xBx x57 x59) x2 b1000003 b1000004 b1000005) (xAa r1)] := by kernel_rfl
def xBZ (x2 : List Str) (x6 : Bool) (x57 : List Exp) (x58 x59 : Int) (b4 : Exp) (b1000003 : Bool) (b1000004 b1000005 : Str) (r1 : Bool × Str × Str) : rS 8 xAG (xAW x2 x6 x57 x58 x59 b4 b1000003 b1000004 b1000005) [Y, F, F] [cl (xAa r1)] = st 8 xAG (xAW x2 x6 x57 x58 (W (x59 + 1)) b4 r1.1 r1.2.1 r1.2.2) [iY (dc (x59 < x58)), xBO x59 x57, iN x6, iN false, AbC 35 (xAb (xBx x57 x59) x2 b1000003 b1000004 b1000005) (xAa r1)] := by kernel_rfl
def xB0 (x2 : List Str) (x6 : Bool) (x57 : List Exp) (x58 x59 : Int) (b4 : Exp) (b1000003 : Bool) (b1000004 b1000005 : Str) : rS 8 xAG (xAW x2 x6 x57 x58 x59 b4 b1000003 b1000004 b1000005) [F] [] = dn (xAa (b1000003, b1000004, b1000005)) [iN (dc (x59 < x58))] := by kernel_rfl
def xB1 (a0 : Exp) (a1 : List Str) (a2 : Bool) (a3 a4 : Str) (r1 : Int) (r2 : Bool × Str × Str) : rE xAG (xAb a0 a1 a2 a3 a4) [Y, Y, Y] [xAt r1, xAy r2] = dn (xAa (r2.1, r2.2.1, r2.2.2)) [xBW a0, AbC 34 (xAO a1 (Exp.text a0)) (xAt r1), iY (dc (r1 < 0)), iY true, AbC 33 (xAA (Exp.text a0) a1 a2 a3 a4) (xAy r2)] := by kernel_rfl
abbrev xCF (v0 : List Str) (v1 : Exp) (v2 : Bool) (v3 v4 : Str) := xAW v0 ((Exp.kind v1) == 9) (Exp.args v1) (Ln (Exp.args v1) : Int) 0 v1 v2 v3 v4
def xB2 (a0 : Exp) (a1 : List Str) (a2 : Bool) (a3 a4 : Str) (r1 : Int) : rE xAG (xAb a0 a1 a2 a3 a4) [Y, F, F, F, F] [xAt r1] = st 8 xAG (xCF a1 a0 a2 a3 a4) [xBW a0, AbC 34 (xAO a1 (Exp.text a0)) (xAt r1), iN (dc (r1 < 0)), xBT a0, xCg a0, iN false] := by kernel_rfl
def xB3 (a0 : Exp) (a1 : List Str) (a2 : Bool) (a3 a4 : Str) : rE xAG (xAb a0 a1 a2 a3 a4) [F, F, Y, Y, F] [] = st 8 xAG (xAW a1 true (Exp.args a0) (xCE a0) 0 a0 a2 a3 a4) [xCh a0, iN false, xCG a0, iY true, iN false] := by kernel_rfl
def xB4 (a0 : Exp) (a1 : List Str) (a2 : Bool) (a3 a4 : Str) : rE xAG (xAb a0 a1 a2 a3 a4) [F, F, F, Y, F] [] = st 8 xAG (xCF a1 a0 a2 a3 a4) [xCh a0, iN false, xBT a0, xCI a0, iN false] := by kernel_rfl
def xB5 (a0 : Exp) (a1 : List Str) (a2 : Bool) (a3 a4 : Str) : rE xAG (xAb a0 a1 a2 a3 a4) [F, F, F, F, F] [] = st 8 xAG (xCF a1 a0 a2 a3 a4) [xCh a0, iN false, xBT a0, xCg a0, iN false] := by kernel_rfl
theorem xBr {N q0} (g0 : xBM q0) : ∀ n x2 x6 x57 x58 x59 b4 b1000003 b1000004 b1000005 r, xAc N q0 n x2 x6 x57 x58 x59 b4 b1000003 b1000004 b1000005 = some r → RS Try.f35 xAG 8 (xAW x2 x6 x57 x58 x59 b4 b1000003 b1000004 b1000005) (xAa r) := by
 intro n
 induction n with
 | zero => exact fun _ _ _ _ _ _ _ _ _ _ h => nE h
 | succ n ih =>
  exact fun x2 x6 x57 x58 x59 b4 b1000003 b1000004 b1000005 r h =>
   cE h (fun h0 h => iE h fun h1 h => cE h (fun h2 h => cE h (fun h3 h => iE h fun h4 h => iE h fun h5 h => bE h fun r1 h6 h => tS xA3 (xBX x2 x6 x57 x58 x59 b4 b1000003 b1000004 b1000005 r1) (oc7 h0 h1 h2 h3 h4 h5 (g0 _ _ _ _ _ _ h6) on) (ih _ _ _ _ _ _ _ _ _ _ h)) fun h3 h =>
   bE h fun r1 h4 h => tS xA3 (xBY x2 x6 x57 x58 x59 b4 b1000003 b1000004 b1000005 r1) (oc5 h0 h1 h2 h3 (g0 _ _ _ _ _ _ h4) on) (ih _ _ _ _ _ _ _ _ _ _ h)) fun h2 h =>
   bE h fun r1 h4 h => tS xA3 (xBZ x2 x6 x57 x58 x59 b4 b1000003 b1000004 b1000005 r1) (oc5 h0 h1 h2 rfl (g0 _ _ _ _ _ _ h4) on) (ih _ _ _ _ _ _ _ _ _ _ h)) fun h0 h =>
   dS h xA3 (xB0 x2 x6 x57 x58 x59 b4 b1000003 b1000004 b1000005) (oc h0 on)
theorem xCr {N q0} (g0 : xBM q0) : ∀ a0 a1 a2 a3 a4 r, xAg N q0 a0 a1 a2 a3 a4 = some r → RE Try.f35 xAG (xAb a0 a1 a2 a3 a4) (xAa r) := fun a0 a1 a2 a3 a4 r h =>
 cE h (fun h0 h => bE h fun r1 h1 h => cE h (fun h2 h => bE h fun r2 h4 h => dE h xA3 (xB1 a0 a1 a2 a3 a4 r1 r2) (oc5 h0 (xBj h1) h2 rfl (xBs h4) on)) fun h2 h =>
 tE xA3 (xB2 a0 a1 a2 a3 a4 r1) (oc6 h0 (xBj h1) h2 (eq_ne h0 rfl) (eq_ne h0 rfl) rfl on) (xBr g0 _ _ _ _ _ _ _ _ _ _ _ h)) fun h0 h =>
 cE h (fun h2 h => tE xA3 (xB3 a0 a1 a2 a3 a4) (oc5 h0 rfl h2 rfl rfl on) (xBr g0 _ _ _ _ _ _ _ _ _ _ _ h)) fun h2 h =>
 cE h (fun h3 h => tE xA3 (xB4 a0 a1 a2 a3 a4) (oc5 h0 rfl h2 h3 rfl on) (xBr g0 _ _ _ _ _ _ _ _ _ _ _ h)) fun h3 h =>
 tE xA3 (xB5 a0 a1 a2 a3 a4) (oc5 h0 rfl h2 h3 rfl on) (xBr g0 _ _ _ _ _ _ _ _ _ _ _ h)
theorem xAZ {N q0} (g0 : xBM q0) {a0} {a1} {a2} {a3} {a4} {r} (h : xAg N q0 a0 a1 a2 a3 a4 = some r) : AbC 35 (xAb a0 a1 a2 a3 a4) (xAa r) :=
 AbsCalls.of_reach xA3 rfl rfl rfl (Nat.le_of_ble_eq_true rfl) (xCr g0 a0 a1 a2 a3 a4 r h)
theorem xAD {N : Nat} : ∀ d, xBM (xAe N d)
 | 0 => fun _ _ _ _ _ _ h => nE h
 | d + 1 => fun _ _ _ _ _ _ h => xAZ (N := N) (xAD d) h
theorem xA5 {N : Nat} {a0 : Exp} {a1 : List Str} {a2 : Bool} {a3 : Str} {a4 : Str} {r : Bool × Str × Str} (h : xAB N a0 a1 a2 a3 a4 = some r) : AbC 35 (xAb a0 a1 a2 a3 a4) (xAa r) := xAD N _ _ _ _ _ r h
noncomputable def I11 : Info := { body := (Try.f11.body).getD .skip, nt := 16, results := [.tmp 6], keep := [0, 2, 4, 6, 8, 10, 12, 14, 16, 7, 9, 11, 15, 23], live := [], modes := [(3, [(0, .take, false)])] }
theorem fk11 : FnOk Try.prog 11 Try.f11 I11 := ⟨Try.func11, by kernel_rfl, by kernel_rfl, by kernel_rfl, by kernel_rfl⟩
def xC4 (a0 : Exp) (a1 a2 : Str) (r1 : Bool × Str × Str) : rE I11 (xAC a0 a1 a2) [] [cl (xAa r1)] = dn (xAr r1.1) [AbC 35 (xAb a0 [] false a1 a2) (xAa r1)] := by kernel_rfl
theorem xDX {N : Nat} : ∀ a0 a1 a2 r, xAY N a0 a1 a2 = some r → RE Try.f11 I11 (xAC a0 a1 a2) (xAr r) := fun a0 a1 a2 r h =>
 bE h fun r1 h0 h => dE h fk11 (xC4 a0 a1 a2 r1) (oc (xA5 h0) on)
theorem xA7 {N : Nat} {a0 : Exp} {a1 : Str} {a2 : Str} {r : Bool} (h : xAY N  a0 a1 a2 = some r) : AbC 11 (xAC a0 a1 a2) (xAr r) :=
 AbsCalls.of_reach fk11 rfl rfl rfl (Nat.le_of_ble_eq_true rfl) (xDX a0 a1 a2 r h)
def G12 (q : Exp → Exp → Option (Bool)) : Prop := ∀ a0 a1 r, q a0 a1 = some r → AbC 12 (xAp a0 a1) (xAj r)
def G36 (q : (List Exp) → (List Exp) → Option (Bool)) : Prop := ∀ a0 a1 r, q a0 a1 = some r → AbC 36 (xAJ a0 a1) (xAu r)
noncomputable def I12 : Info := { body := (Try.f12.body).getD .skip, nt := 26, results := [.tmp 4], keep := [0, 2, 4, 6, 8, 18, 28, 38, 50, 5, 7], live := [], modes := [] }
theorem fk12 : FnOk Try.prog 12 Try.f12 I12 := ⟨Try.func12, by kernel_rfl, by kernel_rfl, by kernel_rfl, by kernel_rfl⟩
def xC5 (a0 a1 : Exp) : rE I12 (xAp a0 a1) [Y] [] = dn (xAj false) [iY ((Exp.kind a0) != (Exp.kind a1))] := by kernel_rfl
abbrev xCi (v0 v1 : Exp) : Prop := iN ((Exp.kind v0) != (Exp.kind v1))
def xC6 (a0 a1 : Exp) : rE I12 (xAp a0 a1) [F, Y] [] = dn (xAj false) [xCi a0 a1, iY ((Exp.n a0) != (Exp.n a1))] := by kernel_rfl
def xC7 (a0 a1 : Exp) : rE I12 (xAp a0 a1) [F, F, Y] [] = dn (xAj false) [xCi a0 a1, iN ((Exp.n a0) != (Exp.n a1)), iY (!(((Exp.text a0) : Str) == (Exp.text a1)))] := by kernel_rfl
def xC8 (a0 a1 : Exp) (r1 : Bool) : rE I12 (xAp a0 a1) [F, F, F, Y] [xAu r1] = dn (xAj false) [xCi a0 a1, iN ((Exp.n a0) != (Exp.n a1)), iN (!(((Exp.text a0) : Str) == (Exp.text a1))), AbC 36 (xAJ (Exp.args a0) (Exp.args a1)) (xAu r1), iY (!r1)] := by kernel_rfl
def xC9 (a0 a1 : Exp) (r1 : Bool) : rE I12 (xAp a0 a1) [F, F, F, F] [xAu r1] = dn (xAj true) [xCi a0 a1, iN ((Exp.n a0) != (Exp.n a1)), iN (!(((Exp.text a0) : Str) == (Exp.text a1))), AbC 36 (xAJ (Exp.args a0) (Exp.args a1)) (xAu r1), iN (!r1)] := by kernel_rfl
theorem xDY {N q0 q1} (g0 : G12 q0) (g1 : G36 q1) : ∀ a0 a1 r, xAU N q0 q1 a0 a1 = some r → RE Try.f12 I12 (xAp a0 a1) (xAj r) := fun a0 a1 r h =>
 cE h (fun h0 h => dE h fk12 (xC5 a0 a1) (oc h0 on)) fun h0 h =>
 cE h (fun h1 h => dE h fk12 (xC6 a0 a1) (oc2 h0 h1 on)) fun h1 h =>
 cE h (fun h2 h => dE h fk12 (xC7 a0 a1) (oc3 h0 h1 h2 on)) fun h2 h =>
 bE h fun r1 h3 h => cE h (fun h4 h => dE h fk12 (xC8 a0 a1 r1) (oc5 h0 h1 h2 (g1 _ _ _ h3) h4 on)) fun h4 h =>
 dE h fk12 (xC9 a0 a1 r1) (oc5 h0 h1 h2 (g1 _ _ _ h3) h4 on)
theorem xBA {N q0 q1} (g0 : G12 q0) (g1 : G36 q1) {a0} {a1} {r} (h : xAU N q0 q1 a0 a1 = some r) : AbC 12 (xAp a0 a1) (xAj r) :=
 AbsCalls.of_reach fk12 rfl rfl rfl (Nat.le_of_ble_eq_true rfl) (xDY g0 g1 a0 a1 r h)
noncomputable def I36 : Info := { body := (Try.f36.body).getD .skip, nt := 27, results := [.tmp 4], keep := [0, 2, 8, 10, 20, 28, 52], live := [(4, [0, 2, 10])], modes := [] }
theorem fk36 : FnOk Try.prog 36 Try.f36 I36 := ⟨Try.func36, by kernel_rfl, by kernel_rfl, by kernel_rfl, by kernel_rfl⟩
def xCp (x0 x1 : List Exp) (x5 : Int) : St := [(0, .v false [.sl .ro .exp x0]), (2, .v false [.sl .ro .exp x1]), (10, .v false [.int .i64 x5])]
def xDw (x0 x1 : List Exp) (x5 : Int) (r1 : Bool) : rS 4 I36 (xCp x0 x1 x5) [Y, Y] [xAj r1] = dn (xAu false) [xCC x5 x0, xBO x5 x0, xBO x5 x1, AbC 12 (xAp (xBx x0 x5) (xBx x1 x5)) (xAj r1), iY (!r1)] := by kernel_rfl
def xDx (x0 x1 : List Exp) (x5 : Int) (r1 : Bool) : rS 4 I36 (xCp x0 x1 x5) [Y, F] [xAj r1] = st 4 I36 (xCp x0 x1 (W (x5 + 1))) [xCC x5 x0, xBO x5 x0, xBO x5 x1, AbC 12 (xAp (xBx x0 x5) (xBx x1 x5)) (xAj r1), iN (!r1)] := by kernel_rfl
def xDy (x0 x1 : List Exp) (x5 : Int) : rS 4 I36 (xCp x0 x1 x5) [F] [] = dn (xAu true) [iN (dc (x5 < (Ln x0 : Int)))] := by kernel_rfl
def xDz (a0 a1 : List Exp) : rE I36 (xAJ a0 a1) [Y] [] = dn (xAu false) [iY ((Ln a0 : Int) != (Ln a1 : Int))] := by kernel_rfl
def xDA (a0 a1 : List Exp) : rE I36 (xAJ a0 a1) [F] [] = st 4 I36 (xCp a0 a1 0) [iN ((Ln a0 : Int) != (Ln a1 : Int))] := by kernel_rfl
theorem xD6 {N q0 q1} (g0 : G12 q0) (g1 : G36 q1) : ∀ n x0 x1 x5 r, xAP N q0 q1 n x0 x1 x5 = some r → RS Try.f36 I36 4 (xCp x0 x1 x5) (xAu r) := by
 intro n
 induction n with
 | zero => exact fun _ _ _ _ h => nE h
 | succ n ih =>
  exact fun x0 x1 x5 r h =>
   cE h (fun h0 h => iE h fun h1 h => iE h fun h2 h => bE h fun r1 h3 h => cE h (fun h4 h => dS h fk36 (xDw x0 x1 x5 r1) (oc5 h0 h1 h2 (g0 _ _ _ h3) h4 on)) fun h4 h =>
   tS fk36 (xDx x0 x1 x5 r1) (oc5 h0 h1 h2 (g0 _ _ _ h3) h4 on) (ih _ _ _ _ h)) fun h0 h =>
   dS h fk36 (xDy x0 x1 x5) (oc h0 on)
theorem xD7 {N q0 q1} (g0 : G12 q0) (g1 : G36 q1) : ∀ a0 a1 r, xAQ N q0 q1 a0 a1 = some r → RE Try.f36 I36 (xAJ a0 a1) (xAu r) := fun a0 a1 r h =>
 cE h (fun h0 h => dE h fk36 (xDz a0 a1) (oc h0 on)) fun h0 h =>
 tE fk36 (xDA a0 a1) (oc h0 on) (xD6 g0 g1 _ _ _ _ _ h)
theorem xBt {N q0 q1} (g0 : G12 q0) (g1 : G36 q1) {a0} {a1} {r} (h : xAQ N q0 q1 a0 a1 = some r) : AbC 36 (xAJ a0 a1) (xAu r) :=
 AbsCalls.of_reach fk36 rfl rfl rfl (Nat.le_of_ble_eq_true rfl) (xD7 g0 g1 a0 a1 r h)
theorem xBG {N : Nat} : ∀ d, G12 (xAn N d).c_laws_eqExpr ∧ G36 (xAn N d).c_laws_eqExprS := by
 intro d
 induction d with
 | zero => exact ⟨fun _ _ _ h => nE h, fun _ _ _ h => nE h⟩
 | succ d ih =>
  obtain ⟨ih0, ih1⟩ := ih
  exact ⟨fun _ _ _ h => xBA (N := N) ih0 ih1 h, fun _ _ _ h => xBt (N := N) ih0 ih1 h⟩
theorem xBw {N : Nat} {a0 : Exp} {a1 : Exp} {r : Bool} (h : xBz N a0 a1 = some r) : AbC 12 (xAp a0 a1) (xAj r) := (xBG N).1 _ _ r h
noncomputable def I3 : Info := { body := (Try.f3.body).getD .skip, nt := 41, results := [.tmp 6], keep := [0, 2, 4, 6, 12, 14, 16, 18, 20, 26, 32, 42, 70, 80, 7, 19], live := [], modes := [(12, [(0, .take, false), (1, .take, false)])] }
theorem fk3 : FnOk Try.prog 3 Try.f3 I3 := ⟨Try.func3, by kernel_rfl, by kernel_rfl, by kernel_rfl, by kernel_rfl⟩
def xDJ (a0 : Exp) (a1 a2 : Str) : rE I3 (xAh a0 a1 a2) [Y] [] = dn (xAi true) [iY (dc ((Ln a1 : Int) > 1048576))] := by kernel_rfl
abbrev xBJ (v0 : Str) : Prop := iN (dc ((Ln v0 : Int) > 1048576))
def xDK (a0 : Exp) (a1 a2 : Str) : rE I3 (xAh a0 a1 a2) [F, Y] [] = dn (xAi true) [xBJ a1, iY (dc ((Ln a2 : Int) > 1048576))] := by kernel_rfl
abbrev xCj (v0 : Exp) (v1 : Int) : Prop := AbC 8 (xAz v0 1048576) (xAl v1)
def xDL (a0 : Exp) (a1 a2 : Str) (r1 : Int) : rE I3 (xAh a0 a1 a2) [F, F, Y] [xAl r1] = dn (xAi true) [xBJ a1, xBJ a2, xCj a0 r1, iY (dc (r1 < 0))] := by kernel_rfl
abbrev xBL (v0 v1 : Exp) : Prop := AbC 10 (xAN v0) (xAm v1)
def xDM (a0 : Exp) (a1 a2 : Str) (r1 : Int) (r2 : Exp) (r3 : Bool) (r4 : Exp) (r5 : Bool) : rE I3 (xAh a0 a1 a2) [F, F, F, Y] [xAl r1, xAm r2, xAs r3, xAm r4, xAr r5] = dn (xAi false) [xBJ a1, xBJ a2, xCj a0 r1, iN (dc (r1 < 0)), xBL a0 r2, AbC 9 (xAE r2 a1 a2) (xAs r3), xBL a0 r4, AbC 11 (xAC r4 a1 a2) (xAr r5), iY (!((r5 : Bool) == r3))] := by kernel_rfl
def xDN (a0 : Exp) (a1 a2 : Str) (r1 : Int) (r2 : Exp) (r3 : Bool) (r4 : Exp) (r5 : Bool) (r6 : Exp) (r7 : Bool) : rE I3 (xAh a0 a1 a2) [F, F, F, F, Y] [xAl r1, xAm r2, xAs r3, xAm r4, xAr r5, xAm r6, xAj r7] = dn (xAi false) [xBJ a1, xBJ a2, xCj a0 r1, iN (dc (r1 < 0)), xBL a0 r2, AbC 9 (xAE r2 a1 a2) (xAs r3), xBL a0 r4, AbC 11 (xAC r4 a1 a2) (xAr r5), iN (!((r5 : Bool) == r3)), xBL a0 r6, AbC 12 (xAp r4 r6) (xAj r7), iY (!r7)] := by kernel_rfl
def xDO (a0 : Exp) (a1 a2 : Str) (r1 : Int) (r2 : Exp) (r3 : Bool) (r4 : Exp) (r5 : Bool) (r6 : Exp) (r7 : Bool) : rE I3 (xAh a0 a1 a2) [F, F, F, F, F] [xAl r1, xAm r2, xAs r3, xAm r4, xAr r5, xAm r6, xAj r7] = dn (xAi true) [xBJ a1, xBJ a2, xCj a0 r1, iN (dc (r1 < 0)), xBL a0 r2, AbC 9 (xAE r2 a1 a2) (xAs r3), xBL a0 r4, AbC 11 (xAC r4 a1 a2) (xAr r5), iN (!((r5 : Bool) == r3)), xBL a0 r6, AbC 12 (xAp r4 r6) (xAj r7), iN (!r7)] := by kernel_rfl
theorem c3_e {N : Nat} : ∀ a0 a1 a2 r, xAq N a0 a1 a2 = some r → RE Try.f3 I3 (xAh a0 a1 a2) (xAi r) := fun a0 a1 a2 r h =>
 cE h (fun h0 h => dE h fk3 (xDJ a0 a1 a2) (oc h0 on)) fun h0 h =>
 cE h (fun h1 h => dE h fk3 (xDK a0 a1 a2) (oc2 h0 h1 on)) fun h1 h =>
 bE h fun r1 h2 h => cE h (fun h3 h => dE h fk3 (xDL a0 a1 a2 r1) (oc4 h0 h1 (xBd h2) h3 on)) fun h3 h =>
 bE h fun r2 h4 h => bE h fun r3 h5 h => bE h fun r4 h6 h => bE h fun r5 h7 h => cE h (fun h8 h => dE h fk3 (xDM a0 a1 a2 r1 r2 r3 r4 r5) (oc9 h0 h1 (xBd h2) h3 (xAH h4) (xBa h5) (xAH h6) (xA7 h7) h8 on)) fun h8 h =>
 bE h fun r6 h9 h => bE h fun r7 h10 h => cE h (fun h11 h => dE h fk3 (xDN a0 a1 a2 r1 r2 r3 r4 r5 r6 r7) (oc12 h0 h1 (xBd h2) h3 (xAH h4) (xBa h5) (xAH h6) (xA7 h7) h8 (xAH h9) (xBw h10) h11 on)) fun h11 h =>
 dE h fk3 (xDO a0 a1 a2 r1 r2 r3 r4 r5 r6 r7) (oc12 h0 h1 (xBd h2) h3 (xAH h4) (xBa h5) (xAH h6) (xA7 h7) h8 (xAH h9) (xBw h10) h11 on)
theorem laws_FnExactIsCaptured_ok {N : Nat} {a0 : Exp} {a1 : Str} {a2 : Str} {r : Bool} (h : xAq N  a0 a1 a2 = some r) : AbC 3 (xAh a0 a1 a2) (xAi r) :=
 AbsCalls.of_reach fk3 rfl rfl rfl (Nat.le_of_ble_eq_true rfl) (c3_e a0 a1 a2 r h)
end Go.Ab.T
end
section
open Go.Proofs
namespace Go.Ab.T
set_option maxRecDepth 100000
variable [Inhabited Lb]
noncomputable def I64 : Info := { body := (Try.f64.body).getD .skip, nt := 42, results := [.tmp 2], keep := [0, 4, 6, 8, 16, 76], live := [(2, [0, 6])], modes := [(4, [(4, .take, false)]), (5, [(0, .take, false), (2, .take, false), (5, .take, false), (11, .take, false)])] }
end Go.Ab.T
end
section
namespace Go.Ab
def Big (p : Nat → Prop) : Prop := ∃ k, ∀ N, k ≤ N → p N
def Big2 (p : Nat → Nat → Prop) : Prop := ∃ k, ∀ N n, k ≤ N → k ≤ n → p N n
theorem Big.imp {p q : Nat → Prop} (h : Big p) (f : ∀ N, p N → q N) : Big q := h.elim fun k hk => ⟨k, fun N hN => f N (hk N hN)⟩
theorem Big2.imp {p q : Nat → Nat → Prop} (h : Big2 p) (f : ∀ N n, p N n → q N n) : Big2 q := h.elim fun k hk => ⟨k, fun N n h1 h2 => f N n (hk N n h1 h2)⟩
theorem Big2.of {p : Nat → Nat → Prop} (h : ∀ N n, p N n) : Big2 p := ⟨0, fun N n _ _ => h N n⟩
theorem Big.and {p q : Nat → Prop} (h : Big p) (h' : Big q) : Big fun N => p N ∧ q N := by
 obtain ⟨a, ha⟩ := h; obtain ⟨b, hb⟩ := h'
 exact ⟨max a b, fun N hN => ⟨ha N (by omega), hb N (by omega)⟩⟩
theorem Big2.and {p q : Nat → Nat → Prop} (h : Big2 p) (h' : Big2 q) : Big2 fun N n => p N n ∧ q N n := by
 obtain ⟨a, ha⟩ := h; obtain ⟨b, hb⟩ := h'
 exact ⟨max a b, fun N n h1 h2 => ⟨ha N n (by omega) (by omega), hb N n (by omega) (by omega)⟩⟩
theorem Big.two {p : Nat → Prop} (h : Big p) : Big2 fun N _ => p N := h.elim fun k hk => ⟨k, fun N _ h _ => hk N h⟩
theorem Big2.diag {p : Nat → Nat → Prop} (h : Big2 p) : Big fun N => p N N := h.elim fun k hk => ⟨k, fun N h => hk N N h h⟩
theorem Big2.succ {p : Nat → Nat → Prop} (h : Big2 fun N n => p N (n + 1)) : Big2 p := by
 obtain ⟨k, hk⟩ := h
 refine ⟨k + 1, fun N n h1 h2 => ?_⟩
 obtain ⟨m, rfl⟩ : ∃ m, n = m + 1 := ⟨n - 1, by omega⟩
 exact hk N m (by omega) (by omega)
theorem Big2.list {α : Type} {p : α → Nat → Nat → Prop} {l : List α} (h : ∀ x ∈ l, Big2 (p x)) : Big2 fun N n => ∀ x ∈ l, p x N n := by
 induction l with
 | nil => exact .of fun N n x hx => by cases hx
 | cons a l ih =>
   refine ((h a List.mem_cons_self).and (ih fun x hx => h x (List.mem_cons_of_mem _ hx))).imp fun N n ⟨h1, h2⟩ x hx => ?_
   rcases List.mem_cons.1 hx with rfl | hx
   · exact h1
   · exact h2 x hx
theorem Big.get {p : Nat → Prop} (h : Big p) : ∃ N, p N := h.elim fun k hk => ⟨k, hk k (Nat.le_refl k)⟩
def I64 (x : Int) : Prop := -9223372036854775808 ≤ x ∧ x ≤ 9223372036854775807
theorem xCa (x : Int) : IntKind.i64.wrap x = if x % 18446744073709551616 ≥ 9223372036854775808 then x % 18446744073709551616 - 18446744073709551616 else x % 18446744073709551616 := by
 show (if (true && decide (x % 18446744073709551616 ≥ 9223372036854775808)) = true then x % 18446744073709551616 - 18446744073709551616 else x % 18446744073709551616) = _
 simp only [Bool.true_and, decide_eq_true_eq]
theorem xCm {x : Int} (h1 : -9223372036854775808 ≤ x) (h2 : x ≤ 9223372036854775807) : IntKind.i64.wrap x = x := by
 rw [xCa]
 split <;> omega
theorem xCA {α : Type} {xs : List α} {i : Nat} {x : α} {l : List α} (h : xs.drop i = x :: l) : i < xs.length ∧ xs[i]? = some x ∧ xs.drop (i + 1) = l := by
 have h1 : i < xs.length := by
  rcases Nat.lt_or_ge i xs.length with h1 | h1
  · exact h1
  · rw [List.drop_eq_nil_of_le h1] at h; cases h
 rw [List.drop_eq_getElem_cons h1] at h
 cases h
 exact ⟨h1, by simp [h1], rfl⟩
theorem xCN {α : Type} {xs : List α} {i : Nat} (h : xs.drop i = []) : xs.length ≤ i := by simpa using h
end Go.Ab
end
section
namespace Go.Ab
inductive DK (K : Nat) : D → Prop where
 | int {k n} (h : (Lit.int k n).wf = true) : DK K (.int k n)
 | bool (b) : DK K (.bool b)
 | str {s : Str} (h : s.length ≤ K) : DK K (.str s)
 | sl {sz rows} (h : rows.length ≤ K) (hr : ∀ r ∈ rows, ∀ x ∈ r, DK K x) : DK K (.sl sz rows)
theorem DFit.dk {d : D} (h : DFit d) : DK maxLen d := by
 induction h with
 | int h => exact .int h
 | bool b => exact .bool b
 | str h => exact .str h
 | sl h _ ih => exact .sl h ih
theorem xCZ {n : Int} : (Lit.int .i64 n).wf = true ↔ I64 n := by
 show (decide (_ ≤ n) && decide (n ≤ _)) = true ↔ _
 rw [Bool.and_eq_true, decide_eq_true_eq, decide_eq_true_eq]
 exact Iff.rfl
theorem DK.i64 {K : Nat} {n : Int} : DK K (.int .i64 n) ↔ I64 n := ⟨fun h => by cases h with | int h => exact xCZ.1 h, fun h => .int (xCZ.2 h)⟩
theorem DK.str_iff {K : Nat} {s : Str} : DK K (.str s) ↔ s.length ≤ K := ⟨fun h => by cases h; assumption, .str⟩
theorem DK.sl_iff {K sz : Nat} {α : Type} {f : α → List D} {xs : List α} : DK K (.sl sz (xs.map f)) ↔ xs.length ≤ K ∧ ∀ x ∈ xs, ∀ d ∈ f x, DK K d := by
 constructor
 · intro h
   cases h with
   | sl h hr => exact ⟨by simpa using h, fun x hx => hr _ (List.mem_map_of_mem hx)⟩
 · rintro ⟨h, hr⟩
   refine .sl (by simpa using h) fun r hr' => ?_
   obtain ⟨x, hx, rfl⟩ := List.mem_map.1 hr'
   exact hr x hx
def LFit {α : Type} (K : Nat) (p : α → Prop) (l : List α) : Prop := l.length ≤ K ∧ ∀ x ∈ l, p x
def Ty.Fit (K : Nat) (T : Ty) (x : T.den) : Prop := ∀ d ∈ T.toD x, DK K d
def Org.Fit (o : Org) : Prop := I64 o.cell ∧ I64 o.row
def Rowd.Fit (K : Nat) (r : Rowd) : Prop := LFit K I64 r.cells ∧ LFit K Org.Fit r.frm
def Str.Fit (K : Nat) (s : Str) : Prop := s.length ≤ K
def Exp.Fit (K : Nat) (v : Exp) : Prop := ∀ d ∈ Exp.toD v, DK K d
def Fil.Fit (K : Nat) (v : Fil) : Prop := Str.Fit K v.name ∧ I64 v.n
theorem xDV {K : Nat} {r : Rowd} : (∀ d ∈ Rowd.toD r, DK K d) ↔ r.Fit K := by
 simp only [Rowd.toD, List.mem_cons, List.not_mem_nil, or_false, forall_eq_or_imp, forall_eq, DK.sl_iff, DK.i64, Rowd.Fit, LFit, Org.Fit]
theorem xEa {K : Nat} {r : Fil} : Ty.Fit K .fil r ↔ r.Fit K := by
 simp only [Ty.Fit, Ty.toD, List.mem_cons, List.not_mem_nil, or_false, forall_eq_or_imp, forall_eq, DK.str_iff, DK.i64, Fil.Fit, Str.Fit]
theorem Exp.fit_iff {K : Nat} {v : Exp} : v.Fit K ↔ I64 v.kind ∧ I64 v.n ∧ Str.Fit K v.text ∧ LFit K (Exp.Fit K) v.args := by
 cases v
 simp only [Exp.Fit, Exp.toD, Exp.toDs_eq, List.mem_cons, List.not_mem_nil, or_false, forall_eq_or_imp, forall_eq, DK.sl_iff, DK.i64, DK.str_iff, Str.Fit, LFit, Exp.kind, Exp.n, Exp.text, Exp.args]
theorem xBP {l : List Exp} {x : Exp} (h : x ∈ l) (k n : Int) (t : Str) : SizeOf.sizeOf x < SizeOf.sizeOf (Exp.mk k n t l) := by
 have := List.sizeOf_lt_of_mem h
 simp only [Exp.mk.sizeOf_spec]
 omega
theorem Exp.ind {p : Exp → Prop} (h : ∀ k n t l, (∀ x ∈ l, p x) → p (.mk k n t l)) : ∀ v, p v
 | .mk k n t l => h k n t l fun x hx => Exp.ind h x
termination_by v => SizeOf.sizeOf v
decreasing_by exact xBP hx k n t
theorem xCe {n : Int} (h : DK maxLen (CV.int .i64 n).toD) : I64 n := DK.i64.1 h
theorem xCM {s : Str} (h : DK maxLen (CV.str s).toD) : Str.Fit maxLen s := DK.str_iff.1 h
theorem xC0 {T : Ty} {f : Fl} {xs : List T.den} (h : DK maxLen (CV.sl f T xs).toD) : LFit maxLen (T.Fit maxLen) xs := DK.sl_iff.1 h
end Go.Ab
end
section
namespace Go.Ab
theorem xBy {α σ ρ : Type} {L : Nat → Int → σ → Option ρ} (x0 : List α) (g : List α → σ → ρ) (Inv : Nat → σ → Prop)
 (hnil : ∀ n s, Inv x0.length s → L (n + 1) (x0.length : Nat) s = some (g [] s))
 (hcons : ∀ i x l s, x0.drop i = x :: l → i < x0.length → x0[i]? = some x → Inv i s →
   (∃ s', Inv (i + 1) s' ∧ g (x :: l) s = g l s' ∧ ∀ n, L (n + 1) (i : Nat) s = L n ((i + 1 : Nat) : Int) s') ∨ (∀ n, L (n + 1) (i : Nat) s = some (g (x :: l) s))) :
 ∀ n i s, Inv i s → i ≤ x0.length → x0.length < n + i → L n (i : Nat) s = some (g (x0.drop i) s) := by
 intro n
 induction n with
 | zero => intro i s _ h1 h2; omega
 | succ n ih =>
   intro i s hs hi hn
   cases hd : x0.drop i with
   | nil =>
     have := xCN hd
     obtain rfl : i = x0.length := by omega
     exact hnil n s hs
   | cons x l =>
     obtain ⟨h1, h2, h3⟩ := xCA hd
     rcases hcons i x l s hd h1 h2 hs with ⟨s', h4, h5, h6⟩ | h
     · rw [h6, ih (i + 1) s' h4 (by omega) (by omega), h3, h5]
     · exact h n
theorem xBn {α : Type} {xs : List α} {i : Nat} {x : α} (h : xs[i]? = some x) (d : α) : xs.getD i d = x := by simp [List.getD, h]
theorem xBm {i : Nat} {len : Nat} (h : i < len) (hl : len ≤ 9223372036854775807) : IntKind.i64.wrap ((i : Int) + 1) = ((i + 1 : Nat) : Int) := by
 rw [xCm (by omega) (by omega)]; omega
def left (s : Nat) (l : Int) : Int := if (s : Int) ≤ l then l - s else -1
theorem xC2 {s : Nat} {l : Int} (h : (s : Int) ≤ l) : left s l = l - s := by unfold left; rw [if_pos h]
theorem xCf {s : Nat} {l : Int} (h : ¬ (s : Int) ≤ l) : left s l = -1 := by unfold left; rw [if_neg h]
theorem xCY {s b : Nat} {F : Option Int} {R : Int → Option Int} {l : Int} (hl : s ≤ 9223372036854775807) (h0 : 0 ≤ l) (h1 : l ≤ 1048576)
 (hF : F = bif decide (IntKind.i64.wrap (l - (s : Int)) < 0) then some (-1) else R (IntKind.i64.wrap (l - (s : Int))))
 (hR : ∀ m, 0 ≤ m → m ≤ 1048576 → R m = some (left b m)) : F = some (left (s + b) l) := by
 rw [hF, xCm (by omega) (by omega)]
 by_cases h : (s : Int) ≤ l
 · rw [decide_eq_false (by omega), jF, hR _ (by omega) (by omega)]
   unfold left
   split <;> split <;> first | rfl | omega | (congr 1; omega)
 · rw [decide_eq_true (by omega), jT, xCf (by omega)]
theorem xCO {a : Nat} {l : Int} {x : Option Int} (h : x = some (left a l)) : (x.bind fun r1 => bif decide (r1 < 0) then (some (-1) : Option Int) else some r1) = some (left a l) := by
 rw [h, jS]
 unfold left
 split
 · rw [decide_eq_false (by omega)]; rfl
 · rfl
section
variable {α : Type} {d : α}
theorem xDT {L : Nat → List α → Int → Int → Option Int} {sz : α → Int → Option Int} {size : α → Nat} {x0 : List α}
 (hL : ∀ n x1 x5, L (n + 1) x0 x1 x5 = bif decide (x5 < (x0.length : Int)) then (if (0 : Int) ≤ x5 ∧ x5 < (x0.length : Int) then Option.bind (sz (x0.getD x5.toNat d) x1) fun r1 => bif decide (r1 < 0) then some (-1) else L n x0 r1 (IntKind.i64.wrap (x5 + 1)) else none) else some x1)
 (hlen : x0.length ≤ 9223372036854775807) (hsz : ∀ x ∈ x0, ∀ l, 0 ≤ l → l ≤ 1048576 → sz x l = some (left (size x) l)) {n : Nat} (hn : x0.length < n) {l : Int} (h0 : 0 ≤ l) (h1 : l ≤ 1048576) :
 L n x0 l 0 = some (left (x0.map size).sum l) := by
 have key := xBy (L := fun n i s => L n x0 s i) x0 (fun l s => left (l.map size).sum s) (fun _ s => 0 ≤ s ∧ s ≤ 1048576) (fun n s hs => by
  have hs : 0 ≤ s ∧ s ≤ 1048576 := hs
  simp only [hL]; simp [left]; omega)
  (fun i x r s hd hi hx hs => by
    have hs : 0 ≤ s ∧ s ≤ 1048576 := hs
    have hi' : (i : Int) < (x0.length : Int) := by omega
    have hm : x ∈ x0 := List.mem_of_getElem? hx
    by_cases hle : (size x : Int) ≤ s
    · refine .inl ⟨s - size x, by omega, ?_, fun n => ?_⟩
      · simp only [List.map_cons, List.sum_cons, left]
        split <;> split <;> omega
      · simp only [hL, decide_eq_true hi', jT, Int.toNat_natCast, xBn hx, hsz x hm s hs.1 hs.2, xC2 hle, jS, xBm hi hlen]
        rw [if_pos (by omega), decide_eq_false (by omega), jF]
    · refine .inr fun n => ?_
      simp only [hL, decide_eq_true hi', jT, Int.toNat_natCast, xBn hx, hsz x hm s hs.1 hs.2, xCf hle, jS]
      rw [if_pos (by omega), decide_eq_true (by omega), jT]
      simp only [List.map_cons, List.sum_cons, left]
      rw [if_neg (by omega)])
  n 0 l ⟨h0, h1⟩ (by omega) (by omega)
 simpa using key
theorem xDU {L : Nat → List α → List α → Int → Option (List α)} {to : α → Option α} {re : α → α} {x0 : List α}
 (hL : ∀ n x3 x4, L (n + 1) x0 x3 x4 = bif decide (x4 < (x0.length : Int)) then (if (0 : Int) ≤ x4 ∧ x4 < (x0.length : Int) then Option.bind (to (x0.getD x4.toNat d)) fun r1 => (if (0 : Int) ≤ x4 ∧ x4 < (x3.length : Int) then L n x0 (x3.set x4.toNat (re r1)) (IntKind.i64.wrap (x4 + 1)) else none) else none) else some x3)
 (hlen : x0.length ≤ 9223372036854775807) (hto : ∀ x ∈ x0, ∃ y, to x = some y ∧ re y = x) {n : Nat} (hn : x0.length < n) :
 L n x0 (List.replicate x0.length d) 0 = some x0 := by
 have key := xBy (L := fun n i s => L n x0 s i) x0 (fun _ _ => x0) (fun i s => s = x0.take i ++ List.replicate (x0.length - i) d) (fun n s hs => by
  have hs : s = x0.take x0.length ++ List.replicate (x0.length - x0.length) d := hs
  simp only [hL]; simp [hs])
  (fun i x r s hd hi hx hs => by
    have hs : s = x0.take i ++ List.replicate (x0.length - i) d := hs
    have hi' : (i : Int) < (x0.length : Int) := by omega
    have hm : x ∈ x0 := List.mem_of_getElem? hx
    obtain ⟨y, h1, h2⟩ := hto x hm
    have hsl : s.length = x0.length := by rw [hs]; simp; omega
    refine .inl ⟨s.set i x, ?_, rfl, fun n => ?_⟩
    · show s.set i x = x0.take (i + 1) ++ List.replicate (x0.length - (i + 1)) d
      rw [hs, List.set_append]
      have : (x0.take i).length = i := by simp; omega
      rw [this, if_neg (by omega), List.take_add_one, hx, Option.toList_some, List.append_assoc, Nat.sub_self]
      rw [show x0.length - i = (x0.length - (i + 1)) + 1 from by omega, List.replicate_succ, List.set_cons_zero]
      rfl
    · simp only [hL, decide_eq_true hi', jT, Int.toNat_natCast, xBn hx, h1, h2, jS, xBm hi hlen, hsl]
      rw [if_pos (by omega), if_pos (by omega)])
  n 0 (List.replicate x0.length d) (by simp) (by omega) (by omega)
 exact key
theorem xDI {L : Nat → Int → Option Bool} {x0 : List α} (hend : ∀ n, L (n + 1) (x0.length : Nat) = some true)
 (hcons : ∀ (i : Nat) x n, i < x0.length → x0[i]? = some x → x ∈ x0 → L (n + 1) (i : Nat) = L n ((i + 1 : Nat) : Int)) {n : Nat} (hn : x0.length < n) : L n 0 = some true := by
 have key := xBy (σ := Unit) (L := fun n i _ => L n i) x0 (fun _ _ => true) (fun _ _ => True) (fun n _ _ => hend n)
  (fun i x r s hd hi hx _ => .inl ⟨(), trivial, rfl, fun n => hcons i x n hi hx (List.mem_of_getElem? hx)⟩) n 0 () trivial (by omega) (by omega)
 exact key
end
end Go.Ab
end
section
namespace Go.Ab
theorem vk (a b c : Int) (t : Str) (l : List Val) (k : List Str) (r : List Rowd) : (Val.mk a b c t l k r).kind = a := rfl
theorem vs (a b c : Int) (t : Str) (l : List Val) (k : List Str) (r : List Rowd) : (Val.mk a b c t l k r).step = c := rfl
theorem vl (a b c : Int) (t : Str) (l : List Val) (k : List Str) (r : List Rowd) : (Val.mk a b c t l k r).list = l := rfl
theorem vr (a b c : Int) (t : Str) (l : List Val) (k : List Str) (r : List Rowd) : (Val.mk a b c t l k r).rows = r := rfl
theorem ek (a b : Int) (t : Str) (l : List Exp) : (Exp.mk a b t l).kind = a := rfl
theorem et (a b : Int) (t : Str) (l : List Exp) : (Exp.mk a b t l).text = t := rfl
theorem ea (a b : Int) (t : Str) (l : List Exp) : (Exp.mk a b t l).args = l := rfl
mutual
def Exp.size : Exp → Nat
 | .mk _ _ t a => t.length + (a.length + Exp.sizes a)
def Exp.sizes : List Exp → Nat
 | [] => 0
 | x :: r => Exp.size x + Exp.sizes r
end
theorem Exp.sizes_eq (l : List Exp) : Exp.sizes l = (l.map Exp.size).sum := by
 induction l with
 | nil => rfl
 | cons x l ih => simp [Exp.sizes, ih]
theorem xCl {α : Type} {f : α → Nat} {l : List α} {x : α} (h : x ∈ l) : f x ≤ (l.map f).sum := by
 induction l with
 | nil => cases h
 | cons a l ih =>
   simp only [List.map_cons, List.sum_cons]
   rcases List.mem_cons.1 h with rfl | h
   · omega
   · have := ih h; omega
theorem Exp.size_eq (e : Exp) : e.size = e.text.length + (e.args.length + (e.args.map Exp.size).sum) := by
 cases e; simp [Exp.size, Exp.sizes_eq, Exp.text, Exp.args]
theorem xCB {α : Type} {K M : Nat} {p q : α → Prop} {f : α → Nat} {l : List α} (h : LFit M p l) (hs : l.length + (l.map f).sum ≤ K) (hpq : ∀ x ∈ l, p x → f x ≤ K → q x) : LFit K q l :=
 ⟨by omega, fun x hx => hpq x hx (h.2 x hx) (by have := xCl (f := f) hx; omega)⟩
theorem Exp.fit_size {K M : Nat} : ∀ e : Exp, e.Fit M → e.size ≤ K → e.Fit K := by
 refine Exp.ind fun k n t l ih h hs => ?_
 rw [Exp.fit_iff] at h ⊢
 obtain ⟨h1, h2, h3, h4⟩ := h
 have hs := hs
 rw [Exp.size_eq] at hs
 exact ⟨h1, h2, show List.length _ ≤ K from by omega, xCB h4 (by omega) fun x hx => ih x hx⟩
theorem xCd (n : Nat) : Big fun N => n < N := ⟨n + 1, fun N h => by omega⟩
end Go.Ab
end
section
namespace Go.Ab
theorem xCw : ∀ e : Exp, e.Fit maxLen → Big2 fun N d => ∀ l, 0 ≤ l → l ≤ 1048576 → (xAw N d).c_laws_szExpr e l = some (left e.size l) := by
 refine Exp.ind fun k n t a ih h => ?_
 obtain ⟨h1, h2, h3, h4⟩ := Exp.fit_iff.1 h
 refine Big2.succ (Big2.succ ?_)
 refine ((Big2.list fun x hx => ih x hx (h4.2 x hx)).and (xCd a.length).two).imp fun N d ⟨hx, hn⟩ l h0 l1 => ?_
 rw [Exp.size_eq]
 exact xCY h3 h0 l1 rfl fun m m0 m1 => xCO (xCY h4.1 m0 m1 rfl fun m m0 m1 =>
  xDT (L := fun n x0 x1 x5 => xA8 N (xAw N d).c_laws_szExpr (xAw N d).c_laws_szExprS n x0 x1 x5) (d := Ty.exp.dflt) (sz := (xAw N d).c_laws_szExpr)
   (fun _ _ _ => rfl) h4.1 (fun x hxm l h0 h1 => hx x hxm l h0 h1) hn m0 m1)
theorem xCx {K : Nat} (hK : K ≤ 1048576) : ∀ e : Exp, e.Fit K → Big2 fun N d => (xAk N d).c_laws_toExpr e = some e := by
 refine Exp.ind fun k n t a ih h => ?_
 obtain ⟨h1, h2, h3, h4⟩ := Exp.fit_iff.1 h
 refine Big2.succ (Big2.succ ?_)
 refine ((Big2.list fun x hx => ih x hx (h4.2 x hx)).and (xCd a.length).two).imp fun N d ⟨hx, hn⟩ => ?_
 have hl : a.length ≤ K := h4.1
 have key : (xAk N (d + 1)).c_laws_toExprS a = some a := by
  show xAR _ _ _ a = _
  unfold xAR
  rw [if_pos ⟨by omega, rfl, by unfold Lim; omega⟩]
  exact xDU (L := fun n x0 x3 x4 => xA9 N (xAk N d).c_laws_toExpr (xAk N d).c_laws_toExprS n x0 x3 x4) (to := (xAk N d).c_laws_toExpr) (re := Exp.re) (fun _ _ _ => rfl) (by omega) (fun x hxm => ⟨x, hx x hxm, Exp.re_eq x⟩) hn
 show xAV N (xAk N (d + 1)).c_laws_toExpr (xAk N (d + 1)).c_laws_toExprS _ = _
 unfold xAV
 show Option.bind ((xAk N (d + 1)).c_laws_toExprS a) _ = _
 rw [key]; rfl
theorem xCu {K : Nat} (hK : K ≤ 9223372036854775807) : ∀ e : Exp, e.Fit K → Big2 fun N d => (xAn N d).c_laws_eqExpr e e = some true := by
 refine Exp.ind fun k n t a ih h => ?_
 obtain ⟨h1, h2, h3, h4⟩ := Exp.fit_iff.1 h
 refine Big2.succ (Big2.succ ?_)
 refine ((Big2.list fun x hx => ih x hx (h4.2 x hx)).and (xCd a.length).two).imp fun N d ⟨hx, hn⟩ => ?_
 have hl : a.length ≤ K := h4.1
 have key : (xAn N (d + 1)).c_laws_eqExprS a a = some true := by
  show xAQ _ _ _ a a = _
  unfold xAQ
  rw [bne_self_eq_false, jF]
  exact xDI (L := fun n i => xAP N (xAn N d).c_laws_eqExpr (xAn N d).c_laws_eqExprS n a a i) (fun n => by simp [xAP]) (fun i x n hi hxi hm => by
   have hi' : (i : Int) < (a.length : Int) := by omega
   simp only [xAP, decide_eq_true hi', jT, Int.toNat_natCast, xBn hxi, hx x hm, jS, xBm hi (by omega), Bool.not_true, jF]
   rw [if_pos (by omega), if_pos (by omega)]) hn
 show xAU N (xAn N (d + 1)).c_laws_eqExpr (xAn N (d + 1)).c_laws_eqExprS _ _ = _
 unfold xAU
 simp [Exp.args, key]
theorem xB9 {e : Exp} (h : e.Fit maxLen) : Big fun N => xBB N e 1048576 = some (left e.size 1048576) := (xCw e h).diag.imp fun N h => h _ (by omega) (by omega)
theorem xCK {e : Exp} (h : e.Fit 1048576) : Big fun N => xBl N e = some e := (xCx (by omega) e h).diag
theorem xCb {e : Exp} {K : Nat} (h : e.Fit K) (hK : K ≤ 9223372036854775807) : Big fun N => xBz N e e = some true := (xCu hK e h).diag
end Go.Ab
end
section
namespace Go.Ab
theorem xBU {N : Nat} {xs : List Str} {s : Str} (hl : xs.length ≤ 9223372036854775807) (hn : xs.length < N) : xBi N xs s = some (xs.any (· == s)) :=
 xBy (σ := Unit) (L := fun n i _ => xAT N n xs s i) xs (fun l _ => l.any (· == s)) (fun _ _ => True) (fun n _ _ => by simp [xAT])
  (fun i x l _ hd hi hx _ => by
    have hi' : (i : Int) < (xs.length : Int) := by omega
    cases h1 : x == s
    · refine .inl ⟨(), trivial, by simp [h1], fun n => ?_⟩
      simp only [xAT, decide_eq_true hi', jT, Int.toNat_natCast, xBn hx, h1, jF, xBm hi hl]
      rw [if_pos (by omega)]
    · refine .inr fun n => ?_
      simp only [xAT, decide_eq_true hi', jT, Int.toNat_natCast, xBn hx, h1]
      rw [if_pos (by omega)]
      simp [h1]) N 0 () trivial (by omega) (by omega)
end Go.Ab
end
section
namespace Go.Ab
theorem guard {s : Nat} (h : ¬ left s 1048576 < 0) : s ≤ 1048576 := by unfold left at h; split at h <;> omega
theorem xBV {a0 : Exp} (f0 : ∀ z ∈ [CV.int .i64 (Exp.kind a0), .int .i64 (Exp.n a0), .str (Exp.text a0), .sl .ro .exp (Exp.args a0)], DFit z.toD) : a0.Fit maxLen := by
 have f := fun z hz => (f0 z hz).dk
 simp only [List.mem_cons, List.not_mem_nil, or_false, forall_eq_or_imp, forall_eq] at f
 obtain ⟨h1, h2, h3, h4⟩ := f
 exact Exp.fit_iff.2 ⟨xCe h1, xCe h2, xCM h3, xC0 h4⟩
end Go.Ab
end
section
namespace Go.Ab
def idxS : List Str → Str → Nat → Int
 | [], _, _ => -1
 | x :: r, s, i => bif x == s then (i : Int) else idxS r s (i + 1)
theorem xBN {N : Nat} {xs : List Str} {s : Str} (hl : xs.length ≤ 9223372036854775807) (hn : xs.length < N) : xA4 N xs s = some (idxS xs s 0) :=
 xBy (L := fun n i _ => xAI N n s xs xs.length i) xs (fun l q => idxS l s q) (fun i q => q = i) (fun n q _ => by simp [xAI, idxS])
  (fun i x l q hd hi hx hq => by
    have hi' : (i : Int) < (xs.length : Int) := by omega
    have hq : q = i := hq
    subst hq
    cases h1 : x == s
    · refine .inl ⟨q + 1, rfl, by simp only [idxS, h1, jF], fun n => ?_⟩
      simp only [xAI, decide_eq_true hi', jT, Int.toNat_natCast, xBn hx, h1, jF, xBm hi hl]
      rw [if_pos (by omega)]
    · refine .inr fun n => ?_
      simp only [xAI, decide_eq_true hi', jT, Int.toNat_natCast, xBn hx, h1]
      rw [if_pos (by omega)]
      simp only [idxS, h1, jT]) N 0 0 rfl (by omega) (by omega)
end Go.Ab
end
section
namespace Go.Ab
def kb : List Val → List Int → Bool
 | [], _ => false
 | _ :: _, [] => false
 | x :: r, k :: ks => (x.kind != k) || kb r ks
end Go.Ab
end
section
namespace Go.Ab
def pick (k : Int) (n : Int) (rs : List Rowd) : List Rowd := rs.filter fun r => r.cells.getD k.toNat Ty.int.dflt == n
end Go.Ab
end
section
namespace Go.Ab
def dd (n : Nat) : Str := if n = 0 then [] else Lib.decDigits n
end Go.Ab
end
section
namespace Go.Ab
theorem xBS {s : Str} : ∀ (xs : List Str) (j : Nat), decide (idxS xs s j < 0) = !(xs.any (· == s))
 | [], j => rfl
 | x :: r, j => by
   by_cases h : (x == s) = true
   · rw [show idxS (x :: r) s j = (j : Int) from by simp only [idxS, h, jT]]
     simp only [List.any_cons, h, Bool.true_or, Bool.not_true]
     exact decide_eq_false (by omega)
   · have h := Bool.eq_false_iff.2 h
     rw [show idxS (x :: r) s j = idxS r s (j + 1) from by simp only [idxS, h, jF], xBS r (j + 1)]
     simp only [List.any_cons, h, Bool.false_or]
def inn (bd : List Str) (b : Bool) (t : Str) (f : Bool) : List Str := bif b && !f then bd ++ [t] else bd
theorem xC1 {bd : List Str} {b : Bool} {t : Str} {f : Bool} : (inn bd b t f).length ≤ bd.length + 1 := by
 unfold inn
 cases b && !f
 · simp
 · simp
def xBb (k : Int) : Bool := k == 7 || k == 9
mutual
def xA6 : Exp → Str → Str → List Str → Bool
 | .mk k n t a, p, q, bd => bif (k == 3) && !(bd.any (· == t)) then (bif t == p then bd.any (· == q) else false) else xBf a p q bd (xBb k) t true
def xBf : List Exp → Str → Str → List Str → Bool → Str → Bool → Bool
 | [], _, _, _, _, _, _ => false
 | x :: r, p, q, bd, b, t, f => xA6 x p q (inn bd b t f) || xBf r p q bd b t false
end
theorem xCJ {k n : Int} {t : Str} {a : List Exp} {x : Exp} (h : x ∈ a) : x.size + 1 ≤ (Exp.mk k n t a).size ∧ a.length ≤ (Exp.mk k n t a).size := by
 have e : (Exp.mk k n t a).size = t.length + (a.length + (a.map Exp.size).sum) := Exp.size_eq _
 have := xCl (f := Exp.size) h
 have := List.length_pos_of_mem h
 omega
theorem xCV {k n : Int} {t : Str} {a : List Exp} : a.length ≤ (Exp.mk k n t a).size := by
 rw [Exp.size_eq]
 show a.length ≤ t.length + (a.length + (a.map Exp.size).sum)
 omega
theorem xEb {k : Int} (h : (k == 3) = true) : xBb k = false ∧ (k == 7) = false ∧ (k == 9) = false := by
 have : k = 3 := by simpa using h
 subst this; exact ⟨rfl, rfl, rfl⟩
section
variable {N d : Nat} {k n : Int} {t : Str} {a : List Exp} {bd : List Str}
theorem xCX {i : Nat} (h : (decide ((i : Int) > 0)) = true) : (i == 0) = false := by
 have := of_decide_eq_true h
 simp; omega
theorem xCL {i : Nat} (h : (decide ((i : Int) > 0)) = false) : (i == 0) = true := by
 have := of_decide_eq_false h
 simp; omega
end
end Go.Ab
end
section
namespace Go.Ab
section
variable {N d : Nat} {k n : Int} {t : Str} {a : List Exp} {bd : List Str}
theorem xDG (hN : 4000000 < N) (hbd : bd.length + 1 ≤ 4000000) (hal : a.length ≤ 4000000) {b : Bool} {e : Exp} {o : Bool} {p q : Str} (ht : e.text = t)
 {f : Exp → List Str → Bool → Str → Str → Option (Bool × Str × Str)} (hq : ∀ x ∈ a, ∀ g o, f x (inn bd b t g) o p q = some (o || xA6 x p q (inn bd b t g), p, q)) :
 xAc N f N bd b a a.length 0 e o p q = some (o || xBf a p q bd b t true, p, q) := by
 have key := xBy (σ := Bool × Bool) (L := fun m i s => xAc N f m bd b a a.length i e s.1 p q) a (fun l s => (s.1 || xBf l p q bd b t s.2, p, q)) (fun i s => s.2 = (i == 0))
  (fun m s _ => by simp [xAc, xBf])
  (fun i x l s hd hi hxi hs1 => by
    have hi' : (i : Int) < (a.length : Int) := by omega
    have hm := List.mem_of_getElem? hxi
    have hqx := hq x hm s.2 s.1
    refine .inl ⟨(s.1 || xA6 x p q (inn bd b t s.2), false), by simp, by simp only [xBf, Bool.or_assoc], fun m => ?_⟩
    simp only [xAc, decide_eq_true hi', jT, Int.toNat_natCast, xBn hxi, ht, List.nil_append, xBm hi (by omega : a.length ≤ _)]
    rw [if_pos (by omega)]
    unfold inn at hqx ⊢
    cases b with
    | false => simp only [Bool.false_and, jF] at hqx ⊢; rw [hqx]; rfl
    | true =>
      cases hp : decide ((i : Int) > 0) with
      | true =>
        rw [hs1, xCX hp] at hqx ⊢
        simp only [Bool.not_false, Bool.and_true, jT] at hqx ⊢
        rw [if_pos (by unfold Lim; omega), if_pos (by simp only [List.length_singleton]; unfold Lim; omega), hqx]; rfl
      | false =>
        rw [hs1, xCL hp] at hqx ⊢
        simp only [Bool.not_true, Bool.and_false, jF, jT] at hqx ⊢
        rw [hqx]; rfl) N 0 (o, true) rfl (by omega) (by omega)
 exact key
theorem xDF (hN : 4000000 < N) (hbd : bd.length + 1 ≤ 4000000) (hal : a.length ≤ 4000000) {p q : Str}
 {f : Exp → Str → Str → List Str → Option Bool} (hq : ∀ x ∈ a, ∀ g, f x p q (inn bd (xBb k) t g) = some (xA6 x p q (inn bd (xBb k) t g))) :
 xAf N f N p q bd 0 (.mk k n t a) = some (xBf a p q bd (xBb k) t true) := by
 have key := xBy (σ := Bool) (L := fun m i s => xAf N f m p q bd i (.mk k n t a)) a (fun l s => xBf l p q bd (xBb k) t s) (fun i s => s = (i == 0))
  (fun m s _ => by simp [xAf, xBf, ea])
  (fun i x l s hd hi hxi hs1 => by
    have hi' : (i : Int) < (a.length : Int) := by omega
    have hm := List.mem_of_getElem? hxi
    have hqx := hq x hm s
    have hi2 : (i : Int) < ((Exp.mk k n t a).args.length : Int) := hi'
    have hil : (0 : Int) ≤ (i : Int) ∧ (i : Int) < ((Exp.mk k n t a).args.length : Int) := ⟨by omega, hi2⟩
    have hxi2 : (Exp.mk k n t a).args[i]? = some x := hxi
    have hg0 : 0 + bd.length ≤ Lim := by unfold Lim; omega
    have hg1 : bd.length + [t].length ≤ Lim := by simp only [List.length_singleton]; unfold Lim; omega
    have step : ∀ m, xAf N f (m + 1) p q bd i (.mk k n t a) = bif xA6 x p q (inn bd (xBb k) t s) then some true else xAf N f m p q bd ((i + 1 : Nat) : Int) (.mk k n t a) := by
     intro m
     simp only [xAf, et, ek, decide_eq_true hi2, jT, Int.toNat_natCast, xBn hxi2, List.nil_append, xBm hi (by omega : a.length ≤ _), if_pos hil, if_pos hg0, if_pos hg1]
     unfold xBb inn at hqx ⊢
     cases h7 : k == 7 <;> cases h9 : k == 9 <;> cases hp : decide ((i : Int) > 0) <;> simp only [h7, h9, hp, hs1, Bool.or_false, Bool.or_true, Bool.false_and, Bool.true_and, jF, jT] at hqx ⊢ <;>
      first
      | (rw [hqx]; rfl)
      | (rw [xCL hp] at hqx ⊢; simp only [Bool.not_true, jF] at hqx ⊢; rw [hqx]; rfl)
      | (rw [xCX hp] at hqx ⊢; simp only [Bool.not_false, jT] at hqx ⊢; rw [hqx]; rfl)
    cases hc : xA6 x p q (inn bd (xBb k) t s)
    · refine .inl ⟨false, by simp, by simp only [xBf, hc, Bool.false_or], fun m => ?_⟩
      rw [step, hc]; rfl
    · refine .inr fun m => ?_
      rw [step, hc]; simp only [jT, xBf, hc, Bool.true_or]) N 0 true rfl (by omega) (by omega)
 exact key
end
theorem xCt (p q : Str) : ∀ e : Exp, Big2 fun N d => ∀ bd o, bd.length + e.size ≤ 3000000 →
 xAF N d e p q bd = some (xA6 e p q bd) ∧ xAe N d e bd o p q = some (o || xA6 e p q bd, p, q) := by
 refine Exp.ind fun k n t a ih => ?_
 refine Big2.succ ?_
 refine ((Big2.list fun x hx => ih x hx).and (xCd 8000000).two).imp fun N d ⟨hx, hN⟩ bd o hb => ?_
 have hal := xCV (k := k) (n := n) (t := t) (a := a)
 have hc : ∀ x ∈ a, ∀ (f : Bool), (inn bd (xBb k) t f).length + x.size ≤ 3000000 := fun x hm f => by
  have h1 := xC1 (bd := bd) (b := xBb k) (t := t) (f := f)
  have h2 := (xCJ (k := k) (n := n) (t := t) hm).1
  omega
 have hS := xDF (N := N) (k := k) (n := n) (t := t) (a := a) (bd := bd) (p := p) (q := q) (f := xAF N d) (by omega) (by omega) (by omega) fun x hm f => (hx x hm (inn bd (xBb k) t f) false (hc x hm f)).1
 have hV : ∀ (b : Bool) , b = xBb k → xAc N (xAe N d) N bd b a a.length 0 (.mk k n t a) o p q = some (o || xBf a p q bd (xBb k) t true, p, q) := by
  rintro b rfl
  exact xDG (by omega) (by omega) (by omega) rfl fun x hm f o => (hx x hm (inn bd (xBb k) t f) o (hc x hm f)).2
 have hH : ∀ s, xBi N bd s = some (bd.any (· == s)) := fun s => xBU (by omega) (by omega)
 have hI : ∀ s, xA4 N bd s = some (idxS bd s 0) := fun s => xBN (by omega) (by omega)
 have hge : ∀ s, decide (idxS bd s 0 ≥ 0) = bd.any (· == s) := fun s => by
  have := xBS (s := s) bd 0
  cases ha : bd.any (· == s)
  · rw [ha] at this; exact decide_eq_false (by have := of_decide_eq_true this; omega)
  · rw [ha] at this; exact decide_eq_true (by have := of_decide_eq_false this; omega)
 refine ⟨?_, ?_⟩
 · show xAM N (xAF N d) (.mk k n t a) p q bd = _
   simp only [xAM, xA6, ek, et, hH, jS, hS]
   cases k == 3 <;> cases bd.any (· == t) <;> cases t == p <;> rfl
 · show xAg N (xAe N d) (.mk k n t a) bd o p q = _
   simp only [xAg, xA6, ek, et, ea, hI, jS, xBS]
   cases h3 : k == 3
   · simp only [jF, Bool.false_and]
     cases h7 : k == 7
     · cases h9 : k == 9
       · simp only [jF]; exact hV false (by simp [xBb, h7, h9])
       · simp only [jT, jF]; exact hV true (by simp [xBb, h7, h9])
     · simp only [jT]; exact hV true (by simp [xBb, h7])
   · obtain ⟨g1, g7, g9⟩ := xEb h3
     cases bd.any (· == t)
     · simp only [jT, Bool.not_false, Bool.and_true, xA2, hI, jS, hge]
       cases o <;> cases t == p <;> simp
     · simp only [jT, Bool.not_true, Bool.and_false, jF, g9]
       exact hV false g1.symm
end Go.Ab
end
section
namespace Go.Ab
abbrev e0 : Exp := .mk 0 0 [] []
end Go.Ab
end
section
namespace Go.Ab
theorem xCz {e : Exp} {p q : Str} (hs : e.size ≤ 1048576) : Big fun N => xAY N e p q = some (xA6 e p q []) ∧ xA1 N e p q = some (xA6 e p q []) := by
 refine (xCt p q e).diag.imp fun N h => ?_
 obtain ⟨h1, h2⟩ := h [] false (by simp; omega)
 have h1' : xBo N e p q [] = some (xA6 e p q []) := h1
 have h2' : xAB N e [] false p q = some (false || xA6 e p q [], p, q) := h2
 simp only [xAY, xA1, h1', h2', jS, Bool.false_or]
 exact ⟨trivial, trivial⟩
theorem xBk (a0 : Exp) (a1 : Str) (a2 : Str) (f0 : ∀ z ∈ [CV.int .i64 (Exp.kind a0), CV.int .i64 (Exp.n a0), CV.str (Exp.text a0), CV.sl .ro .exp (Exp.args a0)], DFit z.toD) (f1 : ∀ z ∈ [CV.str a1], DFit z.toD) (f2 : ∀ z ∈ [CV.str a2], DFit z.toD) : ∃ N, xAq N a0 a1 a2 = some true := by
 have hF := xBV f0
 by_cases g1 : ((a1.length : Int) : Int) > 1048576
 · exact ⟨0, by simp [xAq, decide_eq_true g1]⟩
 by_cases g2 : ((a2.length : Int) : Int) > 1048576
 · exact ⟨0, by simp [xAq, decide_eq_false g1, decide_eq_true g2]⟩
 by_cases h : left a0.size 1048576 < 0
 · exact ((xB9 hF).imp fun N hs => by simp [xAq, decide_eq_false g1, decide_eq_false g2, hs, h]).get
 · have hs := guard h
   have hfit : a0.Fit 1048576 := Exp.fit_size a0 hF hs
   refine (((xB9 hF).and (xCK hfit)).and ((xCz (p := a1) (q := a2) hs).and (xCb hfit (by omega)))).imp (fun N ⟨⟨h1, h2⟩, ⟨h3, h4⟩, h5⟩ => ?_) |>.get
   simp only [xAq, decide_eq_false g1, decide_eq_false g2, h1, h2, h3, h4, h5, jS, decide_eq_false h, jF, beq_self_eq_true, Bool.not_true]
end Go.Ab
end
section
namespace Go.Proofs.Ytkfoneofdidhkaa
open Go.Ab Go.ChangeShapes Go.WideShapes Go.ChangeAt Go.RowKit
theorem own : ownKnob Try.prog.godebug = none := by kernel_rfl
theorem xCc : laidOutB Try.prog = true := by kernel_rfl
theorem xAX : zG6 Try.prog [(24, .exp)] = true := by kernel_rfl
set_option maxRecDepth 100000 in
theorem fnExactIsCaptured_lifted (os : Os) (started : os.Started) (H : Type) (enc : TypeId × Value → H) :
 ReturnsInHanded {} Try.checked os 3 .any (Rows.fnExactIsCapturedSpec.pre6 enc Try.prog Try.f3 Rows.fnExactIsCapturedRow.domain false) (Rows.fnExactIsCapturedSpec.post enc Try.prog Try.f3 false true false false) := by
 refine returnsInHanded_of_change (C := Try.checked) own started (by kernel_rfl) Try.func3
  (ChangeSpec.witness6 (enc := enc) (C := Try.checked) false ⟨#[], #[.agg #[.int .i64 0, .int .i64 0, .string ByteArray.empty, .slice none 0 0], .string ByteArray.empty, .string ByteArray.empty], []⟩ 8 (by kernel_rfl) (by kernel_rfl) (by kernel_rfl) (by kernel_rfl)) ?_
 intro W base args ds gs before hval0 hW hcnd _
 letI : Inhabited Lb := ⟨⟨[]⟩⟩
 have hval : ∀ (j : Nat) t v, Try.f3.params[j]? = some t → args[j]? = some v → Value.okWide Try.prog W .any base t v := hval0
 have hW' := hW
 obtain ⟨p, q, hA0, hV, rfl, hfz, hnd⟩ := hW
 have hA : DataW.TrodAll enc Try.prog W 0 (fun _ => true) true Try.f3.params.toList args.toList ds p := hA0
 rw [Try.params3] at hA hval
 obtain ⟨v0, vs0, d0, ds0, p0, q0, hargs, rfl, rfl, h0, r0⟩ := trodAll_cons hA
 obtain ⟨v1, vs1, d1, ds1, p1, q1, rfl, rfl, rfl, h1, r1⟩ := trodAll_cons r0
 obtain ⟨v2, vs2, d2, ds2, p2, q2, rfl, rfl, rfl, h2, r2⟩ := trodAll_cons r1
 obtain ⟨rfl, rfl, rfl⟩ := trodAll_nil r2
 obtain rfl : args = #[v0, v1, v2] := by cases args; simp_all
 obtain ⟨rfl, rfl⟩ := trodVars_none hV
 have lt0 : ∀ x ∈ p0, x.block < W.heap.size := by obtain ⟨m, hm⟩ := h0; exact DataW.trod_lt m _ _ _ hm
 have lt1 : ∀ x ∈ p1, x.block < W.heap.size := by obtain ⟨m, hm⟩ := h1; exact DataW.trod_lt m _ _ _ hm
 have lt2 : ∀ x ∈ p2, x.block < W.heap.size := by obtain ⟨m, hm⟩ := h2; exact DataW.trod_lt m _ _ _ hm
 obtain ⟨z0, e0, f0, vr0⟩ := vr_of xAX (g := true) (t := 24) (ns := [.inl (.int .i64), .inl (.int .i64), .inl .str, .inr .exp]) (by kernel_rfl) (hval 0 24 v0 rfl rfl) h0
 obtain ⟨x0_0, _, rfl, e0_0⟩ := AreOf.int_inv e0
 obtain ⟨x0_1, _, rfl, e0_1⟩ := AreOf.int_inv e0_0
 obtain ⟨x0_2, _, rfl, e0_2⟩ := AreOf.str_inv e0_1
 obtain ⟨x0_3, _, rfl, e0_3⟩ := AreOf.sl_inv e0_2
 obtain rfl := e0_3.nil_inv
 obtain ⟨z1, e1, f1, vr1⟩ := vr_of xAX (g := false) (t := 9) (ns := [.inl .str]) (by kernel_rfl) (hval 1 9 v1 rfl rfl) h1
 obtain ⟨x1_0, _, rfl, e1_0⟩ := AreOf.str_inv e1
 obtain rfl := e1_0.nil_inv
 obtain ⟨z2, e2, f2, vr2⟩ := vr_of xAX (g := false) (t := 9) (ns := [.inl .str]) (by kernel_rfl) (hval 2 9 v2 rfl rfl) h2
 obtain ⟨x2_0, _, rfl, e2_0⟩ := AreOf.str_inv e2
 obtain rfl := e2_0.nil_inv
 obtain ⟨N, hF⟩ := xBk (Exp.mk x0_0 x0_1 x0_2 x0_3) x1_0 x2_0 f0 f1 f2
 clear hA0 hval0
 refine (zI8 T.fk3 (T.laws_FnExactIsCaptured_ok hF) (W := W) (args := #[v0, v1, v2]) ⟨vr0 _, vr1 _, vr2 _, trivial⟩ (fun x hx => nomatch hx)).mono fun e W' ⟨he, bel⟩ => ?_
 subst he
 exact ⟨_, rfl, _, _, _, [], _, [], hW', trodAll_mk1 (shut_bool Try.underlying4 _), (trodAll_cons_mk (Below.trod xCc (by kernel_rfl) (of_decide_eq_true (by kernel_rfl)) h0 bel lt0) (trodAll_cons_mk (Below.trod xCc (by kernel_rfl) (of_decide_eq_true (by kernel_rfl)) h1 bel lt1) (trodAll_cons_mk (Below.trod xCc (by kernel_rfl) (of_decide_eq_true (by kernel_rfl)) h2 bel lt2) trodAll_mk0))), rfl, bel.frame _, fun h => by cases h⟩
theorem fnExactIsCaptured_proved : Rows.FnExactIsCapturedSaid :=
 OpenClaim.holds_of_wide 3 Try.f3 rfl rfl rfl rfl rfl rfl rfl ⟨rfl, rfl, rfl, rfl, rfl⟩ rfl rfl rfl rfl rfl (by kernel_rfl) Try.func3 (by kernel_rfl)
  (of_decide_eq_true (by kernel_rfl)) (by unfold Func.isWrapper; first | (rw [if_pos (by decide +kernel)]; kernel_rfl) | (rw [if_neg (by decide +kernel)]; exact ⟨rfl, rfl⟩))
  (fun os started H enc _ => fnExactIsCaptured_lifted os started H enc)
end Go.Proofs.Ytkfoneofdidhkaa
end
