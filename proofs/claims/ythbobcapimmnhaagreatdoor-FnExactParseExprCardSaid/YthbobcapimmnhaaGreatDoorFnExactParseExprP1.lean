/- The statement FnExactParseExpr holds: plain functions, certificates, laws. Conditions: none. -/
import Derived.Test.YthbobcapimmnhaaGreatDoorL2
import Derived.Test.YthbobcapimmnhaaGreatDoorFnExactParseExprP0
set_option linter.all false
section
open Go.Proofs
namespace Go.Ab.T
set_option linter.unusedVariables false
set_option maxRecDepth 100000
variable [Inhabited Lb]
variable [Nonempty Tab10]
variable [Nonempty ErrVars]
def G137 (q : Rdr → Str → Option ((List Exp) × Rdr)) : Prop := ∀ a0 a1 r, q a0 a1 = some r → AbC 137 (xDy a0 a1) (xB5 r)
def G127 (q : Rdr → Option (Exp × Rdr)) : Prop := ∀ a0 r, q a0 = some r → AbC 127 (xBo a0) (xBa r)
def G48 (q : Rdr → Option (Exp × Rdr)) : Prop := ∀ a0 r, q a0 = some r → AbC 48 (xC7 a0) (xCO r)
def G28 (q : Rdr → Option (Exp × Rdr)) : Prop := ∀ a0 r, q a0 = some r → AbC 28 (xAJ a0) (xAi r)
def G110 (q : Rdr → Option (Exp × Rdr)) : Prop := ∀ a0 r, q a0 = some r → AbC 110 (xCo a0) (xBb r)
def G88 (q : Rdr → Option (Exp × Rdr)) : Prop := ∀ a0 r, q a0 = some r → AbC 88 (xDs a0) (xBT r)
noncomputable def I137 : Info := { body := (Tryz.f137.body).getD .skip, nt := 44, results := [.tmp 4], keep := [0, 2, 8, 10, 18, 46, 62, 1], live := [(5, [0, 2, 10, 1])], modes := [(4, [(0, .take, false)]), (6, [(0, .take, false), (4, .take, false)]), (10, [(0, .take, false)])], ext := [0], casts := [(5, [(10, 0, false)])], fcast := [(8, 0, false)] }
theorem fk137 : FnOk Tryz.prog 137 Tryz.f137 I137 := ⟨Tryz.func137, by kernel_rfl, by kernel_rfl, by kernel_rfl, by kernel_rfl⟩
def S137_5 (x1 : Str) (x5 : List Exp) (b0 : Rdr) : St := [(0, .v false [.ptr 0 0]), (2, .v false [.str x1]), (10, .v false [.sl .tip .exp x5]), (1, .v true [.sl .ro .tok (Rdr.toks b0), .int .i64 (Rdr.i b0), .int .i64 (Rdr.fin b0), .int .i64 (Rdr.bad b0)])]
theorem p137_5_0 (x1 : Str) (x5 : List Exp) (b0 : Rdr) (r1 : Exp × Rdr) (r2 : Bool × Rdr) (r3 : Rdr) : rS 5 I137 (S137_5 x1 x5 b0) [Y, Y] [xAi r1, xAf r2, xAN r3] = dn (xB5 ((x5 ++ [(Exp.re r1.1)]), r3)) [(decide (((Rdr.bad b0) : Int) < 0)) = true, AbC 28 (xAJ b0) (xAi r1), Ln x5 + Ln [(Exp.re r1.1)] ≤ Lim, AbC 45 (xAo r1.2 [44]) (xAf r2), (!r2.1) = true, AbC 47 (xBG r2.2 x1) (xAN r3)] := by kernel_rfl
theorem p137_5_1 (x1 : Str) (x5 : List Exp) (b0 : Rdr) (r1 : Exp × Rdr) (r2 : Bool × Rdr) : rS 5 I137 (S137_5 x1 x5 b0) [Y, F] [xAi r1, xAf r2] = st 5 I137 (S137_5 x1 (x5 ++ [(Exp.re r1.1)]) (Rdr.mk (Rdr.toks r2.2) (W ((Rdr.i r2.2) + 1)) (Rdr.fin r2.2) (Rdr.bad r2.2))) [(decide (((Rdr.bad b0) : Int) < 0)) = true, AbC 28 (xAJ b0) (xAi r1), Ln x5 + Ln [(Exp.re r1.1)] ≤ Lim, AbC 45 (xAo r1.2 [44]) (xAf r2), (!r2.1) = false] := by kernel_rfl
theorem p137_5_2 (x1 : Str) (x5 : List Exp) (b0 r1 : Rdr) : rS 5 I137 (S137_5 x1 x5 b0) [F] [xAN r1] = dn (xB5 (x5, r1)) [(decide (((Rdr.bad b0) : Int) < 0)) = false, AbC 47 (xBG b0 x1) (xAN r1)] := by kernel_rfl
theorem p137_e_3 (a0 : Rdr) (a1 : Str) (r1 : Bool × Rdr) : rE I137 (xDy a0 a1) [Y] [xAf r1] = dn (xB5 ([], (Rdr.mk (Rdr.toks r1.2) (W ((Rdr.i r1.2) + 1)) (Rdr.fin r1.2) (Rdr.bad r1.2)))) [AbC 45 (xAo a0 a1) (xAf r1), r1.1 = true] := by kernel_rfl
theorem p137_e_4 (a0 : Rdr) (a1 : Str) (r1 : Bool × Rdr) : rE I137 (xDy a0 a1) [F] [xAf r1] = st 5 I137 (S137_5 a1 [] r1.2) [AbC 45 (xAo a0 a1) (xAf r1), r1.1 = false] := by kernel_rfl
theorem c137_5 {N : Nat} {q0 : Rdr → Str → Option ((List Exp) × Rdr)} (g0 : G137 q0) {q1 : Rdr → Option (Exp × Rdr)} (g1 : G127 q1) {q2 : Rdr → Option (Exp × Rdr)} (g2 : G48 q2) {q3 : Rdr → Option (Exp × Rdr)} (g3 : G28 q3) {q4 : Rdr → Option (Exp × Rdr)} (g4 : G110 q4) {q5 : Rdr → Option (Exp × Rdr)} (g5 : G88 q5) : ∀ n x1 x5 b0 r, xEf N q0 q1 q2 q3 q4 q5 n x1 x5 b0 = some r → RS Tryz.f137 I137 5 (S137_5 x1 x5 b0) (xB5 r) := by
 intro n
 induction n with
 | zero => exact fun _ _ _ _ h => nE h
 | succ n ih =>
  exact fun x1 x5 b0 r h =>
   cE h (fun h0 h => bE h fun r1 h1 h => iE h fun h2 h => bE h fun r2 h3 h => cE h (fun h4 h => bE h fun r3 h5 h => dS h fk137 (p137_5_0 x1 x5 b0 r1 r2 r3) (oc h0 (oc (g3 _ _ h1) (oc h2 (oc (xAz h3) (oc h4 (oc (xCz h5) on))))))) fun h4 h =>
   tS fk137 (p137_5_1 x1 x5 b0 r1 r2) (oc h0 (oc (g3 _ _ h1) (oc h2 (oc (xAz h3) (oc h4 on))))) (ih _ _ _ _ h)) fun h0 h =>
   bE h fun r1 h1 h => dS h fk137 (p137_5_2 x1 x5 b0 r1) (oc h0 (oc (xCz h1) on))
theorem c137_e {N : Nat} {q0 : Rdr → Str → Option ((List Exp) × Rdr)} (g0 : G137 q0) {q1 : Rdr → Option (Exp × Rdr)} (g1 : G127 q1) {q2 : Rdr → Option (Exp × Rdr)} (g2 : G48 q2) {q3 : Rdr → Option (Exp × Rdr)} (g3 : G28 q3) {q4 : Rdr → Option (Exp × Rdr)} (g4 : G110 q4) {q5 : Rdr → Option (Exp × Rdr)} (g5 : G88 q5) : ∀ a0 a1 r, xDm N q0 q1 q2 q3 q4 q5 a0 a1 = some r → RE Tryz.f137 I137 (xDy a0 a1) (xB5 r) := fun a0 a1 r h =>
 bE h fun r1 h0 h => cE h (fun h1 h => dE h fk137 (p137_e_3 a0 a1 r1) (oc (xAz h0) (oc h1 on))) fun h1 h =>
 tE fk137 (p137_e_4 a0 a1 r1) (oc (xAz h0) (oc h1 on)) (c137_5 g0 g1 g2 g3 g4 g5 _ _ _ _ _ h)
theorem xGK {N : Nat} {q0 : Rdr → Str → Option ((List Exp) × Rdr)} (g0 : G137 q0) {q1 : Rdr → Option (Exp × Rdr)} (g1 : G127 q1) {q2 : Rdr → Option (Exp × Rdr)} (g2 : G48 q2) {q3 : Rdr → Option (Exp × Rdr)} (g3 : G28 q3) {q4 : Rdr → Option (Exp × Rdr)} (g4 : G110 q4) {q5 : Rdr → Option (Exp × Rdr)} (g5 : G88 q5) {a0 : Rdr} {a1 : Str} {r : (List Exp) × Rdr} (h : xDm N q0 q1 q2 q3 q4 q5 a0 a1 = some r) : AbC 137 (xDy a0 a1) (xB5 r) :=
 AbsCalls.of_reach fk137 rfl rfl (Nat.le_of_ble_eq_true rfl) (c137_e g0 g1 g2 g3 g4 g5 a0 a1 r h)
noncomputable def I127 : Info := { body := (Tryz.f127.body).getD .skip, nt := 141, results := [.cell 2 25], keep := [0, 4, 6, 8, 42, 68, 98, 128, 168, 218, 246, 1, 5, 7, 9], live := [], modes := [(1, [(5, .take, false)]), (10, [(3, .take, false)]), (13, [(3, .take, false)])], ext := [0], fcast := [(5, 3, true)] }
theorem fk127 : FnOk Tryz.prog 127 Tryz.f127 I127 := ⟨Tryz.func127, by kernel_rfl, by kernel_rfl, by kernel_rfl, by kernel_rfl⟩
theorem p127_e_0 (a0 : Rdr) (r1 : Exp × Rdr) : rE I127 (xBo a0) [Y, Y] [xAH r1] = dn (xBa (r1.1, r1.2)) [(decide (((Rdr.bad a0) : Int) ≥ 0)) = true, true = true, AbC 29 (xBp a0) (xAH r1)] := by kernel_rfl
theorem p127_e_1 (a0 : Rdr) (r1 : Exp × Rdr) : rE I127 (xBo a0) [F, Y] [xAH r1] = dn (xBa (r1.1, r1.2)) [(decide (((Rdr.bad a0) : Int) ≥ 0)) = false, (decide (((Rdr.i a0) : Int) ≥ (Ln (Rdr.toks a0) : Int))) = true, AbC 29 (xBp a0) (xAH r1)] := by kernel_rfl
theorem p127_e_2 (a0 : Rdr) (r1 : Exp) : rE I127 (xBo a0) [F, F, Y] [xEN r1] = dn (xBa (r1, (Rdr.mk (Rdr.toks a0) (W ((Rdr.i a0) + 1)) (Rdr.fin a0) (Rdr.bad a0)))) [(decide (((Rdr.bad a0) : Int) ≥ 0)) = false, (decide (((Rdr.i a0) : Int) ≥ (Ln (Rdr.toks a0) : Int))) = false, (0 : Int) ≤ (Rdr.i a0) ∧ (Rdr.i a0) < (Ln (Rdr.toks a0)), (((Tok.kind (gD (Rdr.toks a0) (tN (Rdr.i a0)) Ty.tok.dflt)) : Int) == 2) = true, AbC 67 (xFj (Tok.n (gD (Rdr.toks a0) (tN (Rdr.i a0)) Ty.tok.dflt))) (xEN r1)] := by kernel_rfl
theorem p127_e_3 (a0 : Rdr) : rE I127 (xBo a0) [F, F, F, Y] [] = dn (xBa ((Exp.mk 2 0 (Tok.text (gD (Rdr.toks a0) (tN (Rdr.i a0)) Ty.tok.dflt)) []), (Rdr.mk (Rdr.toks a0) (W ((Rdr.i a0) + 1)) (Rdr.fin a0) (Rdr.bad a0)))) [(decide (((Rdr.bad a0) : Int) ≥ 0)) = false, (decide (((Rdr.i a0) : Int) ≥ (Ln (Rdr.toks a0) : Int))) = false, (0 : Int) ≤ (Rdr.i a0) ∧ (Rdr.i a0) < (Ln (Rdr.toks a0)), (((Tok.kind (gD (Rdr.toks a0) (tN (Rdr.i a0)) Ty.tok.dflt)) : Int) == 2) = false, (((Tok.kind (gD (Rdr.toks a0) (tN (Rdr.i a0)) Ty.tok.dflt)) : Int) == 3) = true] := by kernel_rfl
theorem p127_e_4 (a0 : Rdr) (r1 : Bool) (r2 : Exp) : rE I127 (xBo a0) [F, F, F, F, Y, Y] [xAB r1, xEA r2] = dn (xBa (r2, (Rdr.mk (Rdr.toks a0) (W ((Rdr.i a0) + 1)) (Rdr.fin a0) (Rdr.bad a0)))) [(decide (((Rdr.bad a0) : Int) ≥ 0)) = false, (decide (((Rdr.i a0) : Int) ≥ (Ln (Rdr.toks a0) : Int))) = false, (0 : Int) ≤ (Rdr.i a0) ∧ (Rdr.i a0) < (Ln (Rdr.toks a0)), (((Tok.kind (gD (Rdr.toks a0) (tN (Rdr.i a0)) Ty.tok.dflt)) : Int) == 2) = false, (((Tok.kind (gD (Rdr.toks a0) (tN (Rdr.i a0)) Ty.tok.dflt)) : Int) == 3) = false, (((Tok.kind (gD (Rdr.toks a0) (tN (Rdr.i a0)) Ty.tok.dflt)) : Int) == 1) = true, AbC 87 (xA7 (Tok.text (gD (Rdr.toks a0) (tN (Rdr.i a0)) Ty.tok.dflt))) (xAB r1), r1 = true, AbC 101 (xE9 (Tok.text (gD (Rdr.toks a0) (tN (Rdr.i a0)) Ty.tok.dflt))) (xEA r2)] := by kernel_rfl
theorem p127_e_5 (a0 : Rdr) (r1 : Bool) (r2 : Int) (r3 : Rdr) (r4 : (List Exp) × Rdr) : rE I127 (xBo a0) [F, F, F, F, Y, F, Y, Y] [xAB r1, xAk r2, xAN r3, xB5 r4] = dn (xBa ((Exp.mk 5 0 (Tok.text (gD (Rdr.toks a0) (tN (Rdr.i a0)) Ty.tok.dflt)) r4.1), r4.2)) [(decide (((Rdr.bad a0) : Int) ≥ 0)) = false, (decide (((Rdr.i a0) : Int) ≥ (Ln (Rdr.toks a0) : Int))) = false, (0 : Int) ≤ (Rdr.i a0) ∧ (Rdr.i a0) < (Ln (Rdr.toks a0)), (((Tok.kind (gD (Rdr.toks a0) (tN (Rdr.i a0)) Ty.tok.dflt)) : Int) == 2) = false, (((Tok.kind (gD (Rdr.toks a0) (tN (Rdr.i a0)) Ty.tok.dflt)) : Int) == 3) = false, (((Tok.kind (gD (Rdr.toks a0) (tN (Rdr.i a0)) Ty.tok.dflt)) : Int) == 1) = true, AbC 87 (xA7 (Tok.text (gD (Rdr.toks a0) (tN (Rdr.i a0)) Ty.tok.dflt))) (xAB r1), r1 = false, (((Tok.kind (gD (Rdr.toks a0) (tN (Rdr.i a0)) Ty.tok.dflt)) : Int) == 1) = true, AbC 106 (xAr (Tok.text (gD (Rdr.toks a0) (tN (Rdr.i a0)) Ty.tok.dflt))) (xAk r2), (decide ((r2 : Int) ≥ 0)) = true, AbC 47 (xBG (Rdr.mk (Rdr.toks a0) (W ((Rdr.i a0) + 1)) (Rdr.fin a0) (Rdr.bad a0)) [40]) (xAN r3), AbC 137 (xDy r3 [41]) (xB5 r4)] := by kernel_rfl
theorem p127_e_6 (a0 : Rdr) (r1 : Bool) (r2 : Int) (r3 : Bool) (r4 : (List Exp) × Rdr) : rE I127 (xBo a0) [F, F, F, F, Y, F, Y, F, Y] [xAB r1, xAk r2, xAE r3, xB5 r4] = dn (xBa ((Exp.mk 4 0 [] r4.1), r4.2)) [(decide (((Rdr.bad a0) : Int) ≥ 0)) = false, (decide (((Rdr.i a0) : Int) ≥ (Ln (Rdr.toks a0) : Int))) = false, (0 : Int) ≤ (Rdr.i a0) ∧ (Rdr.i a0) < (Ln (Rdr.toks a0)), (((Tok.kind (gD (Rdr.toks a0) (tN (Rdr.i a0)) Ty.tok.dflt)) : Int) == 2) = false, (((Tok.kind (gD (Rdr.toks a0) (tN (Rdr.i a0)) Ty.tok.dflt)) : Int) == 3) = false, (((Tok.kind (gD (Rdr.toks a0) (tN (Rdr.i a0)) Ty.tok.dflt)) : Int) == 1) = true, AbC 87 (xA7 (Tok.text (gD (Rdr.toks a0) (tN (Rdr.i a0)) Ty.tok.dflt))) (xAB r1), r1 = false, (((Tok.kind (gD (Rdr.toks a0) (tN (Rdr.i a0)) Ty.tok.dflt)) : Int) == 1) = true, AbC 106 (xAr (Tok.text (gD (Rdr.toks a0) (tN (Rdr.i a0)) Ty.tok.dflt))) (xAk r2), (decide ((r2 : Int) ≥ 0)) = false, AbC 85 (xBl (gD (Rdr.toks a0) (tN (Rdr.i a0)) Ty.tok.dflt) [91]) (xAE r3), r3 = true, AbC 137 (xDy (Rdr.mk (Rdr.toks a0) (W ((Rdr.i a0) + 1)) (Rdr.fin a0) (Rdr.bad a0)) [93]) (xB5 r4)] := by kernel_rfl
theorem p127_e_7 (a0 : Rdr) (r1 : Bool) (r2 : Int) (r3 r4 : Bool) (r5 : Exp × Rdr) (r6 : Rdr) : rE I127 (xBo a0) [F, F, F, F, Y, F, Y, F, F, Y] [xAB r1, xAk r2, xAE r3, xAE r4, xAi r5, xAN r6] = dn (xBa (r5.1, r6)) [(decide (((Rdr.bad a0) : Int) ≥ 0)) = false, (decide (((Rdr.i a0) : Int) ≥ (Ln (Rdr.toks a0) : Int))) = false, (0 : Int) ≤ (Rdr.i a0) ∧ (Rdr.i a0) < (Ln (Rdr.toks a0)), (((Tok.kind (gD (Rdr.toks a0) (tN (Rdr.i a0)) Ty.tok.dflt)) : Int) == 2) = false, (((Tok.kind (gD (Rdr.toks a0) (tN (Rdr.i a0)) Ty.tok.dflt)) : Int) == 3) = false, (((Tok.kind (gD (Rdr.toks a0) (tN (Rdr.i a0)) Ty.tok.dflt)) : Int) == 1) = true, AbC 87 (xA7 (Tok.text (gD (Rdr.toks a0) (tN (Rdr.i a0)) Ty.tok.dflt))) (xAB r1), r1 = false, (((Tok.kind (gD (Rdr.toks a0) (tN (Rdr.i a0)) Ty.tok.dflt)) : Int) == 1) = true, AbC 106 (xAr (Tok.text (gD (Rdr.toks a0) (tN (Rdr.i a0)) Ty.tok.dflt))) (xAk r2), (decide ((r2 : Int) ≥ 0)) = false, AbC 85 (xBl (gD (Rdr.toks a0) (tN (Rdr.i a0)) Ty.tok.dflt) [91]) (xAE r3), r3 = false, AbC 85 (xBl (gD (Rdr.toks a0) (tN (Rdr.i a0)) Ty.tok.dflt) [40]) (xAE r4), r4 = true, AbC 28 (xAJ (Rdr.mk (Rdr.toks a0) (W ((Rdr.i a0) + 1)) (Rdr.fin a0) (Rdr.bad a0))) (xAi r5), AbC 47 (xBG r5.2 [41]) (xAN r6)] := by kernel_rfl
theorem p127_e_8 (a0 : Rdr) (r1 : Bool) (r2 : Int) (r3 r4 : Bool) (r5 : Exp × Rdr) : rE I127 (xBo a0) [F, F, F, F, Y, F, Y, F, F, F] [xAB r1, xAk r2, xAE r3, xAE r4, xAH r5] = dn (xBa (r5.1, r5.2)) [(decide (((Rdr.bad a0) : Int) ≥ 0)) = false, (decide (((Rdr.i a0) : Int) ≥ (Ln (Rdr.toks a0) : Int))) = false, (0 : Int) ≤ (Rdr.i a0) ∧ (Rdr.i a0) < (Ln (Rdr.toks a0)), (((Tok.kind (gD (Rdr.toks a0) (tN (Rdr.i a0)) Ty.tok.dflt)) : Int) == 2) = false, (((Tok.kind (gD (Rdr.toks a0) (tN (Rdr.i a0)) Ty.tok.dflt)) : Int) == 3) = false, (((Tok.kind (gD (Rdr.toks a0) (tN (Rdr.i a0)) Ty.tok.dflt)) : Int) == 1) = true, AbC 87 (xA7 (Tok.text (gD (Rdr.toks a0) (tN (Rdr.i a0)) Ty.tok.dflt))) (xAB r1), r1 = false, (((Tok.kind (gD (Rdr.toks a0) (tN (Rdr.i a0)) Ty.tok.dflt)) : Int) == 1) = true, AbC 106 (xAr (Tok.text (gD (Rdr.toks a0) (tN (Rdr.i a0)) Ty.tok.dflt))) (xAk r2), (decide ((r2 : Int) ≥ 0)) = false, AbC 85 (xBl (gD (Rdr.toks a0) (tN (Rdr.i a0)) Ty.tok.dflt) [91]) (xAE r3), r3 = false, AbC 85 (xBl (gD (Rdr.toks a0) (tN (Rdr.i a0)) Ty.tok.dflt) [40]) (xAE r4), r4 = false, AbC 29 (xBp a0) (xAH r5)] := by kernel_rfl
theorem p127_e_9 (a0 : Rdr) (r1 : Bool) (r2 : (List Exp) × Rdr) : rE I127 (xBo a0) [F, F, F, F, F, F, F, F, Y] [xAE r1, xB5 r2] = dn (xBa ((Exp.mk 4 0 [] r2.1), r2.2)) [(decide (((Rdr.bad a0) : Int) ≥ 0)) = false, (decide (((Rdr.i a0) : Int) ≥ (Ln (Rdr.toks a0) : Int))) = false, (0 : Int) ≤ (Rdr.i a0) ∧ (Rdr.i a0) < (Ln (Rdr.toks a0)), (((Tok.kind (gD (Rdr.toks a0) (tN (Rdr.i a0)) Ty.tok.dflt)) : Int) == 2) = false, (((Tok.kind (gD (Rdr.toks a0) (tN (Rdr.i a0)) Ty.tok.dflt)) : Int) == 3) = false, (((Tok.kind (gD (Rdr.toks a0) (tN (Rdr.i a0)) Ty.tok.dflt)) : Int) == 1) = false, false = false, (((Tok.kind (gD (Rdr.toks a0) (tN (Rdr.i a0)) Ty.tok.dflt)) : Int) == 1) = false, false = false, AbC 85 (xBl (gD (Rdr.toks a0) (tN (Rdr.i a0)) Ty.tok.dflt) [91]) (xAE r1), r1 = true, AbC 137 (xDy (Rdr.mk (Rdr.toks a0) (W ((Rdr.i a0) + 1)) (Rdr.fin a0) (Rdr.bad a0)) [93]) (xB5 r2)] := by kernel_rfl
theorem p127_e_10 (a0 : Rdr) (r1 r2 : Bool) (r3 : Exp × Rdr) (r4 : Rdr) : rE I127 (xBo a0) [F, F, F, F, F, F, F, F, F, Y] [xAE r1, xAE r2, xAi r3, xAN r4] = dn (xBa (r3.1, r4)) [(decide (((Rdr.bad a0) : Int) ≥ 0)) = false, (decide (((Rdr.i a0) : Int) ≥ (Ln (Rdr.toks a0) : Int))) = false, (0 : Int) ≤ (Rdr.i a0) ∧ (Rdr.i a0) < (Ln (Rdr.toks a0)), (((Tok.kind (gD (Rdr.toks a0) (tN (Rdr.i a0)) Ty.tok.dflt)) : Int) == 2) = false, (((Tok.kind (gD (Rdr.toks a0) (tN (Rdr.i a0)) Ty.tok.dflt)) : Int) == 3) = false, (((Tok.kind (gD (Rdr.toks a0) (tN (Rdr.i a0)) Ty.tok.dflt)) : Int) == 1) = false, false = false, (((Tok.kind (gD (Rdr.toks a0) (tN (Rdr.i a0)) Ty.tok.dflt)) : Int) == 1) = false, false = false, AbC 85 (xBl (gD (Rdr.toks a0) (tN (Rdr.i a0)) Ty.tok.dflt) [91]) (xAE r1), r1 = false, AbC 85 (xBl (gD (Rdr.toks a0) (tN (Rdr.i a0)) Ty.tok.dflt) [40]) (xAE r2), r2 = true, AbC 28 (xAJ (Rdr.mk (Rdr.toks a0) (W ((Rdr.i a0) + 1)) (Rdr.fin a0) (Rdr.bad a0))) (xAi r3), AbC 47 (xBG r3.2 [41]) (xAN r4)] := by kernel_rfl
theorem p127_e_11 (a0 : Rdr) (r1 r2 : Bool) (r3 : Exp × Rdr) : rE I127 (xBo a0) [F, F, F, F, F, F, F, F, F, F] [xAE r1, xAE r2, xAH r3] = dn (xBa (r3.1, r3.2)) [(decide (((Rdr.bad a0) : Int) ≥ 0)) = false, (decide (((Rdr.i a0) : Int) ≥ (Ln (Rdr.toks a0) : Int))) = false, (0 : Int) ≤ (Rdr.i a0) ∧ (Rdr.i a0) < (Ln (Rdr.toks a0)), (((Tok.kind (gD (Rdr.toks a0) (tN (Rdr.i a0)) Ty.tok.dflt)) : Int) == 2) = false, (((Tok.kind (gD (Rdr.toks a0) (tN (Rdr.i a0)) Ty.tok.dflt)) : Int) == 3) = false, (((Tok.kind (gD (Rdr.toks a0) (tN (Rdr.i a0)) Ty.tok.dflt)) : Int) == 1) = false, false = false, (((Tok.kind (gD (Rdr.toks a0) (tN (Rdr.i a0)) Ty.tok.dflt)) : Int) == 1) = false, false = false, AbC 85 (xBl (gD (Rdr.toks a0) (tN (Rdr.i a0)) Ty.tok.dflt) [91]) (xAE r1), r1 = false, AbC 85 (xBl (gD (Rdr.toks a0) (tN (Rdr.i a0)) Ty.tok.dflt) [40]) (xAE r2), r2 = false, AbC 29 (xBp a0) (xAH r3)] := by kernel_rfl
theorem c127_e {N : Nat} {q0 : Rdr → Str → Option ((List Exp) × Rdr)} (g0 : G137 q0) {q1 : Rdr → Option (Exp × Rdr)} (g1 : G127 q1) {q2 : Rdr → Option (Exp × Rdr)} (g2 : G48 q2) {q3 : Rdr → Option (Exp × Rdr)} (g3 : G28 q3) {q4 : Rdr → Option (Exp × Rdr)} (g4 : G110 q4) {q5 : Rdr → Option (Exp × Rdr)} (g5 : G88 q5) : ∀ a0 r, xDn N q0 q1 q2 q3 q4 q5 a0 = some r → RE Tryz.f127 I127 (xBo a0) (xBa r) := fun a0 r h =>
 cE h (fun h0 h => bE h fun r1 h2 h => dE h fk127 (p127_e_0 a0 r1) (oc h0 (oc rfl (oc (xCe h2) on)))) fun h0 h =>
 cE h (fun h1 h => bE h fun r1 h2 h => dE h fk127 (p127_e_1 a0 r1) (oc h0 (oc h1 (oc (xCe h2) on)))) fun h1 h =>
 iE h fun h2 h => cE h (fun h3 h => bE h fun r1 h4 h => dE h fk127 (p127_e_2 a0 r1) (oc h0 (oc h1 (oc h2 (oc h3 (oc (spec_l10Num_ok h4) on)))))) fun h3 h =>
 cE h (fun h4 h => dE h fk127 (p127_e_3 a0) (oc h0 (oc h1 (oc h2 (oc h3 (oc h4 on)))))) fun h4 h =>
 cE h (fun h5 h => bE h fun r1 h6 h => cE h (fun h7 h => bE h fun r2 h8 h => dE h fk127 (p127_e_4 a0 r1 r2) (oc h0 (oc h1 (oc h2 (oc h3 (oc h4 (oc h5 (oc (xBS h6) (oc h7 (oc (spec_l10Name_ok h8) on)))))))))) fun h7 h =>
 bE h fun r2 h9 h => cE h (fun h10 h => bE h fun r3 h11 h => bE h fun r4 h12 h => dE h fk127 (p127_e_5 a0 r1 r2 r3 r4) (oc h0 (oc h1 (oc h2 (oc h3 (oc h4 (oc h5 (oc (xBS h6) (oc h7 (oc h5 (oc (xDw h9) (oc h10 (oc (xCz h11) (oc (g0 _ _ _ h12) on)))))))))))))) fun h10 h =>
 bE h fun r3 h11 h => cE h (fun h12 h => bE h fun r4 h13 h => dE h fk127 (p127_e_6 a0 r1 r2 r3 r4) (oc h0 (oc h1 (oc h2 (oc h3 (oc h4 (oc h5 (oc (xBS h6) (oc h7 (oc h5 (oc (xDw h9) (oc h10 (oc (xB1 h11) (oc h12 (oc (g0 _ _ _ h13) on))))))))))))))) fun h12 h =>
 bE h fun r4 h13 h => cE h (fun h14 h => bE h fun r5 h15 h => bE h fun r6 h16 h => dE h fk127 (p127_e_7 a0 r1 r2 r3 r4 r5 r6) (oc h0 (oc h1 (oc h2 (oc h3 (oc h4 (oc h5 (oc (xBS h6) (oc h7 (oc h5 (oc (xDw h9) (oc h10 (oc (xB1 h11) (oc h12 (oc (xB1 h13) (oc h14 (oc (g3 _ _ h15) (oc (xCz h16) on)))))))))))))))))) fun h14 h =>
 bE h fun r5 h15 h => dE h fk127 (p127_e_8 a0 r1 r2 r3 r4 r5) (oc h0 (oc h1 (oc h2 (oc h3 (oc h4 (oc h5 (oc (xBS h6) (oc h7 (oc h5 (oc (xDw h9) (oc h10 (oc (xB1 h11) (oc h12 (oc (xB1 h13) (oc h14 (oc (xCe h15) on))))))))))))))))) fun h5 h =>
 bE h fun r1 h9 h => cE h (fun h10 h => bE h fun r2 h11 h => dE h fk127 (p127_e_9 a0 r1 r2) (oc h0 (oc h1 (oc h2 (oc h3 (oc h4 (oc h5 (oc rfl (oc h5 (oc rfl (oc (xB1 h9) (oc h10 (oc (g0 _ _ _ h11) on))))))))))))) fun h10 h =>
 bE h fun r2 h11 h => cE h (fun h12 h => bE h fun r3 h13 h => bE h fun r4 h14 h => dE h fk127 (p127_e_10 a0 r1 r2 r3 r4) (oc h0 (oc h1 (oc h2 (oc h3 (oc h4 (oc h5 (oc rfl (oc h5 (oc rfl (oc (xB1 h9) (oc h10 (oc (xB1 h11) (oc h12 (oc (g3 _ _ h13) (oc (xCz h14) on)))))))))))))))) fun h12 h =>
 bE h fun r3 h13 h => dE h fk127 (p127_e_11 a0 r1 r2 r3) (oc h0 (oc h1 (oc h2 (oc h3 (oc h4 (oc h5 (oc rfl (oc h5 (oc rfl (oc (xB1 h9) (oc h10 (oc (xB1 h11) (oc h12 (oc (xCe h13) on))))))))))))))
theorem xGL {N : Nat} {q0 : Rdr → Str → Option ((List Exp) × Rdr)} (g0 : G137 q0) {q1 : Rdr → Option (Exp × Rdr)} (g1 : G127 q1) {q2 : Rdr → Option (Exp × Rdr)} (g2 : G48 q2) {q3 : Rdr → Option (Exp × Rdr)} (g3 : G28 q3) {q4 : Rdr → Option (Exp × Rdr)} (g4 : G110 q4) {q5 : Rdr → Option (Exp × Rdr)} (g5 : G88 q5) {a0 : Rdr} {r : Exp × Rdr} (h : xDn N q0 q1 q2 q3 q4 q5 a0 = some r) : AbC 127 (xBo a0) (xBa r) :=
 AbsCalls.of_reach fk127 rfl rfl (Nat.le_of_ble_eq_true rfl) (c127_e g0 g1 g2 g3 g4 g5 a0 r h)
noncomputable def I48 : Info := { body := (Tryz.f48.body).getD .skip, nt := 37, results := [.cell 2 25], keep := [0, 4, 6, 12, 42, 1, 5, 7], live := [], modes := [], ext := [0], fcast := [(5, 3, true)] }
theorem fk48 : FnOk Tryz.prog 48 Tryz.f48 I48 := ⟨Tryz.func48, by kernel_rfl, by kernel_rfl, by kernel_rfl, by kernel_rfl⟩
theorem p48_e_0 (a0 : Rdr) (r1 : Exp × Rdr) (r2 : Bool × Rdr) (r3 : Exp × Rdr) (r4 : Exp) : rE I48 (xC7 a0) [Y] [xBT r1, xAf r2, xBT r3, xBO r4] = dn (xCO (r4, r3.2)) [AbC 88 (xDs a0) (xBT r1), AbC 45 (xAo r1.2 [60]) (xAf r2), r2.1 = true, AbC 88 (xDs (Rdr.mk (Rdr.toks r2.2) (W ((Rdr.i r2.2) + 1)) (Rdr.fin r2.2) (Rdr.bad r2.2))) (xBT r3), AbC 66 (xDr 4 r1.1 r3.1) (xBO r4)] := by kernel_rfl
theorem p48_e_1 (a0 : Rdr) (r1 : Exp × Rdr) (r2 : Bool × Rdr) (r3 : Bool × Rdr) (r4 : Exp × Rdr) (r5 : Exp) : rE I48 (xC7 a0) [F, Y] [xBT r1, xAf r2, xAf r3, xBT r4, xBO r5] = dn (xCO (r5, r4.2)) [AbC 88 (xDs a0) (xBT r1), AbC 45 (xAo r1.2 [60]) (xAf r2), r2.1 = false, AbC 45 (xAo r2.2 [61, 61]) (xAf r3), r3.1 = true, AbC 88 (xDs (Rdr.mk (Rdr.toks r3.2) (W ((Rdr.i r3.2) + 1)) (Rdr.fin r3.2) (Rdr.bad r3.2))) (xBT r4), AbC 66 (xDr 5 r1.1 r4.1) (xBO r5)] := by kernel_rfl
theorem p48_e_2 (a0 : Rdr) (r1 : Exp × Rdr) (r2 : Bool × Rdr) (r3 : Bool × Rdr) : rE I48 (xC7 a0) [F, F] [xBT r1, xAf r2, xAf r3] = dn (xCO (r1.1, r3.2)) [AbC 88 (xDs a0) (xBT r1), AbC 45 (xAo r1.2 [60]) (xAf r2), r2.1 = false, AbC 45 (xAo r2.2 [61, 61]) (xAf r3), r3.1 = false] := by kernel_rfl
theorem c48_e {N : Nat} {q0 : Rdr → Str → Option ((List Exp) × Rdr)} (g0 : G137 q0) {q1 : Rdr → Option (Exp × Rdr)} (g1 : G127 q1) {q2 : Rdr → Option (Exp × Rdr)} (g2 : G48 q2) {q3 : Rdr → Option (Exp × Rdr)} (g3 : G28 q3) {q4 : Rdr → Option (Exp × Rdr)} (g4 : G110 q4) {q5 : Rdr → Option (Exp × Rdr)} (g5 : G88 q5) : ∀ a0 r, xCL N q0 q1 q2 q3 q4 q5 a0 = some r → RE Tryz.f48 I48 (xC7 a0) (xCO r) := fun a0 r h =>
 bE h fun r1 h0 h => bE h fun r2 h1 h => cE h (fun h2 h => bE h fun r3 h3 h => bE h fun r4 h4 h => dE h fk48 (p48_e_0 a0 r1 r2 r3 r4) (oc (g5 _ _ h0) (oc (xAz h1) (oc h2 (oc (g5 _ _ h3) (oc (xEm h4) on)))))) fun h2 h =>
 bE h fun r3 h3 h => cE h (fun h4 h => bE h fun r4 h5 h => bE h fun r5 h6 h => dE h fk48 (p48_e_1 a0 r1 r2 r3 r4 r5) (oc (g5 _ _ h0) (oc (xAz h1) (oc h2 (oc (xAz h3) (oc h4 (oc (g5 _ _ h5) (oc (xEm h6) on)))))))) fun h4 h =>
 dE h fk48 (p48_e_2 a0 r1 r2 r3) (oc (g5 _ _ h0) (oc (xAz h1) (oc h2 (oc (xAz h3) (oc h4 on)))))
theorem xGo {N : Nat} {q0 : Rdr → Str → Option ((List Exp) × Rdr)} (g0 : G137 q0) {q1 : Rdr → Option (Exp × Rdr)} (g1 : G127 q1) {q2 : Rdr → Option (Exp × Rdr)} (g2 : G48 q2) {q3 : Rdr → Option (Exp × Rdr)} (g3 : G28 q3) {q4 : Rdr → Option (Exp × Rdr)} (g4 : G110 q4) {q5 : Rdr → Option (Exp × Rdr)} (g5 : G88 q5) {a0 : Rdr} {r : Exp × Rdr} (h : xCL N q0 q1 q2 q3 q4 q5 a0 = some r) : AbC 48 (xC7 a0) (xCO r) :=
 AbsCalls.of_reach fk48 rfl rfl (Nat.le_of_ble_eq_true rfl) (c48_e g0 g1 g2 g3 g4 g5 a0 r h)
noncomputable def I28 : Info := { body := (Tryz.f28.body).getD .skip, nt := 86, results := [.cell 2 25], keep := [0, 4, 6, 8, 10, 12, 14, 16, 18, 68, 118, 1, 5, 9, 11, 13, 17], live := [], modes := [(7, [(0, .take, false)]), (21, [(0, .take, false)])], ext := [0], fcast := [(5, 3, true)] }
theorem fk28 : FnOk Tryz.prog 28 Tryz.f28 I28 := ⟨Tryz.func28, by kernel_rfl, by kernel_rfl, by kernel_rfl, by kernel_rfl⟩
theorem p28_e_0 (a0 : Rdr) (r1 : Bool × Rdr) (r2 : Str × Rdr) (r3 : Rdr) (r4 : Exp × Rdr) (r5 : Rdr) (r6 : Exp × Rdr) : rE I28 (xAJ a0) [Y] [xAf r1, xCy r2, xAN r3, xAi r4, xAN r5, xAi r6] = dn (xAi ((Exp.mk 7 0 r2.1 [(Exp.re r4.1), (Exp.re r6.1)]), r6.2)) [AbC 45 (xAo a0 [108, 101, 116]) (xAf r1), r1.1 = true, AbC 46 (xC9 (Rdr.mk (Rdr.toks r1.2) (W ((Rdr.i r1.2) + 1)) (Rdr.fin r1.2) (Rdr.bad r1.2))) (xCy r2), AbC 47 (xBG r2.2 [61]) (xAN r3), AbC 28 (xAJ r3) (xAi r4), AbC 47 (xBG r4.2 [105, 110]) (xAN r5), AbC 28 (xAJ r5) (xAi r6)] := by kernel_rfl
theorem p28_e_1 (a0 : Rdr) (r1 : Bool × Rdr) (r2 : Bool × Rdr) (r3 : Exp × Rdr) (r4 : Rdr) (r5 : Exp × Rdr) (r6 : Rdr) (r7 : Exp × Rdr) : rE I28 (xAJ a0) [F, Y] [xAf r1, xAf r2, xAi r3, xAN r4, xAi r5, xAN r6, xAi r7] = dn (xAi ((Exp.mk 8 0 [] [(Exp.re r3.1), (Exp.re r5.1), (Exp.re r7.1)]), r7.2)) [AbC 45 (xAo a0 [108, 101, 116]) (xAf r1), r1.1 = false, AbC 45 (xAo r1.2 [105, 102]) (xAf r2), r2.1 = true, AbC 28 (xAJ (Rdr.mk (Rdr.toks r2.2) (W ((Rdr.i r2.2) + 1)) (Rdr.fin r2.2) (Rdr.bad r2.2))) (xAi r3), AbC 47 (xBG r3.2 [116, 104, 101, 110]) (xAN r4), AbC 28 (xAJ r4) (xAi r5), AbC 47 (xBG r5.2 [101, 108, 115, 101]) (xAN r6), AbC 28 (xAJ r6) (xAi r7)] := by kernel_rfl
theorem p28_e_2 (a0 : Rdr) (r1 : Bool × Rdr) (r2 : Bool × Rdr) (r3 : Bool × Rdr) (r4 : Str × Rdr) (r5 : Rdr) (r6 : Exp × Rdr) (r7 : Rdr) (r8 : Exp × Rdr) : rE I28 (xAJ a0) [F, F, Y] [xAf r1, xAf r2, xAf r3, xCy r4, xAN r5, xAi r6, xAN r7, xAi r8] = dn (xAi ((Exp.mk 9 0 r4.1 [(Exp.re r6.1), (Exp.re r8.1)]), r8.2)) [AbC 45 (xAo a0 [108, 101, 116]) (xAf r1), r1.1 = false, AbC 45 (xAo r1.2 [105, 102]) (xAf r2), r2.1 = false, AbC 45 (xAo r2.2 [102, 111, 114]) (xAf r3), r3.1 = true, AbC 46 (xC9 (Rdr.mk (Rdr.toks r3.2) (W ((Rdr.i r3.2) + 1)) (Rdr.fin r3.2) (Rdr.bad r3.2))) (xCy r4), AbC 47 (xBG r4.2 [105, 110]) (xAN r5), AbC 28 (xAJ r5) (xAi r6), AbC 47 (xBG r6.2 [100, 111]) (xAN r7), AbC 28 (xAJ r7) (xAi r8)] := by kernel_rfl
theorem p28_e_3 (a0 : Rdr) (r1 : Bool × Rdr) (r2 : Bool × Rdr) (r3 : Bool × Rdr) (r4 : Exp × Rdr) : rE I28 (xAJ a0) [F, F, F] [xAf r1, xAf r2, xAf r3, xCO r4] = dn (xAi (r4.1, r4.2)) [AbC 45 (xAo a0 [108, 101, 116]) (xAf r1), r1.1 = false, AbC 45 (xAo r1.2 [105, 102]) (xAf r2), r2.1 = false, AbC 45 (xAo r2.2 [102, 111, 114]) (xAf r3), r3.1 = false, AbC 48 (xC7 r3.2) (xCO r4)] := by kernel_rfl
theorem c28_e {N : Nat} {q0 : Rdr → Str → Option ((List Exp) × Rdr)} (g0 : G137 q0) {q1 : Rdr → Option (Exp × Rdr)} (g1 : G127 q1) {q2 : Rdr → Option (Exp × Rdr)} (g2 : G48 q2) {q3 : Rdr → Option (Exp × Rdr)} (g3 : G28 q3) {q4 : Rdr → Option (Exp × Rdr)} (g4 : G110 q4) {q5 : Rdr → Option (Exp × Rdr)} (g5 : G88 q5) : ∀ a0 r, xDo N q0 q1 q2 q3 q4 q5 a0 = some r → RE Tryz.f28 I28 (xAJ a0) (xAi r) := fun a0 r h =>
 bE h fun r1 h0 h => cE h (fun h1 h => bE h fun r2 h2 h => bE h fun r3 h3 h => bE h fun r4 h4 h => bE h fun r5 h5 h => bE h fun r6 h6 h => dE h fk28 (p28_e_0 a0 r1 r2 r3 r4 r5 r6) (oc (xAz h0) (oc h1 (oc (xGE h2) (oc (xCz h3) (oc (g3 _ _ h4) (oc (xCz h5) (oc (g3 _ _ h6) on)))))))) fun h1 h =>
 bE h fun r2 h2 h => cE h (fun h3 h => bE h fun r3 h4 h => bE h fun r4 h5 h => bE h fun r5 h6 h => bE h fun r6 h7 h => bE h fun r7 h8 h => dE h fk28 (p28_e_1 a0 r1 r2 r3 r4 r5 r6 r7) (oc (xAz h0) (oc h1 (oc (xAz h2) (oc h3 (oc (g3 _ _ h4) (oc (xCz h5) (oc (g3 _ _ h6) (oc (xCz h7) (oc (g3 _ _ h8) on)))))))))) fun h3 h =>
 bE h fun r3 h4 h => cE h (fun h5 h => bE h fun r4 h6 h => bE h fun r5 h7 h => bE h fun r6 h8 h => bE h fun r7 h9 h => bE h fun r8 h10 h => dE h fk28 (p28_e_2 a0 r1 r2 r3 r4 r5 r6 r7 r8) (oc (xAz h0) (oc h1 (oc (xAz h2) (oc h3 (oc (xAz h4) (oc h5 (oc (xGE h6) (oc (xCz h7) (oc (g3 _ _ h8) (oc (xCz h9) (oc (g3 _ _ h10) on)))))))))))) fun h5 h =>
 bE h fun r4 h6 h => dE h fk28 (p28_e_3 a0 r1 r2 r3 r4) (oc (xAz h0) (oc h1 (oc (xAz h2) (oc h3 (oc (xAz h4) (oc h5 (oc (g2 _ _ h6) on)))))))
theorem xGM {N : Nat} {q0 : Rdr → Str → Option ((List Exp) × Rdr)} (g0 : G137 q0) {q1 : Rdr → Option (Exp × Rdr)} (g1 : G127 q1) {q2 : Rdr → Option (Exp × Rdr)} (g2 : G48 q2) {q3 : Rdr → Option (Exp × Rdr)} (g3 : G28 q3) {q4 : Rdr → Option (Exp × Rdr)} (g4 : G110 q4) {q5 : Rdr → Option (Exp × Rdr)} (g5 : G88 q5) {a0 : Rdr} {r : Exp × Rdr} (h : xDo N q0 q1 q2 q3 q4 q5 a0 = some r) : AbC 28 (xAJ a0) (xAi r) :=
 AbsCalls.of_reach fk28 rfl rfl (Nat.le_of_ble_eq_true rfl) (c28_e g0 g1 g2 g3 g4 g5 a0 r h)
noncomputable def I110 : Info := { body := (Tryz.f110.body).getD .skip, nt := 21, results := [.cell 2 25], keep := [0, 4, 6, 14, 1, 5, 7], live := [(2, [0, 4, 6, 1, 5, 7])], modes := [], ext := [0], casts := [(2, [(7, 3, true)])] }
theorem fk110 : FnOk Tryz.prog 110 Tryz.f110 I110 := ⟨Tryz.func110, by kernel_rfl, by kernel_rfl, by kernel_rfl, by kernel_rfl⟩
def S110_2 (b0 : Rdr) (b2 b3 : Exp) : St := [(0, .v false [.ptr 0 0]), (4, .v false [.ptr 2 0]), (6, .v false [.ptr 3 0]), (1, .v true [.sl .ro .tok (Rdr.toks b0), .int .i64 (Rdr.i b0), .int .i64 (Rdr.fin b0), .int .i64 (Rdr.bad b0)]), (5, .v true [.int .i64 (Exp.kind b2), .int .i64 (Exp.n b2), .str (Exp.text b2), .sl .own .exp (Exp.args b2)]), (7, .v true [.int .i64 (Exp.kind b3), .int .i64 (Exp.n b3), .str (Exp.text b3), .sl .ro .exp (Exp.args b3)])]
theorem p110_2_0 (b0 : Rdr) (b2 b3 : Exp) (r1 : Bool × Rdr) (r2 : Exp × Rdr) (r3 : Exp) : rS 2 I110 (S110_2 b0 b2 b3) [Y] [xAf r1, xBa r2, xBO r3] = st 2 I110 (S110_2 r2.2 b2 r3) [AbC 45 (xAo b0 [42]) (xAf r1), r1.1 = true, AbC 127 (xBo (Rdr.mk (Rdr.toks r1.2) (W ((Rdr.i r1.2) + 1)) (Rdr.fin r1.2) (Rdr.bad r1.2))) (xBa r2), AbC 66 (xDr 3 b3 r2.1) (xBO r3)] := by kernel_rfl
theorem p110_2_1 (b0 : Rdr) (b2 b3 : Exp) (r1 : Bool × Rdr) : rS 2 I110 (S110_2 b0 b2 b3) [F] [xAf r1] = dn (xBb (b3, r1.2)) [AbC 45 (xAo b0 [42]) (xAf r1), r1.1 = false] := by kernel_rfl
theorem p110_e_2 (a0 : Rdr) (r1 : Exp × Rdr) : rE I110 (xCo a0) [] [xBa r1] = st 2 I110 (S110_2 r1.2 (Exp.mk 0 0 [] []) r1.1) [AbC 127 (xBo a0) (xBa r1)] := by kernel_rfl
theorem c110_2 {N : Nat} {q0 : Rdr → Str → Option ((List Exp) × Rdr)} (g0 : G137 q0) {q1 : Rdr → Option (Exp × Rdr)} (g1 : G127 q1) {q2 : Rdr → Option (Exp × Rdr)} (g2 : G48 q2) {q3 : Rdr → Option (Exp × Rdr)} (g3 : G28 q3) {q4 : Rdr → Option (Exp × Rdr)} (g4 : G110 q4) {q5 : Rdr → Option (Exp × Rdr)} (g5 : G88 q5) : ∀ n b0 b2 b3 r, xCP N q0 q1 q2 q3 q4 q5 n b0 b2 b3 = some r → RS Tryz.f110 I110 2 (S110_2 b0 b2 b3) (xBb r) := by
 intro n
 induction n with
 | zero => exact fun _ _ _ _ h => nE h
 | succ n ih =>
  exact fun b0 b2 b3 r h =>
   bE h fun r1 h0 h => cE h (fun h1 h => bE h fun r2 h2 h => bE h fun r3 h3 h => tS fk110 (p110_2_0 b0 b2 b3 r1 r2 r3) (oc (xAz h0) (oc h1 (oc (g1 _ _ h2) (oc (xEm h3) on)))) (ih _ _ _ _ h)) fun h1 h =>
   dS h fk110 (p110_2_1 b0 b2 b3 r1) (oc (xAz h0) (oc h1 on))
theorem c110_e {N : Nat} {q0 : Rdr → Str → Option ((List Exp) × Rdr)} (g0 : G137 q0) {q1 : Rdr → Option (Exp × Rdr)} (g1 : G127 q1) {q2 : Rdr → Option (Exp × Rdr)} (g2 : G48 q2) {q3 : Rdr → Option (Exp × Rdr)} (g3 : G28 q3) {q4 : Rdr → Option (Exp × Rdr)} (g4 : G110 q4) {q5 : Rdr → Option (Exp × Rdr)} (g5 : G88 q5) : ∀ a0 r, xCM N q0 q1 q2 q3 q4 q5 a0 = some r → RE Tryz.f110 I110 (xCo a0) (xBb r) := fun a0 r h =>
 bE h fun r1 h0 h => tE fk110 (p110_e_2 a0 r1) (oc (g1 _ _ h0) on) (c110_2 g0 g1 g2 g3 g4 g5 _ _ _ _ _ h)
theorem xGp {N : Nat} {q0 : Rdr → Str → Option ((List Exp) × Rdr)} (g0 : G137 q0) {q1 : Rdr → Option (Exp × Rdr)} (g1 : G127 q1) {q2 : Rdr → Option (Exp × Rdr)} (g2 : G48 q2) {q3 : Rdr → Option (Exp × Rdr)} (g3 : G28 q3) {q4 : Rdr → Option (Exp × Rdr)} (g4 : G110 q4) {q5 : Rdr → Option (Exp × Rdr)} (g5 : G88 q5) {a0 : Rdr} {r : Exp × Rdr} (h : xCM N q0 q1 q2 q3 q4 q5 a0 = some r) : AbC 110 (xCo a0) (xBb r) :=
 AbsCalls.of_reach fk110 rfl rfl (Nat.le_of_ble_eq_true rfl) (c110_e g0 g1 g2 g3 g4 g5 a0 r h)
noncomputable def I88 : Info := { body := (Tryz.f88.body).getD .skip, nt := 29, results := [.cell 2 25], keep := [0, 4, 6, 8, 24, 28, 1, 5, 7], live := [(2, [0, 4, 6, 1, 5, 7])], modes := [(2, [(2, .take, false)]), (7, [(0, .take, false)])], ext := [0], casts := [(2, [(7, 3, true)])] }
theorem fk88 : FnOk Tryz.prog 88 Tryz.f88 I88 := ⟨Tryz.func88, by kernel_rfl, by kernel_rfl, by kernel_rfl, by kernel_rfl⟩
def S88_2 (b0 : Rdr) (b2 b3 : Exp) : St := [(0, .v false [.ptr 0 0]), (4, .v false [.ptr 2 0]), (6, .v false [.ptr 3 0]), (1, .v true [.sl .ro .tok (Rdr.toks b0), .int .i64 (Rdr.i b0), .int .i64 (Rdr.fin b0), .int .i64 (Rdr.bad b0)]), (5, .v true [.int .i64 (Exp.kind b2), .int .i64 (Exp.n b2), .str (Exp.text b2), .sl .own .exp (Exp.args b2)]), (7, .v true [.int .i64 (Exp.kind b3), .int .i64 (Exp.n b3), .str (Exp.text b3), .sl .ro .exp (Exp.args b3)])]
theorem p88_2_0 (b0 : Rdr) (b2 b3 : Exp) (r1 : Bool × Rdr) (r2 : Bool × Rdr) (r3 : Exp × Rdr) (r4 : Exp) : rS 2 I88 (S88_2 b0 b2 b3) [Y, Y, Y] [xAf r1, xAf r2, xBb r3, xBO r4] = st 2 I88 (S88_2 r3.2 b2 r4) [AbC 45 (xAo b0 [43]) (xAf r1), r1.1 = true, true = true, AbC 45 (xAo r1.2 [45]) (xAf r2), r2.1 = true, AbC 110 (xCo (Rdr.mk (Rdr.toks r2.2) (W ((Rdr.i r2.2) + 1)) (Rdr.fin r2.2) (Rdr.bad r2.2))) (xBb r3), AbC 66 (xDr 2 b3 r3.1) (xBO r4)] := by kernel_rfl
theorem p88_2_1 (b0 : Rdr) (b2 b3 : Exp) (r1 : Bool × Rdr) (r2 : Bool × Rdr) (r3 : Exp × Rdr) (r4 : Exp) : rS 2 I88 (S88_2 b0 b2 b3) [Y, Y, F] [xAf r1, xAf r2, xBb r3, xBO r4] = st 2 I88 (S88_2 r3.2 b2 r4) [AbC 45 (xAo b0 [43]) (xAf r1), r1.1 = true, true = true, AbC 45 (xAo r1.2 [45]) (xAf r2), r2.1 = false, AbC 110 (xCo (Rdr.mk (Rdr.toks r2.2) (W ((Rdr.i r2.2) + 1)) (Rdr.fin r2.2) (Rdr.bad r2.2))) (xBb r3), AbC 66 (xDr 1 b3 r3.1) (xBO r4)] := by kernel_rfl
theorem p88_2_2 (b0 : Rdr) (b2 b3 : Exp) (r1 : Bool × Rdr) (r2 : Bool × Rdr) (r3 : Bool × Rdr) (r4 : Exp × Rdr) (r5 : Exp) : rS 2 I88 (S88_2 b0 b2 b3) [F, Y, Y] [xAf r1, xAf r2, xAf r3, xBb r4, xBO r5] = st 2 I88 (S88_2 r4.2 b2 r5) [AbC 45 (xAo b0 [43]) (xAf r1), r1.1 = false, AbC 45 (xAo r1.2 [45]) (xAf r2), r2.1 = true, AbC 45 (xAo r2.2 [45]) (xAf r3), r3.1 = true, AbC 110 (xCo (Rdr.mk (Rdr.toks r3.2) (W ((Rdr.i r3.2) + 1)) (Rdr.fin r3.2) (Rdr.bad r3.2))) (xBb r4), AbC 66 (xDr 2 b3 r4.1) (xBO r5)] := by kernel_rfl
theorem p88_2_3 (b0 : Rdr) (b2 b3 : Exp) (r1 : Bool × Rdr) (r2 : Bool × Rdr) (r3 : Bool × Rdr) (r4 : Exp × Rdr) (r5 : Exp) : rS 2 I88 (S88_2 b0 b2 b3) [F, Y, F] [xAf r1, xAf r2, xAf r3, xBb r4, xBO r5] = st 2 I88 (S88_2 r4.2 b2 r5) [AbC 45 (xAo b0 [43]) (xAf r1), r1.1 = false, AbC 45 (xAo r1.2 [45]) (xAf r2), r2.1 = true, AbC 45 (xAo r2.2 [45]) (xAf r3), r3.1 = false, AbC 110 (xCo (Rdr.mk (Rdr.toks r3.2) (W ((Rdr.i r3.2) + 1)) (Rdr.fin r3.2) (Rdr.bad r3.2))) (xBb r4), AbC 66 (xDr 1 b3 r4.1) (xBO r5)] := by kernel_rfl
theorem p88_2_4 (b0 : Rdr) (b2 b3 : Exp) (r1 : Bool × Rdr) (r2 : Bool × Rdr) : rS 2 I88 (S88_2 b0 b2 b3) [F, F] [xAf r1, xAf r2] = dn (xBT (b3, r2.2)) [AbC 45 (xAo b0 [43]) (xAf r1), r1.1 = false, AbC 45 (xAo r1.2 [45]) (xAf r2), r2.1 = false] := by kernel_rfl
theorem p88_e_5 (a0 : Rdr) (r1 : Exp × Rdr) : rE I88 (xDs a0) [] [xBb r1] = st 2 I88 (S88_2 r1.2 (Exp.mk 0 0 [] []) r1.1) [AbC 110 (xCo a0) (xBb r1)] := by kernel_rfl
theorem c88_2 {N : Nat} {q0 : Rdr → Str → Option ((List Exp) × Rdr)} (g0 : G137 q0) {q1 : Rdr → Option (Exp × Rdr)} (g1 : G127 q1) {q2 : Rdr → Option (Exp × Rdr)} (g2 : G48 q2) {q3 : Rdr → Option (Exp × Rdr)} (g3 : G28 q3) {q4 : Rdr → Option (Exp × Rdr)} (g4 : G110 q4) {q5 : Rdr → Option (Exp × Rdr)} (g5 : G88 q5) : ∀ n b0 b2 b3 r, xCD N q0 q1 q2 q3 q4 q5 n b0 b2 b3 = some r → RS Tryz.f88 I88 2 (S88_2 b0 b2 b3) (xBT r) := by
 intro n
 induction n with
 | zero => exact fun _ _ _ _ h => nE h
 | succ n ih =>
  exact fun b0 b2 b3 r h =>
   bE h fun r1 h0 h => cE h (fun h1 h => bE h fun r2 h3 h => cE h (fun h4 h => bE h fun r3 h5 h => bE h fun r4 h6 h => tS fk88 (p88_2_0 b0 b2 b3 r1 r2 r3 r4) (oc (xAz h0) (oc h1 (oc rfl (oc (xAz h3) (oc h4 (oc (g4 _ _ h5) (oc (xEm h6) on))))))) (ih _ _ _ _ h)) fun h4 h =>
   bE h fun r3 h5 h => bE h fun r4 h6 h => tS fk88 (p88_2_1 b0 b2 b3 r1 r2 r3 r4) (oc (xAz h0) (oc h1 (oc rfl (oc (xAz h3) (oc h4 (oc (g4 _ _ h5) (oc (xEm h6) on))))))) (ih _ _ _ _ h)) fun h1 h =>
   bE h fun r2 h2 h => cE h (fun h3 h => bE h fun r3 h4 h => cE h (fun h5 h => bE h fun r4 h6 h => bE h fun r5 h7 h => tS fk88 (p88_2_2 b0 b2 b3 r1 r2 r3 r4 r5) (oc (xAz h0) (oc h1 (oc (xAz h2) (oc h3 (oc (xAz h4) (oc h5 (oc (g4 _ _ h6) (oc (xEm h7) on)))))))) (ih _ _ _ _ h)) fun h5 h =>
   bE h fun r4 h6 h => bE h fun r5 h7 h => tS fk88 (p88_2_3 b0 b2 b3 r1 r2 r3 r4 r5) (oc (xAz h0) (oc h1 (oc (xAz h2) (oc h3 (oc (xAz h4) (oc h5 (oc (g4 _ _ h6) (oc (xEm h7) on)))))))) (ih _ _ _ _ h)) fun h3 h =>
   dS h fk88 (p88_2_4 b0 b2 b3 r1 r2) (oc (xAz h0) (oc h1 (oc (xAz h2) (oc h3 on))))
theorem c88_e {N : Nat} {q0 : Rdr → Str → Option ((List Exp) × Rdr)} (g0 : G137 q0) {q1 : Rdr → Option (Exp × Rdr)} (g1 : G127 q1) {q2 : Rdr → Option (Exp × Rdr)} (g2 : G48 q2) {q3 : Rdr → Option (Exp × Rdr)} (g3 : G28 q3) {q4 : Rdr → Option (Exp × Rdr)} (g4 : G110 q4) {q5 : Rdr → Option (Exp × Rdr)} (g5 : G88 q5) : ∀ a0 r, xDG N q0 q1 q2 q3 q4 q5 a0 = some r → RE Tryz.f88 I88 (xDs a0) (xBT r) := fun a0 r h =>
 bE h fun r1 h0 h => tE fk88 (p88_e_5 a0 r1) (oc (g4 _ _ h0) on) (c88_2 g0 g1 g2 g3 g4 g5 _ _ _ _ _ h)
theorem xG3 {N : Nat} {q0 : Rdr → Str → Option ((List Exp) × Rdr)} (g0 : G137 q0) {q1 : Rdr → Option (Exp × Rdr)} (g1 : G127 q1) {q2 : Rdr → Option (Exp × Rdr)} (g2 : G48 q2) {q3 : Rdr → Option (Exp × Rdr)} (g3 : G28 q3) {q4 : Rdr → Option (Exp × Rdr)} (g4 : G110 q4) {q5 : Rdr → Option (Exp × Rdr)} (g5 : G88 q5) {a0 : Rdr} {r : Exp × Rdr} (h : xDG N q0 q1 q2 q3 q4 q5 a0 = some r) : AbC 88 (xDs a0) (xBT r) :=
 AbsCalls.of_reach fk88 rfl rfl (Nat.le_of_ble_eq_true rfl) (c88_e g0 g1 g2 g3 g4 g5 a0 r h)
theorem xG2 {N : Nat} : ∀ d, G137 (xAa N d).c_spec_l11Args ∧ G127 (xAa N d).c_spec_l11Atom ∧ G48 (xAa N d).c_spec_l11Compare ∧ G28 (xAa N d).c_spec_l11Expr ∧ G110 (xAa N d).c_spec_l11Product ∧ G88 (xAa N d).c_spec_l11Sum := by
 intro d
 induction d with
 | zero => exact ⟨fun _ _ _ h => nE h, fun _ _ h => nE h, fun _ _ h => nE h, fun _ _ h => nE h, fun _ _ h => nE h, fun _ _ h => nE h⟩
 | succ d ih =>
  obtain ⟨ih0, ih1, ih2, ih3, ih4, ih5⟩ := ih
  exact ⟨fun _ _ _ h => xGK (N := N) ih0 ih1 ih2 ih3 ih4 ih5 h, fun _ _ h => xGL (N := N) ih0 ih1 ih2 ih3 ih4 ih5 h, fun _ _ h => xGo (N := N) ih0 ih1 ih2 ih3 ih4 ih5 h, fun _ _ h => xGM (N := N) ih0 ih1 ih2 ih3 ih4 ih5 h, fun _ _ h => xGp (N := N) ih0 ih1 ih2 ih3 ih4 ih5 h, fun _ _ h => xG3 (N := N) ih0 ih1 ih2 ih3 ih4 ih5 h⟩
theorem xC8 {N : Nat} {a0 : Rdr} {r : Exp × Rdr} (h : xFV N a0 = some r) : AbC 28 (xAJ a0) (xAi r) := (xG2 N).2.2.2.1 _ r h
def G40 (q : Exp → Int → Option (Int)) : Prop := ∀ a0 a1 r, q a0 a1 = some r → AbC 40 (xC6 a0 a1) (xBF r)
noncomputable def I40 : Info := { body := (Tryz.f40.body).getD .skip, nt := 27, results := [.tmp 4], keep := [0, 2, 4, 8, 10, 32, 5], live := [(3, [2, 4, 10, 5])], modes := [(3, [(5, .take, false)])] }
theorem fk40 : FnOk Tryz.prog 40 Tryz.f40 I40 := ⟨Tryz.func40, by kernel_rfl, by kernel_rfl, by kernel_rfl, by kernel_rfl⟩
def S40_3 (x1 x5 : Int) (b2 : Exp) : St := [(2, .v false [.int .i64 x1]), (4, .v false [.ptr 2 0]), (10, .v false [.int .i64 x5]), (5, .v true [.int .i64 (Exp.kind b2), .int .i64 (Exp.n b2), .str (Exp.text b2), .sl .ro .exp (Exp.args b2)])]
theorem p40_3_0 (x1 x5 : Int) (b2 : Exp) (r1 : Int) : rS 3 I40 (S40_3 x1 x5 b2) [Y, Y] [xBF r1] = st 3 I40 (S40_3 r1 (W (x5 + 1)) b2) [(decide ((x5 : Int) < (Ln (Exp.args b2) : Int))) = true, (decide ((x1 : Int) ≥ 0)) = true, (0 : Int) ≤ x5 ∧ x5 < (Ln (Exp.args b2)), AbC 40 (xC6 (gD (Exp.args b2) (tN x5) Ty.exp.dflt) x1) (xBF r1)] := by kernel_rfl
theorem p40_3_1 (x1 x5 : Int) (b2 : Exp) : rS 3 I40 (S40_3 x1 x5 b2) [Y, F] [] = dn (xBF x1) [(decide ((x5 : Int) < (Ln (Exp.args b2) : Int))) = true, (decide ((x1 : Int) ≥ 0)) = false] := by kernel_rfl
theorem p40_3_2 (x1 x5 : Int) (b2 : Exp) : rS 3 I40 (S40_3 x1 x5 b2) [F, F] [] = dn (xBF x1) [(decide ((x5 : Int) < (Ln (Exp.args b2) : Int))) = false, false = false] := by kernel_rfl
theorem p40_e_3 (a0 : Exp) (a1 : Int) : rE I40 (xC6 a0 a1) [] [] = st 3 I40 (S40_3 (W (a1 - 1)) 0 a0) [] := by kernel_rfl
theorem c40_3 {N : Nat} {q0 : Exp → Int → Option (Int)} (g0 : G40 q0) : ∀ n x1 x5 b2 r, xDx N q0 n x1 x5 b2 = some r → RS Tryz.f40 I40 3 (S40_3 x1 x5 b2) (xBF r) := by
 intro n
 induction n with
 | zero => exact fun _ _ _ _ h => nE h
 | succ n ih =>
  exact fun x1 x5 b2 r h =>
   cE h (fun h0 h => cE h (fun h1 h => iE h fun h2 h => bE h fun r1 h3 h => tS fk40 (p40_3_0 x1 x5 b2 r1) (oc h0 (oc h1 (oc h2 (oc (g0 _ _ _ h3) on)))) (ih _ _ _ _ h)) fun h1 h =>
   dS h fk40 (p40_3_1 x1 x5 b2) (oc h0 (oc h1 on))) fun h0 h =>
   dS h fk40 (p40_3_2 x1 x5 b2) (oc h0 (oc rfl on))
theorem c40_e {N : Nat} {q0 : Exp → Int → Option (Int)} (g0 : G40 q0) : ∀ a0 a1 r, xFg N q0 a0 a1 = some r → RE Tryz.f40 I40 (xC6 a0 a1) (xBF r) := fun a0 a1 r h =>
 tE fk40 (p40_e_3 a0 a1) on (c40_3 g0 _ _ _ _ _ h)
theorem xGJ {N : Nat} {q0 : Exp → Int → Option (Int)} (g0 : G40 q0) {a0 : Exp} {a1 : Int} {r : Int} (h : xFg N q0 a0 a1 = some r) : AbC 40 (xC6 a0 a1) (xBF r) :=
 AbsCalls.of_reach fk40 rfl rfl (Nat.le_of_ble_eq_true rfl) (c40_e g0 a0 a1 r h)
theorem xFM {N : Nat} : ∀ d, G40 (xD0 N d)
 | 0 => fun _ _ _ h => nE h
 | d + 1 => fun _ _ _ h => xGJ (N := N) (xFM d) h
theorem xFN {N : Nat} {a0 : Exp} {a1 : Int} {r : Int} (h : xGC N a0 a1 = some r) : AbC 40 (xC6 a0 a1) (xBF r) := xFM N _ _ r h
noncomputable def I77 : Info := { body := (Tryz.f77.body).getD .skip, nt := 10, results := [.tmp 4], keep := [0, 2, 8, 14], live := [], modes := [] }
theorem fk77 : FnOk Tryz.prog 77 Tryz.f77 I77 := ⟨Tryz.func77, by kernel_rfl, by kernel_rfl, by kernel_rfl, by kernel_rfl⟩
theorem p77_e_0 (a0 a1 : Int) : rE I77 (xFa a0 a1) [Y] [] = dn (xEI a0) [(decide ((a0 : Int) > a1)) = true] := by kernel_rfl
theorem p77_e_1 (a0 a1 : Int) : rE I77 (xFa a0 a1) [F] [] = dn (xEI a1) [(decide ((a0 : Int) > a1)) = false] := by kernel_rfl
theorem c77_e {N : Nat} : ∀ a0 a1 r, xGd N a0 a1 = some r → RE Tryz.f77 I77 (xFa a0 a1) (xEI r) := fun a0 a1 r h =>
 cE h (fun h0 h => dE h fk77 (p77_e_0 a0 a1) (oc h0 on)) fun h0 h =>
 dE h fk77 (p77_e_1 a0 a1) (oc h0 on)
theorem spec_l1Max_ok {N : Nat} {a0 : Int} {a1 : Int} {r : Int} (h : xGd N  a0 a1 = some r) : AbC 77 (xFa a0 a1) (xEI r) :=
 AbsCalls.of_reach fk77 rfl rfl (Nat.le_of_ble_eq_true rfl) (c77_e a0 a1 r h)
def G41 (q : Exp → Option (Int)) : Prop := ∀ a0 r, q a0 = some r → AbC 41 (xC3 a0) (xBM r)
noncomputable def I41 : Info := { body := (Tryz.f41.body).getD .skip, nt := 22, results := [.tmp 2], keep := [0, 2, 4, 6, 8, 18, 3], live := [(3, [2, 6, 8, 3])], modes := [] }
theorem fk41 : FnOk Tryz.prog 41 Tryz.f41 I41 := ⟨Tryz.func41, by kernel_rfl, by kernel_rfl, by kernel_rfl, by kernel_rfl⟩
def S41_3 (x3 x4 : Int) (b1 : Exp) : St := [(2, .v false [.ptr 1 0]), (6, .v false [.int .i64 x3]), (8, .v false [.int .i64 x4]), (3, .v true [.int .i64 (Exp.kind b1), .int .i64 (Exp.n b1), .str (Exp.text b1), .sl .ro .exp (Exp.args b1)])]
theorem p41_3_0 (x3 x4 : Int) (b1 : Exp) (r1 r2 : Int) : rS 3 I41 (S41_3 x3 x4 b1) [Y] [xBM r1, xEI r2] = st 3 I41 (S41_3 r2 (W (x4 + 1)) b1) [(decide ((x4 : Int) < (Ln (Exp.args b1) : Int))) = true, (0 : Int) ≤ x4 ∧ x4 < (Ln (Exp.args b1)), AbC 41 (xC3 (gD (Exp.args b1) (tN x4) Ty.exp.dflt)) (xBM r1), AbC 77 (xFa x3 r1) (xEI r2)] := by kernel_rfl
theorem p41_3_1 (x3 x4 : Int) (b1 : Exp) : rS 3 I41 (S41_3 x3 x4 b1) [F] [] = dn (xBM (W (x3 + 1))) [(decide ((x4 : Int) < (Ln (Exp.args b1) : Int))) = false] := by kernel_rfl
theorem p41_e_2 (a0 : Exp) : rE I41 (xC3 a0) [] [] = st 3 I41 (S41_3 0 0 a0) [] := by kernel_rfl
theorem c41_3 {N : Nat} {q0 : Exp → Option (Int)} (g0 : G41 q0) : ∀ n x3 x4 b1 r, xDO N q0 n x3 x4 b1 = some r → RS Tryz.f41 I41 3 (S41_3 x3 x4 b1) (xBM r) := by
 intro n
 induction n with
 | zero => exact fun _ _ _ _ h => nE h
 | succ n ih =>
  exact fun x3 x4 b1 r h =>
   cE h (fun h0 h => iE h fun h1 h => bE h fun r1 h2 h => bE h fun r2 h3 h => tS fk41 (p41_3_0 x3 x4 b1 r1 r2) (oc h0 (oc h1 (oc (g0 _ _ h2) (oc (spec_l1Max_ok h3) on)))) (ih _ _ _ _ h)) fun h0 h =>
   dS h fk41 (p41_3_1 x3 x4 b1) (oc h0 on)
theorem c41_e {N : Nat} {q0 : Exp → Option (Int)} (g0 : G41 q0) : ∀ a0 r, xE1 N q0 a0 = some r → RE Tryz.f41 I41 (xC3 a0) (xBM r) := fun a0 r h =>
 tE fk41 (p41_e_2 a0) on (c41_3 g0 _ _ _ _ _ h)
theorem xGx {N : Nat} {q0 : Exp → Option (Int)} (g0 : G41 q0) {a0 : Exp} {r : Int} (h : xE1 N q0 a0 = some r) : AbC 41 (xC3 a0) (xBM r) :=
 AbsCalls.of_reach fk41 rfl rfl (Nat.le_of_ble_eq_true rfl) (c41_e g0 a0 r h)
theorem xFq {N : Nat} : ∀ d, G41 (xD6 N d)
 | 0 => fun _ _ h => nE h
 | d + 1 => fun _ _ h => xGx (N := N) (xFq d) h
theorem xGb {N : Nat} {a0 : Exp} {r : Int} (h : xF2 N a0 = some r) : AbC 41 (xC3 a0) (xBM r) := xFq N _ r h
noncomputable def I105 : Info := { body := (Tryz.f105.body).getD .skip, nt := 15, results := [.tmp 6], keep := [0, 2, 4, 12], live := [], modes := [(1, [(3, .take, false)])] }
theorem fk105 : FnOk Tryz.prog 105 Tryz.f105 I105 := ⟨Tryz.func105, by kernel_rfl, by kernel_rfl, by kernel_rfl, by kernel_rfl⟩
theorem p105_e_0 (a0 a1 a2 : Int) : rE I105 (xE2 a0 a1 a2) [Y] [] = dn (xEi (decide ((a0 : Int) ≤ a2))) [(decide ((a0 : Int) ≥ a1)) = true] := by kernel_rfl
theorem p105_e_1 (a0 a1 a2 : Int) : rE I105 (xE2 a0 a1 a2) [F] [] = dn (xEi false) [(decide ((a0 : Int) ≥ a1)) = false] := by kernel_rfl
theorem c105_e {N : Nat} : ∀ a0 a1 a2 r, xGc N a0 a1 a2 = some r → RE Tryz.f105 I105 (xE2 a0 a1 a2) (xEi r) := fun a0 a1 a2 r h =>
 cE h (fun h0 h => dE h fk105 (p105_e_0 a0 a1 a2) (oc h0 on)) fun h0 h =>
 dE h fk105 (p105_e_1 a0 a1 a2) (oc h0 on)
theorem spec_l1In_ok {N : Nat} {a0 : Int} {a1 : Int} {a2 : Int} {r : Bool} (h : xGc N  a0 a1 a2 = some r) : AbC 105 (xE2 a0 a1 a2) (xEi r) :=
 AbsCalls.of_reach fk105 rfl rfl (Nat.le_of_ble_eq_true rfl) (c105_e a0 a1 a2 r h)
noncomputable def I78 : Info := { body := (Tryz.f78.body).getD .skip, nt := 120, results := [.tmp 2], keep := [0, 2, 4, 6, 16, 18, 46, 74, 102, 130, 154, 182, 212, 3], live := [], modes := [(4, [(2, .take, false), (7, .take, false)]), (6, [(2, .take, false), (7, .take, false)]), (8, [(2, .take, false), (7, .take, false)]), (10, [(3, .take, false), (8, .take, false)]), (12, [(3, .take, false)]), (14, [(3, .take, false), (7, .take, false)]), (17, [(3, .take, false), (7, .take, false)]), (19, [(3, .take, false), (8, .take, false)])] }
theorem fk78 : FnOk Tryz.prog 78 Tryz.f78 I78 := ⟨Tryz.func78, by kernel_rfl, by kernel_rfl, by kernel_rfl, by kernel_rfl⟩
theorem p78_e_0 (a0 : Exp) (r1 : Bool) : rE I78 (xAF a0) [Y, Y, Y] [xEi r1] = dn (xAD r1) [(((Exp.kind a0) : Int) == 1) = true, (((Ln (Exp.args a0) : Int) : Int) == 0) = true, (((Exp.text a0) : Str) == []) = true, AbC 105 (xE2 (Exp.n a0) 0 1000000000) (xEi r1)] := by kernel_rfl
theorem p78_e_1 (a0 : Exp) : rE I78 (xAF a0) [Y, Y, F] [] = dn (xAD false) [(((Exp.kind a0) : Int) == 1) = true, (((Ln (Exp.args a0) : Int) : Int) == 0) = true, (((Exp.text a0) : Str) == []) = false] := by kernel_rfl
theorem p78_e_2 (a0 : Exp) : rE I78 (xAF a0) [Y, F, F] [] = dn (xAD false) [(((Exp.kind a0) : Int) == 1) = true, (((Ln (Exp.args a0) : Int) : Int) == 0) = false, false = false] := by kernel_rfl
theorem p78_e_3 (a0 : Exp) (r1 : Bool) : rE I78 (xAF a0) [F, Y, Y, Y] [xAZ r1] = dn (xAD r1) [(((Exp.kind a0) : Int) == 1) = false, (((Exp.kind a0) : Int) == 2) = true, (((Ln (Exp.args a0) : Int) : Int) == 0) = true, (((Exp.n a0) : Int) == 0) = true, AbC 82 (xCw (Exp.text a0)) (xAZ r1)] := by kernel_rfl
theorem p78_e_4 (a0 : Exp) : rE I78 (xAF a0) [F, Y, Y, F] [] = dn (xAD false) [(((Exp.kind a0) : Int) == 1) = false, (((Exp.kind a0) : Int) == 2) = true, (((Ln (Exp.args a0) : Int) : Int) == 0) = true, (((Exp.n a0) : Int) == 0) = false] := by kernel_rfl
theorem p78_e_5 (a0 : Exp) : rE I78 (xAF a0) [F, Y, F, F] [] = dn (xAD false) [(((Exp.kind a0) : Int) == 1) = false, (((Exp.kind a0) : Int) == 2) = true, (((Ln (Exp.args a0) : Int) : Int) == 0) = false, false = false] := by kernel_rfl
theorem p78_e_6 (a0 : Exp) (r1 : Bool) : rE I78 (xAF a0) [F, F, Y, Y, Y] [xAB r1] = dn (xAD r1) [(((Exp.kind a0) : Int) == 1) = false, (((Exp.kind a0) : Int) == 2) = false, (((Exp.kind a0) : Int) == 3) = true, (((Ln (Exp.args a0) : Int) : Int) == 0) = true, (((Exp.n a0) : Int) == 0) = true, AbC 87 (xA7 (Exp.text a0)) (xAB r1)] := by kernel_rfl
theorem p78_e_7 (a0 : Exp) : rE I78 (xAF a0) [F, F, Y, Y, F] [] = dn (xAD false) [(((Exp.kind a0) : Int) == 1) = false, (((Exp.kind a0) : Int) == 2) = false, (((Exp.kind a0) : Int) == 3) = true, (((Ln (Exp.args a0) : Int) : Int) == 0) = true, (((Exp.n a0) : Int) == 0) = false] := by kernel_rfl
theorem p78_e_8 (a0 : Exp) : rE I78 (xAF a0) [F, F, Y, F, F] [] = dn (xAD false) [(((Exp.kind a0) : Int) == 1) = false, (((Exp.kind a0) : Int) == 2) = false, (((Exp.kind a0) : Int) == 3) = true, (((Ln (Exp.args a0) : Int) : Int) == 0) = false, false = false] := by kernel_rfl
theorem p78_e_9 (a0 : Exp) : rE I78 (xAF a0) [F, F, F, Y, Y, Y] [] = dn (xAD (decide (((Ln (Exp.args a0) : Int) : Int) ≤ 8))) [(((Exp.kind a0) : Int) == 1) = false, (((Exp.kind a0) : Int) == 2) = false, (((Exp.kind a0) : Int) == 3) = false, (((Exp.kind a0) : Int) == 4) = true, (((Exp.n a0) : Int) == 0) = true, (((Exp.text a0) : Str) == []) = true] := by kernel_rfl
theorem p78_e_10 (a0 : Exp) : rE I78 (xAF a0) [F, F, F, Y, Y, F] [] = dn (xAD false) [(((Exp.kind a0) : Int) == 1) = false, (((Exp.kind a0) : Int) == 2) = false, (((Exp.kind a0) : Int) == 3) = false, (((Exp.kind a0) : Int) == 4) = true, (((Exp.n a0) : Int) == 0) = true, (((Exp.text a0) : Str) == []) = false] := by kernel_rfl
theorem p78_e_11 (a0 : Exp) : rE I78 (xAF a0) [F, F, F, Y, F, F] [] = dn (xAD false) [(((Exp.kind a0) : Int) == 1) = false, (((Exp.kind a0) : Int) == 2) = false, (((Exp.kind a0) : Int) == 3) = false, (((Exp.kind a0) : Int) == 4) = true, (((Exp.n a0) : Int) == 0) = false, false = false] := by kernel_rfl
theorem p78_e_12 (a0 : Exp) (r1 : Int) : rE I78 (xAF a0) [F, F, F, F, Y, Y] [xAk r1] = dn (xAD (((Ln (Exp.args a0) : Int) : Int) == r1)) [(((Exp.kind a0) : Int) == 1) = false, (((Exp.kind a0) : Int) == 2) = false, (((Exp.kind a0) : Int) == 3) = false, (((Exp.kind a0) : Int) == 4) = false, (((Exp.kind a0) : Int) == 5) = true, (((Exp.n a0) : Int) == 0) = true, AbC 106 (xAr (Exp.text a0)) (xAk r1)] := by kernel_rfl
theorem p78_e_13 (a0 : Exp) : rE I78 (xAF a0) [F, F, F, F, Y, F] [] = dn (xAD false) [(((Exp.kind a0) : Int) == 1) = false, (((Exp.kind a0) : Int) == 2) = false, (((Exp.kind a0) : Int) == 3) = false, (((Exp.kind a0) : Int) == 4) = false, (((Exp.kind a0) : Int) == 5) = true, (((Exp.n a0) : Int) == 0) = false] := by kernel_rfl
theorem p78_e_14 (a0 : Exp) (r1 : Bool) : rE I78 (xAF a0) [F, F, F, F, F, Y, Y, Y] [xEi r1] = dn (xAD r1) [(((Exp.kind a0) : Int) == 1) = false, (((Exp.kind a0) : Int) == 2) = false, (((Exp.kind a0) : Int) == 3) = false, (((Exp.kind a0) : Int) == 4) = false, (((Exp.kind a0) : Int) == 5) = false, (((Exp.kind a0) : Int) == 6) = true, (((Exp.text a0) : Str) == []) = true, (((Ln (Exp.args a0) : Int) : Int) == 2) = true, AbC 105 (xE2 (Exp.n a0) 1 5) (xEi r1)] := by kernel_rfl
theorem p78_e_15 (a0 : Exp) : rE I78 (xAF a0) [F, F, F, F, F, Y, Y, F] [] = dn (xAD false) [(((Exp.kind a0) : Int) == 1) = false, (((Exp.kind a0) : Int) == 2) = false, (((Exp.kind a0) : Int) == 3) = false, (((Exp.kind a0) : Int) == 4) = false, (((Exp.kind a0) : Int) == 5) = false, (((Exp.kind a0) : Int) == 6) = true, (((Exp.text a0) : Str) == []) = true, (((Ln (Exp.args a0) : Int) : Int) == 2) = false] := by kernel_rfl
theorem p78_e_16 (a0 : Exp) : rE I78 (xAF a0) [F, F, F, F, F, Y, F, F] [] = dn (xAD false) [(((Exp.kind a0) : Int) == 1) = false, (((Exp.kind a0) : Int) == 2) = false, (((Exp.kind a0) : Int) == 3) = false, (((Exp.kind a0) : Int) == 4) = false, (((Exp.kind a0) : Int) == 5) = false, (((Exp.kind a0) : Int) == 6) = true, (((Exp.text a0) : Str) == []) = false, false = false] := by kernel_rfl
theorem p78_e_17 (a0 : Exp) (r1 : Bool) : rE I78 (xAF a0) [F, F, F, F, F, F, Y, Y, Y, Y] [xAB r1] = dn (xAD r1) [(((Exp.kind a0) : Int) == 1) = false, (((Exp.kind a0) : Int) == 2) = false, (((Exp.kind a0) : Int) == 3) = false, (((Exp.kind a0) : Int) == 4) = false, (((Exp.kind a0) : Int) == 5) = false, (((Exp.kind a0) : Int) == 6) = false, (((Exp.kind a0) : Int) == 7) = true, (((Exp.kind a0) : Int) == 7) = true, (((Exp.n a0) : Int) == 0) = true, (((Ln (Exp.args a0) : Int) : Int) == 2) = true, AbC 87 (xA7 (Exp.text a0)) (xAB r1)] := by kernel_rfl
theorem p78_e_18 (a0 : Exp) : rE I78 (xAF a0) [F, F, F, F, F, F, Y, Y, Y, F] [] = dn (xAD false) [(((Exp.kind a0) : Int) == 1) = false, (((Exp.kind a0) : Int) == 2) = false, (((Exp.kind a0) : Int) == 3) = false, (((Exp.kind a0) : Int) == 4) = false, (((Exp.kind a0) : Int) == 5) = false, (((Exp.kind a0) : Int) == 6) = false, (((Exp.kind a0) : Int) == 7) = true, (((Exp.kind a0) : Int) == 7) = true, (((Exp.n a0) : Int) == 0) = true, (((Ln (Exp.args a0) : Int) : Int) == 2) = false] := by kernel_rfl
theorem p78_e_19 (a0 : Exp) : rE I78 (xAF a0) [F, F, F, F, F, F, Y, Y, F, F] [] = dn (xAD false) [(((Exp.kind a0) : Int) == 1) = false, (((Exp.kind a0) : Int) == 2) = false, (((Exp.kind a0) : Int) == 3) = false, (((Exp.kind a0) : Int) == 4) = false, (((Exp.kind a0) : Int) == 5) = false, (((Exp.kind a0) : Int) == 6) = false, (((Exp.kind a0) : Int) == 7) = true, (((Exp.kind a0) : Int) == 7) = true, (((Exp.n a0) : Int) == 0) = false, false = false] := by kernel_rfl
theorem p78_e_20 (a0 : Exp) (r1 : Bool) : rE I78 (xAF a0) [F, F, F, F, F, F, F, Y, Y, Y] [xAB r1] = dn (xAD r1) [(((Exp.kind a0) : Int) == 1) = false, (((Exp.kind a0) : Int) == 2) = false, (((Exp.kind a0) : Int) == 3) = false, (((Exp.kind a0) : Int) == 4) = false, (((Exp.kind a0) : Int) == 5) = false, (((Exp.kind a0) : Int) == 6) = false, (((Exp.kind a0) : Int) == 7) = false, (((Exp.kind a0) : Int) == 9) = true, (((Exp.n a0) : Int) == 0) = true, (((Ln (Exp.args a0) : Int) : Int) == 2) = true, AbC 87 (xA7 (Exp.text a0)) (xAB r1)] := by kernel_rfl
theorem p78_e_21 (a0 : Exp) : rE I78 (xAF a0) [F, F, F, F, F, F, F, Y, Y, F] [] = dn (xAD false) [(((Exp.kind a0) : Int) == 1) = false, (((Exp.kind a0) : Int) == 2) = false, (((Exp.kind a0) : Int) == 3) = false, (((Exp.kind a0) : Int) == 4) = false, (((Exp.kind a0) : Int) == 5) = false, (((Exp.kind a0) : Int) == 6) = false, (((Exp.kind a0) : Int) == 7) = false, (((Exp.kind a0) : Int) == 9) = true, (((Exp.n a0) : Int) == 0) = true, (((Ln (Exp.args a0) : Int) : Int) == 2) = false] := by kernel_rfl
theorem p78_e_22 (a0 : Exp) : rE I78 (xAF a0) [F, F, F, F, F, F, F, Y, F, F] [] = dn (xAD false) [(((Exp.kind a0) : Int) == 1) = false, (((Exp.kind a0) : Int) == 2) = false, (((Exp.kind a0) : Int) == 3) = false, (((Exp.kind a0) : Int) == 4) = false, (((Exp.kind a0) : Int) == 5) = false, (((Exp.kind a0) : Int) == 6) = false, (((Exp.kind a0) : Int) == 7) = false, (((Exp.kind a0) : Int) == 9) = true, (((Exp.n a0) : Int) == 0) = false, false = false] := by kernel_rfl
theorem p78_e_23 (a0 : Exp) : rE I78 (xAF a0) [F, F, F, F, F, F, F, F, Y, Y, Y] [] = dn (xAD (((Ln (Exp.args a0) : Int) : Int) == 3)) [(((Exp.kind a0) : Int) == 1) = false, (((Exp.kind a0) : Int) == 2) = false, (((Exp.kind a0) : Int) == 3) = false, (((Exp.kind a0) : Int) == 4) = false, (((Exp.kind a0) : Int) == 5) = false, (((Exp.kind a0) : Int) == 6) = false, (((Exp.kind a0) : Int) == 7) = false, (((Exp.kind a0) : Int) == 9) = false, (((Exp.kind a0) : Int) == 8) = true, (((Exp.n a0) : Int) == 0) = true, (((Exp.text a0) : Str) == []) = true] := by kernel_rfl
theorem p78_e_24 (a0 : Exp) : rE I78 (xAF a0) [F, F, F, F, F, F, F, F, Y, Y, F] [] = dn (xAD false) [(((Exp.kind a0) : Int) == 1) = false, (((Exp.kind a0) : Int) == 2) = false, (((Exp.kind a0) : Int) == 3) = false, (((Exp.kind a0) : Int) == 4) = false, (((Exp.kind a0) : Int) == 5) = false, (((Exp.kind a0) : Int) == 6) = false, (((Exp.kind a0) : Int) == 7) = false, (((Exp.kind a0) : Int) == 9) = false, (((Exp.kind a0) : Int) == 8) = true, (((Exp.n a0) : Int) == 0) = true, (((Exp.text a0) : Str) == []) = false] := by kernel_rfl
theorem p78_e_25 (a0 : Exp) : rE I78 (xAF a0) [F, F, F, F, F, F, F, F, Y, F, F] [] = dn (xAD false) [(((Exp.kind a0) : Int) == 1) = false, (((Exp.kind a0) : Int) == 2) = false, (((Exp.kind a0) : Int) == 3) = false, (((Exp.kind a0) : Int) == 4) = false, (((Exp.kind a0) : Int) == 5) = false, (((Exp.kind a0) : Int) == 6) = false, (((Exp.kind a0) : Int) == 7) = false, (((Exp.kind a0) : Int) == 9) = false, (((Exp.kind a0) : Int) == 8) = true, (((Exp.n a0) : Int) == 0) = false, false = false] := by kernel_rfl
theorem p78_e_26 (a0 : Exp) : rE I78 (xAF a0) [F, F, F, F, F, F, F, F, F] [] = dn (xAD false) [(((Exp.kind a0) : Int) == 1) = false, (((Exp.kind a0) : Int) == 2) = false, (((Exp.kind a0) : Int) == 3) = false, (((Exp.kind a0) : Int) == 4) = false, (((Exp.kind a0) : Int) == 5) = false, (((Exp.kind a0) : Int) == 6) = false, (((Exp.kind a0) : Int) == 7) = false, (((Exp.kind a0) : Int) == 9) = false, (((Exp.kind a0) : Int) == 8) = false] := by kernel_rfl
theorem c78_e {N : Nat} : ∀ a0 r, xFr N a0 = some r → RE Tryz.f78 I78 (xAF a0) (xAD r) := fun a0 r h =>
 cE h (fun h0 h => cE h (fun h1 h => cE h (fun h2 h => bE h fun r1 h3 h => dE h fk78 (p78_e_0 a0 r1) (oc h0 (oc h1 (oc h2 (oc (spec_l1In_ok h3) on))))) fun h2 h =>
 dE h fk78 (p78_e_1 a0) (oc h0 (oc h1 (oc h2 on)))) fun h1 h =>
 dE h fk78 (p78_e_2 a0) (oc h0 (oc h1 (oc rfl on)))) fun h0 h =>
 cE h (fun h1 h => cE h (fun h2 h => cE h (fun h3 h => bE h fun r1 h4 h => dE h fk78 (p78_e_3 a0 r1) (oc h0 (oc h1 (oc h2 (oc h3 (oc (xDT h4) on)))))) fun h3 h =>
 dE h fk78 (p78_e_4 a0) (oc h0 (oc h1 (oc h2 (oc h3 on))))) fun h2 h =>
 dE h fk78 (p78_e_5 a0) (oc h0 (oc h1 (oc h2 (oc rfl on))))) fun h1 h =>
 cE h (fun h2 h => cE h (fun h3 h => cE h (fun h4 h => bE h fun r1 h5 h => dE h fk78 (p78_e_6 a0 r1) (oc h0 (oc h1 (oc h2 (oc h3 (oc h4 (oc (xBS h5) on))))))) fun h4 h =>
 dE h fk78 (p78_e_7 a0) (oc h0 (oc h1 (oc h2 (oc h3 (oc h4 on)))))) fun h3 h =>
 dE h fk78 (p78_e_8 a0) (oc h0 (oc h1 (oc h2 (oc h3 (oc rfl on)))))) fun h2 h =>
 cE h (fun h3 h => cE h (fun h4 h => cE h (fun h5 h => dE h fk78 (p78_e_9 a0) (oc h0 (oc h1 (oc h2 (oc h3 (oc h4 (oc h5 on))))))) fun h5 h =>
 dE h fk78 (p78_e_10 a0) (oc h0 (oc h1 (oc h2 (oc h3 (oc h4 (oc h5 on))))))) fun h4 h =>
 dE h fk78 (p78_e_11 a0) (oc h0 (oc h1 (oc h2 (oc h3 (oc h4 (oc rfl on))))))) fun h3 h =>
 cE h (fun h4 h => cE h (fun h5 h => bE h fun r1 h6 h => dE h fk78 (p78_e_12 a0 r1) (oc h0 (oc h1 (oc h2 (oc h3 (oc h4 (oc h5 (oc (xDw h6) on)))))))) fun h5 h =>
 dE h fk78 (p78_e_13 a0) (oc h0 (oc h1 (oc h2 (oc h3 (oc h4 (oc h5 on))))))) fun h4 h =>
 cE h (fun h5 h => cE h (fun h6 h => cE h (fun h7 h => bE h fun r1 h8 h => dE h fk78 (p78_e_14 a0 r1) (oc h0 (oc h1 (oc h2 (oc h3 (oc h4 (oc h5 (oc h6 (oc h7 (oc (spec_l1In_ok h8) on)))))))))) fun h7 h =>
 dE h fk78 (p78_e_15 a0) (oc h0 (oc h1 (oc h2 (oc h3 (oc h4 (oc h5 (oc h6 (oc h7 on))))))))) fun h6 h =>
 dE h fk78 (p78_e_16 a0) (oc h0 (oc h1 (oc h2 (oc h3 (oc h4 (oc h5 (oc h6 (oc rfl on))))))))) fun h5 h =>
 cE h (fun h6 h => cE h (fun h8 h => cE h (fun h9 h => bE h fun r1 h10 h => dE h fk78 (p78_e_17 a0 r1) (oc h0 (oc h1 (oc h2 (oc h3 (oc h4 (oc h5 (oc h6 (oc h6 (oc h8 (oc h9 (oc (xBS h10) on)))))))))))) fun h9 h =>
 dE h fk78 (p78_e_18 a0) (oc h0 (oc h1 (oc h2 (oc h3 (oc h4 (oc h5 (oc h6 (oc h6 (oc h8 (oc h9 on))))))))))) fun h8 h =>
 dE h fk78 (p78_e_19 a0) (oc h0 (oc h1 (oc h2 (oc h3 (oc h4 (oc h5 (oc h6 (oc h6 (oc h8 (oc rfl on))))))))))) fun h6 h =>
 cE h (fun h7 h => cE h (fun h8 h => cE h (fun h9 h => bE h fun r1 h10 h => dE h fk78 (p78_e_20 a0 r1) (oc h0 (oc h1 (oc h2 (oc h3 (oc h4 (oc h5 (oc h6 (oc h7 (oc h8 (oc h9 (oc (xBS h10) on)))))))))))) fun h9 h =>
 dE h fk78 (p78_e_21 a0) (oc h0 (oc h1 (oc h2 (oc h3 (oc h4 (oc h5 (oc h6 (oc h7 (oc h8 (oc h9 on))))))))))) fun h8 h =>
 dE h fk78 (p78_e_22 a0) (oc h0 (oc h1 (oc h2 (oc h3 (oc h4 (oc h5 (oc h6 (oc h7 (oc h8 (oc rfl on))))))))))) fun h7 h =>
 cE h (fun h8 h => cE h (fun h9 h => cE h (fun h10 h => dE h fk78 (p78_e_23 a0) (oc h0 (oc h1 (oc h2 (oc h3 (oc h4 (oc h5 (oc h6 (oc h7 (oc h8 (oc h9 (oc h10 on)))))))))))) fun h10 h =>
 dE h fk78 (p78_e_24 a0) (oc h0 (oc h1 (oc h2 (oc h3 (oc h4 (oc h5 (oc h6 (oc h7 (oc h8 (oc h9 (oc h10 on)))))))))))) fun h9 h =>
 dE h fk78 (p78_e_25 a0) (oc h0 (oc h1 (oc h2 (oc h3 (oc h4 (oc h5 (oc h6 (oc h7 (oc h8 (oc h9 (oc rfl on)))))))))))) fun h8 h =>
 dE h fk78 (p78_e_26 a0) (oc h0 (oc h1 (oc h2 (oc h3 (oc h4 (oc h5 (oc h6 (oc h7 (oc h8 on)))))))))
theorem spec_l10Node_ok {N : Nat} {a0 : Exp} {r : Bool} (h : xFr N  a0 = some r) : AbC 78 (xAF a0) (xAD r) :=
 AbsCalls.of_reach fk78 rfl rfl (Nat.le_of_ble_eq_true rfl) (c78_e a0 r h)
def G42 (q : Exp → Option (Bool)) : Prop := ∀ a0 r, q a0 = some r → AbC 42 (xDJ a0) (xCi r)
noncomputable def I42 : Info := { body := (Tryz.f42.body).getD .skip, nt := 20, results := [.tmp 2], keep := [0, 2, 4, 6, 16, 34, 3], live := [(2, [2, 6, 3])], modes := [] }
theorem fk42 : FnOk Tryz.prog 42 Tryz.f42 I42 := ⟨Tryz.func42, by kernel_rfl, by kernel_rfl, by kernel_rfl, by kernel_rfl⟩
def S42_2 (x3 : Int) (b1 : Exp) : St := [(2, .v false [.ptr 1 0]), (6, .v false [.int .i64 x3]), (3, .v true [.int .i64 (Exp.kind b1), .int .i64 (Exp.n b1), .str (Exp.text b1), .sl .ro .exp (Exp.args b1)])]
theorem p42_2_0 (x3 : Int) (b1 : Exp) (r1 : Bool) : rS 2 I42 (S42_2 x3 b1) [Y, Y] [xCi r1] = dn (xCi false) [(decide ((x3 : Int) < (Ln (Exp.args b1) : Int))) = true, (0 : Int) ≤ x3 ∧ x3 < (Ln (Exp.args b1)), AbC 42 (xDJ (gD (Exp.args b1) (tN x3) Ty.exp.dflt)) (xCi r1), (!r1) = true] := by kernel_rfl
theorem p42_2_1 (x3 : Int) (b1 : Exp) (r1 : Bool) : rS 2 I42 (S42_2 x3 b1) [Y, F] [xCi r1] = st 2 I42 (S42_2 (W (x3 + 1)) b1) [(decide ((x3 : Int) < (Ln (Exp.args b1) : Int))) = true, (0 : Int) ≤ x3 ∧ x3 < (Ln (Exp.args b1)), AbC 42 (xDJ (gD (Exp.args b1) (tN x3) Ty.exp.dflt)) (xCi r1), (!r1) = false] := by kernel_rfl
theorem p42_2_2 (x3 : Int) (b1 : Exp) (r1 : Bool) : rS 2 I42 (S42_2 x3 b1) [F] [xAD r1] = dn (xCi r1) [(decide ((x3 : Int) < (Ln (Exp.args b1) : Int))) = false, AbC 78 (xAF b1) (xAD r1)] := by kernel_rfl
theorem p42_e_3 (a0 : Exp) : rE I42 (xDJ a0) [] [] = st 2 I42 (S42_2 0 a0) [] := by kernel_rfl
theorem c42_2 {N : Nat} {q0 : Exp → Option (Bool)} (g0 : G42 q0) : ∀ n x3 b1 r, xD9 N q0 n x3 b1 = some r → RS Tryz.f42 I42 2 (S42_2 x3 b1) (xCi r) := by
 intro n
 induction n with
 | zero => exact fun _ _ _ h => nE h
 | succ n ih =>
  exact fun x3 b1 r h =>
   cE h (fun h0 h => iE h fun h1 h => bE h fun r1 h2 h => cE h (fun h3 h => dS h fk42 (p42_2_0 x3 b1 r1) (oc h0 (oc h1 (oc (g0 _ _ h2) (oc h3 on))))) fun h3 h =>
   tS fk42 (p42_2_1 x3 b1 r1) (oc h0 (oc h1 (oc (g0 _ _ h2) (oc h3 on)))) (ih _ _ _ h)) fun h0 h =>
   bE h fun r1 h1 h => dS h fk42 (p42_2_2 x3 b1 r1) (oc h0 (oc (spec_l10Node_ok h1) on))
theorem c42_e {N : Nat} {q0 : Exp → Option (Bool)} (g0 : G42 q0) : ∀ a0 r, xFs N q0 a0 = some r → RE Tryz.f42 I42 (xDJ a0) (xCi r) := fun a0 r h =>
 tE fk42 (p42_e_3 a0) on (c42_2 g0 _ _ _ _ h)
theorem xG0 {N : Nat} {q0 : Exp → Option (Bool)} (g0 : G42 q0) {a0 : Exp} {r : Bool} (h : xFs N q0 a0 = some r) : AbC 42 (xDJ a0) (xCi r) :=
 AbsCalls.of_reach fk42 rfl rfl (Nat.le_of_ble_eq_true rfl) (c42_e g0 a0 r h)
theorem xFU {N : Nat} : ∀ d, G42 (xEz N d)
 | 0 => fun _ _ h => nE h
 | d + 1 => fun _ _ h => xG0 (N := N) (xFU d) h
theorem spec_l10All_ok {N : Nat} {a0 : Exp} {r : Bool} (h : xGZ N a0 = some r) : AbC 42 (xDJ a0) (xCi r) := xFU N _ r h
noncomputable def I22 : Info := { body := (Tryz.f22.body).getD .skip, nt := 15, results := [.tmp 2], keep := [0, 2, 4, 3], live := [], modes := [(1, [(3, .take, false), (8, .take, false)])] }
theorem fk22 : FnOk Tryz.prog 22 Tryz.f22 I22 := ⟨Tryz.func22, by kernel_rfl, by kernel_rfl, by kernel_rfl, by kernel_rfl⟩
theorem p22_e_0 (a0 : Exp) (r1 r2 : Int) (r3 : Bool) : rE I22 (xBE a0) [Y, Y] [xBF r1, xBM r2, xCi r3] = dn (xAY r3) [AbC 40 (xC6 a0 40) (xBF r1), (decide ((r1 : Int) ≥ 0)) = true, AbC 41 (xC3 a0) (xBM r2), (decide ((r2 : Int) ≤ 8)) = true, AbC 42 (xDJ a0) (xCi r3)] := by kernel_rfl
theorem p22_e_1 (a0 : Exp) (r1 r2 : Int) : rE I22 (xBE a0) [Y, F] [xBF r1, xBM r2] = dn (xAY false) [AbC 40 (xC6 a0 40) (xBF r1), (decide ((r1 : Int) ≥ 0)) = true, AbC 41 (xC3 a0) (xBM r2), (decide ((r2 : Int) ≤ 8)) = false] := by kernel_rfl
theorem p22_e_2 (a0 : Exp) (r1 : Int) : rE I22 (xBE a0) [F, F] [xBF r1] = dn (xAY false) [AbC 40 (xC6 a0 40) (xBF r1), (decide ((r1 : Int) ≥ 0)) = false, false = false] := by kernel_rfl
theorem c22_e {N : Nat} : ∀ a0 r, xCW N a0 = some r → RE Tryz.f22 I22 (xBE a0) (xAY r) := fun a0 r h =>
 bE h fun r1 h0 h => cE h (fun h1 h => bE h fun r2 h2 h => cE h (fun h3 h => bE h fun r3 h4 h => dE h fk22 (p22_e_0 a0 r1 r2 r3) (oc (xFN h0) (oc h1 (oc (xGb h2) (oc h3 (oc (spec_l10All_ok h4) on)))))) fun h3 h =>
 dE h fk22 (p22_e_1 a0 r1 r2) (oc (xFN h0) (oc h1 (oc (xGb h2) (oc h3 on))))) fun h1 h =>
 dE h fk22 (p22_e_2 a0 r1) (oc (xFN h0) (oc h1 (oc rfl on)))
theorem xDl {N : Nat} {a0 : Exp} {r : Bool} (h : xCW N  a0 = some r) : AbC 22 (xBE a0) (xAY r) :=
 AbsCalls.of_reach fk22 rfl rfl (Nat.le_of_ble_eq_true rfl) (c22_e a0 r h)
noncomputable def I11 : Info := { body := (Tryz.f11.body).getD .skip, nt := 55, results := [.cell 2 25, .tmp 3], keep := [0, 4, 6, 8, 10, 12, 14, 28, 74, 88, 104, 5, 15, 43], live := [], modes := [(1, [(1, .cp, true), (2, .take, false)]), (4, [(0, .take, false)]), (6, [(5, .take, false)])], fcast := [(5, 3, true)] }
theorem fk11 : FnOk Tryz.prog 11 Tryz.f11 I11 := ⟨Tryz.func11, by kernel_rfl, by kernel_rfl, by kernel_rfl, by kernel_rfl⟩
theorem p11_e_0 (a0 : Str) (r1 : (List Tok) × Int) : rE I11 (xAR a0) [Y] [xAG r1] = dn (xAv ((Exp.mk 0 0 [] []), r1.2)) [AbC 23 (xBC a0) (xAG r1), (decide ((r1.2 : Int) ≥ 0)) = true] := by kernel_rfl
theorem p11_e_1 (a0 : Str) (r1 : (List Tok) × Int) (r2 : Exp × Rdr) (r3 : Exp × Rdr) : rE I11 (xAR a0) [F, Y, Y, Y] [xAG r1, xAi r2, xAH r3] = dn (xAv ((Exp.mk 0 0 [] []), (Rdr.bad r3.2))) [AbC 23 (xBC a0) (xAG r1), (decide ((r1.2 : Int) ≥ 0)) = false, AbC 28 (xAJ (Rdr.mk r1.1 0 (Ln a0 : Int) (-1))) (xAi r2), (decide (((Rdr.bad r2.2) : Int) < 0)) = true, (decide (((Rdr.i r2.2) : Int) < (Ln r1.1 : Int))) = true, AbC 29 (xBp r2.2) (xAH r3), (decide (((Rdr.bad r3.2) : Int) ≥ 0)) = true] := by kernel_rfl
theorem p11_e_2 (a0 : Str) (r1 : (List Tok) × Int) (r2 : Exp × Rdr) (r3 : Exp × Rdr) (r4 : Bool) : rE I11 (xAR a0) [F, Y, Y, F, Y] [xAG r1, xAi r2, xAH r3, xAY r4] = dn (xAv ((Exp.mk 0 0 [] []), 0)) [AbC 23 (xBC a0) (xAG r1), (decide ((r1.2 : Int) ≥ 0)) = false, AbC 28 (xAJ (Rdr.mk r1.1 0 (Ln a0 : Int) (-1))) (xAi r2), (decide (((Rdr.bad r2.2) : Int) < 0)) = true, (decide (((Rdr.i r2.2) : Int) < (Ln r1.1 : Int))) = true, AbC 29 (xBp r2.2) (xAH r3), (decide (((Rdr.bad r3.2) : Int) ≥ 0)) = false, AbC 22 (xBE r2.1) (xAY r4), (!r4) = true] := by kernel_rfl
theorem p11_e_3 (a0 : Str) (r1 : (List Tok) × Int) (r2 : Exp × Rdr) (r3 : Exp × Rdr) (r4 : Bool) : rE I11 (xAR a0) [F, Y, Y, F, F] [xAG r1, xAi r2, xAH r3, xAY r4] = dn (xAv (r2.1, (-1))) [AbC 23 (xBC a0) (xAG r1), (decide ((r1.2 : Int) ≥ 0)) = false, AbC 28 (xAJ (Rdr.mk r1.1 0 (Ln a0 : Int) (-1))) (xAi r2), (decide (((Rdr.bad r2.2) : Int) < 0)) = true, (decide (((Rdr.i r2.2) : Int) < (Ln r1.1 : Int))) = true, AbC 29 (xBp r2.2) (xAH r3), (decide (((Rdr.bad r3.2) : Int) ≥ 0)) = false, AbC 22 (xBE r2.1) (xAY r4), (!r4) = false] := by kernel_rfl
theorem p11_e_4 (a0 : Str) (r1 : (List Tok) × Int) (r2 : Exp × Rdr) : rE I11 (xAR a0) [F, Y, F, Y] [xAG r1, xAi r2] = dn (xAv ((Exp.mk 0 0 [] []), (Rdr.bad r2.2))) [AbC 23 (xBC a0) (xAG r1), (decide ((r1.2 : Int) ≥ 0)) = false, AbC 28 (xAJ (Rdr.mk r1.1 0 (Ln a0 : Int) (-1))) (xAi r2), (decide (((Rdr.bad r2.2) : Int) < 0)) = true, (decide (((Rdr.i r2.2) : Int) < (Ln r1.1 : Int))) = false, (decide (((Rdr.bad r2.2) : Int) ≥ 0)) = true] := by kernel_rfl
theorem p11_e_5 (a0 : Str) (r1 : (List Tok) × Int) (r2 : Exp × Rdr) (r3 : Bool) : rE I11 (xAR a0) [F, Y, F, F, Y] [xAG r1, xAi r2, xAY r3] = dn (xAv ((Exp.mk 0 0 [] []), 0)) [AbC 23 (xBC a0) (xAG r1), (decide ((r1.2 : Int) ≥ 0)) = false, AbC 28 (xAJ (Rdr.mk r1.1 0 (Ln a0 : Int) (-1))) (xAi r2), (decide (((Rdr.bad r2.2) : Int) < 0)) = true, (decide (((Rdr.i r2.2) : Int) < (Ln r1.1 : Int))) = false, (decide (((Rdr.bad r2.2) : Int) ≥ 0)) = false, AbC 22 (xBE r2.1) (xAY r3), (!r3) = true] := by kernel_rfl
theorem p11_e_6 (a0 : Str) (r1 : (List Tok) × Int) (r2 : Exp × Rdr) (r3 : Bool) : rE I11 (xAR a0) [F, Y, F, F, F] [xAG r1, xAi r2, xAY r3] = dn (xAv (r2.1, (-1))) [AbC 23 (xBC a0) (xAG r1), (decide ((r1.2 : Int) ≥ 0)) = false, AbC 28 (xAJ (Rdr.mk r1.1 0 (Ln a0 : Int) (-1))) (xAi r2), (decide (((Rdr.bad r2.2) : Int) < 0)) = true, (decide (((Rdr.i r2.2) : Int) < (Ln r1.1 : Int))) = false, (decide (((Rdr.bad r2.2) : Int) ≥ 0)) = false, AbC 22 (xBE r2.1) (xAY r3), (!r3) = false] := by kernel_rfl
theorem p11_e_7 (a0 : Str) (r1 : (List Tok) × Int) (r2 : Exp × Rdr) : rE I11 (xAR a0) [F, F, F, Y] [xAG r1, xAi r2] = dn (xAv ((Exp.mk 0 0 [] []), (Rdr.bad r2.2))) [AbC 23 (xBC a0) (xAG r1), (decide ((r1.2 : Int) ≥ 0)) = false, AbC 28 (xAJ (Rdr.mk r1.1 0 (Ln a0 : Int) (-1))) (xAi r2), (decide (((Rdr.bad r2.2) : Int) < 0)) = false, false = false, (decide (((Rdr.bad r2.2) : Int) ≥ 0)) = true] := by kernel_rfl
theorem p11_e_8 (a0 : Str) (r1 : (List Tok) × Int) (r2 : Exp × Rdr) (r3 : Bool) : rE I11 (xAR a0) [F, F, F, F, Y] [xAG r1, xAi r2, xAY r3] = dn (xAv ((Exp.mk 0 0 [] []), 0)) [AbC 23 (xBC a0) (xAG r1), (decide ((r1.2 : Int) ≥ 0)) = false, AbC 28 (xAJ (Rdr.mk r1.1 0 (Ln a0 : Int) (-1))) (xAi r2), (decide (((Rdr.bad r2.2) : Int) < 0)) = false, false = false, (decide (((Rdr.bad r2.2) : Int) ≥ 0)) = false, AbC 22 (xBE r2.1) (xAY r3), (!r3) = true] := by kernel_rfl
theorem p11_e_9 (a0 : Str) (r1 : (List Tok) × Int) (r2 : Exp × Rdr) (r3 : Bool) : rE I11 (xAR a0) [F, F, F, F, F] [xAG r1, xAi r2, xAY r3] = dn (xAv (r2.1, (-1))) [AbC 23 (xBC a0) (xAG r1), (decide ((r1.2 : Int) ≥ 0)) = false, AbC 28 (xAJ (Rdr.mk r1.1 0 (Ln a0 : Int) (-1))) (xAi r2), (decide (((Rdr.bad r2.2) : Int) < 0)) = false, false = false, (decide (((Rdr.bad r2.2) : Int) ≥ 0)) = false, AbC 22 (xBE r2.1) (xAY r3), (!r3) = false] := by kernel_rfl
theorem c11_e {N : Nat} : ∀ a0 r, xD8 N a0 = some r → RE Tryz.f11 I11 (xAR a0) (xAv r) := fun a0 r h =>
 bE h fun r1 h0 h => cE h (fun h1 h => dE h fk11 (p11_e_0 a0 r1) (oc (xCC h0) (oc h1 on))) fun h1 h =>
 bE h fun r2 h2 h => cE h (fun h3 h => cE h (fun h4 h => bE h fun r3 h5 h => cE h (fun h6 h => dE h fk11 (p11_e_1 a0 r1 r2 r3) (oc (xCC h0) (oc h1 (oc (xC8 h2) (oc h3 (oc h4 (oc (xCe h5) (oc h6 on)))))))) fun h6 h =>
 bE h fun r4 h7 h => cE h (fun h8 h => dE h fk11 (p11_e_2 a0 r1 r2 r3 r4) (oc (xCC h0) (oc h1 (oc (xC8 h2) (oc h3 (oc h4 (oc (xCe h5) (oc h6 (oc (xDl h7) (oc h8 on)))))))))) fun h8 h =>
 dE h fk11 (p11_e_3 a0 r1 r2 r3 r4) (oc (xCC h0) (oc h1 (oc (xC8 h2) (oc h3 (oc h4 (oc (xCe h5) (oc h6 (oc (xDl h7) (oc h8 on)))))))))) fun h4 h =>
 cE h (fun h5 h => dE h fk11 (p11_e_4 a0 r1 r2) (oc (xCC h0) (oc h1 (oc (xC8 h2) (oc h3 (oc h4 (oc h5 on))))))) fun h5 h =>
 bE h fun r3 h6 h => cE h (fun h7 h => dE h fk11 (p11_e_5 a0 r1 r2 r3) (oc (xCC h0) (oc h1 (oc (xC8 h2) (oc h3 (oc h4 (oc h5 (oc (xDl h6) (oc h7 on))))))))) fun h7 h =>
 dE h fk11 (p11_e_6 a0 r1 r2 r3) (oc (xCC h0) (oc h1 (oc (xC8 h2) (oc h3 (oc h4 (oc h5 (oc (xDl h6) (oc h7 on))))))))) fun h3 h =>
 cE h (fun h5 h => dE h fk11 (p11_e_7 a0 r1 r2) (oc (xCC h0) (oc h1 (oc (xC8 h2) (oc h3 (oc rfl (oc h5 on))))))) fun h5 h =>
 bE h fun r3 h6 h => cE h (fun h7 h => dE h fk11 (p11_e_8 a0 r1 r2 r3) (oc (xCC h0) (oc h1 (oc (xC8 h2) (oc h3 (oc rfl (oc h5 (oc (xDl h6) (oc h7 on))))))))) fun h7 h =>
 dE h fk11 (p11_e_9 a0 r1 r2 r3) (oc (xCC h0) (oc h1 (oc (xC8 h2) (oc h3 (oc rfl (oc h5 (oc (xDl h6) (oc h7 on))))))))
theorem xCH {N : Nat} {a0 : Str} {r : Exp × Int} (h : xD8 N  a0 = some r) : AbC 11 (xAR a0) (xAv r) :=
 AbsCalls.of_reach fk11 rfl rfl (Nat.le_of_ble_eq_true rfl) (c11_e a0 r h)
theorem xGj {N : Nat} {a0 : Str} {a1 a2 : Int} {r : Int × Bool} (h : xFB N a0 a1 a2 = some r) : AbC 89 (xFw a0 a1 a2) (xEj r) :=
 lib_num enter_parse (fun s lo hi w hs hw => parse_calls s lo hi hs laid_below tab10 errVars w hw) h
theorem xBn {N : Nat} {a0 : Str} {a1 r : Int} (h : strings_IndexByte N a0 a1 = some r) : AbC 90 (xBe a0 a1) (xAu r) :=
 lib_indexByte (enter_IndexByte Tryz.lays137) (Any.strings_IndexByte Tryz.lays137) h
noncomputable def I91 : Info := { body := (Tryz.f91.body).getD .skip, nt := 29, results := [.tmp 2], keep := [0, 4, 6, 14, 50], live := [(2, [0, 6])], modes := [(4, [(4, .take, false), (10, .take, false)])] }
theorem fk91 : FnOk Tryz.prog 91 Tryz.f91 I91 := ⟨Tryz.func91, by kernel_rfl, by kernel_rfl, by kernel_rfl, by kernel_rfl⟩
def S91_2 (x0 : Str) (x3 : Int) : St := [(0, .v false [.str x0]), (6, .v false [.int .i64 x3])]
theorem p91_2_0 (x0 : Str) (x3 : Int) : rS 2 I91 (S91_2 x0 x3) [Y, Y, Y, Y] [] = dn (xAO false) [(decide ((x3 : Int) < (Ln x0 : Int))) = true, (0 : Int) ≤ x3 ∧ x3 < (Ln x0), (decide ((((gD x0 (tN x3) 0).toNat : Int) : Int) < 32)) = true, true = true, true = true] := by kernel_rfl
theorem p91_2_1 (x0 : Str) (x3 : Int) : rS 2 I91 (S91_2 x0 x3) [Y, F, Y, Y] [] = dn (xAO false) [(decide ((x3 : Int) < (Ln x0 : Int))) = true, (0 : Int) ≤ x3 ∧ x3 < (Ln x0), (decide ((((gD x0 (tN x3) 0).toNat : Int) : Int) < 32)) = false, (0 : Int) ≤ x3 ∧ x3 < (Ln x0), (decide ((((gD x0 (tN x3) 0).toNat : Int) : Int) > 126)) = true, true = true] := by kernel_rfl
theorem p91_2_2 (x0 : Str) (x3 : Int) : rS 2 I91 (S91_2 x0 x3) [Y, F, F, Y] [] = dn (xAO false) [(decide ((x3 : Int) < (Ln x0 : Int))) = true, (0 : Int) ≤ x3 ∧ x3 < (Ln x0), (decide ((((gD x0 (tN x3) 0).toNat : Int) : Int) < 32)) = false, (0 : Int) ≤ x3 ∧ x3 < (Ln x0), (decide ((((gD x0 (tN x3) 0).toNat : Int) : Int) > 126)) = false, (0 : Int) ≤ x3 ∧ x3 < (Ln x0), ((((gD x0 (tN x3) 0).toNat : Int) : Int) == 34) = true] := by kernel_rfl
theorem p91_2_3 (x0 : Str) (x3 : Int) : rS 2 I91 (S91_2 x0 x3) [Y, F, F, F] [] = st 2 I91 (S91_2 x0 (W (x3 + 1))) [(decide ((x3 : Int) < (Ln x0 : Int))) = true, (0 : Int) ≤ x3 ∧ x3 < (Ln x0), (decide ((((gD x0 (tN x3) 0).toNat : Int) : Int) < 32)) = false, (0 : Int) ≤ x3 ∧ x3 < (Ln x0), (decide ((((gD x0 (tN x3) 0).toNat : Int) : Int) > 126)) = false, (0 : Int) ≤ x3 ∧ x3 < (Ln x0), ((((gD x0 (tN x3) 0).toNat : Int) : Int) == 34) = false] := by kernel_rfl
theorem p91_2_4 (x0 : Str) (x3 : Int) : rS 2 I91 (S91_2 x0 x3) [F] [] = dn (xAO (decide (((Ln x0 : Int) : Int) ≤ 20))) [(decide ((x3 : Int) < (Ln x0 : Int))) = false] := by kernel_rfl
theorem p91_e_5 (a0 : Str) : rE I91 (xCb a0) [] [] = st 2 I91 (S91_2 a0 0) [] := by kernel_rfl
theorem c91_2 {N : Nat} : ∀ n x0 x3 r, xDQ N n x0 x3 = some r → RS Tryz.f91 I91 2 (S91_2 x0 x3) (xAO r) := by
 intro n
 induction n with
 | zero => exact fun _ _ _ h => nE h
 | succ n ih =>
  exact fun x0 x3 r h =>
   cE h (fun h0 h => iE h fun h1 h => cE h (fun h2 h => dS h fk91 (p91_2_0 x0 x3) (oc h0 (oc h1 (oc h2 (oc rfl (oc rfl on)))))) fun h2 h =>
   cE h (fun h4 h => dS h fk91 (p91_2_1 x0 x3) (oc h0 (oc h1 (oc h2 (oc h1 (oc h4 (oc rfl on))))))) fun h4 h =>
   cE h (fun h6 h => dS h fk91 (p91_2_2 x0 x3) (oc h0 (oc h1 (oc h2 (oc h1 (oc h4 (oc h1 (oc h6 on)))))))) fun h6 h =>
   tS fk91 (p91_2_3 x0 x3) (oc h0 (oc h1 (oc h2 (oc h1 (oc h4 (oc h1 (oc h6 on))))))) (ih _ _ _ h)) fun h0 h =>
   dS h fk91 (p91_2_4 x0 x3) (oc h0 on)
theorem c91_e {N : Nat} : ∀ a0 r, xCV N a0 = some r → RE Tryz.f91 I91 (xCb a0) (xAO r) := fun a0 r h =>
 tE fk91 (p91_e_5 a0) on (c91_2 _ _ _ _ h)
theorem xDi {N : Nat} {a0 : Str} {r : Bool} (h : xCV N  a0 = some r) : AbC 91 (xCb a0) (xAO r) :=
 AbsCalls.of_reach fk91 rfl rfl (Nat.le_of_ble_eq_true rfl) (c91_e a0 r h)
theorem xCl {N : Nat} {a0 a1 : Str} {r : Bool} (h : strings_HasPrefix N a0 a1 = some r) : AbC 92 (xBW a0 a1) (xAS r) :=
 lib_hasPrefix (enter_HasPrefix Tryz.lays99) (Any.strings_HasPrefix Tryz.lays99) h
noncomputable def I49 : Info := { body := (Tryz.f49.body).getD .skip, nt := 152, results := [.cell 4 50, .tmp 5, .tmp 6], keep := [0, 2, 8, 10, 12, 14, 16, 18, 20, 22, 24, 34, 102, 130, 174, 206, 224, 262, 9], live := [(4, [0, 2, 8, 14, 9]), (8, [0, 2, 8, 14, 9])], modes := [(3, [(2, .take, false)]), (4, [(4, .take, false), (9, .take, false), (15, .take, false), (20, .take, false)]), (7, [(2, .take, false)]), (8, [(4, .take, false), (10, .take, false)]), (10, [(5, .take, false)]), (11, [(0, .take, false), (4, .take, false)])] }
theorem fk49 : FnOk Tryz.prog 49 Tryz.f49 I49 := ⟨Tryz.func49, by kernel_rfl, by kernel_rfl, by kernel_rfl, by kernel_rfl⟩
def S49_4 (x0 : Str) (x1 x7 : Int) (b4 : Tok) : St := [(0, .v false [.str x0]), (2, .v false [.int .i64 x1]), (8, .v false [.ptr 4 0]), (14, .v false [.int .i64 x7]), (9, .v true [.int .i64 (Tok.kind b4), .int .i64 (Tok.n b4), .int .i64 (Tok.pos b4), .str (Tok.text b4)])]
def S49_8 (x0 : Str) (x1 x7 : Int) (b4 : Tok) : St := [(0, .v false [.str x0]), (2, .v false [.int .i64 x1]), (8, .v false [.ptr 4 0]), (14, .v false [.int .i64 x7]), (9, .v true [.int .i64 (Tok.kind b4), .int .i64 (Tok.n b4), .int .i64 (Tok.pos b4), .str (Tok.text b4)])]
theorem p49_4_0 (x0 : Str) (x1 x7 : Int) (b4 : Tok) : rS 4 I49 (S49_4 x0 x1 x7 b4) [Y, Y, Y, Y] [] = st 4 I49 (S49_4 x0 x1 (W (x7 + 1)) b4) [(decide ((x7 : Int) < (Ln x0 : Int))) = true, (0 : Int) ≤ x7 ∧ x7 < (Ln x0), (decide ((((gD x0 (tN x7) 0).toNat : Int) : Int) ≥ 97)) = true, (0 : Int) ≤ x7 ∧ x7 < (Ln x0), (decide ((((gD x0 (tN x7) 0).toNat : Int) : Int) ≤ 122)) = true, true = true] := by kernel_rfl
theorem p49_4_1 (x0 : Str) (x1 x7 : Int) (b4 : Tok) : rS 4 I49 (S49_4 x0 x1 x7 b4) [Y, Y, F, Y, Y] [] = st 4 I49 (S49_4 x0 x1 (W (x7 + 1)) b4) [(decide ((x7 : Int) < (Ln x0 : Int))) = true, (0 : Int) ≤ x7 ∧ x7 < (Ln x0), (decide ((((gD x0 (tN x7) 0).toNat : Int) : Int) ≥ 97)) = true, (0 : Int) ≤ x7 ∧ x7 < (Ln x0), (decide ((((gD x0 (tN x7) 0).toNat : Int) : Int) ≤ 122)) = false, (0 : Int) ≤ x7 ∧ x7 < (Ln x0), (decide ((((gD x0 (tN x7) 0).toNat : Int) : Int) ≥ 48)) = true, (0 : Int) ≤ x7 ∧ x7 < (Ln x0), (decide ((((gD x0 (tN x7) 0).toNat : Int) : Int) ≤ 57)) = true] := by kernel_rfl
theorem p49_4_2 (x0 : Str) (x1 x7 : Int) (b4 : Tok) : rS 4 I49 (S49_4 x0 x1 x7 b4) [Y, Y, F, Y, F] [] = dn (xAy ((Tok.mk 1 0 x1 (List.drop (tN x1) (List.take (tN x7) x0))), x7, (decide (((W (x7 - x1)) : Int) ≤ 8)))) [(decide ((x7 : Int) < (Ln x0 : Int))) = true, (0 : Int) ≤ x7 ∧ x7 < (Ln x0), (decide ((((gD x0 (tN x7) 0).toNat : Int) : Int) ≥ 97)) = true, (0 : Int) ≤ x7 ∧ x7 < (Ln x0), (decide ((((gD x0 (tN x7) 0).toNat : Int) : Int) ≤ 122)) = false, (0 : Int) ≤ x7 ∧ x7 < (Ln x0), (decide ((((gD x0 (tN x7) 0).toNat : Int) : Int) ≥ 48)) = true, (0 : Int) ≤ x7 ∧ x7 < (Ln x0), (decide ((((gD x0 (tN x7) 0).toNat : Int) : Int) ≤ 57)) = false, (0 : Int) ≤ x1 ∧ x1 ≤ x7 ∧ x7 ≤ (Ln x0)] := by kernel_rfl
theorem p49_4_3 (x0 : Str) (x1 x7 : Int) (b4 : Tok) : rS 4 I49 (S49_4 x0 x1 x7 b4) [Y, Y, F, F, F] [] = dn (xAy ((Tok.mk 1 0 x1 (List.drop (tN x1) (List.take (tN x7) x0))), x7, (decide (((W (x7 - x1)) : Int) ≤ 8)))) [(decide ((x7 : Int) < (Ln x0 : Int))) = true, (0 : Int) ≤ x7 ∧ x7 < (Ln x0), (decide ((((gD x0 (tN x7) 0).toNat : Int) : Int) ≥ 97)) = true, (0 : Int) ≤ x7 ∧ x7 < (Ln x0), (decide ((((gD x0 (tN x7) 0).toNat : Int) : Int) ≤ 122)) = false, (0 : Int) ≤ x7 ∧ x7 < (Ln x0), (decide ((((gD x0 (tN x7) 0).toNat : Int) : Int) ≥ 48)) = false, false = false, (0 : Int) ≤ x1 ∧ x1 ≤ x7 ∧ x7 ≤ (Ln x0)] := by kernel_rfl
theorem p49_4_4 (x0 : Str) (x1 x7 : Int) (b4 : Tok) : rS 4 I49 (S49_4 x0 x1 x7 b4) [Y, F, F, Y, Y] [] = st 4 I49 (S49_4 x0 x1 (W (x7 + 1)) b4) [(decide ((x7 : Int) < (Ln x0 : Int))) = true, (0 : Int) ≤ x7 ∧ x7 < (Ln x0), (decide ((((gD x0 (tN x7) 0).toNat : Int) : Int) ≥ 97)) = false, false = false, (0 : Int) ≤ x7 ∧ x7 < (Ln x0), (decide ((((gD x0 (tN x7) 0).toNat : Int) : Int) ≥ 48)) = true, (0 : Int) ≤ x7 ∧ x7 < (Ln x0), (decide ((((gD x0 (tN x7) 0).toNat : Int) : Int) ≤ 57)) = true] := by kernel_rfl
theorem p49_4_5 (x0 : Str) (x1 x7 : Int) (b4 : Tok) : rS 4 I49 (S49_4 x0 x1 x7 b4) [Y, F, F, Y, F] [] = dn (xAy ((Tok.mk 1 0 x1 (List.drop (tN x1) (List.take (tN x7) x0))), x7, (decide (((W (x7 - x1)) : Int) ≤ 8)))) [(decide ((x7 : Int) < (Ln x0 : Int))) = true, (0 : Int) ≤ x7 ∧ x7 < (Ln x0), (decide ((((gD x0 (tN x7) 0).toNat : Int) : Int) ≥ 97)) = false, false = false, (0 : Int) ≤ x7 ∧ x7 < (Ln x0), (decide ((((gD x0 (tN x7) 0).toNat : Int) : Int) ≥ 48)) = true, (0 : Int) ≤ x7 ∧ x7 < (Ln x0), (decide ((((gD x0 (tN x7) 0).toNat : Int) : Int) ≤ 57)) = false, (0 : Int) ≤ x1 ∧ x1 ≤ x7 ∧ x7 ≤ (Ln x0)] := by kernel_rfl
theorem p49_4_6 (x0 : Str) (x1 x7 : Int) (b4 : Tok) : rS 4 I49 (S49_4 x0 x1 x7 b4) [Y, F, F, F, F] [] = dn (xAy ((Tok.mk 1 0 x1 (List.drop (tN x1) (List.take (tN x7) x0))), x7, (decide (((W (x7 - x1)) : Int) ≤ 8)))) [(decide ((x7 : Int) < (Ln x0 : Int))) = true, (0 : Int) ≤ x7 ∧ x7 < (Ln x0), (decide ((((gD x0 (tN x7) 0).toNat : Int) : Int) ≥ 97)) = false, false = false, (0 : Int) ≤ x7 ∧ x7 < (Ln x0), (decide ((((gD x0 (tN x7) 0).toNat : Int) : Int) ≥ 48)) = false, false = false, (0 : Int) ≤ x1 ∧ x1 ≤ x7 ∧ x7 ≤ (Ln x0)] := by kernel_rfl
theorem p49_4_7 (x0 : Str) (x1 x7 : Int) (b4 : Tok) : rS 4 I49 (S49_4 x0 x1 x7 b4) [F, F] [] = dn (xAy ((Tok.mk 1 0 x1 (List.drop (tN x1) (List.take (tN x7) x0))), x7, (decide (((W (x7 - x1)) : Int) ≤ 8)))) [(decide ((x7 : Int) < (Ln x0 : Int))) = false, false = false, (0 : Int) ≤ x1 ∧ x1 ≤ x7 ∧ x7 ≤ (Ln x0)] := by kernel_rfl
theorem p49_8_8 (x0 : Str) (x1 x7 : Int) (b4 : Tok) : rS 8 I49 (S49_8 x0 x1 x7 b4) [Y, Y, Y] [] = st 8 I49 (S49_8 x0 x1 (W (x7 + 1)) b4) [(decide ((x7 : Int) < (Ln x0 : Int))) = true, (0 : Int) ≤ x7 ∧ x7 < (Ln x0), (decide ((((gD x0 (tN x7) 0).toNat : Int) : Int) ≥ 48)) = true, (0 : Int) ≤ x7 ∧ x7 < (Ln x0), (decide ((((gD x0 (tN x7) 0).toNat : Int) : Int) ≤ 57)) = true] := by kernel_rfl
theorem p49_8_9 (x0 : Str) (x1 x7 : Int) (b4 : Tok) (r1 : Int × Bool) : rS 8 I49 (S49_8 x0 x1 x7 b4) [Y, Y, F] [xEj r1] = dn (xAy ((Tok.mk 2 r1.1 x1 []), x7, r1.2)) [(decide ((x7 : Int) < (Ln x0 : Int))) = true, (0 : Int) ≤ x7 ∧ x7 < (Ln x0), (decide ((((gD x0 (tN x7) 0).toNat : Int) : Int) ≥ 48)) = true, (0 : Int) ≤ x7 ∧ x7 < (Ln x0), (decide ((((gD x0 (tN x7) 0).toNat : Int) : Int) ≤ 57)) = false, (0 : Int) ≤ x1 ∧ x1 ≤ x7 ∧ x7 ≤ (Ln x0), AbC 89 (xFw (List.drop (tN x1) (List.take (tN x7) x0)) 0 1000000000) (xEj r1)] := by kernel_rfl
theorem p49_8_10 (x0 : Str) (x1 x7 : Int) (b4 : Tok) (r1 : Int × Bool) : rS 8 I49 (S49_8 x0 x1 x7 b4) [Y, F, F] [xEj r1] = dn (xAy ((Tok.mk 2 r1.1 x1 []), x7, r1.2)) [(decide ((x7 : Int) < (Ln x0 : Int))) = true, (0 : Int) ≤ x7 ∧ x7 < (Ln x0), (decide ((((gD x0 (tN x7) 0).toNat : Int) : Int) ≥ 48)) = false, false = false, (0 : Int) ≤ x1 ∧ x1 ≤ x7 ∧ x7 ≤ (Ln x0), AbC 89 (xFw (List.drop (tN x1) (List.take (tN x7) x0)) 0 1000000000) (xEj r1)] := by kernel_rfl
theorem p49_8_11 (x0 : Str) (x1 x7 : Int) (b4 : Tok) (r1 : Int × Bool) : rS 8 I49 (S49_8 x0 x1 x7 b4) [F, F, F] [xEj r1] = dn (xAy ((Tok.mk 2 r1.1 x1 []), x7, r1.2)) [(decide ((x7 : Int) < (Ln x0 : Int))) = false, false = false, false = false, (0 : Int) ≤ x1 ∧ x1 ≤ x7 ∧ x7 ≤ (Ln x0), AbC 89 (xFw (List.drop (tN x1) (List.take (tN x7) x0)) 0 1000000000) (xEj r1)] := by kernel_rfl
theorem p49_e_12 (a0 : Str) (a1 : Int) : rE I49 (xAT a0 a1) [Y, Y] [] = st 4 I49 (S49_4 a0 a1 a1 (Tok.mk 0 0 0 [])) [(0 : Int) ≤ a1 ∧ a1 < (Ln a0), (decide ((((gD a0 (tN a1) 0).toNat : Int) : Int) ≥ 97)) = true, (decide ((((gD a0 (tN a1) 0).toNat : Int) : Int) ≤ 122)) = true] := by kernel_rfl
theorem p49_e_13 (a0 : Str) (a1 : Int) : rE I49 (xAT a0 a1) [Y, F, Y, Y] [] = st 8 I49 (S49_8 a0 a1 a1 (Tok.mk 0 0 0 [])) [(0 : Int) ≤ a1 ∧ a1 < (Ln a0), (decide ((((gD a0 (tN a1) 0).toNat : Int) : Int) ≥ 97)) = true, (decide ((((gD a0 (tN a1) 0).toNat : Int) : Int) ≤ 122)) = false, (decide ((((gD a0 (tN a1) 0).toNat : Int) : Int) ≥ 48)) = true, (decide ((((gD a0 (tN a1) 0).toNat : Int) : Int) ≤ 57)) = true] := by kernel_rfl
theorem p49_e_14 (a0 : Str) (a1 r1 : Int) : rE I49 (xAT a0 a1) [Y, F, Y, F, Y, Y] [xAu r1] = dn (xAy ((Tok.mk 0 0 0 []), 0, false)) [(0 : Int) ≤ a1 ∧ a1 < (Ln a0), (decide ((((gD a0 (tN a1) 0).toNat : Int) : Int) ≥ 97)) = true, (decide ((((gD a0 (tN a1) 0).toNat : Int) : Int) ≤ 122)) = false, (decide ((((gD a0 (tN a1) 0).toNat : Int) : Int) ≥ 48)) = true, (decide ((((gD a0 (tN a1) 0).toNat : Int) : Int) ≤ 57)) = false, ((((gD a0 (tN a1) 0).toNat : Int) : Int) == 34) = true, (0 : Int) ≤ (W (a1 + 1)) ∧ (W (a1 + 1)) ≤ (Ln a0), AbC 90 (xBe (List.drop (tN (W (a1 + 1))) a0) 34) (xAu r1), (decide ((r1 : Int) < 0)) = true] := by kernel_rfl
theorem p49_e_15 (a0 : Str) (a1 r1 : Int) (r2 : Bool) : rE I49 (xAT a0 a1) [Y, F, Y, F, Y, F] [xAu r1, xAO r2] = dn (xAy ((Tok.mk 3 0 a1 (List.drop (tN (W (a1 + 1))) (List.take (tN (W ((W (a1 + 1)) + r1))) a0))), (W ((W (a1 + r1)) + 2)), r2)) [(0 : Int) ≤ a1 ∧ a1 < (Ln a0), (decide ((((gD a0 (tN a1) 0).toNat : Int) : Int) ≥ 97)) = true, (decide ((((gD a0 (tN a1) 0).toNat : Int) : Int) ≤ 122)) = false, (decide ((((gD a0 (tN a1) 0).toNat : Int) : Int) ≥ 48)) = true, (decide ((((gD a0 (tN a1) 0).toNat : Int) : Int) ≤ 57)) = false, ((((gD a0 (tN a1) 0).toNat : Int) : Int) == 34) = true, (0 : Int) ≤ (W (a1 + 1)) ∧ (W (a1 + 1)) ≤ (Ln a0), AbC 90 (xBe (List.drop (tN (W (a1 + 1))) a0) 34) (xAu r1), (decide ((r1 : Int) < 0)) = false, (0 : Int) ≤ (W (a1 + 1)) ∧ (W (a1 + 1)) ≤ (W ((W (a1 + 1)) + r1)) ∧ (W ((W (a1 + 1)) + r1)) ≤ (Ln a0), AbC 91 (xCb (List.drop (tN (W (a1 + 1))) (List.take (tN (W ((W (a1 + 1)) + r1))) a0))) (xAO r2)] := by kernel_rfl
theorem p49_e_16 (a0 : Str) (a1 : Int) (r1 : Bool) : rE I49 (xAT a0 a1) [Y, F, Y, F, F, Y] [xAS r1] = dn (xAy ((Tok.mk 4 0 a1 [61, 61]), (W (a1 + 2)), true)) [(0 : Int) ≤ a1 ∧ a1 < (Ln a0), (decide ((((gD a0 (tN a1) 0).toNat : Int) : Int) ≥ 97)) = true, (decide ((((gD a0 (tN a1) 0).toNat : Int) : Int) ≤ 122)) = false, (decide ((((gD a0 (tN a1) 0).toNat : Int) : Int) ≥ 48)) = true, (decide ((((gD a0 (tN a1) 0).toNat : Int) : Int) ≤ 57)) = false, ((((gD a0 (tN a1) 0).toNat : Int) : Int) == 34) = false, (0 : Int) ≤ a1 ∧ a1 ≤ (Ln a0), AbC 92 (xBW (List.drop (tN a1) a0) [61, 61]) (xAS r1), r1 = true] := by kernel_rfl
theorem p49_e_17 (a0 : Str) (a1 : Int) (r1 : Bool) (r2 : Int) : rE I49 (xAT a0 a1) [Y, F, Y, F, F, F] [xAS r1, xAu r2] = dn (xAy ((Tok.mk 4 0 a1 (List.drop (tN a1) (List.take (tN (W (a1 + 1))) a0))), (W (a1 + 1)), (decide ((r2 : Int) ≥ 0)))) [(0 : Int) ≤ a1 ∧ a1 < (Ln a0), (decide ((((gD a0 (tN a1) 0).toNat : Int) : Int) ≥ 97)) = true, (decide ((((gD a0 (tN a1) 0).toNat : Int) : Int) ≤ 122)) = false, (decide ((((gD a0 (tN a1) 0).toNat : Int) : Int) ≥ 48)) = true, (decide ((((gD a0 (tN a1) 0).toNat : Int) : Int) ≤ 57)) = false, ((((gD a0 (tN a1) 0).toNat : Int) : Int) == 34) = false, (0 : Int) ≤ a1 ∧ a1 ≤ (Ln a0), AbC 92 (xBW (List.drop (tN a1) a0) [61, 61]) (xAS r1), r1 = false, (0 : Int) ≤ a1 ∧ a1 ≤ (W (a1 + 1)) ∧ (W (a1 + 1)) ≤ (Ln a0), AbC 90 (xBe [40, 41, 91, 93, 44, 43, 45, 42, 60, 61] ((gD a0 (tN a1) 0).toNat : Int)) (xAu r2)] := by kernel_rfl
theorem p49_e_18 (a0 : Str) (a1 r1 : Int) : rE I49 (xAT a0 a1) [Y, F, F, F, Y, Y] [xAu r1] = dn (xAy ((Tok.mk 0 0 0 []), 0, false)) [(0 : Int) ≤ a1 ∧ a1 < (Ln a0), (decide ((((gD a0 (tN a1) 0).toNat : Int) : Int) ≥ 97)) = true, (decide ((((gD a0 (tN a1) 0).toNat : Int) : Int) ≤ 122)) = false, (decide ((((gD a0 (tN a1) 0).toNat : Int) : Int) ≥ 48)) = false, false = false, ((((gD a0 (tN a1) 0).toNat : Int) : Int) == 34) = true, (0 : Int) ≤ (W (a1 + 1)) ∧ (W (a1 + 1)) ≤ (Ln a0), AbC 90 (xBe (List.drop (tN (W (a1 + 1))) a0) 34) (xAu r1), (decide ((r1 : Int) < 0)) = true] := by kernel_rfl
theorem p49_e_19 (a0 : Str) (a1 r1 : Int) (r2 : Bool) : rE I49 (xAT a0 a1) [Y, F, F, F, Y, F] [xAu r1, xAO r2] = dn (xAy ((Tok.mk 3 0 a1 (List.drop (tN (W (a1 + 1))) (List.take (tN (W ((W (a1 + 1)) + r1))) a0))), (W ((W (a1 + r1)) + 2)), r2)) [(0 : Int) ≤ a1 ∧ a1 < (Ln a0), (decide ((((gD a0 (tN a1) 0).toNat : Int) : Int) ≥ 97)) = true, (decide ((((gD a0 (tN a1) 0).toNat : Int) : Int) ≤ 122)) = false, (decide ((((gD a0 (tN a1) 0).toNat : Int) : Int) ≥ 48)) = false, false = false, ((((gD a0 (tN a1) 0).toNat : Int) : Int) == 34) = true, (0 : Int) ≤ (W (a1 + 1)) ∧ (W (a1 + 1)) ≤ (Ln a0), AbC 90 (xBe (List.drop (tN (W (a1 + 1))) a0) 34) (xAu r1), (decide ((r1 : Int) < 0)) = false, (0 : Int) ≤ (W (a1 + 1)) ∧ (W (a1 + 1)) ≤ (W ((W (a1 + 1)) + r1)) ∧ (W ((W (a1 + 1)) + r1)) ≤ (Ln a0), AbC 91 (xCb (List.drop (tN (W (a1 + 1))) (List.take (tN (W ((W (a1 + 1)) + r1))) a0))) (xAO r2)] := by kernel_rfl
theorem p49_e_20 (a0 : Str) (a1 : Int) (r1 : Bool) : rE I49 (xAT a0 a1) [Y, F, F, F, F, Y] [xAS r1] = dn (xAy ((Tok.mk 4 0 a1 [61, 61]), (W (a1 + 2)), true)) [(0 : Int) ≤ a1 ∧ a1 < (Ln a0), (decide ((((gD a0 (tN a1) 0).toNat : Int) : Int) ≥ 97)) = true, (decide ((((gD a0 (tN a1) 0).toNat : Int) : Int) ≤ 122)) = false, (decide ((((gD a0 (tN a1) 0).toNat : Int) : Int) ≥ 48)) = false, false = false, ((((gD a0 (tN a1) 0).toNat : Int) : Int) == 34) = false, (0 : Int) ≤ a1 ∧ a1 ≤ (Ln a0), AbC 92 (xBW (List.drop (tN a1) a0) [61, 61]) (xAS r1), r1 = true] := by kernel_rfl
theorem p49_e_21 (a0 : Str) (a1 : Int) (r1 : Bool) (r2 : Int) : rE I49 (xAT a0 a1) [Y, F, F, F, F, F] [xAS r1, xAu r2] = dn (xAy ((Tok.mk 4 0 a1 (List.drop (tN a1) (List.take (tN (W (a1 + 1))) a0))), (W (a1 + 1)), (decide ((r2 : Int) ≥ 0)))) [(0 : Int) ≤ a1 ∧ a1 < (Ln a0), (decide ((((gD a0 (tN a1) 0).toNat : Int) : Int) ≥ 97)) = true, (decide ((((gD a0 (tN a1) 0).toNat : Int) : Int) ≤ 122)) = false, (decide ((((gD a0 (tN a1) 0).toNat : Int) : Int) ≥ 48)) = false, false = false, ((((gD a0 (tN a1) 0).toNat : Int) : Int) == 34) = false, (0 : Int) ≤ a1 ∧ a1 ≤ (Ln a0), AbC 92 (xBW (List.drop (tN a1) a0) [61, 61]) (xAS r1), r1 = false, (0 : Int) ≤ a1 ∧ a1 ≤ (W (a1 + 1)) ∧ (W (a1 + 1)) ≤ (Ln a0), AbC 90 (xBe [40, 41, 91, 93, 44, 43, 45, 42, 60, 61] ((gD a0 (tN a1) 0).toNat : Int)) (xAu r2)] := by kernel_rfl
theorem p49_e_22 (a0 : Str) (a1 : Int) : rE I49 (xAT a0 a1) [F, F, Y, Y] [] = st 8 I49 (S49_8 a0 a1 a1 (Tok.mk 0 0 0 [])) [(0 : Int) ≤ a1 ∧ a1 < (Ln a0), (decide ((((gD a0 (tN a1) 0).toNat : Int) : Int) ≥ 97)) = false, false = false, (decide ((((gD a0 (tN a1) 0).toNat : Int) : Int) ≥ 48)) = true, (decide ((((gD a0 (tN a1) 0).toNat : Int) : Int) ≤ 57)) = true] := by kernel_rfl
theorem p49_e_23 (a0 : Str) (a1 r1 : Int) : rE I49 (xAT a0 a1) [F, F, Y, F, Y, Y] [xAu r1] = dn (xAy ((Tok.mk 0 0 0 []), 0, false)) [(0 : Int) ≤ a1 ∧ a1 < (Ln a0), (decide ((((gD a0 (tN a1) 0).toNat : Int) : Int) ≥ 97)) = false, false = false, (decide ((((gD a0 (tN a1) 0).toNat : Int) : Int) ≥ 48)) = true, (decide ((((gD a0 (tN a1) 0).toNat : Int) : Int) ≤ 57)) = false, ((((gD a0 (tN a1) 0).toNat : Int) : Int) == 34) = true, (0 : Int) ≤ (W (a1 + 1)) ∧ (W (a1 + 1)) ≤ (Ln a0), AbC 90 (xBe (List.drop (tN (W (a1 + 1))) a0) 34) (xAu r1), (decide ((r1 : Int) < 0)) = true] := by kernel_rfl
theorem p49_e_24 (a0 : Str) (a1 r1 : Int) (r2 : Bool) : rE I49 (xAT a0 a1) [F, F, Y, F, Y, F] [xAu r1, xAO r2] = dn (xAy ((Tok.mk 3 0 a1 (List.drop (tN (W (a1 + 1))) (List.take (tN (W ((W (a1 + 1)) + r1))) a0))), (W ((W (a1 + r1)) + 2)), r2)) [(0 : Int) ≤ a1 ∧ a1 < (Ln a0), (decide ((((gD a0 (tN a1) 0).toNat : Int) : Int) ≥ 97)) = false, false = false, (decide ((((gD a0 (tN a1) 0).toNat : Int) : Int) ≥ 48)) = true, (decide ((((gD a0 (tN a1) 0).toNat : Int) : Int) ≤ 57)) = false, ((((gD a0 (tN a1) 0).toNat : Int) : Int) == 34) = true, (0 : Int) ≤ (W (a1 + 1)) ∧ (W (a1 + 1)) ≤ (Ln a0), AbC 90 (xBe (List.drop (tN (W (a1 + 1))) a0) 34) (xAu r1), (decide ((r1 : Int) < 0)) = false, (0 : Int) ≤ (W (a1 + 1)) ∧ (W (a1 + 1)) ≤ (W ((W (a1 + 1)) + r1)) ∧ (W ((W (a1 + 1)) + r1)) ≤ (Ln a0), AbC 91 (xCb (List.drop (tN (W (a1 + 1))) (List.take (tN (W ((W (a1 + 1)) + r1))) a0))) (xAO r2)] := by kernel_rfl
theorem p49_e_25 (a0 : Str) (a1 : Int) (r1 : Bool) : rE I49 (xAT a0 a1) [F, F, Y, F, F, Y] [xAS r1] = dn (xAy ((Tok.mk 4 0 a1 [61, 61]), (W (a1 + 2)), true)) [(0 : Int) ≤ a1 ∧ a1 < (Ln a0), (decide ((((gD a0 (tN a1) 0).toNat : Int) : Int) ≥ 97)) = false, false = false, (decide ((((gD a0 (tN a1) 0).toNat : Int) : Int) ≥ 48)) = true, (decide ((((gD a0 (tN a1) 0).toNat : Int) : Int) ≤ 57)) = false, ((((gD a0 (tN a1) 0).toNat : Int) : Int) == 34) = false, (0 : Int) ≤ a1 ∧ a1 ≤ (Ln a0), AbC 92 (xBW (List.drop (tN a1) a0) [61, 61]) (xAS r1), r1 = true] := by kernel_rfl
theorem p49_e_26 (a0 : Str) (a1 : Int) (r1 : Bool) (r2 : Int) : rE I49 (xAT a0 a1) [F, F, Y, F, F, F] [xAS r1, xAu r2] = dn (xAy ((Tok.mk 4 0 a1 (List.drop (tN a1) (List.take (tN (W (a1 + 1))) a0))), (W (a1 + 1)), (decide ((r2 : Int) ≥ 0)))) [(0 : Int) ≤ a1 ∧ a1 < (Ln a0), (decide ((((gD a0 (tN a1) 0).toNat : Int) : Int) ≥ 97)) = false, false = false, (decide ((((gD a0 (tN a1) 0).toNat : Int) : Int) ≥ 48)) = true, (decide ((((gD a0 (tN a1) 0).toNat : Int) : Int) ≤ 57)) = false, ((((gD a0 (tN a1) 0).toNat : Int) : Int) == 34) = false, (0 : Int) ≤ a1 ∧ a1 ≤ (Ln a0), AbC 92 (xBW (List.drop (tN a1) a0) [61, 61]) (xAS r1), r1 = false, (0 : Int) ≤ a1 ∧ a1 ≤ (W (a1 + 1)) ∧ (W (a1 + 1)) ≤ (Ln a0), AbC 90 (xBe [40, 41, 91, 93, 44, 43, 45, 42, 60, 61] ((gD a0 (tN a1) 0).toNat : Int)) (xAu r2)] := by kernel_rfl
theorem p49_e_27 (a0 : Str) (a1 r1 : Int) : rE I49 (xAT a0 a1) [F, F, F, F, Y, Y] [xAu r1] = dn (xAy ((Tok.mk 0 0 0 []), 0, false)) [(0 : Int) ≤ a1 ∧ a1 < (Ln a0), (decide ((((gD a0 (tN a1) 0).toNat : Int) : Int) ≥ 97)) = false, false = false, (decide ((((gD a0 (tN a1) 0).toNat : Int) : Int) ≥ 48)) = false, false = false, ((((gD a0 (tN a1) 0).toNat : Int) : Int) == 34) = true, (0 : Int) ≤ (W (a1 + 1)) ∧ (W (a1 + 1)) ≤ (Ln a0), AbC 90 (xBe (List.drop (tN (W (a1 + 1))) a0) 34) (xAu r1), (decide ((r1 : Int) < 0)) = true] := by kernel_rfl
theorem p49_e_28 (a0 : Str) (a1 r1 : Int) (r2 : Bool) : rE I49 (xAT a0 a1) [F, F, F, F, Y, F] [xAu r1, xAO r2] = dn (xAy ((Tok.mk 3 0 a1 (List.drop (tN (W (a1 + 1))) (List.take (tN (W ((W (a1 + 1)) + r1))) a0))), (W ((W (a1 + r1)) + 2)), r2)) [(0 : Int) ≤ a1 ∧ a1 < (Ln a0), (decide ((((gD a0 (tN a1) 0).toNat : Int) : Int) ≥ 97)) = false, false = false, (decide ((((gD a0 (tN a1) 0).toNat : Int) : Int) ≥ 48)) = false, false = false, ((((gD a0 (tN a1) 0).toNat : Int) : Int) == 34) = true, (0 : Int) ≤ (W (a1 + 1)) ∧ (W (a1 + 1)) ≤ (Ln a0), AbC 90 (xBe (List.drop (tN (W (a1 + 1))) a0) 34) (xAu r1), (decide ((r1 : Int) < 0)) = false, (0 : Int) ≤ (W (a1 + 1)) ∧ (W (a1 + 1)) ≤ (W ((W (a1 + 1)) + r1)) ∧ (W ((W (a1 + 1)) + r1)) ≤ (Ln a0), AbC 91 (xCb (List.drop (tN (W (a1 + 1))) (List.take (tN (W ((W (a1 + 1)) + r1))) a0))) (xAO r2)] := by kernel_rfl
theorem p49_e_29 (a0 : Str) (a1 : Int) (r1 : Bool) : rE I49 (xAT a0 a1) [F, F, F, F, F, Y] [xAS r1] = dn (xAy ((Tok.mk 4 0 a1 [61, 61]), (W (a1 + 2)), true)) [(0 : Int) ≤ a1 ∧ a1 < (Ln a0), (decide ((((gD a0 (tN a1) 0).toNat : Int) : Int) ≥ 97)) = false, false = false, (decide ((((gD a0 (tN a1) 0).toNat : Int) : Int) ≥ 48)) = false, false = false, ((((gD a0 (tN a1) 0).toNat : Int) : Int) == 34) = false, (0 : Int) ≤ a1 ∧ a1 ≤ (Ln a0), AbC 92 (xBW (List.drop (tN a1) a0) [61, 61]) (xAS r1), r1 = true] := by kernel_rfl
theorem p49_e_30 (a0 : Str) (a1 : Int) (r1 : Bool) (r2 : Int) : rE I49 (xAT a0 a1) [F, F, F, F, F, F] [xAS r1, xAu r2] = dn (xAy ((Tok.mk 4 0 a1 (List.drop (tN a1) (List.take (tN (W (a1 + 1))) a0))), (W (a1 + 1)), (decide ((r2 : Int) ≥ 0)))) [(0 : Int) ≤ a1 ∧ a1 < (Ln a0), (decide ((((gD a0 (tN a1) 0).toNat : Int) : Int) ≥ 97)) = false, false = false, (decide ((((gD a0 (tN a1) 0).toNat : Int) : Int) ≥ 48)) = false, false = false, ((((gD a0 (tN a1) 0).toNat : Int) : Int) == 34) = false, (0 : Int) ≤ a1 ∧ a1 ≤ (Ln a0), AbC 92 (xBW (List.drop (tN a1) a0) [61, 61]) (xAS r1), r1 = false, (0 : Int) ≤ a1 ∧ a1 ≤ (W (a1 + 1)) ∧ (W (a1 + 1)) ≤ (Ln a0), AbC 90 (xBe [40, 41, 91, 93, 44, 43, 45, 42, 60, 61] ((gD a0 (tN a1) 0).toNat : Int)) (xAu r2)] := by kernel_rfl
theorem c49_4 {N : Nat} : ∀ n x0 x1 x7 b4 r, xCu N n x0 x1 x7 b4 = some r → RS Tryz.f49 I49 4 (S49_4 x0 x1 x7 b4) (xAy r) := by
 intro n
 induction n with
 | zero => exact fun _ _ _ _ _ h => nE h
 | succ n ih =>
  exact fun x0 x1 x7 b4 r h =>
   cE h (fun h0 h => iE h fun h1 h => cE h (fun h2 h => cE h (fun h4 h => tS fk49 (p49_4_0 x0 x1 x7 b4) (oc h0 (oc h1 (oc h2 (oc h1 (oc h4 (oc rfl on)))))) (ih _ _ _ _ _ h)) fun h4 h =>
   cE h (fun h6 h => cE h (fun h8 h => tS fk49 (p49_4_1 x0 x1 x7 b4) (oc h0 (oc h1 (oc h2 (oc h1 (oc h4 (oc h1 (oc h6 (oc h1 (oc h8 on))))))))) (ih _ _ _ _ _ h)) fun h8 h =>
   iE h fun h9 h => dS h fk49 (p49_4_2 x0 x1 x7 b4) (oc h0 (oc h1 (oc h2 (oc h1 (oc h4 (oc h1 (oc h6 (oc h1 (oc h8 (oc h9 on))))))))))) fun h6 h =>
   iE h fun h8 h => dS h fk49 (p49_4_3 x0 x1 x7 b4) (oc h0 (oc h1 (oc h2 (oc h1 (oc h4 (oc h1 (oc h6 (oc rfl (oc h8 on)))))))))) fun h2 h =>
   cE h (fun h5 h => cE h (fun h7 h => tS fk49 (p49_4_4 x0 x1 x7 b4) (oc h0 (oc h1 (oc h2 (oc rfl (oc h1 (oc h5 (oc h1 (oc h7 on)))))))) (ih _ _ _ _ _ h)) fun h7 h =>
   iE h fun h8 h => dS h fk49 (p49_4_5 x0 x1 x7 b4) (oc h0 (oc h1 (oc h2 (oc rfl (oc h1 (oc h5 (oc h1 (oc h7 (oc h8 on)))))))))) fun h5 h =>
   iE h fun h7 h => dS h fk49 (p49_4_6 x0 x1 x7 b4) (oc h0 (oc h1 (oc h2 (oc rfl (oc h1 (oc h5 (oc rfl (oc h7 on))))))))) fun h0 h =>
   iE h fun h2 h => dS h fk49 (p49_4_7 x0 x1 x7 b4) (oc h0 (oc rfl (oc h2 on)))
theorem c49_8 {N : Nat} : ∀ n x0 x1 x7 b4 r, xCQ N n x0 x1 x7 b4 = some r → RS Tryz.f49 I49 8 (S49_8 x0 x1 x7 b4) (xAy r) := by
 intro n
 induction n with
 | zero => exact fun _ _ _ _ _ h => nE h
 | succ n ih =>
  exact fun x0 x1 x7 b4 r h =>
   cE h (fun h0 h => iE h fun h1 h => cE h (fun h2 h => cE h (fun h4 h => tS fk49 (p49_8_8 x0 x1 x7 b4) (oc h0 (oc h1 (oc h2 (oc h1 (oc h4 on))))) (ih _ _ _ _ _ h)) fun h4 h =>
   iE h fun h5 h => bE h fun r1 h6 h => dS h fk49 (p49_8_9 x0 x1 x7 b4 r1) (oc h0 (oc h1 (oc h2 (oc h1 (oc h4 (oc h5 (oc (xGj h6) on)))))))) fun h2 h =>
   iE h fun h4 h => bE h fun r1 h5 h => dS h fk49 (p49_8_10 x0 x1 x7 b4 r1) (oc h0 (oc h1 (oc h2 (oc rfl (oc h4 (oc (xGj h5) on))))))) fun h0 h =>
   iE h fun h3 h => bE h fun r1 h4 h => dS h fk49 (p49_8_11 x0 x1 x7 b4 r1) (oc h0 (oc rfl (oc rfl (oc h3 (oc (xGj h4) on)))))
theorem c49_e {N : Nat} : ∀ a0 a1 r, xFn N a0 a1 = some r → RE Tryz.f49 I49 (xAT a0 a1) (xAy r) := fun a0 a1 r h =>
 iE h fun h0 h => cE h (fun h1 h => cE h (fun h2 h => tE fk49 (p49_e_12 a0 a1) (oc h0 (oc h1 (oc h2 on))) (c49_4 _ _ _ _ _ _ h)) fun h2 h =>
 cE h (fun h3 h => cE h (fun h4 h => tE fk49 (p49_e_13 a0 a1) (oc h0 (oc h1 (oc h2 (oc h3 (oc h4 on))))) (c49_8 _ _ _ _ _ _ h)) fun h4 h =>
 cE h (fun h5 h => iE h fun h6 h => bE h fun r1 h7 h => cE h (fun h8 h => dE h fk49 (p49_e_14 a0 a1 r1) (oc h0 (oc h1 (oc h2 (oc h3 (oc h4 (oc h5 (oc h6 (oc (xBn h7) (oc h8 on)))))))))) fun h8 h =>
 iE h fun h9 h => bE h fun r2 h10 h => dE h fk49 (p49_e_15 a0 a1 r1 r2) (oc h0 (oc h1 (oc h2 (oc h3 (oc h4 (oc h5 (oc h6 (oc (xBn h7) (oc h8 (oc h9 (oc (xDi h10) on)))))))))))) fun h5 h =>
 iE h fun h6 h => bE h fun r1 h7 h => cE h (fun h8 h => dE h fk49 (p49_e_16 a0 a1 r1) (oc h0 (oc h1 (oc h2 (oc h3 (oc h4 (oc h5 (oc h6 (oc (xCl h7) (oc h8 on)))))))))) fun h8 h =>
 iE h fun h9 h => bE h fun r2 h10 h => dE h fk49 (p49_e_17 a0 a1 r1 r2) (oc h0 (oc h1 (oc h2 (oc h3 (oc h4 (oc h5 (oc h6 (oc (xCl h7) (oc h8 (oc h9 (oc (xBn h10) on)))))))))))) fun h3 h =>
 cE h (fun h5 h => iE h fun h6 h => bE h fun r1 h7 h => cE h (fun h8 h => dE h fk49 (p49_e_18 a0 a1 r1) (oc h0 (oc h1 (oc h2 (oc h3 (oc rfl (oc h5 (oc h6 (oc (xBn h7) (oc h8 on)))))))))) fun h8 h =>
 iE h fun h9 h => bE h fun r2 h10 h => dE h fk49 (p49_e_19 a0 a1 r1 r2) (oc h0 (oc h1 (oc h2 (oc h3 (oc rfl (oc h5 (oc h6 (oc (xBn h7) (oc h8 (oc h9 (oc (xDi h10) on)))))))))))) fun h5 h =>
 iE h fun h6 h => bE h fun r1 h7 h => cE h (fun h8 h => dE h fk49 (p49_e_20 a0 a1 r1) (oc h0 (oc h1 (oc h2 (oc h3 (oc rfl (oc h5 (oc h6 (oc (xCl h7) (oc h8 on)))))))))) fun h8 h =>
 iE h fun h9 h => bE h fun r2 h10 h => dE h fk49 (p49_e_21 a0 a1 r1 r2) (oc h0 (oc h1 (oc h2 (oc h3 (oc rfl (oc h5 (oc h6 (oc (xCl h7) (oc h8 (oc h9 (oc (xBn h10) on)))))))))))) fun h1 h =>
 cE h (fun h3 h => cE h (fun h4 h => tE fk49 (p49_e_22 a0 a1) (oc h0 (oc h1 (oc rfl (oc h3 (oc h4 on))))) (c49_8 _ _ _ _ _ _ h)) fun h4 h =>
 cE h (fun h5 h => iE h fun h6 h => bE h fun r1 h7 h => cE h (fun h8 h => dE h fk49 (p49_e_23 a0 a1 r1) (oc h0 (oc h1 (oc rfl (oc h3 (oc h4 (oc h5 (oc h6 (oc (xBn h7) (oc h8 on)))))))))) fun h8 h =>
 iE h fun h9 h => bE h fun r2 h10 h => dE h fk49 (p49_e_24 a0 a1 r1 r2) (oc h0 (oc h1 (oc rfl (oc h3 (oc h4 (oc h5 (oc h6 (oc (xBn h7) (oc h8 (oc h9 (oc (xDi h10) on)))))))))))) fun h5 h =>
 iE h fun h6 h => bE h fun r1 h7 h => cE h (fun h8 h => dE h fk49 (p49_e_25 a0 a1 r1) (oc h0 (oc h1 (oc rfl (oc h3 (oc h4 (oc h5 (oc h6 (oc (xCl h7) (oc h8 on)))))))))) fun h8 h =>
 iE h fun h9 h => bE h fun r2 h10 h => dE h fk49 (p49_e_26 a0 a1 r1 r2) (oc h0 (oc h1 (oc rfl (oc h3 (oc h4 (oc h5 (oc h6 (oc (xCl h7) (oc h8 (oc h9 (oc (xBn h10) on)))))))))))) fun h3 h =>
 cE h (fun h5 h => iE h fun h6 h => bE h fun r1 h7 h => cE h (fun h8 h => dE h fk49 (p49_e_27 a0 a1 r1) (oc h0 (oc h1 (oc rfl (oc h3 (oc rfl (oc h5 (oc h6 (oc (xBn h7) (oc h8 on)))))))))) fun h8 h =>
 iE h fun h9 h => bE h fun r2 h10 h => dE h fk49 (p49_e_28 a0 a1 r1 r2) (oc h0 (oc h1 (oc rfl (oc h3 (oc rfl (oc h5 (oc h6 (oc (xBn h7) (oc h8 (oc h9 (oc (xDi h10) on)))))))))))) fun h5 h =>
 iE h fun h6 h => bE h fun r1 h7 h => cE h (fun h8 h => dE h fk49 (p49_e_29 a0 a1 r1) (oc h0 (oc h1 (oc rfl (oc h3 (oc rfl (oc h5 (oc h6 (oc (xCl h7) (oc h8 on)))))))))) fun h8 h =>
 iE h fun h9 h => bE h fun r2 h10 h => dE h fk49 (p49_e_30 a0 a1 r1 r2) (oc h0 (oc h1 (oc rfl (oc h3 (oc rfl (oc h5 (oc h6 (oc (xCl h7) (oc h8 (oc h9 (oc (xBn h10) on)))))))))))
theorem xFI {N : Nat} {a0 : Str} {a1 : Int} {r : Tok × Int × Bool} (h : xFn N  a0 a1 = some r) : AbC 49 (xAT a0 a1) (xAy r) :=
 AbsCalls.of_reach fk49 rfl rfl (Nat.le_of_ble_eq_true rfl) (c49_e a0 a1 r h)
noncomputable def I30 : Info := { body := (Tryz.f30.body).getD .skip, nt := 44, results := [.tmp 2, .tmp 3], keep := [0, 4, 6, 8, 10, 12, 14, 16, 22, 32, 40, 72, 13], live := [(5, [0, 8, 10])], modes := [(8, [(3, .take, false)]), (9, [(0, .take, false), (2, .take, false)]), (11, [(0, .take, false)]), (12, [(0, .take, false)]), (13, [(0, .take, false)])] }
theorem fk30 : FnOk Tryz.prog 30 Tryz.f30 I30 := ⟨Tryz.func30, by kernel_rfl, by kernel_rfl, by kernel_rfl, by kernel_rfl⟩
def S30_5 (x0 : Str) (x4 : List Tok) (x5 : Int) : St := [(0, .v false [.str x0]), (8, .v false [.sl .own .tok x4]), (10, .v false [.int .i64 x5])]
theorem p30_5_0 (x0 : Str) (x4 : List Tok) (x5 : Int) : rS 5 I30 (S30_5 x0 x4 x5) [Y, Y] [] = st 5 I30 (S30_5 x0 x4 (W (x5 + 1))) [(decide ((x5 : Int) < (Ln x0 : Int))) = true, (0 : Int) ≤ x5 ∧ x5 < (Ln x0), ((((gD x0 (tN x5) 0).toNat : Int) : Int) == 32) = true] := by kernel_rfl
theorem p30_5_1 (x0 : Str) (x4 : List Tok) (x5 : Int) (r1 : Tok × Int × Bool) : rS 5 I30 (S30_5 x0 x4 x5) [Y, F, Y, Y] [xAy r1] = dn (xAt ([], x5)) [(decide ((x5 : Int) < (Ln x0 : Int))) = true, (0 : Int) ≤ x5 ∧ x5 < (Ln x0), ((((gD x0 (tN x5) 0).toNat : Int) : Int) == 32) = false, AbC 49 (xAT x0 x5) (xAy r1), (!r1.2.2) = true, true = true] := by kernel_rfl
theorem p30_5_2 (x0 : Str) (x4 : List Tok) (x5 : Int) (r1 : Tok × Int × Bool) : rS 5 I30 (S30_5 x0 x4 x5) [Y, F, F, Y] [xAy r1] = dn (xAt ([], x5)) [(decide ((x5 : Int) < (Ln x0 : Int))) = true, (0 : Int) ≤ x5 ∧ x5 < (Ln x0), ((((gD x0 (tN x5) 0).toNat : Int) : Int) == 32) = false, AbC 49 (xAT x0 x5) (xAy r1), (!r1.2.2) = false, (((Ln x4 : Int) : Int) == 60) = true] := by kernel_rfl
theorem p30_5_3 (x0 : Str) (x4 : List Tok) (x5 : Int) (r1 : Tok × Int × Bool) : rS 5 I30 (S30_5 x0 x4 x5) [Y, F, F, F] [xAy r1] = st 5 I30 (S30_5 x0 (x4 ++ [r1.1]) r1.2.1) [(decide ((x5 : Int) < (Ln x0 : Int))) = true, (0 : Int) ≤ x5 ∧ x5 < (Ln x0), ((((gD x0 (tN x5) 0).toNat : Int) : Int) == 32) = false, AbC 49 (xAT x0 x5) (xAy r1), (!r1.2.2) = false, (((Ln x4 : Int) : Int) == 60) = false, Ln x4 + Ln [r1.1] ≤ Lim] := by kernel_rfl
theorem p30_5_4 (x0 : Str) (x4 : List Tok) (x5 : Int) : rS 5 I30 (S30_5 x0 x4 x5) [F] [] = dn (xAt (x4, (-1))) [(decide ((x5 : Int) < (Ln x0 : Int))) = false] := by kernel_rfl
theorem p30_e_5 (a0 : Str) : rE I30 (xBf a0) [Y] [] = dn (xAt ([], 120)) [(decide (((Ln a0 : Int) : Int) > 120)) = true] := by kernel_rfl
theorem p30_e_6 (a0 : Str) : rE I30 (xBf a0) [F] [] = st 5 I30 (S30_5 a0 [] 0) [(decide (((Ln a0 : Int) : Int) > 120)) = false] := by kernel_rfl
theorem c30_5 {N : Nat} : ∀ n x0 x4 x5 r, xDC N n x0 x4 x5 = some r → RS Tryz.f30 I30 5 (S30_5 x0 x4 x5) (xAt r) := by
 intro n
 induction n with
 | zero => exact fun _ _ _ _ h => nE h
 | succ n ih =>
  exact fun x0 x4 x5 r h =>
   cE h (fun h0 h => iE h fun h1 h => cE h (fun h2 h => tS fk30 (p30_5_0 x0 x4 x5) (oc h0 (oc h1 (oc h2 on))) (ih _ _ _ _ h)) fun h2 h =>
   bE h fun r1 h3 h => cE h (fun h4 h => dS h fk30 (p30_5_1 x0 x4 x5 r1) (oc h0 (oc h1 (oc h2 (oc (xFI h3) (oc h4 (oc rfl on))))))) fun h4 h =>
   cE h (fun h5 h => dS h fk30 (p30_5_2 x0 x4 x5 r1) (oc h0 (oc h1 (oc h2 (oc (xFI h3) (oc h4 (oc h5 on))))))) fun h5 h =>
   iE h fun h6 h => tS fk30 (p30_5_3 x0 x4 x5 r1) (oc h0 (oc h1 (oc h2 (oc (xFI h3) (oc h4 (oc h5 (oc h6 on))))))) (ih _ _ _ _ h)) fun h0 h =>
   dS h fk30 (p30_5_4 x0 x4 x5) (oc h0 on)
theorem c30_e {N : Nat} : ∀ a0 r, xED N a0 = some r → RE Tryz.f30 I30 (xBf a0) (xAt r) := fun a0 r h =>
 cE h (fun h0 h => dE h fk30 (p30_e_5 a0) (oc h0 on)) fun h0 h =>
 tE fk30 (p30_e_6 a0) (oc h0 on) (c30_5 _ _ _ _ _ h)
theorem xBJ {N : Nat} {a0 : Str} {r : (List Tok) × Int} (h : xED N  a0 = some r) : AbC 30 (xBf a0) (xAt r) :=
 AbsCalls.of_reach fk30 rfl rfl (Nat.le_of_ble_eq_true rfl) (c30_e a0 r h)
noncomputable def I51 : Info := { body := (Tryz.f51.body).getD .skip, nt := 31, results := [.cell 2 50], keep := [0, 4, 38, 1, 5], live := [], modes := [(1, [(5, .take, false)])], ext := [0] }
theorem fk51 : FnOk Tryz.prog 51 Tryz.f51 I51 := ⟨Tryz.func51, by kernel_rfl, by kernel_rfl, by kernel_rfl, by kernel_rfl⟩
theorem p51_e_0 (a0 : Psr) : rE I51 (xAj a0) [Y, Y] [] = dn (xAc ((gD (Psr.list a0) (tN (Psr.pos a0)) Ty.tok.dflt), a0)) [(decide (((Psr.bad a0) : Int) < 0)) = true, (decide (((Psr.pos a0) : Int) < (Ln (Psr.list a0) : Int))) = true, (0 : Int) ≤ (Psr.pos a0) ∧ (Psr.pos a0) < (Ln (Psr.list a0))] := by kernel_rfl
theorem p51_e_1 (a0 : Psr) : rE I51 (xAj a0) [Y, F] [] = dn (xAc ((Tok.mk 0 0 0 []), a0)) [(decide (((Psr.bad a0) : Int) < 0)) = true, (decide (((Psr.pos a0) : Int) < (Ln (Psr.list a0) : Int))) = false] := by kernel_rfl
theorem p51_e_2 (a0 : Psr) : rE I51 (xAj a0) [F, F] [] = dn (xAc ((Tok.mk 0 0 0 []), a0)) [(decide (((Psr.bad a0) : Int) < 0)) = false, false = false] := by kernel_rfl
theorem c51_e {N : Nat} : ∀ a0 r, xBA N a0 = some r → RE Tryz.f51 I51 (xAj a0) (xAc r) := fun a0 r h =>
 cE h (fun h0 h => cE h (fun h1 h => iE h fun h2 h => dE h fk51 (p51_e_0 a0) (oc h0 (oc h1 (oc h2 on)))) fun h1 h =>
 dE h fk51 (p51_e_1 a0) (oc h0 (oc h1 on))) fun h0 h =>
 dE h fk51 (p51_e_2 a0) (oc h0 (oc rfl on))
theorem xAq {N : Nat} {a0 : Psr} {r : Tok × Psr} (h : xBA N  a0 = some r) : AbC 51 (xAj a0) (xAc r) :=
 AbsCalls.of_reach fk51 rfl rfl (Nat.le_of_ble_eq_true rfl) (c51_e a0 r h)
noncomputable def I50 : Info := { body := (Tryz.f50.body).getD .skip, nt := 14, results := [.tmp 4], keep := [0, 2, 4, 8, 5], live := [], modes := [(1, [(3, .take, false)])] }
theorem fk50 : FnOk Tryz.prog 50 Tryz.f50 I50 := ⟨Tryz.func50, by kernel_rfl, by kernel_rfl, by kernel_rfl, by kernel_rfl⟩
theorem p50_e_0 (a0 : Tok) (a1 : Str) : rE I50 (xBc a0 a1) [Y] [] = dn (xAC (((Tok.text a0) : Str) == a1)) [(((Tok.kind a0) : Int) == 1) = true] := by kernel_rfl
theorem p50_e_1 (a0 : Tok) (a1 : Str) : rE I50 (xBc a0 a1) [F] [] = dn (xAC false) [(((Tok.kind a0) : Int) == 1) = false] := by kernel_rfl
theorem c50_e {N : Nat} : ∀ a0 a1 r, xDH N a0 a1 = some r → RE Tryz.f50 I50 (xBc a0 a1) (xAC r) := fun a0 a1 r h =>
 cE h (fun h0 h => dE h fk50 (p50_e_0 a0 a1) (oc h0 on)) fun h0 h =>
 dE h fk50 (p50_e_1 a0 a1) (oc h0 on)
theorem xBH {N : Nat} {a0 : Tok} {a1 : Str} {r : Bool} (h : xDH N  a0 a1 = some r) : AbC 50 (xBc a0 a1) (xAC r) :=
 AbsCalls.of_reach fk50 rfl rfl (Nat.le_of_ble_eq_true rfl) (c50_e a0 a1 r h)
noncomputable def I97 : Info := { body := (Tryz.f97.body).getD .skip, nt := 15, results := [.tmp 6], keep := [0, 2, 4, 12], live := [], modes := [(1, [(3, .take, false)])] }
theorem fk97 : FnOk Tryz.prog 97 Tryz.f97 I97 := ⟨Tryz.func97, by kernel_rfl, by kernel_rfl, by kernel_rfl, by kernel_rfl⟩
theorem p97_e_0 (a0 a1 a2 : Int) : rE I97 (xCf a0 a1 a2) [Y] [] = dn (xA8 (decide ((a0 : Int) ≤ a2))) [(decide ((a1 : Int) ≤ a0)) = true] := by kernel_rfl
theorem p97_e_1 (a0 a1 a2 : Int) : rE I97 (xCf a0 a1 a2) [F] [] = dn (xA8 false) [(decide ((a1 : Int) ≤ a0)) = false] := by kernel_rfl
theorem c97_e {N : Nat} : ∀ a0 a1 a2 r, xEv N a0 a1 a2 = some r → RE Tryz.f97 I97 (xCf a0 a1 a2) (xA8 r) := fun a0 a1 a2 r h =>
 cE h (fun h0 h => dE h fk97 (p97_e_0 a0 a1 a2) (oc h0 on)) fun h0 h =>
 dE h fk97 (p97_e_1 a0 a1 a2) (oc h0 on)
theorem xDq {N : Nat} {a0 : Int} {a1 : Int} {a2 : Int} {r : Bool} (h : xEv N  a0 a1 a2 = some r) : AbC 97 (xCf a0 a1 a2) (xA8 r) :=
 AbsCalls.of_reach fk97 rfl rfl (Nat.le_of_ble_eq_true rfl) (c97_e a0 a1 a2 r h)
noncomputable def I114 : Info := { body := (Tryz.f114.body).getD .skip, nt := 42, results := [.tmp 2], keep := [0, 4, 6, 8, 16, 76], live := [(2, [0, 6])], modes := [(4, [(4, .take, false)]), (5, [(0, .take, false), (2, .take, false), (5, .take, false), (11, .take, false)])] }
theorem fk114 : FnOk Tryz.prog 114 Tryz.f114 I114 := ⟨Tryz.func114, by kernel_rfl, by kernel_rfl, by kernel_rfl, by kernel_rfl⟩
def xFD (x0 : Str) (x3 : Int) : St := [(0, .v false [.str x0]), (6, .v false [.int .i64 x3])]
theorem p114_2_0 (x0 : Str) (x3 : Int) : rS 2 I114 (xFD x0 x3) [Y, Y, Y, Y, Y, Y] [] = dn (xB6 false) [(decide ((x3 : Int) < (Ln x0 : Int))) = true, (0 : Int) ≤ x3 ∧ x3 < (Ln x0), (decide ((((gD x0 (tN x3) 0).toNat : Int) : Int) ≥ 97)) = true, (0 : Int) ≤ x3 ∧ x3 < (Ln x0), (!(decide ((((gD x0 (tN x3) 0).toNat : Int) : Int) ≤ 122))) = true, ((x3 : Int) == 0) = true, true = true, true = true] := by kernel_rfl
theorem p114_2_1 (x0 : Str) (x3 : Int) : rS 2 I114 (xFD x0 x3) [Y, Y, Y, F, Y, Y] [] = dn (xB6 false) [(decide ((x3 : Int) < (Ln x0 : Int))) = true, (0 : Int) ≤ x3 ∧ x3 < (Ln x0), (decide ((((gD x0 (tN x3) 0).toNat : Int) : Int) ≥ 97)) = true, (0 : Int) ≤ x3 ∧ x3 < (Ln x0), (!(decide ((((gD x0 (tN x3) 0).toNat : Int) : Int) ≤ 122))) = true, ((x3 : Int) == 0) = false, (0 : Int) ≤ x3 ∧ x3 < (Ln x0), (decide ((((gD x0 (tN x3) 0).toNat : Int) : Int) < 48)) = true, true = true] := by kernel_rfl
theorem p114_2_2 (x0 : Str) (x3 : Int) : rS 2 I114 (xFD x0 x3) [Y, Y, Y, F, F, Y] [] = dn (xB6 false) [(decide ((x3 : Int) < (Ln x0 : Int))) = true, (0 : Int) ≤ x3 ∧ x3 < (Ln x0), (decide ((((gD x0 (tN x3) 0).toNat : Int) : Int) ≥ 97)) = true, (0 : Int) ≤ x3 ∧ x3 < (Ln x0), (!(decide ((((gD x0 (tN x3) 0).toNat : Int) : Int) ≤ 122))) = true, ((x3 : Int) == 0) = false, (0 : Int) ≤ x3 ∧ x3 < (Ln x0), (decide ((((gD x0 (tN x3) 0).toNat : Int) : Int) < 48)) = false, (0 : Int) ≤ x3 ∧ x3 < (Ln x0), (decide ((((gD x0 (tN x3) 0).toNat : Int) : Int) > 57)) = true] := by kernel_rfl
theorem p114_2_3 (x0 : Str) (x3 : Int) : rS 2 I114 (xFD x0 x3) [Y, Y, Y, F, F, F] [] = st 2 I114 (xFD x0 (W (x3 + 1))) [(decide ((x3 : Int) < (Ln x0 : Int))) = true, (0 : Int) ≤ x3 ∧ x3 < (Ln x0), (decide ((((gD x0 (tN x3) 0).toNat : Int) : Int) ≥ 97)) = true, (0 : Int) ≤ x3 ∧ x3 < (Ln x0), (!(decide ((((gD x0 (tN x3) 0).toNat : Int) : Int) ≤ 122))) = true, ((x3 : Int) == 0) = false, (0 : Int) ≤ x3 ∧ x3 < (Ln x0), (decide ((((gD x0 (tN x3) 0).toNat : Int) : Int) < 48)) = false, (0 : Int) ≤ x3 ∧ x3 < (Ln x0), (decide ((((gD x0 (tN x3) 0).toNat : Int) : Int) > 57)) = false] := by kernel_rfl
theorem p114_2_4 (x0 : Str) (x3 : Int) : rS 2 I114 (xFD x0 x3) [Y, Y, F, F] [] = st 2 I114 (xFD x0 (W (x3 + 1))) [(decide ((x3 : Int) < (Ln x0 : Int))) = true, (0 : Int) ≤ x3 ∧ x3 < (Ln x0), (decide ((((gD x0 (tN x3) 0).toNat : Int) : Int) ≥ 97)) = true, (0 : Int) ≤ x3 ∧ x3 < (Ln x0), (!(decide ((((gD x0 (tN x3) 0).toNat : Int) : Int) ≤ 122))) = false, false = false] := by kernel_rfl
theorem p114_2_5 (x0 : Str) (x3 : Int) : rS 2 I114 (xFD x0 x3) [Y, F, Y, Y, Y, Y] [] = dn (xB6 false) [(decide ((x3 : Int) < (Ln x0 : Int))) = true, (0 : Int) ≤ x3 ∧ x3 < (Ln x0), (decide ((((gD x0 (tN x3) 0).toNat : Int) : Int) ≥ 97)) = false, (!false) = true, ((x3 : Int) == 0) = true, true = true, true = true] := by kernel_rfl
theorem p114_2_6 (x0 : Str) (x3 : Int) : rS 2 I114 (xFD x0 x3) [Y, F, Y, F, Y, Y] [] = dn (xB6 false) [(decide ((x3 : Int) < (Ln x0 : Int))) = true, (0 : Int) ≤ x3 ∧ x3 < (Ln x0), (decide ((((gD x0 (tN x3) 0).toNat : Int) : Int) ≥ 97)) = false, (!false) = true, ((x3 : Int) == 0) = false, (0 : Int) ≤ x3 ∧ x3 < (Ln x0), (decide ((((gD x0 (tN x3) 0).toNat : Int) : Int) < 48)) = true, true = true] := by kernel_rfl
theorem p114_2_7 (x0 : Str) (x3 : Int) : rS 2 I114 (xFD x0 x3) [Y, F, Y, F, F, Y] [] = dn (xB6 false) [(decide ((x3 : Int) < (Ln x0 : Int))) = true, (0 : Int) ≤ x3 ∧ x3 < (Ln x0), (decide ((((gD x0 (tN x3) 0).toNat : Int) : Int) ≥ 97)) = false, (!false) = true, ((x3 : Int) == 0) = false, (0 : Int) ≤ x3 ∧ x3 < (Ln x0), (decide ((((gD x0 (tN x3) 0).toNat : Int) : Int) < 48)) = false, (0 : Int) ≤ x3 ∧ x3 < (Ln x0), (decide ((((gD x0 (tN x3) 0).toNat : Int) : Int) > 57)) = true] := by kernel_rfl
theorem p114_2_8 (x0 : Str) (x3 : Int) : rS 2 I114 (xFD x0 x3) [Y, F, Y, F, F, F] [] = st 2 I114 (xFD x0 (W (x3 + 1))) [(decide ((x3 : Int) < (Ln x0 : Int))) = true, (0 : Int) ≤ x3 ∧ x3 < (Ln x0), (decide ((((gD x0 (tN x3) 0).toNat : Int) : Int) ≥ 97)) = false, (!false) = true, ((x3 : Int) == 0) = false, (0 : Int) ≤ x3 ∧ x3 < (Ln x0), (decide ((((gD x0 (tN x3) 0).toNat : Int) : Int) < 48)) = false, (0 : Int) ≤ x3 ∧ x3 < (Ln x0), (decide ((((gD x0 (tN x3) 0).toNat : Int) : Int) > 57)) = false] := by kernel_rfl
theorem p114_2_9 (x0 : Str) (x3 : Int) (r1 : Bool) : rS 2 I114 (xFD x0 x3) [F] [xA8 r1] = dn (xB6 r1) [(decide ((x3 : Int) < (Ln x0 : Int))) = false, AbC 97 (xCf (Ln x0 : Int) 1 8) (xA8 r1)] := by kernel_rfl
theorem p114_e_10 (a0 : Str) : rE I114 (xEL a0) [] [] = st 2 I114 (xFD a0 0) [] := by kernel_rfl
theorem c114_2 {N : Nat} : ∀ n x0 x3 r, xDp N n x0 x3 = some r → RS Tryz.f114 I114 2 (xFD x0 x3) (xB6 r) := by
 intro n
 induction n with
 | zero => exact fun _ _ _ h => nE h
 | succ n ih =>
  exact fun x0 x3 r h =>
   cE h (fun h0 h => iE h fun h1 h => cE h (fun h2 h => cE h (fun h4 h => cE h (fun h5 h => dS h fk114 (p114_2_0 x0 x3) (oc h0 (oc h1 (oc h2 (oc h1 (oc h4 (oc h5 (oc rfl (oc rfl on))))))))) fun h5 h =>
   cE h (fun h7 h => dS h fk114 (p114_2_1 x0 x3) (oc h0 (oc h1 (oc h2 (oc h1 (oc h4 (oc h5 (oc h1 (oc h7 (oc rfl on)))))))))) fun h7 h =>
   cE h (fun h9 h => dS h fk114 (p114_2_2 x0 x3) (oc h0 (oc h1 (oc h2 (oc h1 (oc h4 (oc h5 (oc h1 (oc h7 (oc h1 (oc h9 on))))))))))) fun h9 h =>
   tS fk114 (p114_2_3 x0 x3) (oc h0 (oc h1 (oc h2 (oc h1 (oc h4 (oc h5 (oc h1 (oc h7 (oc h1 (oc h9 on)))))))))) (ih _ _ _ h)) fun h4 h =>
   tS fk114 (p114_2_4 x0 x3) (oc h0 (oc h1 (oc h2 (oc h1 (oc h4 (oc rfl on)))))) (ih _ _ _ h)) fun h2 h =>
   cE h (fun h4 h => dS h fk114 (p114_2_5 x0 x3) (oc h0 (oc h1 (oc h2 (oc rfl (oc h4 (oc rfl (oc rfl on)))))))) fun h4 h =>
   cE h (fun h6 h => dS h fk114 (p114_2_6 x0 x3) (oc h0 (oc h1 (oc h2 (oc rfl (oc h4 (oc h1 (oc h6 (oc rfl on))))))))) fun h6 h =>
   cE h (fun h8 h => dS h fk114 (p114_2_7 x0 x3) (oc h0 (oc h1 (oc h2 (oc rfl (oc h4 (oc h1 (oc h6 (oc h1 (oc h8 on)))))))))) fun h8 h =>
   tS fk114 (p114_2_8 x0 x3) (oc h0 (oc h1 (oc h2 (oc rfl (oc h4 (oc h1 (oc h6 (oc h1 (oc h8 on))))))))) (ih _ _ _ h)) fun h0 h =>
   bE h fun r1 h1 h => dS h fk114 (p114_2_9 x0 x3 r1) (oc h0 (oc (xDq h1) on))
theorem c114_e {N : Nat} : ∀ a0 r, xGi N a0 = some r → RE Tryz.f114 I114 (xEL a0) (xB6 r) := fun a0 r h =>
 tE fk114 (p114_e_10 a0) on (c114_2 _ _ _ _ h)
theorem xGP {N : Nat} {a0 : Str} {r : Bool} (h : xGi N  a0 = some r) : AbC 114 (xEL a0) (xB6 r) :=
 AbsCalls.of_reach fk114 rfl rfl (Nat.le_of_ble_eq_true rfl) (c114_e a0 r h)
end Go.Ab.T
end
section
open Go.Proofs
namespace Go.Ab.T
set_option linter.unusedVariables false
set_option maxRecDepth 100000
variable [Inhabited Lb]
variable [Nonempty Tab10]
variable [Nonempty ErrVars]
noncomputable def I117 : Info := { body := (Tryz.f117.body).getD .skip, nt := 26, results := [.tmp 2], keep := [0, 4, 6, 8, 12, 24, 40, 48], live := [], modes := [] }
theorem xGg : FnOk Tryz.prog 117 Tryz.f117 I117 := ⟨Tryz.func117, by kernel_rfl, by kernel_rfl, by kernel_rfl, by kernel_rfl⟩
theorem p117_e_0 (a0 : Str) : rE I117 (xAp a0) [Y] [] = dn (xAh 0) [((a0 : Str) == [99, 108, 111, 99, 107]) = true] := by kernel_rfl
theorem p117_e_1 (a0 : Str) : rE I117 (xAp a0) [F, Y, Y] [] = dn (xAh 1) [((a0 : Str) == [99, 108, 111, 99, 107]) = false, ((a0 : Str) == [108, 101, 110]) = true, ((a0 : Str) == [108, 101, 110]) = true] := by kernel_rfl
theorem p117_e_2 (a0 : Str) : rE I117 (xAp a0) [F, F, Y, Y] [] = dn (xAh 1) [((a0 : Str) == [99, 108, 111, 99, 107]) = false, ((a0 : Str) == [108, 101, 110]) = false, ((a0 : Str) == [115, 117, 109]) = true, ((a0 : Str) == [115, 117, 109]) = true] := by kernel_rfl
theorem p117_e_3 (a0 : Str) : rE I117 (xAp a0) [F, F, F, Y, Y] [] = dn (xAh 1) [((a0 : Str) == [99, 108, 111, 99, 107]) = false, ((a0 : Str) == [108, 101, 110]) = false, ((a0 : Str) == [115, 117, 109]) = false, ((a0 : Str) == [114, 111, 119, 115]) = true, ((a0 : Str) == [114, 111, 119, 115]) = true] := by kernel_rfl
theorem p117_e_4 (a0 : Str) : rE I117 (xAp a0) [F, F, F, F, Y, Y] [] = dn (xAh 1) [((a0 : Str) == [99, 108, 111, 99, 107]) = false, ((a0 : Str) == [108, 101, 110]) = false, ((a0 : Str) == [115, 117, 109]) = false, ((a0 : Str) == [114, 111, 119, 115]) = false, ((a0 : Str) == [99, 104, 97, 110, 99, 101]) = true, ((a0 : Str) == [99, 104, 97, 110, 99, 101]) = true] := by kernel_rfl
theorem p117_e_5 (a0 : Str) : rE I117 (xAp a0) [F, F, F, F, F, Y] [] = dn (xAh 1) [((a0 : Str) == [99, 108, 111, 99, 107]) = false, ((a0 : Str) == [108, 101, 110]) = false, ((a0 : Str) == [115, 117, 109]) = false, ((a0 : Str) == [114, 111, 119, 115]) = false, ((a0 : Str) == [99, 104, 97, 110, 99, 101]) = false, ((a0 : Str) == [102, 105, 108, 101]) = true] := by kernel_rfl
theorem p117_e_6 (a0 : Str) : rE I117 (xAp a0) [F, F, F, F, F, F, Y, Y] [] = dn (xAh 2) [((a0 : Str) == [99, 108, 111, 99, 107]) = false, ((a0 : Str) == [108, 101, 110]) = false, ((a0 : Str) == [115, 117, 109]) = false, ((a0 : Str) == [114, 111, 119, 115]) = false, ((a0 : Str) == [99, 104, 97, 110, 99, 101]) = false, ((a0 : Str) == [102, 105, 108, 101]) = false, ((a0 : Str) == [116, 97, 107, 101]) = true, ((a0 : Str) == [116, 97, 107, 101]) = true] := by kernel_rfl
theorem p117_e_7 (a0 : Str) : rE I117 (xAp a0) [F, F, F, F, F, F, F, Y, Y] [] = dn (xAh 2) [((a0 : Str) == [99, 108, 111, 99, 107]) = false, ((a0 : Str) == [108, 101, 110]) = false, ((a0 : Str) == [115, 117, 109]) = false, ((a0 : Str) == [114, 111, 119, 115]) = false, ((a0 : Str) == [99, 104, 97, 110, 99, 101]) = false, ((a0 : Str) == [102, 105, 108, 101]) = false, ((a0 : Str) == [116, 97, 107, 101]) = false, ((a0 : Str) == [115, 107, 105, 112]) = true, ((a0 : Str) == [115, 107, 105, 112]) = true] := by kernel_rfl
theorem p117_e_8 (a0 : Str) : rE I117 (xAp a0) [F, F, F, F, F, F, F, F, Y, Y] [] = dn (xAh 2) [((a0 : Str) == [99, 108, 111, 99, 107]) = false, ((a0 : Str) == [108, 101, 110]) = false, ((a0 : Str) == [115, 117, 109]) = false, ((a0 : Str) == [114, 111, 119, 115]) = false, ((a0 : Str) == [99, 104, 97, 110, 99, 101]) = false, ((a0 : Str) == [102, 105, 108, 101]) = false, ((a0 : Str) == [116, 97, 107, 101]) = false, ((a0 : Str) == [115, 107, 105, 112]) = false, ((a0 : Str) == [114, 97, 110, 103, 101]) = true, ((a0 : Str) == [114, 97, 110, 103, 101]) = true] := by kernel_rfl
theorem p117_e_9 (a0 : Str) : rE I117 (xAp a0) [F, F, F, F, F, F, F, F, F, Y, Y] [] = dn (xAh 2) [((a0 : Str) == [99, 108, 111, 99, 107]) = false, ((a0 : Str) == [108, 101, 110]) = false, ((a0 : Str) == [115, 117, 109]) = false, ((a0 : Str) == [114, 111, 119, 115]) = false, ((a0 : Str) == [99, 104, 97, 110, 99, 101]) = false, ((a0 : Str) == [102, 105, 108, 101]) = false, ((a0 : Str) == [116, 97, 107, 101]) = false, ((a0 : Str) == [115, 107, 105, 112]) = false, ((a0 : Str) == [114, 97, 110, 103, 101]) = false, ((a0 : Str) == [110, 116, 104]) = true, ((a0 : Str) == [110, 116, 104]) = true] := by kernel_rfl
theorem p117_e_10 (a0 : Str) : rE I117 (xAp a0) [F, F, F, F, F, F, F, F, F, F, Y, Y] [] = dn (xAh 2) [((a0 : Str) == [99, 108, 111, 99, 107]) = false, ((a0 : Str) == [108, 101, 110]) = false, ((a0 : Str) == [115, 117, 109]) = false, ((a0 : Str) == [114, 111, 119, 115]) = false, ((a0 : Str) == [99, 104, 97, 110, 99, 101]) = false, ((a0 : Str) == [102, 105, 108, 101]) = false, ((a0 : Str) == [116, 97, 107, 101]) = false, ((a0 : Str) == [115, 107, 105, 112]) = false, ((a0 : Str) == [114, 97, 110, 103, 101]) = false, ((a0 : Str) == [110, 116, 104]) = false, ((a0 : Str) == [107, 101, 101, 112]) = true, ((a0 : Str) == [107, 101, 101, 112]) = true] := by kernel_rfl
theorem p117_e_11 (a0 : Str) : rE I117 (xAp a0) [F, F, F, F, F, F, F, F, F, F, F, Y, Y] [] = dn (xAh 2) [((a0 : Str) == [99, 108, 111, 99, 107]) = false, ((a0 : Str) == [108, 101, 110]) = false, ((a0 : Str) == [115, 117, 109]) = false, ((a0 : Str) == [114, 111, 119, 115]) = false, ((a0 : Str) == [99, 104, 97, 110, 99, 101]) = false, ((a0 : Str) == [102, 105, 108, 101]) = false, ((a0 : Str) == [116, 97, 107, 101]) = false, ((a0 : Str) == [115, 107, 105, 112]) = false, ((a0 : Str) == [114, 97, 110, 103, 101]) = false, ((a0 : Str) == [110, 116, 104]) = false, ((a0 : Str) == [107, 101, 101, 112]) = false, ((a0 : Str) == [99, 111, 108, 117, 109, 110]) = true, ((a0 : Str) == [99, 111, 108, 117, 109, 110]) = true] := by kernel_rfl
theorem p117_e_12 (a0 : Str) : rE I117 (xAp a0) [F, F, F, F, F, F, F, F, F, F, F, F, Y] [] = dn (xAh 2) [((a0 : Str) == [99, 108, 111, 99, 107]) = false, ((a0 : Str) == [108, 101, 110]) = false, ((a0 : Str) == [115, 117, 109]) = false, ((a0 : Str) == [114, 111, 119, 115]) = false, ((a0 : Str) == [99, 104, 97, 110, 99, 101]) = false, ((a0 : Str) == [102, 105, 108, 101]) = false, ((a0 : Str) == [116, 97, 107, 101]) = false, ((a0 : Str) == [115, 107, 105, 112]) = false, ((a0 : Str) == [114, 97, 110, 103, 101]) = false, ((a0 : Str) == [110, 116, 104]) = false, ((a0 : Str) == [107, 101, 101, 112]) = false, ((a0 : Str) == [99, 111, 108, 117, 109, 110]) = false, ((a0 : Str) == [116, 97, 98, 108, 101]) = true] := by kernel_rfl
theorem p117_e_13 (a0 : Str) : rE I117 (xAp a0) [F, F, F, F, F, F, F, F, F, F, F, F, F, Y, Y] [] = dn (xAh 3) [((a0 : Str) == [99, 108, 111, 99, 107]) = false, ((a0 : Str) == [108, 101, 110]) = false, ((a0 : Str) == [115, 117, 109]) = false, ((a0 : Str) == [114, 111, 119, 115]) = false, ((a0 : Str) == [99, 104, 97, 110, 99, 101]) = false, ((a0 : Str) == [102, 105, 108, 101]) = false, ((a0 : Str) == [116, 97, 107, 101]) = false, ((a0 : Str) == [115, 107, 105, 112]) = false, ((a0 : Str) == [114, 97, 110, 103, 101]) = false, ((a0 : Str) == [110, 116, 104]) = false, ((a0 : Str) == [107, 101, 101, 112]) = false, ((a0 : Str) == [99, 111, 108, 117, 109, 110]) = false, ((a0 : Str) == [116, 97, 98, 108, 101]) = false, ((a0 : Str) == [119, 104, 101, 114, 101]) = true, ((a0 : Str) == [119, 104, 101, 114, 101]) = true] := by kernel_rfl
theorem p117_e_14 (a0 : Str) : rE I117 (xAp a0) [F, F, F, F, F, F, F, F, F, F, F, F, F, F, Y, Y] [] = dn (xAh 3) [((a0 : Str) == [99, 108, 111, 99, 107]) = false, ((a0 : Str) == [108, 101, 110]) = false, ((a0 : Str) == [115, 117, 109]) = false, ((a0 : Str) == [114, 111, 119, 115]) = false, ((a0 : Str) == [99, 104, 97, 110, 99, 101]) = false, ((a0 : Str) == [102, 105, 108, 101]) = false, ((a0 : Str) == [116, 97, 107, 101]) = false, ((a0 : Str) == [115, 107, 105, 112]) = false, ((a0 : Str) == [114, 97, 110, 103, 101]) = false, ((a0 : Str) == [110, 116, 104]) = false, ((a0 : Str) == [107, 101, 101, 112]) = false, ((a0 : Str) == [99, 111, 108, 117, 109, 110]) = false, ((a0 : Str) == [116, 97, 98, 108, 101]) = false, ((a0 : Str) == [119, 104, 101, 114, 101]) = false, ((a0 : Str) == [103, 114, 111, 117, 112]) = true, ((a0 : Str) == [103, 114, 111, 117, 112]) = true] := by kernel_rfl
theorem p117_e_15 (a0 : Str) : rE I117 (xAp a0) [F, F, F, F, F, F, F, F, F, F, F, F, F, F, F, Y] [] = dn (xAh 3) [((a0 : Str) == [99, 108, 111, 99, 107]) = false, ((a0 : Str) == [108, 101, 110]) = false, ((a0 : Str) == [115, 117, 109]) = false, ((a0 : Str) == [114, 111, 119, 115]) = false, ((a0 : Str) == [99, 104, 97, 110, 99, 101]) = false, ((a0 : Str) == [102, 105, 108, 101]) = false, ((a0 : Str) == [116, 97, 107, 101]) = false, ((a0 : Str) == [115, 107, 105, 112]) = false, ((a0 : Str) == [114, 97, 110, 103, 101]) = false, ((a0 : Str) == [110, 116, 104]) = false, ((a0 : Str) == [107, 101, 101, 112]) = false, ((a0 : Str) == [99, 111, 108, 117, 109, 110]) = false, ((a0 : Str) == [116, 97, 98, 108, 101]) = false, ((a0 : Str) == [119, 104, 101, 114, 101]) = false, ((a0 : Str) == [103, 114, 111, 117, 112]) = false, ((a0 : Str) == [106, 111, 105, 110]) = true] := by kernel_rfl
theorem p117_e_16 (a0 : Str) : rE I117 (xAp a0) [F, F, F, F, F, F, F, F, F, F, F, F, F, F, F, F, Y] [] = dn (xAh 4) [((a0 : Str) == [99, 108, 111, 99, 107]) = false, ((a0 : Str) == [108, 101, 110]) = false, ((a0 : Str) == [115, 117, 109]) = false, ((a0 : Str) == [114, 111, 119, 115]) = false, ((a0 : Str) == [99, 104, 97, 110, 99, 101]) = false, ((a0 : Str) == [102, 105, 108, 101]) = false, ((a0 : Str) == [116, 97, 107, 101]) = false, ((a0 : Str) == [115, 107, 105, 112]) = false, ((a0 : Str) == [114, 97, 110, 103, 101]) = false, ((a0 : Str) == [110, 116, 104]) = false, ((a0 : Str) == [107, 101, 101, 112]) = false, ((a0 : Str) == [99, 111, 108, 117, 109, 110]) = false, ((a0 : Str) == [116, 97, 98, 108, 101]) = false, ((a0 : Str) == [119, 104, 101, 114, 101]) = false, ((a0 : Str) == [103, 114, 111, 117, 112]) = false, ((a0 : Str) == [106, 111, 105, 110]) = false, ((a0 : Str) == [97, 100, 100]) = true] := by kernel_rfl
theorem p117_e_17 (a0 : Str) : rE I117 (xAp a0) [F, F, F, F, F, F, F, F, F, F, F, F, F, F, F, F, F] [] = dn (xAh (-1)) [((a0 : Str) == [99, 108, 111, 99, 107]) = false, ((a0 : Str) == [108, 101, 110]) = false, ((a0 : Str) == [115, 117, 109]) = false, ((a0 : Str) == [114, 111, 119, 115]) = false, ((a0 : Str) == [99, 104, 97, 110, 99, 101]) = false, ((a0 : Str) == [102, 105, 108, 101]) = false, ((a0 : Str) == [116, 97, 107, 101]) = false, ((a0 : Str) == [115, 107, 105, 112]) = false, ((a0 : Str) == [114, 97, 110, 103, 101]) = false, ((a0 : Str) == [110, 116, 104]) = false, ((a0 : Str) == [107, 101, 101, 112]) = false, ((a0 : Str) == [99, 111, 108, 117, 109, 110]) = false, ((a0 : Str) == [116, 97, 98, 108, 101]) = false, ((a0 : Str) == [119, 104, 101, 114, 101]) = false, ((a0 : Str) == [103, 114, 111, 117, 112]) = false, ((a0 : Str) == [106, 111, 105, 110]) = false, ((a0 : Str) == [97, 100, 100]) = false] := by kernel_rfl
theorem c117_e {N : Nat} : ∀ a0 r, xCN N a0 = some r → RE Tryz.f117 I117 (xAp a0) (xAh r) := fun a0 r h =>
 cE h (fun h0 h => dE h xGg (p117_e_0 a0) (oc h0 on)) fun h0 h =>
 cE h (fun h1 h => dE h xGg (p117_e_1 a0) (oc h0 (oc h1 (oc h1 on)))) fun h1 h =>
 cE h (fun h2 h => dE h xGg (p117_e_2 a0) (oc h0 (oc h1 (oc h2 (oc h2 on))))) fun h2 h =>
 cE h (fun h3 h => dE h xGg (p117_e_3 a0) (oc h0 (oc h1 (oc h2 (oc h3 (oc h3 on)))))) fun h3 h =>
 cE h (fun h4 h => dE h xGg (p117_e_4 a0) (oc h0 (oc h1 (oc h2 (oc h3 (oc h4 (oc h4 on))))))) fun h4 h =>
 cE h (fun h5 h => dE h xGg (p117_e_5 a0) (oc h0 (oc h1 (oc h2 (oc h3 (oc h4 (oc h5 on))))))) fun h5 h =>
 cE h (fun h6 h => dE h xGg (p117_e_6 a0) (oc h0 (oc h1 (oc h2 (oc h3 (oc h4 (oc h5 (oc h6 (oc h6 on))))))))) fun h6 h =>
 cE h (fun h7 h => dE h xGg (p117_e_7 a0) (oc h0 (oc h1 (oc h2 (oc h3 (oc h4 (oc h5 (oc h6 (oc h7 (oc h7 on)))))))))) fun h7 h =>
 cE h (fun h8 h => dE h xGg (p117_e_8 a0) (oc h0 (oc h1 (oc h2 (oc h3 (oc h4 (oc h5 (oc h6 (oc h7 (oc h8 (oc h8 on))))))))))) fun h8 h =>
 cE h (fun h9 h => dE h xGg (p117_e_9 a0) (oc h0 (oc h1 (oc h2 (oc h3 (oc h4 (oc h5 (oc h6 (oc h7 (oc h8 (oc h9 (oc h9 on)))))))))))) fun h9 h =>
 cE h (fun h10 h => dE h xGg (p117_e_10 a0) (oc h0 (oc h1 (oc h2 (oc h3 (oc h4 (oc h5 (oc h6 (oc h7 (oc h8 (oc h9 (oc h10 (oc h10 on))))))))))))) fun h10 h =>
 cE h (fun h11 h => dE h xGg (p117_e_11 a0) (oc h0 (oc h1 (oc h2 (oc h3 (oc h4 (oc h5 (oc h6 (oc h7 (oc h8 (oc h9 (oc h10 (oc h11 (oc h11 on)))))))))))))) fun h11 h =>
 cE h (fun h12 h => dE h xGg (p117_e_12 a0) (oc h0 (oc h1 (oc h2 (oc h3 (oc h4 (oc h5 (oc h6 (oc h7 (oc h8 (oc h9 (oc h10 (oc h11 (oc h12 on)))))))))))))) fun h12 h =>
 cE h (fun h13 h => dE h xGg (p117_e_13 a0) (oc h0 (oc h1 (oc h2 (oc h3 (oc h4 (oc h5 (oc h6 (oc h7 (oc h8 (oc h9 (oc h10 (oc h11 (oc h12 (oc h13 (oc h13 on)))))))))))))))) fun h13 h =>
 cE h (fun h14 h => dE h xGg (p117_e_14 a0) (oc h0 (oc h1 (oc h2 (oc h3 (oc h4 (oc h5 (oc h6 (oc h7 (oc h8 (oc h9 (oc h10 (oc h11 (oc h12 (oc h13 (oc h14 (oc h14 on))))))))))))))))) fun h14 h =>
 cE h (fun h15 h => dE h xGg (p117_e_15 a0) (oc h0 (oc h1 (oc h2 (oc h3 (oc h4 (oc h5 (oc h6 (oc h7 (oc h8 (oc h9 (oc h10 (oc h11 (oc h12 (oc h13 (oc h14 (oc h15 on))))))))))))))))) fun h15 h =>
 cE h (fun h16 h => dE h xGg (p117_e_16 a0) (oc h0 (oc h1 (oc h2 (oc h3 (oc h4 (oc h5 (oc h6 (oc h7 (oc h8 (oc h9 (oc h10 (oc h11 (oc h12 (oc h13 (oc h14 (oc h15 (oc h16 on)))))))))))))))))) fun h16 h =>
 dE h xGg (p117_e_17 a0) (oc h0 (oc h1 (oc h2 (oc h3 (oc h4 (oc h5 (oc h6 (oc h7 (oc h8 (oc h9 (oc h10 (oc h11 (oc h12 (oc h13 (oc h14 (oc h15 (oc h16 on)))))))))))))))))
theorem xC0 {N : Nat} {a0 : Str} {r : Int} (h : xCN N  a0 = some r) : AbC 117 (xAp a0) (xAh r) :=
 AbsCalls.of_reach xGg rfl rfl (Nat.le_of_ble_eq_true rfl) (c117_e a0 r h)
noncomputable def I115 : Info := { body := (Tryz.f115.body).getD .skip, nt := 15, results := [.tmp 2], keep := [0, 4, 6, 8], live := [], modes := [] }
theorem fk115 : FnOk Tryz.prog 115 Tryz.f115 I115 := ⟨Tryz.func115, by kernel_rfl, by kernel_rfl, by kernel_rfl, by kernel_rfl⟩
theorem p115_e_0 (a0 : Str) : rE I115 (xBN a0) [Y, Y] [] = dn (xBz true) [((a0 : Str) == [108, 101, 116]) = true, ((a0 : Str) == [108, 101, 116]) = true] := by kernel_rfl
theorem p115_e_1 (a0 : Str) : rE I115 (xBN a0) [F, Y, Y] [] = dn (xBz true) [((a0 : Str) == [108, 101, 116]) = false, ((a0 : Str) == [105, 110]) = true, ((a0 : Str) == [105, 110]) = true] := by kernel_rfl
theorem p115_e_2 (a0 : Str) : rE I115 (xBN a0) [F, F, Y, Y] [] = dn (xBz true) [((a0 : Str) == [108, 101, 116]) = false, ((a0 : Str) == [105, 110]) = false, ((a0 : Str) == [105, 102]) = true, ((a0 : Str) == [105, 102]) = true] := by kernel_rfl
theorem p115_e_3 (a0 : Str) : rE I115 (xBN a0) [F, F, F, Y, Y] [] = dn (xBz true) [((a0 : Str) == [108, 101, 116]) = false, ((a0 : Str) == [105, 110]) = false, ((a0 : Str) == [105, 102]) = false, ((a0 : Str) == [116, 104, 101, 110]) = true, ((a0 : Str) == [116, 104, 101, 110]) = true] := by kernel_rfl
theorem p115_e_4 (a0 : Str) : rE I115 (xBN a0) [F, F, F, F, Y, Y] [] = dn (xBz true) [((a0 : Str) == [108, 101, 116]) = false, ((a0 : Str) == [105, 110]) = false, ((a0 : Str) == [105, 102]) = false, ((a0 : Str) == [116, 104, 101, 110]) = false, ((a0 : Str) == [101, 108, 115, 101]) = true, ((a0 : Str) == [101, 108, 115, 101]) = true] := by kernel_rfl
theorem p115_e_5 (a0 : Str) : rE I115 (xBN a0) [F, F, F, F, F, Y, Y] [] = dn (xBz true) [((a0 : Str) == [108, 101, 116]) = false, ((a0 : Str) == [105, 110]) = false, ((a0 : Str) == [105, 102]) = false, ((a0 : Str) == [116, 104, 101, 110]) = false, ((a0 : Str) == [101, 108, 115, 101]) = false, ((a0 : Str) == [102, 111, 114]) = true, ((a0 : Str) == [102, 111, 114]) = true] := by kernel_rfl
theorem p115_e_6 (a0 : Str) : rE I115 (xBN a0) [F, F, F, F, F, F, Y] [] = dn (xBz true) [((a0 : Str) == [108, 101, 116]) = false, ((a0 : Str) == [105, 110]) = false, ((a0 : Str) == [105, 102]) = false, ((a0 : Str) == [116, 104, 101, 110]) = false, ((a0 : Str) == [101, 108, 115, 101]) = false, ((a0 : Str) == [102, 111, 114]) = false, ((a0 : Str) == [100, 111]) = true] := by kernel_rfl
theorem p115_e_7 (a0 : Str) (r1 : Int) : rE I115 (xBN a0) [F, F, F, F, F, F, F] [xAh r1] = dn (xBz (decide ((r1 : Int) ≥ 0))) [((a0 : Str) == [108, 101, 116]) = false, ((a0 : Str) == [105, 110]) = false, ((a0 : Str) == [105, 102]) = false, ((a0 : Str) == [116, 104, 101, 110]) = false, ((a0 : Str) == [101, 108, 115, 101]) = false, ((a0 : Str) == [102, 111, 114]) = false, ((a0 : Str) == [100, 111]) = false, AbC 117 (xAp a0) (xAh r1)] := by kernel_rfl
theorem c115_e {N : Nat} : ∀ a0 r, xEu N a0 = some r → RE Tryz.f115 I115 (xBN a0) (xBz r) := fun a0 r h =>
 cE h (fun h0 h => dE h fk115 (p115_e_0 a0) (oc h0 (oc h0 on))) fun h0 h =>
 cE h (fun h1 h => dE h fk115 (p115_e_1 a0) (oc h0 (oc h1 (oc h1 on)))) fun h1 h =>
 cE h (fun h2 h => dE h fk115 (p115_e_2 a0) (oc h0 (oc h1 (oc h2 (oc h2 on))))) fun h2 h =>
 cE h (fun h3 h => dE h fk115 (p115_e_3 a0) (oc h0 (oc h1 (oc h2 (oc h3 (oc h3 on)))))) fun h3 h =>
 cE h (fun h4 h => dE h fk115 (p115_e_4 a0) (oc h0 (oc h1 (oc h2 (oc h3 (oc h4 (oc h4 on))))))) fun h4 h =>
 cE h (fun h5 h => dE h fk115 (p115_e_5 a0) (oc h0 (oc h1 (oc h2 (oc h3 (oc h4 (oc h5 (oc h5 on)))))))) fun h5 h =>
 cE h (fun h6 h => dE h fk115 (p115_e_6 a0) (oc h0 (oc h1 (oc h2 (oc h3 (oc h4 (oc h5 (oc h6 on)))))))) fun h6 h =>
 bE h fun r1 h7 h => dE h fk115 (p115_e_7 a0 r1) (oc h0 (oc h1 (oc h2 (oc h3 (oc h4 (oc h5 (oc h6 (oc (xC0 h7) on))))))))
theorem impl_IsReserved_ok {N : Nat} {a0 : Str} {r : Bool} (h : xEu N  a0 = some r) : AbC 115 (xBN a0) (xBz r) :=
 AbsCalls.of_reach fk115 rfl rfl (Nat.le_of_ble_eq_true rfl) (c115_e a0 r h)
noncomputable def I93 : Info := { body := (Tryz.f93.body).getD .skip, nt := 10, results := [.tmp 2], keep := [0, 4], live := [], modes := [(1, [(2, .take, false)])] }
theorem fk93 : FnOk Tryz.prog 93 Tryz.f93 I93 := ⟨Tryz.func93, by kernel_rfl, by kernel_rfl, by kernel_rfl, by kernel_rfl⟩
theorem p93_e_0 (a0 : Str) (r1 r2 : Bool) : rE I93 (xAW a0) [Y] [xB6 r1, xBz r2] = dn (xAn (!r2)) [AbC 114 (xEL a0) (xB6 r1), r1 = true, AbC 115 (xBN a0) (xBz r2)] := by kernel_rfl
theorem p93_e_1 (a0 : Str) (r1 : Bool) : rE I93 (xAW a0) [F] [xB6 r1] = dn (xAn false) [AbC 114 (xEL a0) (xB6 r1), r1 = false] := by kernel_rfl
theorem c93_e {N : Nat} : ∀ a0 r, xCU N a0 = some r → RE Tryz.f93 I93 (xAW a0) (xAn r) := fun a0 r h =>
 bE h fun r1 h0 h => cE h (fun h1 h => bE h fun r2 h2 h => dE h fk93 (p93_e_0 a0 r1 r2) (oc (xGP h0) (oc h1 (oc (impl_IsReserved_ok h2) on)))) fun h1 h =>
 dE h fk93 (p93_e_1 a0 r1) (oc (xGP h0) (oc h1 on))
theorem xBk {N : Nat} {a0 : Str} {r : Bool} (h : xCU N  a0 = some r) : AbC 93 (xAW a0) (xAn r) :=
 AbsCalls.of_reach fk93 rfl rfl (Nat.le_of_ble_eq_true rfl) (c93_e a0 r h)
noncomputable def I94 : Info := { body := (Tryz.f94.body).getD .skip, nt := 16, results := [.cell 2 25], keep := [0, 4, 14, 1, 5], live := [], modes := [], ext := [0] }
theorem fk94 : FnOk Tryz.prog 94 Tryz.f94 I94 := ⟨Tryz.func94, by kernel_rfl, by kernel_rfl, by kernel_rfl, by kernel_rfl⟩
theorem p94_e_0 (a0 : Psr) : rE I94 (xCc a0) [Y] [] = dn (xA9 ((Exp.mk 0 0 [] []), (Psr.mk (Psr.list a0) (Psr.pos a0) (Psr.pos a0)))) [(decide (((Psr.bad a0) : Int) < 0)) = true] := by kernel_rfl
theorem p94_e_1 (a0 : Psr) : rE I94 (xCc a0) [F] [] = dn (xA9 ((Exp.mk 0 0 [] []), a0)) [(decide (((Psr.bad a0) : Int) < 0)) = false] := by kernel_rfl
theorem c94_e {N : Nat} : ∀ a0 r, xBZ N a0 = some r → RE Tryz.f94 I94 (xCc a0) (xA9 r) := fun a0 r h =>
 cE h (fun h0 h => dE h fk94 (p94_e_0 a0) (oc h0 on)) fun h0 h =>
 dE h fk94 (p94_e_1 a0) (oc h0 on)
theorem xDR {N : Nat} {a0 : Psr} {r : Exp × Psr} (h : xBZ N  a0 = some r) : AbC 94 (xCc a0) (xA9 r) :=
 AbsCalls.of_reach fk94 rfl rfl (Nat.le_of_ble_eq_true rfl) (c94_e a0 r h)
noncomputable def I52 : Info := { body := (Tryz.f52.body).getD .skip, nt := 26, results := [.tmp 2], keep := [0, 4, 6, 28, 1, 7], live := [], modes := [(2, [(3, .take, false)])], ext := [0] }
theorem fk52 : FnOk Tryz.prog 52 Tryz.f52 I52 := ⟨Tryz.func52, by kernel_rfl, by kernel_rfl, by kernel_rfl, by kernel_rfl⟩
theorem p52_e_0 (a0 : Psr) (r1 : Tok × Psr) (r2 : Exp × Psr) : rE I52 (xCZ a0) [Y, Y] [xAc r1, xA9 r2] = dn (xCd ([], r2.2)) [AbC 51 (xAj a0) (xAc r1), (((Tok.kind r1.1) : Int) != 1) = true, true = true, AbC 94 (xCc r1.2) (xA9 r2)] := by kernel_rfl
theorem p52_e_1 (a0 : Psr) (r1 : Tok × Psr) (r2 : Bool) (r3 : Exp × Psr) : rE I52 (xCZ a0) [F, Y] [xAc r1, xAn r2, xA9 r3] = dn (xCd ([], r3.2)) [AbC 51 (xAj a0) (xAc r1), (((Tok.kind r1.1) : Int) != 1) = false, AbC 93 (xAW (Tok.text r1.1)) (xAn r2), (!r2) = true, AbC 94 (xCc r1.2) (xA9 r3)] := by kernel_rfl
theorem p52_e_2 (a0 : Psr) (r1 : Tok × Psr) (r2 : Bool) : rE I52 (xCZ a0) [F, F] [xAc r1, xAn r2] = dn (xCd ((Tok.text r1.1), (Psr.mk (Psr.list r1.2) (W ((Psr.pos r1.2) + 1)) (Psr.bad r1.2)))) [AbC 51 (xAj a0) (xAc r1), (((Tok.kind r1.1) : Int) != 1) = false, AbC 93 (xAW (Tok.text r1.1)) (xAn r2), (!r2) = false] := by kernel_rfl
theorem c52_e {N : Nat} : ∀ a0 r, xB0 N a0 = some r → RE Tryz.f52 I52 (xCZ a0) (xCd r) := fun a0 r h =>
 bE h fun r1 h0 h => cE h (fun h1 h => bE h fun r2 h3 h => dE h fk52 (p52_e_0 a0 r1 r2) (oc (xAq h0) (oc h1 (oc rfl (oc (xDR h3) on))))) fun h1 h =>
 bE h fun r2 h2 h => cE h (fun h3 h => bE h fun r3 h4 h => dE h fk52 (p52_e_1 a0 r1 r2 r3) (oc (xAq h0) (oc h1 (oc (xBk h2) (oc h3 (oc (xDR h4) on)))))) fun h3 h =>
 dE h fk52 (p52_e_2 a0 r1 r2) (oc (xAq h0) (oc h1 (oc (xBk h2) (oc h3 on))))
theorem xFG {N : Nat} {a0 : Psr} {r : Str × Psr} (h : xB0 N  a0 = some r) : AbC 52 (xCZ a0) (xCd r) :=
 AbsCalls.of_reach fk52 rfl rfl (Nat.le_of_ble_eq_true rfl) (c52_e a0 r h)
noncomputable def I95 : Info := { body := (Tryz.f95.body).getD .skip, nt := 14, results := [.tmp 4], keep := [0, 2, 4, 8, 5], live := [], modes := [(1, [(3, .take, false)])] }
theorem fk95 : FnOk Tryz.prog 95 Tryz.f95 I95 := ⟨Tryz.func95, by kernel_rfl, by kernel_rfl, by kernel_rfl, by kernel_rfl⟩
theorem p95_e_0 (a0 : Tok) (a1 : Str) : rE I95 (xDb a0 a1) [Y] [] = dn (xBY (((Tok.text a0) : Str) == a1)) [(((Tok.kind a0) : Int) == 4) = true] := by kernel_rfl
theorem p95_e_1 (a0 : Tok) (a1 : Str) : rE I95 (xDb a0 a1) [F] [] = dn (xBY false) [(((Tok.kind a0) : Int) == 4) = false] := by kernel_rfl
theorem c95_e {N : Nat} : ∀ a0 a1 r, xEC N a0 a1 = some r → RE Tryz.f95 I95 (xDb a0 a1) (xBY r) := fun a0 a1 r h =>
 cE h (fun h0 h => dE h fk95 (p95_e_0 a0 a1) (oc h0 on)) fun h0 h =>
 dE h fk95 (p95_e_1 a0 a1) (oc h0 on)
theorem xEO {N : Nat} {a0 : Tok} {a1 : Str} {r : Bool} (h : xEC N  a0 a1 = some r) : AbC 95 (xDb a0 a1) (xBY r) :=
 AbsCalls.of_reach fk95 rfl rfl (Nat.le_of_ble_eq_true rfl) (c95_e a0 a1 r h)
noncomputable def I53 : Info := { body := (Tryz.f53.body).getD .skip, nt := 23, results := [], keep := [0, 2, 26, 1], live := [], modes := [(0, [(4, .take, false)])], ext := [0] }
theorem fk53 : FnOk Tryz.prog 53 Tryz.f53 I53 := ⟨Tryz.func53, by kernel_rfl, by kernel_rfl, by kernel_rfl, by kernel_rfl⟩
theorem p53_e_0 (a0 : Psr) (a1 : Str) (r1 : Tok × Psr) (r2 : Bool) : rE I53 (xA6 a0 a1) [Y, Y] [xAc r1, xAC r2] = dn (xAA (Psr.mk (Psr.list r1.2) (W ((Psr.pos r1.2) + 1)) (Psr.bad r1.2))) [AbC 51 (xAj a0) (xAc r1), AbC 50 (xBc r1.1 a1) (xAC r2), r2 = true, true = true] := by kernel_rfl
theorem p53_e_1 (a0 : Psr) (a1 : Str) (r1 : Tok × Psr) (r2 : Bool) (r3 : Tok × Psr) (r4 : Bool) : rE I53 (xA6 a0 a1) [F, Y] [xAc r1, xAC r2, xAc r3, xBY r4] = dn (xAA (Psr.mk (Psr.list r3.2) (W ((Psr.pos r3.2) + 1)) (Psr.bad r3.2))) [AbC 51 (xAj a0) (xAc r1), AbC 50 (xBc r1.1 a1) (xAC r2), r2 = false, AbC 51 (xAj r1.2) (xAc r3), AbC 95 (xDb r3.1 a1) (xBY r4), r4 = true] := by kernel_rfl
theorem p53_e_2 (a0 : Psr) (a1 : Str) (r1 : Tok × Psr) (r2 : Bool) (r3 : Tok × Psr) (r4 : Bool) (r5 : Exp × Psr) : rE I53 (xA6 a0 a1) [F, F] [xAc r1, xAC r2, xAc r3, xBY r4, xA9 r5] = dn (xAA r5.2) [AbC 51 (xAj a0) (xAc r1), AbC 50 (xBc r1.1 a1) (xAC r2), r2 = false, AbC 51 (xAj r1.2) (xAc r3), AbC 95 (xDb r3.1 a1) (xBY r4), r4 = false, AbC 94 (xCc r3.2) (xA9 r5)] := by kernel_rfl
theorem c53_e {N : Nat} : ∀ a0 a1 r, xAL N a0 a1 = some r → RE Tryz.f53 I53 (xA6 a0 a1) (xAA r) := fun a0 a1 r h =>
 bE h fun r1 h0 h => bE h fun r2 h1 h => cE h (fun h2 h => dE h fk53 (p53_e_0 a0 a1 r1 r2) (oc (xAq h0) (oc (xBH h1) (oc h2 (oc rfl on))))) fun h2 h =>
 bE h fun r3 h3 h => bE h fun r4 h4 h => cE h (fun h5 h => dE h fk53 (p53_e_1 a0 a1 r1 r2 r3 r4) (oc (xAq h0) (oc (xBH h1) (oc h2 (oc (xAq h3) (oc (xEO h4) (oc h5 on))))))) fun h5 h =>
 bE h fun r5 h6 h => dE h fk53 (p53_e_2 a0 a1 r1 r2 r3 r4 r5) (oc (xAq h0) (oc (xBH h1) (oc h2 (oc (xAq h3) (oc (xEO h4) (oc h5 (oc (xDR h6) on)))))))
theorem xBR {N : Nat} {a0 : Psr} {a1 : Str} {r : Psr} (h : xAL N  a0 a1 = some r) : AbC 53 (xA6 a0 a1) (xAA r) :=
 AbsCalls.of_reach fk53 rfl rfl (Nat.le_of_ble_eq_true rfl) (c53_e a0 a1 r h)
noncomputable def I55 : Info := { body := (Tryz.f55.body).getD .skip, nt := 16, results := [.tmp 4], keep := [0, 2, 8, 16, 1], live := [], modes := [], ext := [0] }
theorem fk55 : FnOk Tryz.prog 55 Tryz.f55 I55 := ⟨Tryz.func55, by kernel_rfl, by kernel_rfl, by kernel_rfl, by kernel_rfl⟩
theorem p55_e_0 (a0 : Psr) (a1 : Str) (r1 : Tok × Psr) (r2 : Bool) : rE I55 (xAm a0 a1) [Y] [xAc r1, xBY r2] = dn (xAd (true, (Psr.mk (Psr.list r1.2) (W ((Psr.pos r1.2) + 1)) (Psr.bad r1.2)))) [AbC 51 (xAj a0) (xAc r1), AbC 95 (xDb r1.1 a1) (xBY r2), r2 = true] := by kernel_rfl
theorem p55_e_1 (a0 : Psr) (a1 : Str) (r1 : Tok × Psr) (r2 : Bool) : rE I55 (xAm a0 a1) [F] [xAc r1, xBY r2] = dn (xAd (false, r1.2)) [AbC 51 (xAj a0) (xAc r1), AbC 95 (xDb r1.1 a1) (xBY r2), r2 = false] := by kernel_rfl
theorem c55_e {N : Nat} : ∀ a0 a1 r, xAQ N a0 a1 = some r → RE Tryz.f55 I55 (xAm a0 a1) (xAd r) := fun a0 a1 r h =>
 bE h fun r1 h0 h => bE h fun r2 h1 h => cE h (fun h2 h => dE h fk55 (p55_e_0 a0 a1 r1 r2) (oc (xAq h0) (oc (xEO h1) (oc h2 on)))) fun h2 h =>
 dE h fk55 (p55_e_1 a0 a1 r1 r2) (oc (xAq h0) (oc (xEO h1) (oc h2 on)))
theorem xAw {N : Nat} {a0 : Psr} {a1 : Str} {r : Bool × Psr} (h : xAQ N  a0 a1 = some r) : AbC 55 (xAm a0 a1) (xAd r) :=
 AbsCalls.of_reach fk55 rfl rfl (Nat.le_of_ble_eq_true rfl) (c55_e a0 a1 r h)
noncomputable def I56 : Info := { body := (Tryz.f56.body).getD .skip, nt := 11, results := [.tmp 2], keep := [0, 4, 10], live := [], modes := [] }
theorem fk56 : FnOk Tryz.prog 56 Tryz.f56 I56 := ⟨Tryz.func56, by kernel_rfl, by kernel_rfl, by kernel_rfl, by kernel_rfl⟩
theorem p56_e_0 (a0 : Int) (r1 : Bool) : rE I56 (xDV a0) [Y] [xA8 r1] = dn (xDc [63]) [AbC 97 (xCf a0 1 5) (xA8 r1), (!r1) = true] := by kernel_rfl
theorem p56_e_1 (a0 : Int) (r1 : Bool) : rE I56 (xDV a0) [F] [xA8 r1] = dn (xDc (gD [[43], [45], [42], [60], [61, 61]] (tN (W (a0 - 1))) Ty.str.dflt)) [AbC 97 (xCf a0 1 5) (xA8 r1), (!r1) = false, (0 : Int) ≤ (W (a0 - 1)) ∧ (W (a0 - 1)) < (Ln [[43], [45], [42], [60], [61, 61]])] := by kernel_rfl
theorem c56_e {N : Nat} : ∀ a0 r, xE5 N a0 = some r → RE Tryz.f56 I56 (xDV a0) (xDc r) := fun a0 r h =>
 bE h fun r1 h0 h => cE h (fun h1 h => dE h fk56 (p56_e_0 a0 r1) (oc (xDq h0) (oc h1 on))) fun h1 h =>
 iE h fun h2 h => dE h fk56 (p56_e_1 a0 r1) (oc (xDq h0) (oc h1 (oc h2 on)))
theorem xGr {N : Nat} {a0 : Int} {r : Str} (h : xE5 N  a0 = some r) : AbC 56 (xDV a0) (xDc r) :=
 AbsCalls.of_reach fk56 rfl rfl (Nat.le_of_ble_eq_true rfl) (c56_e a0 r h)
def G116 (q : Psr → Option (Exp × Psr)) : Prop := ∀ a0 r, q a0 = some r → AbC 116 (xA5 a0) (xAX r)
def G31 (q : Psr → Option (Exp × Psr)) : Prop := ∀ a0 r, q a0 = some r → AbC 31 (xAl a0) (xAe r)
def G131 (q : Psr → Str → Option ((List Exp) × Psr)) : Prop := ∀ a0 a1 r, q a0 a1 = some r → AbC 131 (xCj a0 a1) (xBd r)
def G96 (q : Psr → Option (Exp × Psr)) : Prop := ∀ a0 r, q a0 = some r → AbC 96 (xCn a0) (xBi r)
def G54 (q : Psr → Option (Exp × Psr)) : Prop := ∀ a0 r, q a0 = some r → AbC 54 (xDB a0) (xB8 r)
noncomputable def I116 : Info := { body := (Tryz.f116.body).getD .skip, nt := 94, results := [.cell 2 25], keep := [0, 4, 6, 8, 14, 42, 70, 108, 156, 168, 1, 5, 7, 9], live := [], modes := [(8, [(3, .take, false)]), (11, [(3, .take, false)]), (20, [(0, .take, false)])], ext := [0] }
theorem fk116 : FnOk Tryz.prog 116 Tryz.f116 I116 := ⟨Tryz.func116, by kernel_rfl, by kernel_rfl, by kernel_rfl, by kernel_rfl⟩
theorem p116_e_0 (a0 : Psr) (r1 : Tok × Psr) : rE I116 (xA5 a0) [Y] [xAc r1] = dn (xAX ((Exp.mk 1 (Tok.n r1.1) [] []), (Psr.mk (Psr.list r1.2) (W ((Psr.pos r1.2) + 1)) (Psr.bad r1.2)))) [AbC 51 (xAj a0) (xAc r1), (((Tok.kind r1.1) : Int) == 2) = true] := by kernel_rfl
theorem p116_e_1 (a0 : Psr) (r1 : Tok × Psr) : rE I116 (xA5 a0) [F, Y] [xAc r1] = dn (xAX ((Exp.mk 2 0 (Tok.text r1.1) []), (Psr.mk (Psr.list r1.2) (W ((Psr.pos r1.2) + 1)) (Psr.bad r1.2)))) [AbC 51 (xAj a0) (xAc r1), (((Tok.kind r1.1) : Int) == 2) = false, (((Tok.kind r1.1) : Int) == 3) = true] := by kernel_rfl
theorem p116_e_2 (a0 : Psr) (r1 : Tok × Psr) (r2 : Bool) : rE I116 (xA5 a0) [F, F, Y, Y] [xAc r1, xAn r2] = dn (xAX ((Exp.mk 3 0 (Tok.text r1.1) []), (Psr.mk (Psr.list r1.2) (W ((Psr.pos r1.2) + 1)) (Psr.bad r1.2)))) [AbC 51 (xAj a0) (xAc r1), (((Tok.kind r1.1) : Int) == 2) = false, (((Tok.kind r1.1) : Int) == 3) = false, (((Tok.kind r1.1) : Int) == 1) = true, AbC 93 (xAW (Tok.text r1.1)) (xAn r2), r2 = true] := by kernel_rfl
theorem p116_e_3 (a0 : Psr) (r1 : Tok × Psr) (r2 : Bool) (r3 : Int) (r4 : Psr) (r5 : (List Exp) × Psr) : rE I116 (xA5 a0) [F, F, Y, F, Y, Y] [xAc r1, xAn r2, xAh r3, xAA r4, xBd r5] = dn (xAX ((Exp.mk 5 0 (Tok.text r1.1) r5.1), r5.2)) [AbC 51 (xAj a0) (xAc r1), (((Tok.kind r1.1) : Int) == 2) = false, (((Tok.kind r1.1) : Int) == 3) = false, (((Tok.kind r1.1) : Int) == 1) = true, AbC 93 (xAW (Tok.text r1.1)) (xAn r2), r2 = false, (((Tok.kind r1.1) : Int) == 1) = true, AbC 117 (xAp (Tok.text r1.1)) (xAh r3), (decide ((r3 : Int) ≥ 0)) = true, AbC 53 (xA6 (Psr.mk (Psr.list r1.2) (W ((Psr.pos r1.2) + 1)) (Psr.bad r1.2)) [40]) (xAA r4), AbC 131 (xCj r4 [41]) (xBd r5)] := by kernel_rfl
theorem p116_e_4 (a0 : Psr) (r1 : Tok × Psr) (r2 : Bool) (r3 : Int) (r4 : Bool × Psr) (r5 : (List Exp) × Psr) : rE I116 (xA5 a0) [F, F, Y, F, Y, F, Y] [xAc r1, xAn r2, xAh r3, xAd r4, xBd r5] = dn (xAX ((Exp.mk 4 0 [] r5.1), r5.2)) [AbC 51 (xAj a0) (xAc r1), (((Tok.kind r1.1) : Int) == 2) = false, (((Tok.kind r1.1) : Int) == 3) = false, (((Tok.kind r1.1) : Int) == 1) = true, AbC 93 (xAW (Tok.text r1.1)) (xAn r2), r2 = false, (((Tok.kind r1.1) : Int) == 1) = true, AbC 117 (xAp (Tok.text r1.1)) (xAh r3), (decide ((r3 : Int) ≥ 0)) = false, AbC 55 (xAm r1.2 [91]) (xAd r4), r4.1 = true, AbC 131 (xCj r4.2 [93]) (xBd r5)] := by kernel_rfl
theorem p116_e_5 (a0 : Psr) (r1 : Tok × Psr) (r2 : Bool) (r3 : Int) (r4 : Bool × Psr) (r5 : Bool × Psr) (r6 : Exp × Psr) (r7 : Psr) : rE I116 (xA5 a0) [F, F, Y, F, Y, F, F, Y] [xAc r1, xAn r2, xAh r3, xAd r4, xAd r5, xAe r6, xAA r7] = dn (xAX (r6.1, r7)) [AbC 51 (xAj a0) (xAc r1), (((Tok.kind r1.1) : Int) == 2) = false, (((Tok.kind r1.1) : Int) == 3) = false, (((Tok.kind r1.1) : Int) == 1) = true, AbC 93 (xAW (Tok.text r1.1)) (xAn r2), r2 = false, (((Tok.kind r1.1) : Int) == 1) = true, AbC 117 (xAp (Tok.text r1.1)) (xAh r3), (decide ((r3 : Int) ≥ 0)) = false, AbC 55 (xAm r1.2 [91]) (xAd r4), r4.1 = false, AbC 55 (xAm r4.2 [40]) (xAd r5), r5.1 = true, AbC 31 (xAl r5.2) (xAe r6), AbC 53 (xA6 r6.2 [41]) (xAA r7)] := by kernel_rfl
theorem p116_e_6 (a0 : Psr) (r1 : Tok × Psr) (r2 : Bool) (r3 : Int) (r4 : Bool × Psr) (r5 : Bool × Psr) (r6 : Exp × Psr) : rE I116 (xA5 a0) [F, F, Y, F, Y, F, F, F] [xAc r1, xAn r2, xAh r3, xAd r4, xAd r5, xA9 r6] = dn (xAX (r6.1, r6.2)) [AbC 51 (xAj a0) (xAc r1), (((Tok.kind r1.1) : Int) == 2) = false, (((Tok.kind r1.1) : Int) == 3) = false, (((Tok.kind r1.1) : Int) == 1) = true, AbC 93 (xAW (Tok.text r1.1)) (xAn r2), r2 = false, (((Tok.kind r1.1) : Int) == 1) = true, AbC 117 (xAp (Tok.text r1.1)) (xAh r3), (decide ((r3 : Int) ≥ 0)) = false, AbC 55 (xAm r1.2 [91]) (xAd r4), r4.1 = false, AbC 55 (xAm r4.2 [40]) (xAd r5), r5.1 = false, AbC 94 (xCc r5.2) (xA9 r6)] := by kernel_rfl
theorem p116_e_7 (a0 : Psr) (r1 : Tok × Psr) (r2 : Bool × Psr) (r3 : (List Exp) × Psr) : rE I116 (xA5 a0) [F, F, F, F, F, F, Y] [xAc r1, xAd r2, xBd r3] = dn (xAX ((Exp.mk 4 0 [] r3.1), r3.2)) [AbC 51 (xAj a0) (xAc r1), (((Tok.kind r1.1) : Int) == 2) = false, (((Tok.kind r1.1) : Int) == 3) = false, (((Tok.kind r1.1) : Int) == 1) = false, false = false, (((Tok.kind r1.1) : Int) == 1) = false, false = false, AbC 55 (xAm r1.2 [91]) (xAd r2), r2.1 = true, AbC 131 (xCj r2.2 [93]) (xBd r3)] := by kernel_rfl
theorem p116_e_8 (a0 : Psr) (r1 : Tok × Psr) (r2 : Bool × Psr) (r3 : Bool × Psr) (r4 : Exp × Psr) (r5 : Psr) : rE I116 (xA5 a0) [F, F, F, F, F, F, F, Y] [xAc r1, xAd r2, xAd r3, xAe r4, xAA r5] = dn (xAX (r4.1, r5)) [AbC 51 (xAj a0) (xAc r1), (((Tok.kind r1.1) : Int) == 2) = false, (((Tok.kind r1.1) : Int) == 3) = false, (((Tok.kind r1.1) : Int) == 1) = false, false = false, (((Tok.kind r1.1) : Int) == 1) = false, false = false, AbC 55 (xAm r1.2 [91]) (xAd r2), r2.1 = false, AbC 55 (xAm r2.2 [40]) (xAd r3), r3.1 = true, AbC 31 (xAl r3.2) (xAe r4), AbC 53 (xA6 r4.2 [41]) (xAA r5)] := by kernel_rfl
theorem p116_e_9 (a0 : Psr) (r1 : Tok × Psr) (r2 : Bool × Psr) (r3 : Bool × Psr) (r4 : Exp × Psr) : rE I116 (xA5 a0) [F, F, F, F, F, F, F, F] [xAc r1, xAd r2, xAd r3, xA9 r4] = dn (xAX (r4.1, r4.2)) [AbC 51 (xAj a0) (xAc r1), (((Tok.kind r1.1) : Int) == 2) = false, (((Tok.kind r1.1) : Int) == 3) = false, (((Tok.kind r1.1) : Int) == 1) = false, false = false, (((Tok.kind r1.1) : Int) == 1) = false, false = false, AbC 55 (xAm r1.2 [91]) (xAd r2), r2.1 = false, AbC 55 (xAm r2.2 [40]) (xAd r3), r3.1 = false, AbC 94 (xCc r3.2) (xA9 r4)] := by kernel_rfl
theorem c116_e {N : Nat} {q0 : Psr → Option (Exp × Psr)} (g0 : G116 q0) {q1 : Psr → Option (Exp × Psr)} (g1 : G31 q1) {q2 : Psr → Str → Option ((List Exp) × Psr)} (g2 : G131 q2) {q3 : Psr → Option (Exp × Psr)} (g3 : G96 q3) {q4 : Psr → Option (Exp × Psr)} (g4 : G54 q4) : ∀ a0 r, xCs N q0 q1 q2 q3 q4 a0 = some r → RE Tryz.f116 I116 (xA5 a0) (xAX r) := fun a0 r h =>
 bE h fun r1 h0 h => cE h (fun h1 h => dE h fk116 (p116_e_0 a0 r1) (oc (xAq h0) (oc h1 on))) fun h1 h =>
 cE h (fun h2 h => dE h fk116 (p116_e_1 a0 r1) (oc (xAq h0) (oc h1 (oc h2 on)))) fun h2 h =>
 cE h (fun h3 h => bE h fun r2 h4 h => cE h (fun h5 h => dE h fk116 (p116_e_2 a0 r1 r2) (oc (xAq h0) (oc h1 (oc h2 (oc h3 (oc (xBk h4) (oc h5 on))))))) fun h5 h =>
 bE h fun r3 h7 h => cE h (fun h8 h => bE h fun r4 h9 h => bE h fun r5 h10 h => dE h fk116 (p116_e_3 a0 r1 r2 r3 r4 r5) (oc (xAq h0) (oc h1 (oc h2 (oc h3 (oc (xBk h4) (oc h5 (oc h3 (oc (xC0 h7) (oc h8 (oc (xBR h9) (oc (g2 _ _ _ h10) on)))))))))))) fun h8 h =>
 bE h fun r4 h9 h => cE h (fun h10 h => bE h fun r5 h11 h => dE h fk116 (p116_e_4 a0 r1 r2 r3 r4 r5) (oc (xAq h0) (oc h1 (oc h2 (oc h3 (oc (xBk h4) (oc h5 (oc h3 (oc (xC0 h7) (oc h8 (oc (xAw h9) (oc h10 (oc (g2 _ _ _ h11) on))))))))))))) fun h10 h =>
 bE h fun r5 h11 h => cE h (fun h12 h => bE h fun r6 h13 h => bE h fun r7 h14 h => dE h fk116 (p116_e_5 a0 r1 r2 r3 r4 r5 r6 r7) (oc (xAq h0) (oc h1 (oc h2 (oc h3 (oc (xBk h4) (oc h5 (oc h3 (oc (xC0 h7) (oc h8 (oc (xAw h9) (oc h10 (oc (xAw h11) (oc h12 (oc (g1 _ _ h13) (oc (xBR h14) on)))))))))))))))) fun h12 h =>
 bE h fun r6 h13 h => dE h fk116 (p116_e_6 a0 r1 r2 r3 r4 r5 r6) (oc (xAq h0) (oc h1 (oc h2 (oc h3 (oc (xBk h4) (oc h5 (oc h3 (oc (xC0 h7) (oc h8 (oc (xAw h9) (oc h10 (oc (xAw h11) (oc h12 (oc (xDR h13) on))))))))))))))) fun h3 h =>
 bE h fun r2 h7 h => cE h (fun h8 h => bE h fun r3 h9 h => dE h fk116 (p116_e_7 a0 r1 r2 r3) (oc (xAq h0) (oc h1 (oc h2 (oc h3 (oc rfl (oc h3 (oc rfl (oc (xAw h7) (oc h8 (oc (g2 _ _ _ h9) on))))))))))) fun h8 h =>
 bE h fun r3 h9 h => cE h (fun h10 h => bE h fun r4 h11 h => bE h fun r5 h12 h => dE h fk116 (p116_e_8 a0 r1 r2 r3 r4 r5) (oc (xAq h0) (oc h1 (oc h2 (oc h3 (oc rfl (oc h3 (oc rfl (oc (xAw h7) (oc h8 (oc (xAw h9) (oc h10 (oc (g1 _ _ h11) (oc (xBR h12) on)))))))))))))) fun h10 h =>
 bE h fun r4 h11 h => dE h fk116 (p116_e_9 a0 r1 r2 r3 r4) (oc (xAq h0) (oc h1 (oc h2 (oc h3 (oc rfl (oc h3 (oc rfl (oc (xAw h7) (oc h8 (oc (xAw h9) (oc h10 (oc (xDR h11) on))))))))))))
theorem xF6 {N : Nat} {q0 : Psr → Option (Exp × Psr)} (g0 : G116 q0) {q1 : Psr → Option (Exp × Psr)} (g1 : G31 q1) {q2 : Psr → Str → Option ((List Exp) × Psr)} (g2 : G131 q2) {q3 : Psr → Option (Exp × Psr)} (g3 : G96 q3) {q4 : Psr → Option (Exp × Psr)} (g4 : G54 q4) {a0 : Psr} {r : Exp × Psr} (h : xCs N q0 q1 q2 q3 q4 a0 = some r) : AbC 116 (xA5 a0) (xAX r) :=
 AbsCalls.of_reach fk116 rfl rfl (Nat.le_of_ble_eq_true rfl) (c116_e g0 g1 g2 g3 g4 a0 r h)
noncomputable def I31 : Info := { body := (Tryz.f31.body).getD .skip, nt := 133, results := [.cell 2 25], keep := [0, 4, 6, 8, 10, 12, 16, 18, 84, 160, 230, 232, 234, 236, 248, 1, 5, 7, 9, 11, 13], live := [(28, [0, 4, 12, 230, 232, 234, 1, 5, 13])], modes := [(5, [(1, .take, false), (5, .take, false)]), (7, [(1, .take, false), (5, .take, false)]), (8, [(0, .take, false)]), (12, [(1, .take, false), (5, .take, false)]), (14, [(1, .take, false), (5, .take, false)]), (16, [(1, .take, false), (5, .take, false)]), (17, [(0, .take, false)]), (22, [(1, .take, false), (5, .take, false)]), (24, [(1, .take, false), (5, .take, false)]), (25, [(0, .take, false)]), (31, [(1, .take, false)]), (32, [(1, .take, false)]), (33, [(0, .take, false)])], ext := [0] }
theorem fk31 : FnOk Tryz.prog 31 Tryz.f31 I31 := ⟨Tryz.func31, by kernel_rfl, by kernel_rfl, by kernel_rfl, by kernel_rfl⟩
def S31_28 (x115 : List Int) (x116 x117 : Int) (b0 : Psr) (b2 b6 : Exp) : St := [(0, .v false [.ptr 0 0]), (4, .v false [.ptr 2 0]), (12, .v false [.ptr 6 0]), (230, .v false [.sl .own .int x115]), (232, .v false [.int .i64 x116]), (234, .v false [.int .i64 x117]), (1, .v true [.sl .ro .tok (Psr.list b0), .int .i64 (Psr.pos b0), .int .i64 (Psr.bad b0)]), (5, .v true [.int .i64 (Exp.kind b2), .int .i64 (Exp.n b2), .str (Exp.text b2), .sl .own .exp (Exp.args b2)]), (13, .v true [.int .i64 (Exp.kind b6), .int .i64 (Exp.n b6), .str (Exp.text b6), .sl .own .exp (Exp.args b6)])]
theorem p31_28_0 (x115 : List Int) (x116 x117 : Int) (b0 : Psr) (b2 b6 : Exp) (r1 : Str) (r2 : Bool × Psr) (r3 : Exp × Psr) : rS 28 I31 (S31_28 x115 x116 x117 b0 b2 b6) [Y, Y] [xDc r1, xAd r2, xB8 r3] = dn (xAe ((Exp.mk 6 (gD x115 (tN x117) Ty.int.dflt) [] [(Exp.re b6), (Exp.re r3.1)]), r3.2)) [(decide ((x117 : Int) < x116)) = true, (0 : Int) ≤ x117 ∧ x117 < (Ln x115), AbC 56 (xDV (gD x115 (tN x117) Ty.int.dflt)) (xDc r1), AbC 55 (xAm b0 r1) (xAd r2), r2.1 = true, AbC 54 (xDB r2.2) (xB8 r3)] := by kernel_rfl
theorem p31_28_1 (x115 : List Int) (x116 x117 : Int) (b0 : Psr) (b2 b6 : Exp) (r1 : Str) (r2 : Bool × Psr) : rS 28 I31 (S31_28 x115 x116 x117 b0 b2 b6) [Y, F] [xDc r1, xAd r2] = st 28 I31 (S31_28 x115 x116 (W (x117 + 1)) r2.2 b2 b6) [(decide ((x117 : Int) < x116)) = true, (0 : Int) ≤ x117 ∧ x117 < (Ln x115), AbC 56 (xDV (gD x115 (tN x117) Ty.int.dflt)) (xDc r1), AbC 55 (xAm b0 r1) (xAd r2), r2.1 = false] := by kernel_rfl
theorem p31_28_2 (x115 : List Int) (x116 x117 : Int) (b0 : Psr) (b2 b6 : Exp) : rS 28 I31 (S31_28 x115 x116 x117 b0 b2 b6) [F] [] = dn (xAe (b6, b0)) [(decide ((x117 : Int) < x116)) = false] := by kernel_rfl
theorem p31_e_3 (a0 : Psr) (r1 : Tok × Psr) (r2 : Bool) (r3 : Str × Psr) (r4 : Psr) (r5 : Exp × Psr) (r6 : Psr) (r7 : Exp × Psr) : rE I31 (xAl a0) [Y] [xAc r1, xAC r2, xCd r3, xAA r4, xAe r5, xAA r6, xAe r7] = dn (xAe ((Exp.mk 7 0 r3.1 (([] ++ [(Exp.re r5.1)]) ++ [(Exp.re r7.1)])), r7.2)) [AbC 51 (xAj a0) (xAc r1), AbC 50 (xBc r1.1 [108, 101, 116]) (xAC r2), r2 = true, AbC 52 (xCZ (Psr.mk (Psr.list r1.2) (W ((Psr.pos r1.2) + 1)) (Psr.bad r1.2))) (xCd r3), AbC 53 (xA6 r3.2 [61]) (xAA r4), AbC 31 (xAl r4) (xAe r5), 0 + Ln [(Exp.re r5.1)] ≤ Lim, AbC 53 (xA6 r5.2 [105, 110]) (xAA r6), AbC 31 (xAl r6) (xAe r7), Ln ([] ++ [(Exp.re r5.1)]) + Ln [(Exp.re r7.1)] ≤ Lim] := by kernel_rfl
theorem p31_e_4 (a0 : Psr) (r1 : Tok × Psr) (r2 : Bool) (r3 : Tok × Psr) (r4 : Bool) (r5 : Exp × Psr) (r6 : Psr) (r7 : Exp × Psr) (r8 : Psr) (r9 : Exp × Psr) : rE I31 (xAl a0) [F, Y] [xAc r1, xAC r2, xAc r3, xAC r4, xAe r5, xAA r6, xAe r7, xAA r8, xAe r9] = dn (xAe ((Exp.mk 8 0 [] ((([] ++ [(Exp.re r5.1)]) ++ [(Exp.re r7.1)]) ++ [(Exp.re r9.1)])), r9.2)) [AbC 51 (xAj a0) (xAc r1), AbC 50 (xBc r1.1 [108, 101, 116]) (xAC r2), r2 = false, AbC 51 (xAj r1.2) (xAc r3), AbC 50 (xBc r3.1 [105, 102]) (xAC r4), r4 = true, AbC 31 (xAl (Psr.mk (Psr.list r3.2) (W ((Psr.pos r3.2) + 1)) (Psr.bad r3.2))) (xAe r5), 0 + Ln [(Exp.re r5.1)] ≤ Lim, AbC 53 (xA6 r5.2 [116, 104, 101, 110]) (xAA r6), AbC 31 (xAl r6) (xAe r7), Ln ([] ++ [(Exp.re r5.1)]) + Ln [(Exp.re r7.1)] ≤ Lim, AbC 53 (xA6 r7.2 [101, 108, 115, 101]) (xAA r8), AbC 31 (xAl r8) (xAe r9), Ln (([] ++ [(Exp.re r5.1)]) ++ [(Exp.re r7.1)]) + Ln [(Exp.re r9.1)] ≤ Lim] := by kernel_rfl
theorem p31_e_5 (a0 : Psr) (r1 : Tok × Psr) (r2 : Bool) (r3 : Tok × Psr) (r4 : Bool) (r5 : Tok × Psr) (r6 : Bool) (r7 : Str × Psr) (r8 : Psr) (r9 : Exp × Psr) (r10 : Psr) (r11 : Exp × Psr) : rE I31 (xAl a0) [F, F, Y] [xAc r1, xAC r2, xAc r3, xAC r4, xAc r5, xAC r6, xCd r7, xAA r8, xAe r9, xAA r10, xAe r11] = dn (xAe ((Exp.mk 9 0 r7.1 (([] ++ [(Exp.re r9.1)]) ++ [(Exp.re r11.1)])), r11.2)) [AbC 51 (xAj a0) (xAc r1), AbC 50 (xBc r1.1 [108, 101, 116]) (xAC r2), r2 = false, AbC 51 (xAj r1.2) (xAc r3), AbC 50 (xBc r3.1 [105, 102]) (xAC r4), r4 = false, AbC 51 (xAj r3.2) (xAc r5), AbC 50 (xBc r5.1 [102, 111, 114]) (xAC r6), r6 = true, AbC 52 (xCZ (Psr.mk (Psr.list r5.2) (W ((Psr.pos r5.2) + 1)) (Psr.bad r5.2))) (xCd r7), AbC 53 (xA6 r7.2 [105, 110]) (xAA r8), AbC 31 (xAl r8) (xAe r9), 0 + Ln [(Exp.re r9.1)] ≤ Lim, AbC 53 (xA6 r9.2 [100, 111]) (xAA r10), AbC 31 (xAl r10) (xAe r11), Ln ([] ++ [(Exp.re r9.1)]) + Ln [(Exp.re r11.1)] ≤ Lim] := by kernel_rfl
theorem p31_e_6 (a0 : Psr) (r1 : Tok × Psr) (r2 : Bool) (r3 : Tok × Psr) (r4 : Bool) (r5 : Tok × Psr) (r6 : Bool) (r7 : Exp × Psr) : rE I31 (xAl a0) [F, F, F] [xAc r1, xAC r2, xAc r3, xAC r4, xAc r5, xAC r6, xB8 r7] = st 28 I31 (S31_28 [4, 5] (Ln [4, 5] : Int) 0 r7.2 (Exp.mk 0 0 [] []) r7.1) [AbC 51 (xAj a0) (xAc r1), AbC 50 (xBc r1.1 [108, 101, 116]) (xAC r2), r2 = false, AbC 51 (xAj r1.2) (xAc r3), AbC 50 (xBc r3.1 [105, 102]) (xAC r4), r4 = false, AbC 51 (xAj r3.2) (xAc r5), AbC 50 (xBc r5.1 [102, 111, 114]) (xAC r6), r6 = false, AbC 54 (xDB r5.2) (xB8 r7)] := by kernel_rfl
theorem c31_28 {N : Nat} {q0 : Psr → Option (Exp × Psr)} (g0 : G116 q0) {q1 : Psr → Option (Exp × Psr)} (g1 : G31 q1) {q2 : Psr → Str → Option ((List Exp) × Psr)} (g2 : G131 q2) {q3 : Psr → Option (Exp × Psr)} (g3 : G96 q3) {q4 : Psr → Option (Exp × Psr)} (g4 : G54 q4) : ∀ n x115 x116 x117 b0 b2 b6 r, xCI N q0 q1 q2 q3 q4 n x115 x116 x117 b0 b2 b6 = some r → RS Tryz.f31 I31 28 (S31_28 x115 x116 x117 b0 b2 b6) (xAe r) := by
 intro n
 induction n with
 | zero => exact fun _ _ _ _ _ _ _ h => nE h
 | succ n ih =>
  exact fun x115 x116 x117 b0 b2 b6 r h =>
   cE h (fun h0 h => iE h fun h1 h => bE h fun r1 h2 h => bE h fun r2 h3 h => cE h (fun h4 h => bE h fun r3 h5 h => dS h fk31 (p31_28_0 x115 x116 x117 b0 b2 b6 r1 r2 r3) (oc h0 (oc h1 (oc (xGr h2) (oc (xAw h3) (oc h4 (oc (g4 _ _ h5) on))))))) fun h4 h =>
   tS fk31 (p31_28_1 x115 x116 x117 b0 b2 b6 r1 r2) (oc h0 (oc h1 (oc (xGr h2) (oc (xAw h3) (oc h4 on))))) (ih _ _ _ _ _ _ _ h)) fun h0 h =>
   dS h fk31 (p31_28_2 x115 x116 x117 b0 b2 b6) (oc h0 on)
theorem c31_e {N : Nat} {q0 : Psr → Option (Exp × Psr)} (g0 : G116 q0) {q1 : Psr → Option (Exp × Psr)} (g1 : G31 q1) {q2 : Psr → Str → Option ((List Exp) × Psr)} (g2 : G131 q2) {q3 : Psr → Option (Exp × Psr)} (g3 : G96 q3) {q4 : Psr → Option (Exp × Psr)} (g4 : G54 q4) : ∀ a0 r, xCt N q0 q1 q2 q3 q4 a0 = some r → RE Tryz.f31 I31 (xAl a0) (xAe r) := fun a0 r h =>
 bE h fun r1 h0 h => bE h fun r2 h1 h => cE h (fun h2 h => bE h fun r3 h3 h => bE h fun r4 h4 h => bE h fun r5 h5 h => iE h fun h6 h => bE h fun r6 h7 h => bE h fun r7 h8 h => iE h fun h9 h => dE h fk31 (p31_e_3 a0 r1 r2 r3 r4 r5 r6 r7) (oc (xAq h0) (oc (xBH h1) (oc h2 (oc (xFG h3) (oc (xBR h4) (oc (g1 _ _ h5) (oc h6 (oc (xBR h7) (oc (g1 _ _ h8) (oc h9 on))))))))))) fun h2 h =>
 bE h fun r3 h3 h => bE h fun r4 h4 h => cE h (fun h5 h => bE h fun r5 h6 h => iE h fun h7 h => bE h fun r6 h8 h => bE h fun r7 h9 h => iE h fun h10 h => bE h fun r8 h11 h => bE h fun r9 h12 h => iE h fun h13 h => dE h fk31 (p31_e_4 a0 r1 r2 r3 r4 r5 r6 r7 r8 r9) (oc (xAq h0) (oc (xBH h1) (oc h2 (oc (xAq h3) (oc (xBH h4) (oc h5 (oc (g1 _ _ h6) (oc h7 (oc (xBR h8) (oc (g1 _ _ h9) (oc h10 (oc (xBR h11) (oc (g1 _ _ h12) (oc h13 on))))))))))))))) fun h5 h =>
 bE h fun r5 h6 h => bE h fun r6 h7 h => cE h (fun h8 h => bE h fun r7 h9 h => bE h fun r8 h10 h => bE h fun r9 h11 h => iE h fun h12 h => bE h fun r10 h13 h => bE h fun r11 h14 h => iE h fun h15 h => dE h fk31 (p31_e_5 a0 r1 r2 r3 r4 r5 r6 r7 r8 r9 r10 r11) (oc (xAq h0) (oc (xBH h1) (oc h2 (oc (xAq h3) (oc (xBH h4) (oc h5 (oc (xAq h6) (oc (xBH h7) (oc h8 (oc (xFG h9) (oc (xBR h10) (oc (g1 _ _ h11) (oc h12 (oc (xBR h13) (oc (g1 _ _ h14) (oc h15 on))))))))))))))))) fun h8 h =>
 bE h fun r7 h9 h => tE fk31 (p31_e_6 a0 r1 r2 r3 r4 r5 r6 r7) (oc (xAq h0) (oc (xBH h1) (oc h2 (oc (xAq h3) (oc (xBH h4) (oc h5 (oc (xAq h6) (oc (xBH h7) (oc h8 (oc (g4 _ _ h9) on)))))))))) (c31_28 g0 g1 g2 g3 g4 _ _ _ _ _ _ _ _ h)
theorem xF7 {N : Nat} {q0 : Psr → Option (Exp × Psr)} (g0 : G116 q0) {q1 : Psr → Option (Exp × Psr)} (g1 : G31 q1) {q2 : Psr → Str → Option ((List Exp) × Psr)} (g2 : G131 q2) {q3 : Psr → Option (Exp × Psr)} (g3 : G96 q3) {q4 : Psr → Option (Exp × Psr)} (g4 : G54 q4) {a0 : Psr} {r : Exp × Psr} (h : xCt N q0 q1 q2 q3 q4 a0 = some r) : AbC 31 (xAl a0) (xAe r) :=
 AbsCalls.of_reach fk31 rfl rfl (Nat.le_of_ble_eq_true rfl) (c31_e g0 g1 g2 g3 g4 a0 r h)
noncomputable def I131 : Info := { body := (Tryz.f131.body).getD .skip, nt := 27, results := [.tmp 4], keep := [0, 2, 8, 10, 18, 30, 46, 1], live := [(4, [0, 2, 10, 1])], modes := [(3, [(0, .take, false)]), (5, [(0, .take, false), (4, .take, false)]), (8, [(0, .take, false)])], ext := [0] }
theorem fk131 : FnOk Tryz.prog 131 Tryz.f131 I131 := ⟨Tryz.func131, by kernel_rfl, by kernel_rfl, by kernel_rfl, by kernel_rfl⟩
def S131_4 (x1 : Str) (x5 : List Exp) (b0 : Psr) : St := [(0, .v false [.ptr 0 0]), (2, .v false [.str x1]), (10, .v false [.sl .own .exp x5]), (1, .v true [.sl .ro .tok (Psr.list b0), .int .i64 (Psr.pos b0), .int .i64 (Psr.bad b0)])]
theorem p131_4_0 (x1 : Str) (x5 : List Exp) (b0 : Psr) (r1 : Exp × Psr) (r2 : Bool × Psr) : rS 4 I131 (S131_4 x1 x5 b0) [Y, Y] [xAe r1, xAd r2] = dn (xBd ((x5 ++ [(Exp.re r1.1)]), r2.2)) [(decide (((Psr.bad b0) : Int) < 0)) = true, AbC 31 (xAl b0) (xAe r1), Ln x5 + Ln [(Exp.re r1.1)] ≤ Lim, AbC 55 (xAm r1.2 x1) (xAd r2), r2.1 = true] := by kernel_rfl
theorem p131_4_1 (x1 : Str) (x5 : List Exp) (b0 : Psr) (r1 : Exp × Psr) (r2 : Bool × Psr) (r3 : Psr) : rS 4 I131 (S131_4 x1 x5 b0) [Y, F] [xAe r1, xAd r2, xAA r3] = st 4 I131 (S131_4 x1 (x5 ++ [(Exp.re r1.1)]) r3) [(decide (((Psr.bad b0) : Int) < 0)) = true, AbC 31 (xAl b0) (xAe r1), Ln x5 + Ln [(Exp.re r1.1)] ≤ Lim, AbC 55 (xAm r1.2 x1) (xAd r2), r2.1 = false, AbC 53 (xA6 r2.2 [44]) (xAA r3)] := by kernel_rfl
theorem p131_4_2 (x1 : Str) (x5 : List Exp) (b0 : Psr) : rS 4 I131 (S131_4 x1 x5 b0) [F] [] = dn (xBd (x5, b0)) [(decide (((Psr.bad b0) : Int) < 0)) = false] := by kernel_rfl
theorem p131_e_3 (a0 : Psr) (a1 : Str) (r1 : Bool × Psr) : rE I131 (xCj a0 a1) [Y] [xAd r1] = dn (xBd ([], r1.2)) [AbC 55 (xAm a0 a1) (xAd r1), r1.1 = true] := by kernel_rfl
theorem p131_e_4 (a0 : Psr) (a1 : Str) (r1 : Bool × Psr) : rE I131 (xCj a0 a1) [F] [xAd r1] = st 4 I131 (S131_4 a1 [] r1.2) [AbC 55 (xAm a0 a1) (xAd r1), r1.1 = false] := by kernel_rfl
theorem c131_4 {N : Nat} {q0 : Psr → Option (Exp × Psr)} (g0 : G116 q0) {q1 : Psr → Option (Exp × Psr)} (g1 : G31 q1) {q2 : Psr → Str → Option ((List Exp) × Psr)} (g2 : G131 q2) {q3 : Psr → Option (Exp × Psr)} (g3 : G96 q3) {q4 : Psr → Option (Exp × Psr)} (g4 : G54 q4) : ∀ n x1 x5 b0 r, xCk N q0 q1 q2 q3 q4 n x1 x5 b0 = some r → RS Tryz.f131 I131 4 (S131_4 x1 x5 b0) (xBd r) := by
 intro n
 induction n with
 | zero => exact fun _ _ _ _ h => nE h
 | succ n ih =>
  exact fun x1 x5 b0 r h =>
   cE h (fun h0 h => bE h fun r1 h1 h => iE h fun h2 h => bE h fun r2 h3 h => cE h (fun h4 h => dS h fk131 (p131_4_0 x1 x5 b0 r1 r2) (oc h0 (oc (g1 _ _ h1) (oc h2 (oc (xAw h3) (oc h4 on)))))) fun h4 h =>
   bE h fun r3 h5 h => tS fk131 (p131_4_1 x1 x5 b0 r1 r2 r3) (oc h0 (oc (g1 _ _ h1) (oc h2 (oc (xAw h3) (oc h4 (oc (xBR h5) on)))))) (ih _ _ _ _ h)) fun h0 h =>
   dS h fk131 (p131_4_2 x1 x5 b0) (oc h0 on)
theorem c131_e {N : Nat} {q0 : Psr → Option (Exp × Psr)} (g0 : G116 q0) {q1 : Psr → Option (Exp × Psr)} (g1 : G31 q1) {q2 : Psr → Str → Option ((List Exp) × Psr)} (g2 : G131 q2) {q3 : Psr → Option (Exp × Psr)} (g3 : G96 q3) {q4 : Psr → Option (Exp × Psr)} (g4 : G54 q4) : ∀ a0 a1 r, xCm N q0 q1 q2 q3 q4 a0 a1 = some r → RE Tryz.f131 I131 (xCj a0 a1) (xBd r) := fun a0 a1 r h =>
 bE h fun r1 h0 h => cE h (fun h1 h => dE h fk131 (p131_e_3 a0 a1 r1) (oc (xAw h0) (oc h1 on))) fun h1 h =>
 tE fk131 (p131_e_4 a0 a1 r1) (oc (xAw h0) (oc h1 on)) (c131_4 g0 g1 g2 g3 g4 _ _ _ _ _ h)
theorem xFZ {N : Nat} {q0 : Psr → Option (Exp × Psr)} (g0 : G116 q0) {q1 : Psr → Option (Exp × Psr)} (g1 : G31 q1) {q2 : Psr → Str → Option ((List Exp) × Psr)} (g2 : G131 q2) {q3 : Psr → Option (Exp × Psr)} (g3 : G96 q3) {q4 : Psr → Option (Exp × Psr)} (g4 : G54 q4) {a0 : Psr} {a1 : Str} {r : (List Exp) × Psr} (h : xCm N q0 q1 q2 q3 q4 a0 a1 = some r) : AbC 131 (xCj a0 a1) (xBd r) :=
 AbsCalls.of_reach fk131 rfl rfl (Nat.le_of_ble_eq_true rfl) (c131_e g0 g1 g2 g3 g4 a0 a1 r h)
noncomputable def I96 : Info := { body := (Tryz.f96.body).getD .skip, nt := 14, results := [.cell 2 25], keep := [0, 4, 6, 14, 1, 5, 7], live := [(2, [0, 4, 6, 1, 5, 7])], modes := [(3, [(0, .take, false)]), (4, [(0, .take, false)])], ext := [0] }
theorem fk96 : FnOk Tryz.prog 96 Tryz.f96 I96 := ⟨Tryz.func96, by kernel_rfl, by kernel_rfl, by kernel_rfl, by kernel_rfl⟩
def S96_2 (b0 : Psr) (b2 b3 : Exp) : St := [(0, .v false [.ptr 0 0]), (4, .v false [.ptr 2 0]), (6, .v false [.ptr 3 0]), (1, .v true [.sl .ro .tok (Psr.list b0), .int .i64 (Psr.pos b0), .int .i64 (Psr.bad b0)]), (5, .v true [.int .i64 (Exp.kind b2), .int .i64 (Exp.n b2), .str (Exp.text b2), .sl .own .exp (Exp.args b2)]), (7, .v true [.int .i64 (Exp.kind b3), .int .i64 (Exp.n b3), .str (Exp.text b3), .sl .own .exp (Exp.args b3)])]
theorem p96_2_0 (b0 : Psr) (b2 b3 : Exp) (r1 : Bool × Psr) (r2 : Exp × Psr) : rS 2 I96 (S96_2 b0 b2 b3) [Y] [xAd r1, xAX r2] = st 2 I96 (S96_2 r2.2 b2 (Exp.mk 6 3 [] [(Exp.re b3), (Exp.re r2.1)])) [AbC 55 (xAm b0 [42]) (xAd r1), r1.1 = true, AbC 116 (xA5 r1.2) (xAX r2)] := by kernel_rfl
theorem p96_2_1 (b0 : Psr) (b2 b3 : Exp) (r1 : Bool × Psr) : rS 2 I96 (S96_2 b0 b2 b3) [F] [xAd r1] = dn (xBi (b3, r1.2)) [AbC 55 (xAm b0 [42]) (xAd r1), r1.1 = false] := by kernel_rfl
theorem p96_e_2 (a0 : Psr) (r1 : Exp × Psr) : rE I96 (xCn a0) [] [xAX r1] = st 2 I96 (S96_2 r1.2 (Exp.mk 0 0 [] []) r1.1) [AbC 116 (xA5 a0) (xAX r1)] := by kernel_rfl
theorem c96_2 {N : Nat} {q0 : Psr → Option (Exp × Psr)} (g0 : G116 q0) {q1 : Psr → Option (Exp × Psr)} (g1 : G31 q1) {q2 : Psr → Str → Option ((List Exp) × Psr)} (g2 : G131 q2) {q3 : Psr → Option (Exp × Psr)} (g3 : G96 q3) {q4 : Psr → Option (Exp × Psr)} (g4 : G54 q4) : ∀ n b0 b2 b3 r, xBV N q0 q1 q2 q3 q4 n b0 b2 b3 = some r → RS Tryz.f96 I96 2 (S96_2 b0 b2 b3) (xBi r) := by
 intro n
 induction n with
 | zero => exact fun _ _ _ _ h => nE h
 | succ n ih =>
  exact fun b0 b2 b3 r h =>
   bE h fun r1 h0 h => cE h (fun h1 h => bE h fun r2 h2 h => tS fk96 (p96_2_0 b0 b2 b3 r1 r2) (oc (xAw h0) (oc h1 (oc (g0 _ _ h2) on))) (ih _ _ _ _ h)) fun h1 h =>
   dS h fk96 (p96_2_1 b0 b2 b3 r1) (oc (xAw h0) (oc h1 on))
theorem c96_e {N : Nat} {q0 : Psr → Option (Exp × Psr)} (g0 : G116 q0) {q1 : Psr → Option (Exp × Psr)} (g1 : G31 q1) {q2 : Psr → Str → Option ((List Exp) × Psr)} (g2 : G131 q2) {q3 : Psr → Option (Exp × Psr)} (g3 : G96 q3) {q4 : Psr → Option (Exp × Psr)} (g4 : G54 q4) : ∀ a0 r, xB3 N q0 q1 q2 q3 q4 a0 = some r → RE Tryz.f96 I96 (xCn a0) (xBi r) := fun a0 r h =>
 bE h fun r1 h0 h => tE fk96 (p96_e_2 a0 r1) (oc (g0 _ _ h0) on) (c96_2 g0 g1 g2 g3 g4 _ _ _ _ _ h)
theorem xFH {N : Nat} {q0 : Psr → Option (Exp × Psr)} (g0 : G116 q0) {q1 : Psr → Option (Exp × Psr)} (g1 : G31 q1) {q2 : Psr → Str → Option ((List Exp) × Psr)} (g2 : G131 q2) {q3 : Psr → Option (Exp × Psr)} (g3 : G96 q3) {q4 : Psr → Option (Exp × Psr)} (g4 : G54 q4) {a0 : Psr} {r : Exp × Psr} (h : xB3 N q0 q1 q2 q3 q4 a0 = some r) : AbC 96 (xCn a0) (xBi r) :=
 AbsCalls.of_reach fk96 rfl rfl (Nat.le_of_ble_eq_true rfl) (c96_e g0 g1 g2 g3 g4 a0 r h)
noncomputable def I54 : Info := { body := (Tryz.f54.body).getD .skip, nt := 25, results := [.cell 2 25], keep := [0, 4, 6, 8, 22, 28, 34, 1, 5, 7], live := [(2, [0, 4, 6, 1, 5, 7])], modes := [(7, [(0, .take, false), (1, .take, false)]), (8, [(0, .take, false)])], ext := [0] }
theorem fk54 : FnOk Tryz.prog 54 Tryz.f54 I54 := ⟨Tryz.func54, by kernel_rfl, by kernel_rfl, by kernel_rfl, by kernel_rfl⟩
def S54_2 (b0 : Psr) (b2 b3 : Exp) : St := [(0, .v false [.ptr 0 0]), (4, .v false [.ptr 2 0]), (6, .v false [.ptr 3 0]), (1, .v true [.sl .ro .tok (Psr.list b0), .int .i64 (Psr.pos b0), .int .i64 (Psr.bad b0)]), (5, .v true [.int .i64 (Exp.kind b2), .int .i64 (Exp.n b2), .str (Exp.text b2), .sl .own .exp (Exp.args b2)]), (7, .v true [.int .i64 (Exp.kind b3), .int .i64 (Exp.n b3), .str (Exp.text b3), .sl .own .exp (Exp.args b3)])]
theorem p54_2_0 (b0 : Psr) (b2 b3 : Exp) (r1 : Bool × Psr) (r2 : Bool × Psr) : rS 2 I54 (S54_2 b0 b2 b3) [Y, Y, Y] [xAd r1, xAd r2] = dn (xB8 (b3, r2.2)) [(decide (((Psr.bad b0) : Int) < 0)) = true, AbC 55 (xAm b0 [43]) (xAd r1), (!r1.1) = true, AbC 55 (xAm r1.2 [45]) (xAd r2), (!r2.1) = true] := by kernel_rfl
theorem p54_2_1 (b0 : Psr) (b2 b3 : Exp) (r1 : Bool × Psr) (r2 : Bool × Psr) (r3 : Exp × Psr) : rS 2 I54 (S54_2 b0 b2 b3) [Y, Y, F] [xAd r1, xAd r2, xBi r3] = st 2 I54 (S54_2 r3.2 b2 (Exp.mk 6 2 [] [(Exp.re b3), (Exp.re r3.1)])) [(decide (((Psr.bad b0) : Int) < 0)) = true, AbC 55 (xAm b0 [43]) (xAd r1), (!r1.1) = true, AbC 55 (xAm r1.2 [45]) (xAd r2), (!r2.1) = false, AbC 96 (xCn r2.2) (xBi r3)] := by kernel_rfl
theorem p54_2_2 (b0 : Psr) (b2 b3 : Exp) (r1 : Bool × Psr) (r2 : Exp × Psr) : rS 2 I54 (S54_2 b0 b2 b3) [Y, F] [xAd r1, xBi r2] = st 2 I54 (S54_2 r2.2 b2 (Exp.mk 6 1 [] [(Exp.re b3), (Exp.re r2.1)])) [(decide (((Psr.bad b0) : Int) < 0)) = true, AbC 55 (xAm b0 [43]) (xAd r1), (!r1.1) = false, AbC 96 (xCn r1.2) (xBi r2)] := by kernel_rfl
theorem p54_2_3 (b0 : Psr) (b2 b3 : Exp) : rS 2 I54 (S54_2 b0 b2 b3) [F] [] = dn (xB8 (b3, b0)) [(decide (((Psr.bad b0) : Int) < 0)) = false] := by kernel_rfl
theorem p54_e_4 (a0 : Psr) (r1 : Exp × Psr) : rE I54 (xDB a0) [] [xBi r1] = st 2 I54 (S54_2 r1.2 (Exp.mk 0 0 [] []) r1.1) [AbC 96 (xCn a0) (xBi r1)] := by kernel_rfl
theorem c54_2 {N : Nat} {q0 : Psr → Option (Exp × Psr)} (g0 : G116 q0) {q1 : Psr → Option (Exp × Psr)} (g1 : G31 q1) {q2 : Psr → Str → Option ((List Exp) × Psr)} (g2 : G131 q2) {q3 : Psr → Option (Exp × Psr)} (g3 : G96 q3) {q4 : Psr → Option (Exp × Psr)} (g4 : G54 q4) : ∀ n b0 b2 b3 r, xB7 N q0 q1 q2 q3 q4 n b0 b2 b3 = some r → RS Tryz.f54 I54 2 (S54_2 b0 b2 b3) (xB8 r) := by
 intro n
 induction n with
 | zero => exact fun _ _ _ _ h => nE h
 | succ n ih =>
  exact fun b0 b2 b3 r h =>
   cE h (fun h0 h => bE h fun r1 h1 h => cE h (fun h2 h => bE h fun r2 h3 h => cE h (fun h4 h => dS h fk54 (p54_2_0 b0 b2 b3 r1 r2) (oc h0 (oc (xAw h1) (oc h2 (oc (xAw h3) (oc h4 on)))))) fun h4 h =>
   bE h fun r3 h5 h => tS fk54 (p54_2_1 b0 b2 b3 r1 r2 r3) (oc h0 (oc (xAw h1) (oc h2 (oc (xAw h3) (oc h4 (oc (g3 _ _ h5) on)))))) (ih _ _ _ _ h)) fun h2 h =>
   bE h fun r2 h3 h => tS fk54 (p54_2_2 b0 b2 b3 r1 r2) (oc h0 (oc (xAw h1) (oc h2 (oc (g3 _ _ h3) on)))) (ih _ _ _ _ h)) fun h0 h =>
   dS h fk54 (p54_2_3 b0 b2 b3) (oc h0 on)
theorem c54_e {N : Nat} {q0 : Psr → Option (Exp × Psr)} (g0 : G116 q0) {q1 : Psr → Option (Exp × Psr)} (g1 : G31 q1) {q2 : Psr → Str → Option ((List Exp) × Psr)} (g2 : G131 q2) {q3 : Psr → Option (Exp × Psr)} (g3 : G96 q3) {q4 : Psr → Option (Exp × Psr)} (g4 : G54 q4) : ∀ a0 r, xCJ N q0 q1 q2 q3 q4 a0 = some r → RE Tryz.f54 I54 (xDB a0) (xB8 r) := fun a0 r h =>
 bE h fun r1 h0 h => tE fk54 (p54_e_4 a0 r1) (oc (g3 _ _ h0) on) (c54_2 g0 g1 g2 g3 g4 _ _ _ _ _ h)
theorem xGl {N : Nat} {q0 : Psr → Option (Exp × Psr)} (g0 : G116 q0) {q1 : Psr → Option (Exp × Psr)} (g1 : G31 q1) {q2 : Psr → Str → Option ((List Exp) × Psr)} (g2 : G131 q2) {q3 : Psr → Option (Exp × Psr)} (g3 : G96 q3) {q4 : Psr → Option (Exp × Psr)} (g4 : G54 q4) {a0 : Psr} {r : Exp × Psr} (h : xCJ N q0 q1 q2 q3 q4 a0 = some r) : AbC 54 (xDB a0) (xB8 r) :=
 AbsCalls.of_reach fk54 rfl rfl (Nat.le_of_ble_eq_true rfl) (c54_e g0 g1 g2 g3 g4 a0 r h)
theorem xGk {N : Nat} : ∀ d, G116 (xAb N d).c_impl_parser_atom ∧ G31 (xAb N d).c_impl_parser_expr ∧ G131 (xAb N d).c_impl_parser_list2 ∧ G96 (xAb N d).c_impl_parser_product ∧ G54 (xAb N d).c_impl_parser_sum := by
 intro d
 induction d with
 | zero => exact ⟨fun _ _ h => nE h, fun _ _ h => nE h, fun _ _ _ h => nE h, fun _ _ h => nE h, fun _ _ h => nE h⟩
 | succ d ih =>
  obtain ⟨ih0, ih1, ih2, ih3, ih4⟩ := ih
  exact ⟨fun _ _ h => xF6 (N := N) ih0 ih1 ih2 ih3 ih4 h, fun _ _ h => xF7 (N := N) ih0 ih1 ih2 ih3 ih4 h, fun _ _ _ h => xFZ (N := N) ih0 ih1 ih2 ih3 ih4 h, fun _ _ h => xFH (N := N) ih0 ih1 ih2 ih3 ih4 h, fun _ _ h => xGl (N := N) ih0 ih1 ih2 ih3 ih4 h⟩
theorem xBt {N : Nat} {a0 : Psr} {r : Exp × Psr} (h : xEP N a0 = some r) : AbC 31 (xAl a0) (xAe r) := (xGk N).2.1 _ r h
def G57 (q : Exp → Option (Int)) : Prop := ∀ a0 r, q a0 = some r → AbC 57 (xCF a0) (xBq r)
noncomputable def I57 : Info := { body := (Tryz.f57.body).getD .skip, nt := 19, results := [.tmp 2], keep := [0, 2, 4, 6, 10, 14, 16, 18, 20, 3, 11], live := [(3, [6, 14, 16, 18])], modes := [(6, [(1, .take, false)])] }
theorem fk57 : FnOk Tryz.prog 57 Tryz.f57 I57 := ⟨Tryz.func57, by kernel_rfl, by kernel_rfl, by kernel_rfl, by kernel_rfl⟩
def S57_3 (x3 : Int) (x7 : List Exp) (x8 x9 : Int) : St := [(6, .v false [.int .i64 x3]), (14, .v false [.sl .ro .exp x7]), (16, .v false [.int .i64 x8]), (18, .v false [.int .i64 x9])]
theorem p57_3_0 (x3 : Int) (x7 : List Exp) (x8 x9 r1 : Int) : rS 3 I57 (S57_3 x3 x7 x8 x9) [Y] [xBq r1] = st 3 I57 (S57_3 (W (x3 + r1)) x7 x8 (W (x9 + 1))) [(decide ((x9 : Int) < x8)) = true, (0 : Int) ≤ x9 ∧ x9 < (Ln x7), AbC 57 (xCF (gD x7 (tN x9) Ty.exp.dflt)) (xBq r1)] := by kernel_rfl
theorem p57_3_1 (x3 : Int) (x7 : List Exp) (x8 x9 : Int) : rS 3 I57 (S57_3 x3 x7 x8 x9) [F] [] = dn (xBq x3) [(decide ((x9 : Int) < x8)) = false] := by kernel_rfl
theorem p57_e_2 (a0 : Exp) : rE I57 (xCF a0) [] [] = st 3 I57 (S57_3 1 (Exp.args a0) (Ln (Exp.args a0) : Int) 0) [] := by kernel_rfl
theorem c57_3 {N : Nat} {q0 : Exp → Option (Int)} (g0 : G57 q0) : ∀ n x3 x7 x8 x9 r, xDj N q0 n x3 x7 x8 x9 = some r → RS Tryz.f57 I57 3 (S57_3 x3 x7 x8 x9) (xBq r) := by
 intro n
 induction n with
 | zero => exact fun _ _ _ _ _ h => nE h
 | succ n ih =>
  exact fun x3 x7 x8 x9 r h =>
   cE h (fun h0 h => iE h fun h1 h => bE h fun r1 h2 h => tS fk57 (p57_3_0 x3 x7 x8 x9 r1) (oc h0 (oc h1 (oc (g0 _ _ h2) on))) (ih _ _ _ _ _ h)) fun h0 h =>
   dS h fk57 (p57_3_1 x3 x7 x8 x9) (oc h0 on)
theorem c57_e {N : Nat} {q0 : Exp → Option (Int)} (g0 : G57 q0) : ∀ a0 r, xEW N q0 a0 = some r → RE Tryz.f57 I57 (xCF a0) (xBq r) := fun a0 r h =>
 tE fk57 (p57_e_2 a0) on (c57_3 g0 _ _ _ _ _ _ h)
theorem xGu {N : Nat} {q0 : Exp → Option (Int)} (g0 : G57 q0) {a0 : Exp} {r : Int} (h : xEW N q0 a0 = some r) : AbC 57 (xCF a0) (xBq r) :=
 AbsCalls.of_reach fk57 rfl rfl (Nat.le_of_ble_eq_true rfl) (c57_e g0 a0 r h)
theorem xFm {N : Nat} : ∀ d, G57 (xDA N d)
 | 0 => fun _ _ h => nE h
 | d + 1 => fun _ _ h => xGu (N := N) (xFm d) h
theorem xFf {N : Nat} {a0 : Exp} {r : Int} (h : xFY N a0 = some r) : AbC 57 (xCF a0) (xBq r) := xFm N _ r h
def G58 (q : Exp → Option (Int)) : Prop := ∀ a0 r, q a0 = some r → AbC 58 (xC1 a0) (xBI r)
noncomputable def I58 : Info := { body := (Tryz.f58.body).getD .skip, nt := 20, results := [.tmp 2], keep := [0, 2, 4, 6, 10, 14, 16, 18, 20, 3, 11], live := [(3, [6, 14, 16, 18])], modes := [(6, [(1, .take, false)])] }
theorem fk58 : FnOk Tryz.prog 58 Tryz.f58 I58 := ⟨Tryz.func58, by kernel_rfl, by kernel_rfl, by kernel_rfl, by kernel_rfl⟩
def S58_3 (x3 : Int) (x7 : List Exp) (x8 x9 : Int) : St := [(6, .v false [.int .i64 x3]), (14, .v false [.sl .ro .exp x7]), (16, .v false [.int .i64 x8]), (18, .v false [.int .i64 x9])]
theorem p58_3_0 (x3 : Int) (x7 : List Exp) (x8 x9 r1 : Int) : rS 3 I58 (S58_3 x3 x7 x8 x9) [Y] [xBI r1] = st 3 I58 (S58_3 (if (r1 : Int) > x3 then r1 else x3) x7 x8 (W (x9 + 1))) [(decide ((x9 : Int) < x8)) = true, (0 : Int) ≤ x9 ∧ x9 < (Ln x7), AbC 58 (xC1 (gD x7 (tN x9) Ty.exp.dflt)) (xBI r1)] := by kernel_rfl
theorem p58_3_1 (x3 : Int) (x7 : List Exp) (x8 x9 : Int) : rS 3 I58 (S58_3 x3 x7 x8 x9) [F] [] = dn (xBI (W (x3 + 1))) [(decide ((x9 : Int) < x8)) = false] := by kernel_rfl
theorem p58_e_2 (a0 : Exp) : rE I58 (xC1 a0) [] [] = st 3 I58 (S58_3 0 (Exp.args a0) (Ln (Exp.args a0) : Int) 0) [] := by kernel_rfl
theorem c58_3 {N : Nat} {q0 : Exp → Option (Int)} (g0 : G58 q0) : ∀ n x3 x7 x8 x9 r, xDK N q0 n x3 x7 x8 x9 = some r → RS Tryz.f58 I58 3 (S58_3 x3 x7 x8 x9) (xBI r) := by
 intro n
 induction n with
 | zero => exact fun _ _ _ _ _ h => nE h
 | succ n ih =>
  exact fun x3 x7 x8 x9 r h =>
   cE h (fun h0 h => iE h fun h1 h => bE h fun r1 h2 h => tS fk58 (p58_3_0 x3 x7 x8 x9 r1) (oc h0 (oc h1 (oc (g0 _ _ h2) on))) (ih _ _ _ _ _ h)) fun h0 h =>
   dS h fk58 (p58_3_1 x3 x7 x8 x9) (oc h0 on)
theorem c58_e {N : Nat} {q0 : Exp → Option (Int)} (g0 : G58 q0) : ∀ a0 r, xEV N q0 a0 = some r → RE Tryz.f58 I58 (xC1 a0) (xBI r) := fun a0 r h =>
 tE fk58 (p58_e_2 a0) on (c58_3 g0 _ _ _ _ _ _ h)
theorem xGt {N : Nat} {q0 : Exp → Option (Int)} (g0 : G58 q0) {a0 : Exp} {r : Int} (h : xEV N q0 a0 = some r) : AbC 58 (xC1 a0) (xBI r) :=
 AbsCalls.of_reach fk58 rfl rfl (Nat.le_of_ble_eq_true rfl) (c58_e g0 a0 r h)
theorem xFl {N : Nat} : ∀ d, G58 (xD1 N d)
 | 0 => fun _ _ h => nE h
 | d + 1 => fun _ _ h => xGt (N := N) (xFl d) h
theorem xF5 {N : Nat} {a0 : Exp} {r : Int} (h : xFX N a0 = some r) : AbC 58 (xC1 a0) (xBI r) := xFl N _ r h
noncomputable def I98 : Info := { body := (Tryz.f98.body).getD .skip, nt := 120, results := [.tmp 2], keep := [0, 2, 4, 6, 16, 18, 46, 74, 102, 130, 154, 182, 212, 3], live := [], modes := [(4, [(3, .take, false), (8, .take, false)]), (6, [(3, .take, false), (8, .take, false)]), (8, [(3, .take, false), (8, .take, false)]), (10, [(3, .take, false), (8, .take, false)]), (12, [(3, .take, false)]), (14, [(3, .take, false), (8, .take, false)]), (17, [(3, .take, false), (8, .take, false)]), (19, [(3, .take, false), (8, .take, false)])] }
theorem fk98 : FnOk Tryz.prog 98 Tryz.f98 I98 := ⟨Tryz.func98, by kernel_rfl, by kernel_rfl, by kernel_rfl, by kernel_rfl⟩
theorem p98_e_0 (a0 : Exp) (r1 : Bool) : rE I98 (xAK a0) [Y, Y, Y] [xA8 r1] = dn (xAI (((Ln (Exp.args a0) : Int) : Int) == 0)) [(((Exp.kind a0) : Int) == 1) = true, AbC 97 (xCf (Exp.n a0) 0 1000000000) (xA8 r1), r1 = true, (((Exp.text a0) : Str) == []) = true] := by kernel_rfl
theorem p98_e_1 (a0 : Exp) (r1 : Bool) : rE I98 (xAK a0) [Y, Y, F] [xA8 r1] = dn (xAI false) [(((Exp.kind a0) : Int) == 1) = true, AbC 97 (xCf (Exp.n a0) 0 1000000000) (xA8 r1), r1 = true, (((Exp.text a0) : Str) == []) = false] := by kernel_rfl
theorem p98_e_2 (a0 : Exp) (r1 : Bool) : rE I98 (xAK a0) [Y, F, F] [xA8 r1] = dn (xAI false) [(((Exp.kind a0) : Int) == 1) = true, AbC 97 (xCf (Exp.n a0) 0 1000000000) (xA8 r1), r1 = false, false = false] := by kernel_rfl
theorem p98_e_3 (a0 : Exp) (r1 : Bool) : rE I98 (xAK a0) [F, Y, Y, Y] [xAO r1] = dn (xAI (((Ln (Exp.args a0) : Int) : Int) == 0)) [(((Exp.kind a0) : Int) == 1) = false, (((Exp.kind a0) : Int) == 2) = true, (((Exp.n a0) : Int) == 0) = true, AbC 91 (xCb (Exp.text a0)) (xAO r1), r1 = true] := by kernel_rfl
theorem p98_e_4 (a0 : Exp) (r1 : Bool) : rE I98 (xAK a0) [F, Y, Y, F] [xAO r1] = dn (xAI false) [(((Exp.kind a0) : Int) == 1) = false, (((Exp.kind a0) : Int) == 2) = true, (((Exp.n a0) : Int) == 0) = true, AbC 91 (xCb (Exp.text a0)) (xAO r1), r1 = false] := by kernel_rfl
theorem p98_e_5 (a0 : Exp) : rE I98 (xAK a0) [F, Y, F, F] [] = dn (xAI false) [(((Exp.kind a0) : Int) == 1) = false, (((Exp.kind a0) : Int) == 2) = true, (((Exp.n a0) : Int) == 0) = false, false = false] := by kernel_rfl
theorem p98_e_6 (a0 : Exp) (r1 : Bool) : rE I98 (xAK a0) [F, F, Y, Y, Y] [xAn r1] = dn (xAI (((Ln (Exp.args a0) : Int) : Int) == 0)) [(((Exp.kind a0) : Int) == 1) = false, (((Exp.kind a0) : Int) == 2) = false, (((Exp.kind a0) : Int) == 3) = true, (((Exp.n a0) : Int) == 0) = true, AbC 93 (xAW (Exp.text a0)) (xAn r1), r1 = true] := by kernel_rfl
theorem p98_e_7 (a0 : Exp) (r1 : Bool) : rE I98 (xAK a0) [F, F, Y, Y, F] [xAn r1] = dn (xAI false) [(((Exp.kind a0) : Int) == 1) = false, (((Exp.kind a0) : Int) == 2) = false, (((Exp.kind a0) : Int) == 3) = true, (((Exp.n a0) : Int) == 0) = true, AbC 93 (xAW (Exp.text a0)) (xAn r1), r1 = false] := by kernel_rfl
theorem p98_e_8 (a0 : Exp) : rE I98 (xAK a0) [F, F, Y, F, F] [] = dn (xAI false) [(((Exp.kind a0) : Int) == 1) = false, (((Exp.kind a0) : Int) == 2) = false, (((Exp.kind a0) : Int) == 3) = true, (((Exp.n a0) : Int) == 0) = false, false = false] := by kernel_rfl
theorem p98_e_9 (a0 : Exp) : rE I98 (xAK a0) [F, F, F, Y, Y, Y] [] = dn (xAI (decide (((Ln (Exp.args a0) : Int) : Int) ≤ 8))) [(((Exp.kind a0) : Int) == 1) = false, (((Exp.kind a0) : Int) == 2) = false, (((Exp.kind a0) : Int) == 3) = false, (((Exp.kind a0) : Int) == 4) = true, (((Exp.n a0) : Int) == 0) = true, (((Exp.text a0) : Str) == []) = true] := by kernel_rfl
theorem p98_e_10 (a0 : Exp) : rE I98 (xAK a0) [F, F, F, Y, Y, F] [] = dn (xAI false) [(((Exp.kind a0) : Int) == 1) = false, (((Exp.kind a0) : Int) == 2) = false, (((Exp.kind a0) : Int) == 3) = false, (((Exp.kind a0) : Int) == 4) = true, (((Exp.n a0) : Int) == 0) = true, (((Exp.text a0) : Str) == []) = false] := by kernel_rfl
theorem p98_e_11 (a0 : Exp) : rE I98 (xAK a0) [F, F, F, Y, F, F] [] = dn (xAI false) [(((Exp.kind a0) : Int) == 1) = false, (((Exp.kind a0) : Int) == 2) = false, (((Exp.kind a0) : Int) == 3) = false, (((Exp.kind a0) : Int) == 4) = true, (((Exp.n a0) : Int) == 0) = false, false = false] := by kernel_rfl
theorem p98_e_12 (a0 : Exp) (r1 : Int) : rE I98 (xAK a0) [F, F, F, F, Y, Y] [xAh r1] = dn (xAI (((Ln (Exp.args a0) : Int) : Int) == r1)) [(((Exp.kind a0) : Int) == 1) = false, (((Exp.kind a0) : Int) == 2) = false, (((Exp.kind a0) : Int) == 3) = false, (((Exp.kind a0) : Int) == 4) = false, (((Exp.kind a0) : Int) == 5) = true, (((Exp.n a0) : Int) == 0) = true, AbC 117 (xAp (Exp.text a0)) (xAh r1)] := by kernel_rfl
theorem p98_e_13 (a0 : Exp) : rE I98 (xAK a0) [F, F, F, F, Y, F] [] = dn (xAI false) [(((Exp.kind a0) : Int) == 1) = false, (((Exp.kind a0) : Int) == 2) = false, (((Exp.kind a0) : Int) == 3) = false, (((Exp.kind a0) : Int) == 4) = false, (((Exp.kind a0) : Int) == 5) = true, (((Exp.n a0) : Int) == 0) = false] := by kernel_rfl
theorem p98_e_14 (a0 : Exp) (r1 : Bool) : rE I98 (xAK a0) [F, F, F, F, F, Y, Y, Y] [xA8 r1] = dn (xAI (((Ln (Exp.args a0) : Int) : Int) == 2)) [(((Exp.kind a0) : Int) == 1) = false, (((Exp.kind a0) : Int) == 2) = false, (((Exp.kind a0) : Int) == 3) = false, (((Exp.kind a0) : Int) == 4) = false, (((Exp.kind a0) : Int) == 5) = false, (((Exp.kind a0) : Int) == 6) = true, AbC 97 (xCf (Exp.n a0) 1 5) (xA8 r1), r1 = true, (((Exp.text a0) : Str) == []) = true] := by kernel_rfl
theorem p98_e_15 (a0 : Exp) (r1 : Bool) : rE I98 (xAK a0) [F, F, F, F, F, Y, Y, F] [xA8 r1] = dn (xAI false) [(((Exp.kind a0) : Int) == 1) = false, (((Exp.kind a0) : Int) == 2) = false, (((Exp.kind a0) : Int) == 3) = false, (((Exp.kind a0) : Int) == 4) = false, (((Exp.kind a0) : Int) == 5) = false, (((Exp.kind a0) : Int) == 6) = true, AbC 97 (xCf (Exp.n a0) 1 5) (xA8 r1), r1 = true, (((Exp.text a0) : Str) == []) = false] := by kernel_rfl
theorem p98_e_16 (a0 : Exp) (r1 : Bool) : rE I98 (xAK a0) [F, F, F, F, F, Y, F, F] [xA8 r1] = dn (xAI false) [(((Exp.kind a0) : Int) == 1) = false, (((Exp.kind a0) : Int) == 2) = false, (((Exp.kind a0) : Int) == 3) = false, (((Exp.kind a0) : Int) == 4) = false, (((Exp.kind a0) : Int) == 5) = false, (((Exp.kind a0) : Int) == 6) = true, AbC 97 (xCf (Exp.n a0) 1 5) (xA8 r1), r1 = false, false = false] := by kernel_rfl
theorem p98_e_17 (a0 : Exp) (r1 : Bool) : rE I98 (xAK a0) [F, F, F, F, F, F, Y, Y, Y, Y] [xAn r1] = dn (xAI (((Ln (Exp.args a0) : Int) : Int) == 2)) [(((Exp.kind a0) : Int) == 1) = false, (((Exp.kind a0) : Int) == 2) = false, (((Exp.kind a0) : Int) == 3) = false, (((Exp.kind a0) : Int) == 4) = false, (((Exp.kind a0) : Int) == 5) = false, (((Exp.kind a0) : Int) == 6) = false, (((Exp.kind a0) : Int) == 7) = true, (((Exp.kind a0) : Int) == 7) = true, (((Exp.n a0) : Int) == 0) = true, AbC 93 (xAW (Exp.text a0)) (xAn r1), r1 = true] := by kernel_rfl
theorem p98_e_18 (a0 : Exp) (r1 : Bool) : rE I98 (xAK a0) [F, F, F, F, F, F, Y, Y, Y, F] [xAn r1] = dn (xAI false) [(((Exp.kind a0) : Int) == 1) = false, (((Exp.kind a0) : Int) == 2) = false, (((Exp.kind a0) : Int) == 3) = false, (((Exp.kind a0) : Int) == 4) = false, (((Exp.kind a0) : Int) == 5) = false, (((Exp.kind a0) : Int) == 6) = false, (((Exp.kind a0) : Int) == 7) = true, (((Exp.kind a0) : Int) == 7) = true, (((Exp.n a0) : Int) == 0) = true, AbC 93 (xAW (Exp.text a0)) (xAn r1), r1 = false] := by kernel_rfl
theorem p98_e_19 (a0 : Exp) : rE I98 (xAK a0) [F, F, F, F, F, F, Y, Y, F, F] [] = dn (xAI false) [(((Exp.kind a0) : Int) == 1) = false, (((Exp.kind a0) : Int) == 2) = false, (((Exp.kind a0) : Int) == 3) = false, (((Exp.kind a0) : Int) == 4) = false, (((Exp.kind a0) : Int) == 5) = false, (((Exp.kind a0) : Int) == 6) = false, (((Exp.kind a0) : Int) == 7) = true, (((Exp.kind a0) : Int) == 7) = true, (((Exp.n a0) : Int) == 0) = false, false = false] := by kernel_rfl
theorem p98_e_20 (a0 : Exp) (r1 : Bool) : rE I98 (xAK a0) [F, F, F, F, F, F, F, Y, Y, Y] [xAn r1] = dn (xAI (((Ln (Exp.args a0) : Int) : Int) == 2)) [(((Exp.kind a0) : Int) == 1) = false, (((Exp.kind a0) : Int) == 2) = false, (((Exp.kind a0) : Int) == 3) = false, (((Exp.kind a0) : Int) == 4) = false, (((Exp.kind a0) : Int) == 5) = false, (((Exp.kind a0) : Int) == 6) = false, (((Exp.kind a0) : Int) == 7) = false, (((Exp.kind a0) : Int) == 9) = true, (((Exp.n a0) : Int) == 0) = true, AbC 93 (xAW (Exp.text a0)) (xAn r1), r1 = true] := by kernel_rfl
theorem p98_e_21 (a0 : Exp) (r1 : Bool) : rE I98 (xAK a0) [F, F, F, F, F, F, F, Y, Y, F] [xAn r1] = dn (xAI false) [(((Exp.kind a0) : Int) == 1) = false, (((Exp.kind a0) : Int) == 2) = false, (((Exp.kind a0) : Int) == 3) = false, (((Exp.kind a0) : Int) == 4) = false, (((Exp.kind a0) : Int) == 5) = false, (((Exp.kind a0) : Int) == 6) = false, (((Exp.kind a0) : Int) == 7) = false, (((Exp.kind a0) : Int) == 9) = true, (((Exp.n a0) : Int) == 0) = true, AbC 93 (xAW (Exp.text a0)) (xAn r1), r1 = false] := by kernel_rfl
theorem p98_e_22 (a0 : Exp) : rE I98 (xAK a0) [F, F, F, F, F, F, F, Y, F, F] [] = dn (xAI false) [(((Exp.kind a0) : Int) == 1) = false, (((Exp.kind a0) : Int) == 2) = false, (((Exp.kind a0) : Int) == 3) = false, (((Exp.kind a0) : Int) == 4) = false, (((Exp.kind a0) : Int) == 5) = false, (((Exp.kind a0) : Int) == 6) = false, (((Exp.kind a0) : Int) == 7) = false, (((Exp.kind a0) : Int) == 9) = true, (((Exp.n a0) : Int) == 0) = false, false = false] := by kernel_rfl
theorem p98_e_23 (a0 : Exp) : rE I98 (xAK a0) [F, F, F, F, F, F, F, F, Y, Y, Y] [] = dn (xAI (((Ln (Exp.args a0) : Int) : Int) == 3)) [(((Exp.kind a0) : Int) == 1) = false, (((Exp.kind a0) : Int) == 2) = false, (((Exp.kind a0) : Int) == 3) = false, (((Exp.kind a0) : Int) == 4) = false, (((Exp.kind a0) : Int) == 5) = false, (((Exp.kind a0) : Int) == 6) = false, (((Exp.kind a0) : Int) == 7) = false, (((Exp.kind a0) : Int) == 9) = false, (((Exp.kind a0) : Int) == 8) = true, (((Exp.n a0) : Int) == 0) = true, (((Exp.text a0) : Str) == []) = true] := by kernel_rfl
theorem p98_e_24 (a0 : Exp) : rE I98 (xAK a0) [F, F, F, F, F, F, F, F, Y, Y, F] [] = dn (xAI false) [(((Exp.kind a0) : Int) == 1) = false, (((Exp.kind a0) : Int) == 2) = false, (((Exp.kind a0) : Int) == 3) = false, (((Exp.kind a0) : Int) == 4) = false, (((Exp.kind a0) : Int) == 5) = false, (((Exp.kind a0) : Int) == 6) = false, (((Exp.kind a0) : Int) == 7) = false, (((Exp.kind a0) : Int) == 9) = false, (((Exp.kind a0) : Int) == 8) = true, (((Exp.n a0) : Int) == 0) = true, (((Exp.text a0) : Str) == []) = false] := by kernel_rfl
theorem p98_e_25 (a0 : Exp) : rE I98 (xAK a0) [F, F, F, F, F, F, F, F, Y, F, F] [] = dn (xAI false) [(((Exp.kind a0) : Int) == 1) = false, (((Exp.kind a0) : Int) == 2) = false, (((Exp.kind a0) : Int) == 3) = false, (((Exp.kind a0) : Int) == 4) = false, (((Exp.kind a0) : Int) == 5) = false, (((Exp.kind a0) : Int) == 6) = false, (((Exp.kind a0) : Int) == 7) = false, (((Exp.kind a0) : Int) == 9) = false, (((Exp.kind a0) : Int) == 8) = true, (((Exp.n a0) : Int) == 0) = false, false = false] := by kernel_rfl
theorem p98_e_26 (a0 : Exp) : rE I98 (xAK a0) [F, F, F, F, F, F, F, F, F] [] = dn (xAI false) [(((Exp.kind a0) : Int) == 1) = false, (((Exp.kind a0) : Int) == 2) = false, (((Exp.kind a0) : Int) == 3) = false, (((Exp.kind a0) : Int) == 4) = false, (((Exp.kind a0) : Int) == 5) = false, (((Exp.kind a0) : Int) == 6) = false, (((Exp.kind a0) : Int) == 7) = false, (((Exp.kind a0) : Int) == 9) = false, (((Exp.kind a0) : Int) == 8) = false] := by kernel_rfl
theorem c98_e {N : Nat} : ∀ a0 r, xFF N a0 = some r → RE Tryz.f98 I98 (xAK a0) (xAI r) := fun a0 r h =>
 cE h (fun h0 h => bE h fun r1 h1 h => cE h (fun h2 h => cE h (fun h3 h => dE h fk98 (p98_e_0 a0 r1) (oc h0 (oc (xDq h1) (oc h2 (oc h3 on))))) fun h3 h =>
 dE h fk98 (p98_e_1 a0 r1) (oc h0 (oc (xDq h1) (oc h2 (oc h3 on))))) fun h2 h =>
 dE h fk98 (p98_e_2 a0 r1) (oc h0 (oc (xDq h1) (oc h2 (oc rfl on))))) fun h0 h =>
 cE h (fun h1 h => cE h (fun h2 h => bE h fun r1 h3 h => cE h (fun h4 h => dE h fk98 (p98_e_3 a0 r1) (oc h0 (oc h1 (oc h2 (oc (xDi h3) (oc h4 on)))))) fun h4 h =>
 dE h fk98 (p98_e_4 a0 r1) (oc h0 (oc h1 (oc h2 (oc (xDi h3) (oc h4 on)))))) fun h2 h =>
 dE h fk98 (p98_e_5 a0) (oc h0 (oc h1 (oc h2 (oc rfl on))))) fun h1 h =>
 cE h (fun h2 h => cE h (fun h3 h => bE h fun r1 h4 h => cE h (fun h5 h => dE h fk98 (p98_e_6 a0 r1) (oc h0 (oc h1 (oc h2 (oc h3 (oc (xBk h4) (oc h5 on))))))) fun h5 h =>
 dE h fk98 (p98_e_7 a0 r1) (oc h0 (oc h1 (oc h2 (oc h3 (oc (xBk h4) (oc h5 on))))))) fun h3 h =>
 dE h fk98 (p98_e_8 a0) (oc h0 (oc h1 (oc h2 (oc h3 (oc rfl on)))))) fun h2 h =>
 cE h (fun h3 h => cE h (fun h4 h => cE h (fun h5 h => dE h fk98 (p98_e_9 a0) (oc h0 (oc h1 (oc h2 (oc h3 (oc h4 (oc h5 on))))))) fun h5 h =>
 dE h fk98 (p98_e_10 a0) (oc h0 (oc h1 (oc h2 (oc h3 (oc h4 (oc h5 on))))))) fun h4 h =>
 dE h fk98 (p98_e_11 a0) (oc h0 (oc h1 (oc h2 (oc h3 (oc h4 (oc rfl on))))))) fun h3 h =>
 cE h (fun h4 h => cE h (fun h5 h => bE h fun r1 h6 h => dE h fk98 (p98_e_12 a0 r1) (oc h0 (oc h1 (oc h2 (oc h3 (oc h4 (oc h5 (oc (xC0 h6) on)))))))) fun h5 h =>
 dE h fk98 (p98_e_13 a0) (oc h0 (oc h1 (oc h2 (oc h3 (oc h4 (oc h5 on))))))) fun h4 h =>
 cE h (fun h5 h => bE h fun r1 h6 h => cE h (fun h7 h => cE h (fun h8 h => dE h fk98 (p98_e_14 a0 r1) (oc h0 (oc h1 (oc h2 (oc h3 (oc h4 (oc h5 (oc (xDq h6) (oc h7 (oc h8 on)))))))))) fun h8 h =>
 dE h fk98 (p98_e_15 a0 r1) (oc h0 (oc h1 (oc h2 (oc h3 (oc h4 (oc h5 (oc (xDq h6) (oc h7 (oc h8 on)))))))))) fun h7 h =>
 dE h fk98 (p98_e_16 a0 r1) (oc h0 (oc h1 (oc h2 (oc h3 (oc h4 (oc h5 (oc (xDq h6) (oc h7 (oc rfl on)))))))))) fun h5 h =>
 cE h (fun h6 h => cE h (fun h8 h => bE h fun r1 h9 h => cE h (fun h10 h => dE h fk98 (p98_e_17 a0 r1) (oc h0 (oc h1 (oc h2 (oc h3 (oc h4 (oc h5 (oc h6 (oc h6 (oc h8 (oc (xBk h9) (oc h10 on)))))))))))) fun h10 h =>
 dE h fk98 (p98_e_18 a0 r1) (oc h0 (oc h1 (oc h2 (oc h3 (oc h4 (oc h5 (oc h6 (oc h6 (oc h8 (oc (xBk h9) (oc h10 on)))))))))))) fun h8 h =>
 dE h fk98 (p98_e_19 a0) (oc h0 (oc h1 (oc h2 (oc h3 (oc h4 (oc h5 (oc h6 (oc h6 (oc h8 (oc rfl on))))))))))) fun h6 h =>
 cE h (fun h7 h => cE h (fun h8 h => bE h fun r1 h9 h => cE h (fun h10 h => dE h fk98 (p98_e_20 a0 r1) (oc h0 (oc h1 (oc h2 (oc h3 (oc h4 (oc h5 (oc h6 (oc h7 (oc h8 (oc (xBk h9) (oc h10 on)))))))))))) fun h10 h =>
 dE h fk98 (p98_e_21 a0 r1) (oc h0 (oc h1 (oc h2 (oc h3 (oc h4 (oc h5 (oc h6 (oc h7 (oc h8 (oc (xBk h9) (oc h10 on)))))))))))) fun h8 h =>
 dE h fk98 (p98_e_22 a0) (oc h0 (oc h1 (oc h2 (oc h3 (oc h4 (oc h5 (oc h6 (oc h7 (oc h8 (oc rfl on))))))))))) fun h7 h =>
 cE h (fun h8 h => cE h (fun h9 h => cE h (fun h10 h => dE h fk98 (p98_e_23 a0) (oc h0 (oc h1 (oc h2 (oc h3 (oc h4 (oc h5 (oc h6 (oc h7 (oc h8 (oc h9 (oc h10 on)))))))))))) fun h10 h =>
 dE h fk98 (p98_e_24 a0) (oc h0 (oc h1 (oc h2 (oc h3 (oc h4 (oc h5 (oc h6 (oc h7 (oc h8 (oc h9 (oc h10 on)))))))))))) fun h9 h =>
 dE h fk98 (p98_e_25 a0) (oc h0 (oc h1 (oc h2 (oc h3 (oc h4 (oc h5 (oc h6 (oc h7 (oc h8 (oc h9 (oc rfl on)))))))))))) fun h8 h =>
 dE h fk98 (p98_e_26 a0) (oc h0 (oc h1 (oc h2 (oc h3 (oc h4 (oc h5 (oc h6 (oc h7 (oc h8 on)))))))))
theorem impl_isNode_ok {N : Nat} {a0 : Exp} {r : Bool} (h : xFF N  a0 = some r) : AbC 98 (xAK a0) (xAI r) :=
 AbsCalls.of_reach fk98 rfl rfl (Nat.le_of_ble_eq_true rfl) (c98_e a0 r h)
def G59 (q : Exp → Option (Bool)) : Prop := ∀ a0 r, q a0 = some r → AbC 59 (xDd a0) (xBK r)
noncomputable def I59 : Info := { body := (Tryz.f59.body).getD .skip, nt := 18, results := [.tmp 2], keep := [0, 2, 4, 8, 12, 14, 16, 18, 28, 3, 9], live := [(2, [2, 12, 14, 16, 3])], modes := [(6, [(1, .take, false)])] }
theorem fk59 : FnOk Tryz.prog 59 Tryz.f59 I59 := ⟨Tryz.func59, by kernel_rfl, by kernel_rfl, by kernel_rfl, by kernel_rfl⟩
def S59_2 (x6 : List Exp) (x7 x8 : Int) (b1 : Exp) : St := [(2, .v false [.ptr 1 0]), (12, .v false [.sl .ro .exp x6]), (14, .v false [.int .i64 x7]), (16, .v false [.int .i64 x8]), (3, .v true [.int .i64 (Exp.kind b1), .int .i64 (Exp.n b1), .str (Exp.text b1), .sl .ro .exp (Exp.args b1)])]
theorem p59_2_0 (x6 : List Exp) (x7 x8 : Int) (b1 : Exp) (r1 : Bool) : rS 2 I59 (S59_2 x6 x7 x8 b1) [Y, Y] [xBK r1] = dn (xBK false) [(decide ((x8 : Int) < x7)) = true, (0 : Int) ≤ x8 ∧ x8 < (Ln x6), AbC 59 (xDd (gD x6 (tN x8) Ty.exp.dflt)) (xBK r1), (!r1) = true] := by kernel_rfl
theorem p59_2_1 (x6 : List Exp) (x7 x8 : Int) (b1 : Exp) (r1 : Bool) : rS 2 I59 (S59_2 x6 x7 x8 b1) [Y, F] [xBK r1] = st 2 I59 (S59_2 x6 x7 (W (x8 + 1)) b1) [(decide ((x8 : Int) < x7)) = true, (0 : Int) ≤ x8 ∧ x8 < (Ln x6), AbC 59 (xDd (gD x6 (tN x8) Ty.exp.dflt)) (xBK r1), (!r1) = false] := by kernel_rfl
theorem p59_2_2 (x6 : List Exp) (x7 x8 : Int) (b1 : Exp) (r1 : Bool) : rS 2 I59 (S59_2 x6 x7 x8 b1) [F] [xAI r1] = dn (xBK r1) [(decide ((x8 : Int) < x7)) = false, AbC 98 (xAK b1) (xAI r1)] := by kernel_rfl
theorem p59_e_3 (a0 : Exp) : rE I59 (xDd a0) [] [] = st 2 I59 (S59_2 (Exp.args a0) (Ln (Exp.args a0) : Int) 0 a0) [] := by kernel_rfl
theorem c59_2 {N : Nat} {q0 : Exp → Option (Bool)} (g0 : G59 q0) : ∀ n x6 x7 x8 b1 r, xDD N q0 n x6 x7 x8 b1 = some r → RS Tryz.f59 I59 2 (S59_2 x6 x7 x8 b1) (xBK r) := by
 intro n
 induction n with
 | zero => exact fun _ _ _ _ _ h => nE h
 | succ n ih =>
  exact fun x6 x7 x8 b1 r h =>
   cE h (fun h0 h => iE h fun h1 h => bE h fun r1 h2 h => cE h (fun h3 h => dS h fk59 (p59_2_0 x6 x7 x8 b1 r1) (oc h0 (oc h1 (oc (g0 _ _ h2) (oc h3 on))))) fun h3 h =>
   tS fk59 (p59_2_1 x6 x7 x8 b1 r1) (oc h0 (oc h1 (oc (g0 _ _ h2) (oc h3 on)))) (ih _ _ _ _ _ h)) fun h0 h =>
   bE h fun r1 h1 h => dS h fk59 (p59_2_2 x6 x7 x8 b1 r1) (oc h0 (oc (impl_isNode_ok h1) on))
theorem c59_e {N : Nat} {q0 : Exp → Option (Bool)} (g0 : G59 q0) : ∀ a0 r, xE6 N q0 a0 = some r → RE Tryz.f59 I59 (xDd a0) (xBK r) := fun a0 r h =>
 tE fk59 (p59_e_3 a0) on (c59_2 g0 _ _ _ _ _ _ h)
theorem xGz {N : Nat} {q0 : Exp → Option (Bool)} (g0 : G59 q0) {a0 : Exp} {r : Bool} (h : xE6 N q0 a0 = some r) : AbC 59 (xDd a0) (xBK r) :=
 AbsCalls.of_reach fk59 rfl rfl (Nat.le_of_ble_eq_true rfl) (c59_e g0 a0 r h)
theorem xFt {N : Nat} : ∀ d, G59 (xEb N d)
 | 0 => fun _ _ h => nE h
 | d + 1 => fun _ _ h => xGz (N := N) (xFt d) h
theorem impl_areNodes_ok {N : Nat} {a0 : Exp} {r : Bool} (h : xGh N a0 = some r) : AbC 59 (xDd a0) (xBK r) := xFt N _ r h
noncomputable def I32 : Info := { body := (Tryz.f32.body).getD .skip, nt := 15, results := [.tmp 2], keep := [0, 2, 4, 3], live := [], modes := [(1, [(3, .take, false), (8, .take, false)])] }
theorem fk32 : FnOk Tryz.prog 32 Tryz.f32 I32 := ⟨Tryz.func32, by kernel_rfl, by kernel_rfl, by kernel_rfl, by kernel_rfl⟩
theorem p32_e_0 (a0 : Exp) (r1 r2 : Int) (r3 : Bool) : rE I32 (xBD a0) [Y, Y] [xBq r1, xBI r2, xBK r3] = dn (xAV r3) [AbC 57 (xCF a0) (xBq r1), (decide ((r1 : Int) ≤ 40)) = true, AbC 58 (xC1 a0) (xBI r2), (decide ((r2 : Int) ≤ 8)) = true, AbC 59 (xDd a0) (xBK r3)] := by kernel_rfl
theorem p32_e_1 (a0 : Exp) (r1 r2 : Int) : rE I32 (xBD a0) [Y, F] [xBq r1, xBI r2] = dn (xAV false) [AbC 57 (xCF a0) (xBq r1), (decide ((r1 : Int) ≤ 40)) = true, AbC 58 (xC1 a0) (xBI r2), (decide ((r2 : Int) ≤ 8)) = false] := by kernel_rfl
theorem p32_e_2 (a0 : Exp) (r1 : Int) : rE I32 (xBD a0) [F, F] [xBq r1] = dn (xAV false) [AbC 57 (xCF a0) (xBq r1), (decide ((r1 : Int) ≤ 40)) = false, false = false] := by kernel_rfl
theorem c32_e {N : Nat} : ∀ a0 r, xCT N a0 = some r → RE Tryz.f32 I32 (xBD a0) (xAV r) := fun a0 r h =>
 bE h fun r1 h0 h => cE h (fun h1 h => bE h fun r2 h2 h => cE h (fun h3 h => bE h fun r3 h4 h => dE h fk32 (p32_e_0 a0 r1 r2 r3) (oc (xFf h0) (oc h1 (oc (xF5 h2) (oc h3 (oc (impl_areNodes_ok h4) on)))))) fun h3 h =>
 dE h fk32 (p32_e_1 a0 r1 r2) (oc (xFf h0) (oc h1 (oc (xF5 h2) (oc h3 on))))) fun h1 h =>
 dE h fk32 (p32_e_2 a0 r1) (oc (xFf h0) (oc h1 (oc rfl on)))
theorem xDh {N : Nat} {a0 : Exp} {r : Bool} (h : xCT N  a0 = some r) : AbC 32 (xBD a0) (xAV r) :=
 AbsCalls.of_reach fk32 rfl rfl (Nat.le_of_ble_eq_true rfl) (c32_e a0 r h)
noncomputable def I12 : Info := { body := (Tryz.f12.body).getD .skip, nt := 72, results := [.cell 2 25, .tmp 3], keep := [0, 4, 6, 8, 10, 12, 14, 28, 70, 98, 114, 138, 5, 15, 39], live := [], modes := [(1, [(2, .take, false)]), (6, [(5, .take, false)]), (14, [(0, .take, false)])] }
theorem fk12 : FnOk Tryz.prog 12 Tryz.f12 I12 := ⟨Tryz.func12, by kernel_rfl, by kernel_rfl, by kernel_rfl, by kernel_rfl⟩
theorem p12_e_0 (a0 : Str) (r1 : (List Tok) × Int) : rE I12 (xAx a0) [Y] [xAt r1] = dn (xAg ((Exp.mk 0 0 [] []), r1.2)) [AbC 30 (xBf a0) (xAt r1), (decide ((r1.2 : Int) ≥ 0)) = true] := by kernel_rfl
theorem p12_e_1 (a0 : Str) (r1 : (List Tok) × Int) (r2 : Exp × Psr) : rE I12 (xAx a0) [F, Y, Y, Y] [xAt r1, xAe r2] = dn (xAg ((Exp.mk 0 0 [] []), (Ln a0 : Int))) [AbC 30 (xBf a0) (xAt r1), (decide ((r1.2 : Int) ≥ 0)) = false, AbC 31 (xAl (Psr.mk r1.1 0 (-1))) (xAe r2), (decide (((Psr.bad r2.2) : Int) < 0)) = true, (decide (((Psr.pos r2.2) : Int) < (Ln r1.1 : Int))) = true, (decide (((Psr.pos r2.2) : Int) ≥ (Ln r1.1 : Int))) = true] := by kernel_rfl
theorem p12_e_2 (a0 : Str) (r1 : (List Tok) × Int) (r2 : Exp × Psr) : rE I12 (xAx a0) [F, Y, Y, F, Y] [xAt r1, xAe r2] = dn (xAg ((Exp.mk 0 0 [] []), (Tok.pos (gD r1.1 (tN (Psr.pos r2.2)) Ty.tok.dflt)))) [AbC 30 (xBf a0) (xAt r1), (decide ((r1.2 : Int) ≥ 0)) = false, AbC 31 (xAl (Psr.mk r1.1 0 (-1))) (xAe r2), (decide (((Psr.bad r2.2) : Int) < 0)) = true, (decide (((Psr.pos r2.2) : Int) < (Ln r1.1 : Int))) = true, (decide (((Psr.pos r2.2) : Int) ≥ (Ln r1.1 : Int))) = false, (decide (((Psr.pos r2.2) : Int) ≥ 0)) = true, (0 : Int) ≤ (Psr.pos r2.2) ∧ (Psr.pos r2.2) < (Ln r1.1)] := by kernel_rfl
theorem p12_e_3 (a0 : Str) (r1 : (List Tok) × Int) (r2 : Exp × Psr) (r3 : Bool) : rE I12 (xAx a0) [F, Y, Y, F, F, Y] [xAt r1, xAe r2, xAV r3] = dn (xAg ((Exp.mk 0 0 [] []), 0)) [AbC 30 (xBf a0) (xAt r1), (decide ((r1.2 : Int) ≥ 0)) = false, AbC 31 (xAl (Psr.mk r1.1 0 (-1))) (xAe r2), (decide (((Psr.bad r2.2) : Int) < 0)) = true, (decide (((Psr.pos r2.2) : Int) < (Ln r1.1 : Int))) = true, (decide (((Psr.pos r2.2) : Int) ≥ (Ln r1.1 : Int))) = false, (decide (((Psr.pos r2.2) : Int) ≥ 0)) = false, AbC 32 (xBD r2.1) (xAV r3), (!r3) = true] := by kernel_rfl
theorem p12_e_4 (a0 : Str) (r1 : (List Tok) × Int) (r2 : Exp × Psr) (r3 : Bool) : rE I12 (xAx a0) [F, Y, Y, F, F, F] [xAt r1, xAe r2, xAV r3] = dn (xAg (r2.1, (-1))) [AbC 30 (xBf a0) (xAt r1), (decide ((r1.2 : Int) ≥ 0)) = false, AbC 31 (xAl (Psr.mk r1.1 0 (-1))) (xAe r2), (decide (((Psr.bad r2.2) : Int) < 0)) = true, (decide (((Psr.pos r2.2) : Int) < (Ln r1.1 : Int))) = true, (decide (((Psr.pos r2.2) : Int) ≥ (Ln r1.1 : Int))) = false, (decide (((Psr.pos r2.2) : Int) ≥ 0)) = false, AbC 32 (xBD r2.1) (xAV r3), (!r3) = false] := by kernel_rfl
theorem p12_e_5 (a0 : Str) (r1 : (List Tok) × Int) (r2 : Exp × Psr) : rE I12 (xAx a0) [F, Y, F, Y] [xAt r1, xAe r2] = dn (xAg ((Exp.mk 0 0 [] []), (Ln a0 : Int))) [AbC 30 (xBf a0) (xAt r1), (decide ((r1.2 : Int) ≥ 0)) = false, AbC 31 (xAl (Psr.mk r1.1 0 (-1))) (xAe r2), (decide (((Psr.bad r2.2) : Int) < 0)) = true, (decide (((Psr.pos r2.2) : Int) < (Ln r1.1 : Int))) = false, (decide (((Psr.bad r2.2) : Int) ≥ (Ln r1.1 : Int))) = true] := by kernel_rfl
theorem p12_e_6 (a0 : Str) (r1 : (List Tok) × Int) (r2 : Exp × Psr) : rE I12 (xAx a0) [F, Y, F, F, Y] [xAt r1, xAe r2] = dn (xAg ((Exp.mk 0 0 [] []), (Tok.pos (gD r1.1 (tN (Psr.bad r2.2)) Ty.tok.dflt)))) [AbC 30 (xBf a0) (xAt r1), (decide ((r1.2 : Int) ≥ 0)) = false, AbC 31 (xAl (Psr.mk r1.1 0 (-1))) (xAe r2), (decide (((Psr.bad r2.2) : Int) < 0)) = true, (decide (((Psr.pos r2.2) : Int) < (Ln r1.1 : Int))) = false, (decide (((Psr.bad r2.2) : Int) ≥ (Ln r1.1 : Int))) = false, (decide (((Psr.bad r2.2) : Int) ≥ 0)) = true, (0 : Int) ≤ (Psr.bad r2.2) ∧ (Psr.bad r2.2) < (Ln r1.1)] := by kernel_rfl
theorem p12_e_7 (a0 : Str) (r1 : (List Tok) × Int) (r2 : Exp × Psr) (r3 : Bool) : rE I12 (xAx a0) [F, Y, F, F, F, Y] [xAt r1, xAe r2, xAV r3] = dn (xAg ((Exp.mk 0 0 [] []), 0)) [AbC 30 (xBf a0) (xAt r1), (decide ((r1.2 : Int) ≥ 0)) = false, AbC 31 (xAl (Psr.mk r1.1 0 (-1))) (xAe r2), (decide (((Psr.bad r2.2) : Int) < 0)) = true, (decide (((Psr.pos r2.2) : Int) < (Ln r1.1 : Int))) = false, (decide (((Psr.bad r2.2) : Int) ≥ (Ln r1.1 : Int))) = false, (decide (((Psr.bad r2.2) : Int) ≥ 0)) = false, AbC 32 (xBD r2.1) (xAV r3), (!r3) = true] := by kernel_rfl
theorem p12_e_8 (a0 : Str) (r1 : (List Tok) × Int) (r2 : Exp × Psr) (r3 : Bool) : rE I12 (xAx a0) [F, Y, F, F, F, F] [xAt r1, xAe r2, xAV r3] = dn (xAg (r2.1, (-1))) [AbC 30 (xBf a0) (xAt r1), (decide ((r1.2 : Int) ≥ 0)) = false, AbC 31 (xAl (Psr.mk r1.1 0 (-1))) (xAe r2), (decide (((Psr.bad r2.2) : Int) < 0)) = true, (decide (((Psr.pos r2.2) : Int) < (Ln r1.1 : Int))) = false, (decide (((Psr.bad r2.2) : Int) ≥ (Ln r1.1 : Int))) = false, (decide (((Psr.bad r2.2) : Int) ≥ 0)) = false, AbC 32 (xBD r2.1) (xAV r3), (!r3) = false] := by kernel_rfl
theorem p12_e_9 (a0 : Str) (r1 : (List Tok) × Int) (r2 : Exp × Psr) : rE I12 (xAx a0) [F, F, F, Y] [xAt r1, xAe r2] = dn (xAg ((Exp.mk 0 0 [] []), (Ln a0 : Int))) [AbC 30 (xBf a0) (xAt r1), (decide ((r1.2 : Int) ≥ 0)) = false, AbC 31 (xAl (Psr.mk r1.1 0 (-1))) (xAe r2), (decide (((Psr.bad r2.2) : Int) < 0)) = false, false = false, (decide (((Psr.bad r2.2) : Int) ≥ (Ln r1.1 : Int))) = true] := by kernel_rfl
theorem p12_e_10 (a0 : Str) (r1 : (List Tok) × Int) (r2 : Exp × Psr) : rE I12 (xAx a0) [F, F, F, F, Y] [xAt r1, xAe r2] = dn (xAg ((Exp.mk 0 0 [] []), (Tok.pos (gD r1.1 (tN (Psr.bad r2.2)) Ty.tok.dflt)))) [AbC 30 (xBf a0) (xAt r1), (decide ((r1.2 : Int) ≥ 0)) = false, AbC 31 (xAl (Psr.mk r1.1 0 (-1))) (xAe r2), (decide (((Psr.bad r2.2) : Int) < 0)) = false, false = false, (decide (((Psr.bad r2.2) : Int) ≥ (Ln r1.1 : Int))) = false, (decide (((Psr.bad r2.2) : Int) ≥ 0)) = true, (0 : Int) ≤ (Psr.bad r2.2) ∧ (Psr.bad r2.2) < (Ln r1.1)] := by kernel_rfl
theorem p12_e_11 (a0 : Str) (r1 : (List Tok) × Int) (r2 : Exp × Psr) (r3 : Bool) : rE I12 (xAx a0) [F, F, F, F, F, Y] [xAt r1, xAe r2, xAV r3] = dn (xAg ((Exp.mk 0 0 [] []), 0)) [AbC 30 (xBf a0) (xAt r1), (decide ((r1.2 : Int) ≥ 0)) = false, AbC 31 (xAl (Psr.mk r1.1 0 (-1))) (xAe r2), (decide (((Psr.bad r2.2) : Int) < 0)) = false, false = false, (decide (((Psr.bad r2.2) : Int) ≥ (Ln r1.1 : Int))) = false, (decide (((Psr.bad r2.2) : Int) ≥ 0)) = false, AbC 32 (xBD r2.1) (xAV r3), (!r3) = true] := by kernel_rfl
theorem p12_e_12 (a0 : Str) (r1 : (List Tok) × Int) (r2 : Exp × Psr) (r3 : Bool) : rE I12 (xAx a0) [F, F, F, F, F, F] [xAt r1, xAe r2, xAV r3] = dn (xAg (r2.1, (-1))) [AbC 30 (xBf a0) (xAt r1), (decide ((r1.2 : Int) ≥ 0)) = false, AbC 31 (xAl (Psr.mk r1.1 0 (-1))) (xAe r2), (decide (((Psr.bad r2.2) : Int) < 0)) = false, false = false, (decide (((Psr.bad r2.2) : Int) ≥ (Ln r1.1 : Int))) = false, (decide (((Psr.bad r2.2) : Int) ≥ 0)) = false, AbC 32 (xBD r2.1) (xAV r3), (!r3) = false] := by kernel_rfl
theorem c12_e {N : Nat} : ∀ a0 r, xDI N a0 = some r → RE Tryz.f12 I12 (xAx a0) (xAg r) := fun a0 r h =>
 bE h fun r1 h0 h => cE h (fun h1 h => dE h fk12 (p12_e_0 a0 r1) (oc (xBJ h0) (oc h1 on))) fun h1 h =>
 bE h fun r2 h2 h => cE h (fun h3 h => cE h (fun h4 h => cE h (fun h5 h => dE h fk12 (p12_e_1 a0 r1 r2) (oc (xBJ h0) (oc h1 (oc (xBt h2) (oc h3 (oc h4 (oc h5 on))))))) fun h5 h =>
 cE h (fun h6 h => iE h fun h7 h => dE h fk12 (p12_e_2 a0 r1 r2) (oc (xBJ h0) (oc h1 (oc (xBt h2) (oc h3 (oc h4 (oc h5 (oc h6 (oc h7 on))))))))) fun h6 h =>
 bE h fun r3 h7 h => cE h (fun h8 h => dE h fk12 (p12_e_3 a0 r1 r2 r3) (oc (xBJ h0) (oc h1 (oc (xBt h2) (oc h3 (oc h4 (oc h5 (oc h6 (oc (xDh h7) (oc h8 on)))))))))) fun h8 h =>
 dE h fk12 (p12_e_4 a0 r1 r2 r3) (oc (xBJ h0) (oc h1 (oc (xBt h2) (oc h3 (oc h4 (oc h5 (oc h6 (oc (xDh h7) (oc h8 on)))))))))) fun h4 h =>
 cE h (fun h5 h => dE h fk12 (p12_e_5 a0 r1 r2) (oc (xBJ h0) (oc h1 (oc (xBt h2) (oc h3 (oc h4 (oc h5 on))))))) fun h5 h =>
 cE h (fun h6 h => iE h fun h7 h => dE h fk12 (p12_e_6 a0 r1 r2) (oc (xBJ h0) (oc h1 (oc (xBt h2) (oc h3 (oc h4 (oc h5 (oc h6 (oc h7 on))))))))) fun h6 h =>
 bE h fun r3 h7 h => cE h (fun h8 h => dE h fk12 (p12_e_7 a0 r1 r2 r3) (oc (xBJ h0) (oc h1 (oc (xBt h2) (oc h3 (oc h4 (oc h5 (oc h6 (oc (xDh h7) (oc h8 on)))))))))) fun h8 h =>
 dE h fk12 (p12_e_8 a0 r1 r2 r3) (oc (xBJ h0) (oc h1 (oc (xBt h2) (oc h3 (oc h4 (oc h5 (oc h6 (oc (xDh h7) (oc h8 on)))))))))) fun h3 h =>
 cE h (fun h5 h => dE h fk12 (p12_e_9 a0 r1 r2) (oc (xBJ h0) (oc h1 (oc (xBt h2) (oc h3 (oc rfl (oc h5 on))))))) fun h5 h =>
 cE h (fun h6 h => iE h fun h7 h => dE h fk12 (p12_e_10 a0 r1 r2) (oc (xBJ h0) (oc h1 (oc (xBt h2) (oc h3 (oc rfl (oc h5 (oc h6 (oc h7 on))))))))) fun h6 h =>
 bE h fun r3 h7 h => cE h (fun h8 h => dE h fk12 (p12_e_11 a0 r1 r2 r3) (oc (xBJ h0) (oc h1 (oc (xBt h2) (oc h3 (oc rfl (oc h5 (oc h6 (oc (xDh h7) (oc h8 on)))))))))) fun h8 h =>
 dE h fk12 (p12_e_12 a0 r1 r2 r3) (oc (xBJ h0) (oc h1 (oc (xBt h2) (oc h3 (oc rfl (oc h5 (oc h6 (oc (xDh h7) (oc h8 on)))))))))
theorem xBr {N : Nat} {a0 : Str} {r : Exp × Int} (h : xDI N  a0 = some r) : AbC 12 (xAx a0) (xAg r) :=
 AbsCalls.of_reach fk12 rfl rfl (Nat.le_of_ble_eq_true rfl) (c12_e a0 r h)
def G13 (q : Exp → Exp → Option (Bool)) : Prop := ∀ a0 a1 r, q a0 a1 = some r → AbC 13 (xA0 a0 a1) (xAs r)
def G33 (q : (List Exp) → (List Exp) → Option (Bool)) : Prop := ∀ a0 a1 r, q a0 a1 = some r → AbC 33 (xDS a0 a1) (xCv r)
noncomputable def I13 : Info := { body := (Tryz.f13.body).getD .skip, nt := 26, results := [.tmp 4], keep := [0, 2, 4, 6, 8, 18, 28, 38, 50, 5, 7], live := [], modes := [] }
theorem fk13 : FnOk Tryz.prog 13 Tryz.f13 I13 := ⟨Tryz.func13, by kernel_rfl, by kernel_rfl, by kernel_rfl, by kernel_rfl⟩
theorem p13_e_0 (a0 a1 : Exp) : rE I13 (xA0 a0 a1) [Y] [] = dn (xAs false) [(((Exp.kind a0) : Int) != (Exp.kind a1)) = true] := by kernel_rfl
theorem p13_e_1 (a0 a1 : Exp) : rE I13 (xA0 a0 a1) [F, Y] [] = dn (xAs false) [(((Exp.kind a0) : Int) != (Exp.kind a1)) = false, (((Exp.n a0) : Int) != (Exp.n a1)) = true] := by kernel_rfl
theorem p13_e_2 (a0 a1 : Exp) : rE I13 (xA0 a0 a1) [F, F, Y] [] = dn (xAs false) [(((Exp.kind a0) : Int) != (Exp.kind a1)) = false, (((Exp.n a0) : Int) != (Exp.n a1)) = false, (!(((Exp.text a0) : Str) == (Exp.text a1))) = true] := by kernel_rfl
theorem p13_e_3 (a0 a1 : Exp) (r1 : Bool) : rE I13 (xA0 a0 a1) [F, F, F, Y] [xCv r1] = dn (xAs false) [(((Exp.kind a0) : Int) != (Exp.kind a1)) = false, (((Exp.n a0) : Int) != (Exp.n a1)) = false, (!(((Exp.text a0) : Str) == (Exp.text a1))) = false, AbC 33 (xDS (Exp.args a0) (Exp.args a1)) (xCv r1), (!r1) = true] := by kernel_rfl
theorem p13_e_4 (a0 a1 : Exp) (r1 : Bool) : rE I13 (xA0 a0 a1) [F, F, F, F] [xCv r1] = dn (xAs true) [(((Exp.kind a0) : Int) != (Exp.kind a1)) = false, (((Exp.n a0) : Int) != (Exp.n a1)) = false, (!(((Exp.text a0) : Str) == (Exp.text a1))) = false, AbC 33 (xDS (Exp.args a0) (Exp.args a1)) (xCv r1), (!r1) = false] := by kernel_rfl
theorem c13_e {N : Nat} {q0 : Exp → Exp → Option (Bool)} (g0 : G13 q0) {q1 : (List Exp) → (List Exp) → Option (Bool)} (g1 : G33 q1) : ∀ a0 a1 r, xEp N q0 q1 a0 a1 = some r → RE Tryz.f13 I13 (xA0 a0 a1) (xAs r) := fun a0 a1 r h =>
 cE h (fun h0 h => dE h fk13 (p13_e_0 a0 a1) (oc h0 on)) fun h0 h =>
 cE h (fun h1 h => dE h fk13 (p13_e_1 a0 a1) (oc h0 (oc h1 on))) fun h1 h =>
 cE h (fun h2 h => dE h fk13 (p13_e_2 a0 a1) (oc h0 (oc h1 (oc h2 on)))) fun h2 h =>
 bE h fun r1 h3 h => cE h (fun h4 h => dE h fk13 (p13_e_3 a0 a1 r1) (oc h0 (oc h1 (oc h2 (oc (g1 _ _ _ h3) (oc h4 on)))))) fun h4 h =>
 dE h fk13 (p13_e_4 a0 a1 r1) (oc h0 (oc h1 (oc h2 (oc (g1 _ _ _ h3) (oc h4 on)))))
theorem xGT {N : Nat} {q0 : Exp → Exp → Option (Bool)} (g0 : G13 q0) {q1 : (List Exp) → (List Exp) → Option (Bool)} (g1 : G33 q1) {a0 : Exp} {a1 : Exp} {r : Bool} (h : xEp N q0 q1 a0 a1 = some r) : AbC 13 (xA0 a0 a1) (xAs r) :=
 AbsCalls.of_reach fk13 rfl rfl (Nat.le_of_ble_eq_true rfl) (c13_e g0 g1 a0 a1 r h)
noncomputable def I33 : Info := { body := (Tryz.f33.body).getD .skip, nt := 27, results := [.tmp 4], keep := [0, 2, 8, 10, 20, 28, 52], live := [(4, [0, 2, 10])], modes := [] }
theorem fk33 : FnOk Tryz.prog 33 Tryz.f33 I33 := ⟨Tryz.func33, by kernel_rfl, by kernel_rfl, by kernel_rfl, by kernel_rfl⟩
def S33_4 (x0 x1 : List Exp) (x5 : Int) : St := [(0, .v false [.sl .ro .exp x0]), (2, .v false [.sl .ro .exp x1]), (10, .v false [.int .i64 x5])]
theorem p33_4_0 (x0 x1 : List Exp) (x5 : Int) (r1 : Bool) : rS 4 I33 (S33_4 x0 x1 x5) [Y, Y] [xAs r1] = dn (xCv false) [(decide ((x5 : Int) < (Ln x0 : Int))) = true, (0 : Int) ≤ x5 ∧ x5 < (Ln x0), (0 : Int) ≤ x5 ∧ x5 < (Ln x1), AbC 13 (xA0 (gD x0 (tN x5) Ty.exp.dflt) (gD x1 (tN x5) Ty.exp.dflt)) (xAs r1), (!r1) = true] := by kernel_rfl
theorem p33_4_1 (x0 x1 : List Exp) (x5 : Int) (r1 : Bool) : rS 4 I33 (S33_4 x0 x1 x5) [Y, F] [xAs r1] = st 4 I33 (S33_4 x0 x1 (W (x5 + 1))) [(decide ((x5 : Int) < (Ln x0 : Int))) = true, (0 : Int) ≤ x5 ∧ x5 < (Ln x0), (0 : Int) ≤ x5 ∧ x5 < (Ln x1), AbC 13 (xA0 (gD x0 (tN x5) Ty.exp.dflt) (gD x1 (tN x5) Ty.exp.dflt)) (xAs r1), (!r1) = false] := by kernel_rfl
theorem p33_4_2 (x0 x1 : List Exp) (x5 : Int) : rS 4 I33 (S33_4 x0 x1 x5) [F] [] = dn (xCv true) [(decide ((x5 : Int) < (Ln x0 : Int))) = false] := by kernel_rfl
theorem p33_e_3 (a0 a1 : List Exp) : rE I33 (xDS a0 a1) [Y] [] = dn (xCv false) [(((Ln a0 : Int) : Int) != (Ln a1 : Int)) = true] := by kernel_rfl
theorem p33_e_4 (a0 a1 : List Exp) : rE I33 (xDS a0 a1) [F] [] = st 4 I33 (S33_4 a0 a1 0) [(((Ln a0 : Int) : Int) != (Ln a1 : Int)) = false] := by kernel_rfl
theorem c33_4 {N : Nat} {q0 : Exp → Exp → Option (Bool)} (g0 : G13 q0) {q1 : (List Exp) → (List Exp) → Option (Bool)} (g1 : G33 q1) : ∀ n x0 x1 x5 r, xEc N q0 q1 n x0 x1 x5 = some r → RS Tryz.f33 I33 4 (S33_4 x0 x1 x5) (xCv r) := by
 intro n
 induction n with
 | zero => exact fun _ _ _ _ h => nE h
 | succ n ih =>
  exact fun x0 x1 x5 r h =>
   cE h (fun h0 h => iE h fun h1 h => iE h fun h2 h => bE h fun r1 h3 h => cE h (fun h4 h => dS h fk33 (p33_4_0 x0 x1 x5 r1) (oc h0 (oc h1 (oc h2 (oc (g0 _ _ _ h3) (oc h4 on)))))) fun h4 h =>
   tS fk33 (p33_4_1 x0 x1 x5 r1) (oc h0 (oc h1 (oc h2 (oc (g0 _ _ _ h3) (oc h4 on))))) (ih _ _ _ _ h)) fun h0 h =>
   dS h fk33 (p33_4_2 x0 x1 x5) (oc h0 on)
theorem c33_e {N : Nat} {q0 : Exp → Exp → Option (Bool)} (g0 : G13 q0) {q1 : (List Exp) → (List Exp) → Option (Bool)} (g1 : G33 q1) : ∀ a0 a1 r, xEd N q0 q1 a0 a1 = some r → RE Tryz.f33 I33 (xDS a0 a1) (xCv r) := fun a0 a1 r h =>
 cE h (fun h0 h => dE h fk33 (p33_e_3 a0 a1) (oc h0 on)) fun h0 h =>
 tE fk33 (p33_e_4 a0 a1) (oc h0 on) (c33_4 g0 g1 _ _ _ _ _ h)
theorem xGI {N : Nat} {q0 : Exp → Exp → Option (Bool)} (g0 : G13 q0) {q1 : (List Exp) → (List Exp) → Option (Bool)} (g1 : G33 q1) {a0 : List Exp} {a1 : List Exp} {r : Bool} (h : xEd N q0 q1 a0 a1 = some r) : AbC 33 (xDS a0 a1) (xCv r) :=
 AbsCalls.of_reach fk33 rfl rfl (Nat.le_of_ble_eq_true rfl) (c33_e g0 g1 a0 a1 r h)
theorem laws_eqExpr_fix_ok {N : Nat} : ∀ d, G13 (xB4 N d).c_laws_eqExpr ∧ G33 (xB4 N d).c_laws_eqExprS := by
 intro d
 induction d with
 | zero => exact ⟨fun _ _ _ h => nE h, fun _ _ _ h => nE h⟩
 | succ d ih =>
  obtain ⟨ih0, ih1⟩ := ih
  exact ⟨fun _ _ _ h => xGT (N := N) ih0 ih1 h, fun _ _ _ h => xGI (N := N) ih0 ih1 h⟩
theorem xB9 {N : Nat} {a0 : Exp} {a1 : Exp} {r : Bool} (h : xGm N a0 a1 = some r) : AbC 13 (xA0 a0 a1) (xAs r) := (laws_eqExpr_fix_ok N).1 _ _ r h
noncomputable def I60 : Info := { body := (Tryz.f60.body).getD .skip, nt := 20, results := [.tmp 2], keep := [0, 4, 6, 10, 14], live := [(4, [0, 6])], modes := [] }
theorem fk60 : FnOk Tryz.prog 60 Tryz.f60 I60 := ⟨Tryz.func60, by kernel_rfl, by kernel_rfl, by kernel_rfl, by kernel_rfl⟩
def S60_4 (x0 : Int) (x3 : Str) : St := [(0, .v false [.int .i64 x0]), (6, .v false [.str x3])]
theorem p60_4_0 (x0 : Int) (x3 : Str) : rS 4 I60 (S60_4 x0 x3) [Y] [] = st 4 I60 (S60_4 (W (Int.tdiv x0 10)) ((List.map (fun n => UInt8.ofNat (tN n)) [(IntKind.u8.wrap ((W (48 + (Int.tmod x0 10)))))]) ++ x3)) [(decide ((x0 : Int) > 0)) = true, 10 ≠ (0 : Int), Ln (List.map (fun n => UInt8.ofNat (tN n)) [(IntKind.u8.wrap ((W (48 + (Int.tmod x0 10)))))]) + Ln x3 ≤ Lim, 10 ≠ (0 : Int)] := by kernel_rfl
theorem p60_4_1 (x0 : Int) (x3 : Str) : rS 4 I60 (S60_4 x0 x3) [F] [] = dn (xBL ([109] ++ x3)) [(decide ((x0 : Int) > 0)) = false, Ln [109] + Ln x3 ≤ Lim] := by kernel_rfl
theorem p60_e_2 (a0 : Int) : rE I60 (xDe a0) [Y] [] = dn (xBL [109, 48]) [(decide ((a0 : Int) ≤ 0)) = true] := by kernel_rfl
theorem p60_e_3 (a0 : Int) : rE I60 (xDe a0) [F] [] = st 4 I60 (S60_4 a0 []) [(decide ((a0 : Int) ≤ 0)) = false] := by kernel_rfl
theorem c60_4 {N : Nat} : ∀ n x0 x3 r, xDW N n x0 x3 = some r → RS Tryz.f60 I60 4 (S60_4 x0 x3) (xBL r) := by
 intro n
 induction n with
 | zero => exact fun _ _ _ h => nE h
 | succ n ih =>
  exact fun x0 x3 r h =>
   cE h (fun h0 h => iE h fun h2 h => tS fk60 (p60_4_0 x0 x3) (oc h0 (oc (by decide) (oc h2 (oc (by decide) on)))) (ih _ _ _ h)) fun h0 h =>
   iE h fun h1 h => dS h fk60 (p60_4_1 x0 x3) (oc h0 (oc h1 on))
theorem c60_e {N : Nat} : ∀ a0 r, xEF N a0 = some r → RE Tryz.f60 I60 (xDe a0) (xBL r) := fun a0 r h =>
 cE h (fun h0 h => dE h fk60 (p60_e_2 a0) (oc h0 on)) fun h0 h =>
 tE fk60 (p60_e_3 a0) (oc h0 on) (c60_4 _ _ _ _ h)
theorem xEQ {N : Nat} {a0 : Int} {r : Str} (h : xEF N  a0 = some r) : AbC 60 (xDe a0) (xBL r) :=
 AbsCalls.of_reach fk60 rfl rfl (Nat.le_of_ble_eq_true rfl) (c60_e a0 r h)
def G34 (q : (List Exp) → Int → Option (Int × (List Exp))) : Prop := ∀ a0 a1 r, q a0 a1 = some r → AbC 34 (xDk a0 a1) (xCg r)
noncomputable def I34 : Info := { body := (Tryz.f34.body).getD .skip, nt := 42, results := [.tmp 4], keep := [0, 2, 8, 10, 18], live := [(2, [0, 2, 10])], modes := [(4, [(0, .ref, false)]), (6, [(0, .ref, false)]), (8, [(0, .ref, false)]), (10, [(0, .ref, false), (4, .ref, false), (6, .ref, false)])], lnt := [(0, 0)] }
theorem fk34 : FnOk Tryz.prog 34 Tryz.f34 I34 := ⟨Tryz.func34, by kernel_rfl, by kernel_rfl, by kernel_rfl, by kernel_rfl⟩
def S34_2 (x0 : List Exp) (x1 x5 : Int) : St := [(0, .v false [.sl (.lnt 0) .exp x0]), (2, .v false [.int .i64 x1]), (10, .v false [.int .i64 x5])]
theorem p34_2_0 (x0 : List Exp) (x1 x5 : Int) (r1 : Str) (r2 : Int × (List Exp)) : rS 2 I34 (S34_2 x0 x1 x5) [Y] [xBL r1, xCg r2] = st 2 I34 (S34_2 ((fun (z10 : List Exp) => List.set z10 (tN x5) (Exp.mk (Exp.kind (gD z10 (tN x5) Ty.exp.dflt)) (Exp.n (gD z10 (tN x5) Ty.exp.dflt)) (Exp.text (gD z10 (tN x5) Ty.exp.dflt)) r2.2)) ((fun (z9 : List Exp) => List.set z9 (tN x5) (Exp.mk (Exp.kind (gD z9 (tN x5) Ty.exp.dflt)) (Exp.n (gD z9 (tN x5) Ty.exp.dflt)) r1 (Exp.args (gD z9 (tN x5) Ty.exp.dflt)))) ((fun (z8 : List Exp) => List.set z8 (tN x5) (Exp.mk (Exp.kind (gD z8 (tN x5) Ty.exp.dflt)) (W (x1 + 1)) (Exp.text (gD z8 (tN x5) Ty.exp.dflt)) (Exp.args (gD z8 (tN x5) Ty.exp.dflt)))) (List.set x0 (tN x5) (Exp.mk x1 (Exp.n (gD x0 (tN x5) Ty.exp.dflt)) (Exp.text (gD x0 (tN x5) Ty.exp.dflt)) (Exp.args (gD x0 (tN x5) Ty.exp.dflt))))))) r2.1 (W (x5 + 1))) [(decide ((x5 : Int) < (Ln x0 : Int))) = true, (0 : Int) ≤ x5 ∧ x5 < (Ln x0), (0 : Int) ≤ x5 ∧ x5 < (Ln (List.set x0 (tN x5) (Exp.mk x1 (Exp.n (gD x0 (tN x5) Ty.exp.dflt)) (Exp.text (gD x0 (tN x5) Ty.exp.dflt)) (Exp.args (gD x0 (tN x5) Ty.exp.dflt))))), AbC 60 (xDe (W ((W (x1 + 1)) + 1))) (xBL r1), (0 : Int) ≤ x5 ∧ x5 < (Ln ((fun (z8 : List Exp) => List.set z8 (tN x5) (Exp.mk (Exp.kind (gD z8 (tN x5) Ty.exp.dflt)) (W (x1 + 1)) (Exp.text (gD z8 (tN x5) Ty.exp.dflt)) (Exp.args (gD z8 (tN x5) Ty.exp.dflt)))) (List.set x0 (tN x5) (Exp.mk x1 (Exp.n (gD x0 (tN x5) Ty.exp.dflt)) (Exp.text (gD x0 (tN x5) Ty.exp.dflt)) (Exp.args (gD x0 (tN x5) Ty.exp.dflt)))))), (0 : Int) ≤ x5 ∧ x5 < (Ln ((fun (z9 : List Exp) => List.set z9 (tN x5) (Exp.mk (Exp.kind (gD z9 (tN x5) Ty.exp.dflt)) (Exp.n (gD z9 (tN x5) Ty.exp.dflt)) r1 (Exp.args (gD z9 (tN x5) Ty.exp.dflt)))) ((fun (z8 : List Exp) => List.set z8 (tN x5) (Exp.mk (Exp.kind (gD z8 (tN x5) Ty.exp.dflt)) (W (x1 + 1)) (Exp.text (gD z8 (tN x5) Ty.exp.dflt)) (Exp.args (gD z8 (tN x5) Ty.exp.dflt)))) (List.set x0 (tN x5) (Exp.mk x1 (Exp.n (gD x0 (tN x5) Ty.exp.dflt)) (Exp.text (gD x0 (tN x5) Ty.exp.dflt)) (Exp.args (gD x0 (tN x5) Ty.exp.dflt))))))), AbC 34 (xDk (Exp.args (gD ((fun (z9 : List Exp) => List.set z9 (tN x5) (Exp.mk (Exp.kind (gD z9 (tN x5) Ty.exp.dflt)) (Exp.n (gD z9 (tN x5) Ty.exp.dflt)) r1 (Exp.args (gD z9 (tN x5) Ty.exp.dflt)))) ((fun (z8 : List Exp) => List.set z8 (tN x5) (Exp.mk (Exp.kind (gD z8 (tN x5) Ty.exp.dflt)) (W (x1 + 1)) (Exp.text (gD z8 (tN x5) Ty.exp.dflt)) (Exp.args (gD z8 (tN x5) Ty.exp.dflt)))) (List.set x0 (tN x5) (Exp.mk x1 (Exp.n (gD x0 (tN x5) Ty.exp.dflt)) (Exp.text (gD x0 (tN x5) Ty.exp.dflt)) (Exp.args (gD x0 (tN x5) Ty.exp.dflt)))))) (tN x5) Ty.exp.dflt)) (W ((W ((W (x1 + 1)) + 1)) + 1))) (xCg r2), (tN x5) = (tN x5), Ln r2.2 = Ln (Exp.args (gD ((fun (z9 : List Exp) => List.set z9 (tN x5) (Exp.mk (Exp.kind (gD z9 (tN x5) Ty.exp.dflt)) (Exp.n (gD z9 (tN x5) Ty.exp.dflt)) r1 (Exp.args (gD z9 (tN x5) Ty.exp.dflt)))) ((fun (z8 : List Exp) => List.set z8 (tN x5) (Exp.mk (Exp.kind (gD z8 (tN x5) Ty.exp.dflt)) (W (x1 + 1)) (Exp.text (gD z8 (tN x5) Ty.exp.dflt)) (Exp.args (gD z8 (tN x5) Ty.exp.dflt)))) (List.set x0 (tN x5) (Exp.mk x1 (Exp.n (gD x0 (tN x5) Ty.exp.dflt)) (Exp.text (gD x0 (tN x5) Ty.exp.dflt)) (Exp.args (gD x0 (tN x5) Ty.exp.dflt)))))) (tN x5) Ty.exp.dflt))] := by kernel_rfl
theorem p34_2_1 (x0 : List Exp) (x1 x5 : Int) : rS 2 I34 (S34_2 x0 x1 x5) [F] [] = dn (xCg (x1, x0)) [(decide ((x5 : Int) < (Ln x0 : Int))) = false] := by kernel_rfl
theorem p34_e_2 (a0 : List Exp) (a1 : Int) : rE I34 (xDk a0 a1) [] [] = st 2 I34 (S34_2 a0 a1 0) [] := by kernel_rfl
theorem c34_2 {N : Nat} {q0 : (List Exp) → Int → Option (Int × (List Exp))} (g0 : G34 q0) : ∀ n x0 x1 x5 r, xDM N q0 n x0 x1 x5 = some r → RS Tryz.f34 I34 2 (S34_2 x0 x1 x5) (xCg r) := by
 intro n
 induction n with
 | zero => exact fun _ _ _ _ h => nE h
 | succ n ih =>
  exact fun x0 x1 x5 r h =>
   cE h (fun h0 h => iE h fun h1 h => iE h fun h2 h => bE h fun r1 h3 h => iE h fun h4 h => iE h fun h5 h => bE h fun r2 h6 h => iE h fun h8 h => tS fk34 (p34_2_0 x0 x1 x5 r1 r2) (oc h0 (oc h1 (oc h2 (oc (xEQ h3) (oc h4 (oc h5 (oc (g0 _ _ _ h6) (oc rfl (oc h8 on))))))))) (ih _ _ _ _ h)) fun h0 h =>
   dS h fk34 (p34_2_1 x0 x1 x5) (oc h0 on)
theorem c34_e {N : Nat} {q0 : (List Exp) → Int → Option (Int × (List Exp))} (g0 : G34 q0) : ∀ a0 a1 r, xEY N q0 a0 a1 = some r → RE Tryz.f34 I34 (xDk a0 a1) (xCg r) := fun a0 a1 r h =>
 tE fk34 (p34_e_2 a0 a1) on (c34_2 g0 _ _ _ _ _ h)
theorem xGw {N : Nat} {q0 : (List Exp) → Int → Option (Int × (List Exp))} (g0 : G34 q0) {a0 : List Exp} {a1 : Int} {r : Int × (List Exp)} (h : xEY N q0 a0 a1 = some r) : AbC 34 (xDk a0 a1) (xCg r) :=
 AbsCalls.of_reach fk34 rfl rfl (Nat.le_of_ble_eq_true rfl) (c34_e g0 a0 a1 r h)
theorem xFp {N : Nat} : ∀ d, G34 (xD4 N d)
 | 0 => fun _ _ _ h => nE h
 | d + 1 => fun _ _ _ h => xGw (N := N) (xFp d) h
theorem laws_markExprS_ok {N : Nat} {a0 : List Exp} {a1 : Int} {r : Int × (List Exp)} (h : xF1 N a0 a1 = some r) : AbC 34 (xDk a0 a1) (xCg r) := xFp N _ _ r h
noncomputable def I14 : Info := { body := (Tryz.f14.body).getD .skip, nt := 10, results := [.tmp 4], keep := [0, 2, 4, 8, 5], live := [], modes := [(1, [(1, .ref, false), (3, .ref, false)])], lnt := [(5, 3)] }
theorem fk14 : FnOk Tryz.prog 14 Tryz.f14 I14 := ⟨Tryz.func14, by kernel_rfl, by kernel_rfl, by kernel_rfl, by kernel_rfl⟩
theorem p14_e_0 (a0 : Exp) (a1 : Int) (r1 : Int × (List Exp)) : rE I14 (xCB a0 a1) [] [xCg r1] = dn (xBg (r1.1, r1.2)) [AbC 34 (xDk (Exp.args a0) a1) (xCg r1), Ln r1.2 = Ln (Exp.args a0)] := by kernel_rfl
theorem c14_e {N : Nat} : ∀ a0 a1 r, xE7 N a0 a1 = some r → RE Tryz.f14 I14 (xCB a0 a1) (xBg r) := fun a0 a1 r h =>
 bE h fun r1 h0 h => iE h fun h1 h => dE h fk14 (p14_e_0 a0 a1 r1) (oc (laws_markExprS_ok h0) (oc h1 on))
theorem xDE {N : Nat} {a0 : Exp} {a1 : Int} {r : Int × (List Exp)} (h : xE7 N  a0 a1 = some r) : AbC 14 (xCB a0 a1) (xBg r) :=
 AbsCalls.of_reach fk14 rfl rfl (Nat.le_of_ble_eq_true rfl) (c14_e a0 a1 r h)
def G35 (q : (List Exp) → Int → Option (Int)) : Prop := ∀ a0 a1 r, q a0 a1 = some r → AbC 35 (xCG a0 a1) (xA4 r)
noncomputable def I35 : Info := { body := (Tryz.f35.body).getD .skip, nt := 50, results := [.tmp 4], keep := [0, 2, 8, 10, 18, 36, 54, 74, 96], live := [(2, [0, 2, 10])], modes := [] }
theorem fk35 : FnOk Tryz.prog 35 Tryz.f35 I35 := ⟨Tryz.func35, by kernel_rfl, by kernel_rfl, by kernel_rfl, by kernel_rfl⟩
def S35_2 (x0 : List Exp) (x1 x5 : Int) : St := [(0, .v false [.sl .ro .exp x0]), (2, .v false [.int .i64 x1]), (10, .v false [.int .i64 x5])]
theorem p35_2_0 (x0 : List Exp) (x1 x5 : Int) : rS 2 I35 (S35_2 x0 x1 x5) [Y, Y] [] = dn (xA4 (-1)) [(decide ((x5 : Int) < (Ln x0 : Int))) = true, (0 : Int) ≤ x5 ∧ x5 < (Ln x0), (((Exp.kind (gD x0 (tN x5) Ty.exp.dflt)) : Int) != x1) = true] := by kernel_rfl
theorem p35_2_1 (x0 : List Exp) (x1 x5 : Int) : rS 2 I35 (S35_2 x0 x1 x5) [Y, F, Y] [] = dn (xA4 (-1)) [(decide ((x5 : Int) < (Ln x0 : Int))) = true, (0 : Int) ≤ x5 ∧ x5 < (Ln x0), (((Exp.kind (gD x0 (tN x5) Ty.exp.dflt)) : Int) != x1) = false, (0 : Int) ≤ x5 ∧ x5 < (Ln x0), (((Exp.n (gD x0 (tN x5) Ty.exp.dflt)) : Int) != (W (x1 + 1))) = true] := by kernel_rfl
theorem p35_2_2 (x0 : List Exp) (x1 x5 : Int) (r1 : Str) : rS 2 I35 (S35_2 x0 x1 x5) [Y, F, F, Y] [xBL r1] = dn (xA4 (-1)) [(decide ((x5 : Int) < (Ln x0 : Int))) = true, (0 : Int) ≤ x5 ∧ x5 < (Ln x0), (((Exp.kind (gD x0 (tN x5) Ty.exp.dflt)) : Int) != x1) = false, (0 : Int) ≤ x5 ∧ x5 < (Ln x0), (((Exp.n (gD x0 (tN x5) Ty.exp.dflt)) : Int) != (W (x1 + 1))) = false, (0 : Int) ≤ x5 ∧ x5 < (Ln x0), AbC 60 (xDe (W ((W (x1 + 1)) + 1))) (xBL r1), (!(((Exp.text (gD x0 (tN x5) Ty.exp.dflt)) : Str) == r1)) = true] := by kernel_rfl
theorem p35_2_3 (x0 : List Exp) (x1 x5 : Int) (r1 : Str) (r2 : Int) : rS 2 I35 (S35_2 x0 x1 x5) [Y, F, F, F, Y] [xBL r1, xA4 r2] = dn (xA4 (-1)) [(decide ((x5 : Int) < (Ln x0 : Int))) = true, (0 : Int) ≤ x5 ∧ x5 < (Ln x0), (((Exp.kind (gD x0 (tN x5) Ty.exp.dflt)) : Int) != x1) = false, (0 : Int) ≤ x5 ∧ x5 < (Ln x0), (((Exp.n (gD x0 (tN x5) Ty.exp.dflt)) : Int) != (W (x1 + 1))) = false, (0 : Int) ≤ x5 ∧ x5 < (Ln x0), AbC 60 (xDe (W ((W (x1 + 1)) + 1))) (xBL r1), (!(((Exp.text (gD x0 (tN x5) Ty.exp.dflt)) : Str) == r1)) = false, (0 : Int) ≤ x5 ∧ x5 < (Ln x0), AbC 35 (xCG (Exp.args (gD x0 (tN x5) Ty.exp.dflt)) (W ((W ((W (x1 + 1)) + 1)) + 1))) (xA4 r2), (decide ((r2 : Int) < 0)) = true] := by kernel_rfl
theorem p35_2_4 (x0 : List Exp) (x1 x5 : Int) (r1 : Str) (r2 : Int) : rS 2 I35 (S35_2 x0 x1 x5) [Y, F, F, F, F] [xBL r1, xA4 r2] = st 2 I35 (S35_2 x0 r2 (W (x5 + 1))) [(decide ((x5 : Int) < (Ln x0 : Int))) = true, (0 : Int) ≤ x5 ∧ x5 < (Ln x0), (((Exp.kind (gD x0 (tN x5) Ty.exp.dflt)) : Int) != x1) = false, (0 : Int) ≤ x5 ∧ x5 < (Ln x0), (((Exp.n (gD x0 (tN x5) Ty.exp.dflt)) : Int) != (W (x1 + 1))) = false, (0 : Int) ≤ x5 ∧ x5 < (Ln x0), AbC 60 (xDe (W ((W (x1 + 1)) + 1))) (xBL r1), (!(((Exp.text (gD x0 (tN x5) Ty.exp.dflt)) : Str) == r1)) = false, (0 : Int) ≤ x5 ∧ x5 < (Ln x0), AbC 35 (xCG (Exp.args (gD x0 (tN x5) Ty.exp.dflt)) (W ((W ((W (x1 + 1)) + 1)) + 1))) (xA4 r2), (decide ((r2 : Int) < 0)) = false] := by kernel_rfl
theorem p35_2_5 (x0 : List Exp) (x1 x5 : Int) : rS 2 I35 (S35_2 x0 x1 x5) [F] [] = dn (xA4 x1) [(decide ((x5 : Int) < (Ln x0 : Int))) = false] := by kernel_rfl
theorem p35_e_6 (a0 : List Exp) (a1 : Int) : rE I35 (xCG a0 a1) [] [] = st 2 I35 (S35_2 a0 a1 0) [] := by kernel_rfl
theorem c35_2 {N : Nat} {q0 : (List Exp) → Int → Option (Int)} (g0 : G35 q0) : ∀ n x0 x1 x5 r, xDL N q0 n x0 x1 x5 = some r → RS Tryz.f35 I35 2 (S35_2 x0 x1 x5) (xA4 r) := by
 intro n
 induction n with
 | zero => exact fun _ _ _ _ h => nE h
 | succ n ih =>
  exact fun x0 x1 x5 r h =>
   cE h (fun h0 h => iE h fun h1 h => cE h (fun h2 h => dS h fk35 (p35_2_0 x0 x1 x5) (oc h0 (oc h1 (oc h2 on)))) fun h2 h =>
   cE h (fun h4 h => dS h fk35 (p35_2_1 x0 x1 x5) (oc h0 (oc h1 (oc h2 (oc h1 (oc h4 on)))))) fun h4 h =>
   bE h fun r1 h6 h => cE h (fun h7 h => dS h fk35 (p35_2_2 x0 x1 x5 r1) (oc h0 (oc h1 (oc h2 (oc h1 (oc h4 (oc h1 (oc (xEQ h6) (oc h7 on))))))))) fun h7 h =>
   bE h fun r2 h9 h => cE h (fun h10 h => dS h fk35 (p35_2_3 x0 x1 x5 r1 r2) (oc h0 (oc h1 (oc h2 (oc h1 (oc h4 (oc h1 (oc (xEQ h6) (oc h7 (oc h1 (oc (g0 _ _ _ h9) (oc h10 on)))))))))))) fun h10 h =>
   tS fk35 (p35_2_4 x0 x1 x5 r1 r2) (oc h0 (oc h1 (oc h2 (oc h1 (oc h4 (oc h1 (oc (xEQ h6) (oc h7 (oc h1 (oc (g0 _ _ _ h9) (oc h10 on))))))))))) (ih _ _ _ _ h)) fun h0 h =>
   dS h fk35 (p35_2_5 x0 x1 x5) (oc h0 on)
theorem c35_e {N : Nat} {q0 : (List Exp) → Int → Option (Int)} (g0 : G35 q0) : ∀ a0 a1 r, xEX N q0 a0 a1 = some r → RE Tryz.f35 I35 (xCG a0 a1) (xA4 r) := fun a0 a1 r h =>
 tE fk35 (p35_e_6 a0 a1) on (c35_2 g0 _ _ _ _ _ h)
theorem xGv {N : Nat} {q0 : (List Exp) → Int → Option (Int)} (g0 : G35 q0) {a0 : List Exp} {a1 : Int} {r : Int} (h : xEX N q0 a0 a1 = some r) : AbC 35 (xCG a0 a1) (xA4 r) :=
 AbsCalls.of_reach fk35 rfl rfl (Nat.le_of_ble_eq_true rfl) (c35_e g0 a0 a1 r h)
theorem xFo {N : Nat} : ∀ d, G35 (xD3 N d)
 | 0 => fun _ _ _ h => nE h
 | d + 1 => fun _ _ _ h => xGv (N := N) (xFo d) h
theorem xF9 {N : Nat} {a0 : List Exp} {a1 : Int} {r : Int} (h : xF0 N a0 a1 = some r) : AbC 35 (xCG a0 a1) (xA4 r) := xFo N _ _ r h
noncomputable def I15 : Info := { body := (Tryz.f15.body).getD .skip, nt := 12, results := [.tmp 4], keep := [0, 2, 4, 8, 20, 5], live := [], modes := [] }
theorem fk15 : FnOk Tryz.prog 15 Tryz.f15 I15 := ⟨Tryz.func15, by kernel_rfl, by kernel_rfl, by kernel_rfl, by kernel_rfl⟩
theorem p15_e_0 (a0 : Exp) (a1 r1 : Int) : rE I15 (xBB a0 a1) [Y] [xA4 r1] = dn (xAM (-1)) [AbC 35 (xCG (Exp.args a0) a1) (xA4 r1), (decide ((r1 : Int) < 0)) = true] := by kernel_rfl
theorem p15_e_1 (a0 : Exp) (a1 r1 : Int) : rE I15 (xBB a0 a1) [F] [xA4 r1] = dn (xAM r1) [AbC 35 (xCG (Exp.args a0) a1) (xA4 r1), (decide ((r1 : Int) < 0)) = false] := by kernel_rfl
theorem c15_e {N : Nat} : ∀ a0 a1 r, xEE N a0 a1 = some r → RE Tryz.f15 I15 (xBB a0 a1) (xAM r) := fun a0 a1 r h =>
 bE h fun r1 h0 h => cE h (fun h1 h => dE h fk15 (p15_e_0 a0 a1 r1) (oc (xF9 h0) (oc h1 on))) fun h1 h =>
 dE h fk15 (p15_e_1 a0 a1 r1) (oc (xF9 h0) (oc h1 on))
theorem xCA {N : Nat} {a0 : Exp} {a1 : Int} {r : Int} (h : xEE N  a0 a1 = some r) : AbC 15 (xBB a0 a1) (xAM r) :=
 AbsCalls.of_reach fk15 rfl rfl (Nat.le_of_ble_eq_true rfl) (c15_e a0 a1 r h)
end Go.Ab.T
end
section
open Go.Proofs
namespace Go.Ab.T
set_option linter.unusedVariables false
set_option maxRecDepth 100000
variable [Inhabited Lb]
variable [Nonempty Tab10]
variable [Nonempty ErrVars]
noncomputable def I4 : Info := { body := (Tryz.f4.body).getD .skip, nt := 66, results := [.tmp 2], keep := [0, 4, 6, 8, 10, 12, 14, 16, 18, 20, 26, 64, 80, 86, 114, 124, 130, 7, 11, 19], live := [], modes := [(3, [(2, .take, false)]), (4, [(2, .take, false)]), (5, [(4, .take, false), (5, .take, false)]), (8, [(0, .ref, false), (2, .ref, false)]), (15, [(2, .take, false)]), (16, [(4, .take, false), (5, .take, false)])] }
theorem fk4 : FnOk Tryz.prog 4 Tryz.f4 I4 := ⟨Tryz.func4, by kernel_rfl, by kernel_rfl, by kernel_rfl, by kernel_rfl⟩
theorem p4_e_0 (a0 : Str) : rE I4 (xA1 a0) [Y] [] = dn (xA2 true) [(decide (((Ln a0 : Int) : Int) > 1048576)) = true] := by kernel_rfl
theorem p4_e_1 (a0 : Str) (r1 : Exp × Int) (r2 : Exp × Int) (r3 : Bool) : rE I4 (xA1 a0) [F, Y, Y] [xAv r1, xAg r2, xAs r3] = dn (xA2 false) [(decide (((Ln a0 : Int) : Int) > 1048576)) = false, AbC 11 (xAR a0) (xAv r1), AbC 12 (xAx a0) (xAg r2), AbC 13 (xA0 r2.1 r1.1) (xAs r3), (!r3) = true, true = true] := by kernel_rfl
theorem p4_e_2 (a0 : Str) (r1 : Exp × Int) (r2 : Exp × Int) (r3 : Bool) : rE I4 (xA1 a0) [F, F, Y] [xAv r1, xAg r2, xAs r3] = dn (xA2 false) [(decide (((Ln a0 : Int) : Int) > 1048576)) = false, AbC 11 (xAR a0) (xAv r1), AbC 12 (xAx a0) (xAg r2), AbC 13 (xA0 r2.1 r1.1) (xAs r3), (!r3) = false, ((r2.2 : Int) != r1.2) = true] := by kernel_rfl
theorem p4_e_3 (a0 : Str) (r1 : Exp × Int) (r2 : Exp × Int) (r3 : Bool) (r4 : Int × (List Exp)) (r5 : Int) : rE I4 (xA1 a0) [F, F, F, Y] [xAv r1, xAg r2, xAs r3, xBg r4, xAM r5] = dn (xA2 false) [(decide (((Ln a0 : Int) : Int) > 1048576)) = false, AbC 11 (xAR a0) (xAv r1), AbC 12 (xAx a0) (xAg r2), AbC 13 (xA0 r2.1 r1.1) (xAs r3), (!r3) = false, ((r2.2 : Int) != r1.2) = false, AbC 14 (xCB r2.1 1) (xBg r4), Ln r4.2 = Ln (Exp.args r2.1), AbC 15 (xBB (Exp.mk (Exp.kind r2.1) (Exp.n r2.1) (Exp.text r2.1) r4.2) 1) (xAM r5), (decide ((r5 : Int) < 0)) = true] := by kernel_rfl
theorem p4_e_4 (a0 : Str) (r1 : Exp × Int) (r2 : Exp × Int) (r3 : Bool) (r4 : Int × (List Exp)) (r5 : Int) : rE I4 (xA1 a0) [F, F, F, F, Y] [xAv r1, xAg r2, xAs r3, xBg r4, xAM r5] = dn (xA2 false) [(decide (((Ln a0 : Int) : Int) > 1048576)) = false, AbC 11 (xAR a0) (xAv r1), AbC 12 (xAx a0) (xAg r2), AbC 13 (xA0 r2.1 r1.1) (xAs r3), (!r3) = false, ((r2.2 : Int) != r1.2) = false, AbC 14 (xCB r2.1 1) (xBg r4), Ln r4.2 = Ln (Exp.args r2.1), AbC 15 (xBB (Exp.mk (Exp.kind r2.1) (Exp.n r2.1) (Exp.text r2.1) r4.2) 1) (xAM r5), (decide ((r5 : Int) < 0)) = false, ((r5 : Int) != r4.1) = true] := by kernel_rfl
theorem p4_e_5 (a0 : Str) (r1 : Exp × Int) (r2 : Exp × Int) (r3 : Bool) (r4 : Int × (List Exp)) (r5 : Int) (r6 : Exp × Int) (r7 : Bool) : rE I4 (xA1 a0) [F, F, F, F, F, Y, Y] [xAv r1, xAg r2, xAs r3, xBg r4, xAM r5, xAg r6, xAs r7] = dn (xA2 false) [(decide (((Ln a0 : Int) : Int) > 1048576)) = false, AbC 11 (xAR a0) (xAv r1), AbC 12 (xAx a0) (xAg r2), AbC 13 (xA0 r2.1 r1.1) (xAs r3), (!r3) = false, ((r2.2 : Int) != r1.2) = false, AbC 14 (xCB r2.1 1) (xBg r4), Ln r4.2 = Ln (Exp.args r2.1), AbC 15 (xBB (Exp.mk (Exp.kind r2.1) (Exp.n r2.1) (Exp.text r2.1) r4.2) 1) (xAM r5), (decide ((r5 : Int) < 0)) = false, ((r5 : Int) != r4.1) = false, AbC 12 (xAx a0) (xAg r6), AbC 13 (xA0 r6.1 r1.1) (xAs r7), (!r7) = true, true = true] := by kernel_rfl
theorem p4_e_6 (a0 : Str) (r1 : Exp × Int) (r2 : Exp × Int) (r3 : Bool) (r4 : Int × (List Exp)) (r5 : Int) (r6 : Exp × Int) (r7 : Bool) : rE I4 (xA1 a0) [F, F, F, F, F, F, Y] [xAv r1, xAg r2, xAs r3, xBg r4, xAM r5, xAg r6, xAs r7] = dn (xA2 false) [(decide (((Ln a0 : Int) : Int) > 1048576)) = false, AbC 11 (xAR a0) (xAv r1), AbC 12 (xAx a0) (xAg r2), AbC 13 (xA0 r2.1 r1.1) (xAs r3), (!r3) = false, ((r2.2 : Int) != r1.2) = false, AbC 14 (xCB r2.1 1) (xBg r4), Ln r4.2 = Ln (Exp.args r2.1), AbC 15 (xBB (Exp.mk (Exp.kind r2.1) (Exp.n r2.1) (Exp.text r2.1) r4.2) 1) (xAM r5), (decide ((r5 : Int) < 0)) = false, ((r5 : Int) != r4.1) = false, AbC 12 (xAx a0) (xAg r6), AbC 13 (xA0 r6.1 r1.1) (xAs r7), (!r7) = false, ((r6.2 : Int) != r1.2) = true] := by kernel_rfl
theorem p4_e_7 (a0 : Str) (r1 : Exp × Int) (r2 : Exp × Int) (r3 : Bool) (r4 : Int × (List Exp)) (r5 : Int) (r6 : Exp × Int) (r7 : Bool) (r8 : Int) : rE I4 (xA1 a0) [F, F, F, F, F, F, F, Y] [xAv r1, xAg r2, xAs r3, xBg r4, xAM r5, xAg r6, xAs r7, xAM r8] = dn (xA2 false) [(decide (((Ln a0 : Int) : Int) > 1048576)) = false, AbC 11 (xAR a0) (xAv r1), AbC 12 (xAx a0) (xAg r2), AbC 13 (xA0 r2.1 r1.1) (xAs r3), (!r3) = false, ((r2.2 : Int) != r1.2) = false, AbC 14 (xCB r2.1 1) (xBg r4), Ln r4.2 = Ln (Exp.args r2.1), AbC 15 (xBB (Exp.mk (Exp.kind r2.1) (Exp.n r2.1) (Exp.text r2.1) r4.2) 1) (xAM r5), (decide ((r5 : Int) < 0)) = false, ((r5 : Int) != r4.1) = false, AbC 12 (xAx a0) (xAg r6), AbC 13 (xA0 r6.1 r1.1) (xAs r7), (!r7) = false, ((r6.2 : Int) != r1.2) = false, AbC 15 (xBB (Exp.mk (Exp.kind r2.1) (Exp.n r2.1) (Exp.text r2.1) r4.2) 1) (xAM r8), (decide ((r8 : Int) < 0)) = true] := by kernel_rfl
theorem p4_e_8 (a0 : Str) (r1 : Exp × Int) (r2 : Exp × Int) (r3 : Bool) (r4 : Int × (List Exp)) (r5 : Int) (r6 : Exp × Int) (r7 : Bool) (r8 : Int) : rE I4 (xA1 a0) [F, F, F, F, F, F, F, F, Y] [xAv r1, xAg r2, xAs r3, xBg r4, xAM r5, xAg r6, xAs r7, xAM r8] = dn (xA2 false) [(decide (((Ln a0 : Int) : Int) > 1048576)) = false, AbC 11 (xAR a0) (xAv r1), AbC 12 (xAx a0) (xAg r2), AbC 13 (xA0 r2.1 r1.1) (xAs r3), (!r3) = false, ((r2.2 : Int) != r1.2) = false, AbC 14 (xCB r2.1 1) (xBg r4), Ln r4.2 = Ln (Exp.args r2.1), AbC 15 (xBB (Exp.mk (Exp.kind r2.1) (Exp.n r2.1) (Exp.text r2.1) r4.2) 1) (xAM r5), (decide ((r5 : Int) < 0)) = false, ((r5 : Int) != r4.1) = false, AbC 12 (xAx a0) (xAg r6), AbC 13 (xA0 r6.1 r1.1) (xAs r7), (!r7) = false, ((r6.2 : Int) != r1.2) = false, AbC 15 (xBB (Exp.mk (Exp.kind r2.1) (Exp.n r2.1) (Exp.text r2.1) r4.2) 1) (xAM r8), (decide ((r8 : Int) < 0)) = false, ((r8 : Int) != r4.1) = true] := by kernel_rfl
theorem p4_e_9 (a0 : Str) (r1 : Exp × Int) (r2 : Exp × Int) (r3 : Bool) (r4 : Int × (List Exp)) (r5 : Int) (r6 : Exp × Int) (r7 : Bool) (r8 : Int) : rE I4 (xA1 a0) [F, F, F, F, F, F, F, F, F] [xAv r1, xAg r2, xAs r3, xBg r4, xAM r5, xAg r6, xAs r7, xAM r8] = dn (xA2 true) [(decide (((Ln a0 : Int) : Int) > 1048576)) = false, AbC 11 (xAR a0) (xAv r1), AbC 12 (xAx a0) (xAg r2), AbC 13 (xA0 r2.1 r1.1) (xAs r3), (!r3) = false, ((r2.2 : Int) != r1.2) = false, AbC 14 (xCB r2.1 1) (xBg r4), Ln r4.2 = Ln (Exp.args r2.1), AbC 15 (xBB (Exp.mk (Exp.kind r2.1) (Exp.n r2.1) (Exp.text r2.1) r4.2) 1) (xAM r5), (decide ((r5 : Int) < 0)) = false, ((r5 : Int) != r4.1) = false, AbC 12 (xAx a0) (xAg r6), AbC 13 (xA0 r6.1 r1.1) (xAs r7), (!r7) = false, ((r6.2 : Int) != r1.2) = false, AbC 15 (xBB (Exp.mk (Exp.kind r2.1) (Exp.n r2.1) (Exp.text r2.1) r4.2) 1) (xAM r8), (decide ((r8 : Int) < 0)) = false, ((r8 : Int) != r4.1) = false] := by kernel_rfl
theorem c4_e {N : Nat} : ∀ a0 r, xD2 N a0 = some r → RE Tryz.f4 I4 (xA1 a0) (xA2 r) := fun a0 r h =>
 cE h (fun h0 h => dE h fk4 (p4_e_0 a0) (oc h0 on)) fun h0 h =>
 bE h fun r1 h1 h => bE h fun r2 h2 h => bE h fun r3 h3 h => cE h (fun h4 h => dE h fk4 (p4_e_1 a0 r1 r2 r3) (oc h0 (oc (xCH h1) (oc (xBr h2) (oc (xB9 h3) (oc h4 (oc rfl on))))))) fun h4 h =>
 cE h (fun h5 h => dE h fk4 (p4_e_2 a0 r1 r2 r3) (oc h0 (oc (xCH h1) (oc (xBr h2) (oc (xB9 h3) (oc h4 (oc h5 on))))))) fun h5 h =>
 bE h fun r4 h6 h => iE h fun h7 h => bE h fun r5 h8 h => cE h (fun h9 h => dE h fk4 (p4_e_3 a0 r1 r2 r3 r4 r5) (oc h0 (oc (xCH h1) (oc (xBr h2) (oc (xB9 h3) (oc h4 (oc h5 (oc (xDE h6) (oc h7 (oc (xCA h8) (oc h9 on))))))))))) fun h9 h =>
 cE h (fun h10 h => dE h fk4 (p4_e_4 a0 r1 r2 r3 r4 r5) (oc h0 (oc (xCH h1) (oc (xBr h2) (oc (xB9 h3) (oc h4 (oc h5 (oc (xDE h6) (oc h7 (oc (xCA h8) (oc h9 (oc h10 on)))))))))))) fun h10 h =>
 bE h fun r6 h11 h => bE h fun r7 h12 h => cE h (fun h13 h => dE h fk4 (p4_e_5 a0 r1 r2 r3 r4 r5 r6 r7) (oc h0 (oc (xCH h1) (oc (xBr h2) (oc (xB9 h3) (oc h4 (oc h5 (oc (xDE h6) (oc h7 (oc (xCA h8) (oc h9 (oc h10 (oc (xBr h11) (oc (xB9 h12) (oc h13 (oc rfl on)))))))))))))))) fun h13 h =>
 cE h (fun h14 h => dE h fk4 (p4_e_6 a0 r1 r2 r3 r4 r5 r6 r7) (oc h0 (oc (xCH h1) (oc (xBr h2) (oc (xB9 h3) (oc h4 (oc h5 (oc (xDE h6) (oc h7 (oc (xCA h8) (oc h9 (oc h10 (oc (xBr h11) (oc (xB9 h12) (oc h13 (oc h14 on)))))))))))))))) fun h14 h =>
 bE h fun r8 h15 h => cE h (fun h16 h => dE h fk4 (p4_e_7 a0 r1 r2 r3 r4 r5 r6 r7 r8) (oc h0 (oc (xCH h1) (oc (xBr h2) (oc (xB9 h3) (oc h4 (oc h5 (oc (xDE h6) (oc h7 (oc (xCA h8) (oc h9 (oc h10 (oc (xBr h11) (oc (xB9 h12) (oc h13 (oc h14 (oc (xCA h15) (oc h16 on)))))))))))))))))) fun h16 h =>
 cE h (fun h17 h => dE h fk4 (p4_e_8 a0 r1 r2 r3 r4 r5 r6 r7 r8) (oc h0 (oc (xCH h1) (oc (xBr h2) (oc (xB9 h3) (oc h4 (oc h5 (oc (xDE h6) (oc h7 (oc (xCA h8) (oc h9 (oc h10 (oc (xBr h11) (oc (xB9 h12) (oc h13 (oc h14 (oc (xCA h15) (oc h16 (oc h17 on))))))))))))))))))) fun h17 h =>
 dE h fk4 (p4_e_9 a0 r1 r2 r3 r4 r5 r6 r7 r8) (oc h0 (oc (xCH h1) (oc (xBr h2) (oc (xB9 h3) (oc h4 (oc h5 (oc (xDE h6) (oc h7 (oc (xCA h8) (oc h9 (oc h10 (oc (xBr h11) (oc (xB9 h12) (oc h13 (oc h14 (oc (xCA h15) (oc h16 (oc h17 on))))))))))))))))))
theorem laws_FnExactParseExpr_ok {N : Nat} {a0 : Str} {r : Bool} (h : xD2 N  a0 = some r) : AbC 4 (xA1 a0) (xA2 r) :=
 AbsCalls.of_reach fk4 rfl rfl (Nat.le_of_ble_eq_true rfl) (c4_e a0 r h)
noncomputable def I64 : Info := { body := (Tryz.f64.body).getD .skip, nt := 12, results := [.tmp 4], keep := [0, 2, 8, 1], live := [], modes := [], ext := [0] }
end Go.Ab.T
end
section
namespace Go.Ab
set_option linter.unusedVariables false
def Big (p : Nat → Prop) : Prop := ∃ k, ∀ N, k ≤ N → p N
def Big2 (p : Nat → Nat → Prop) : Prop := ∃ k, ∀ N n, k ≤ N → k ≤ n → p N n
theorem Big.imp {p q : Nat → Prop} (h : Big p) (f : ∀ N, p N → q N) : Big q := h.elim fun k hk => ⟨k, fun N hN => f N (hk N hN)⟩
theorem Big2.imp {p q : Nat → Nat → Prop} (h : Big2 p) (f : ∀ N n, p N n → q N n) : Big2 q := h.elim fun k hk => ⟨k, fun N n h1 h2 => f N n (hk N n h1 h2)⟩
theorem Big.of {p : Nat → Prop} (h : ∀ N, p N) : Big p := ⟨0, fun N _ => h N⟩
theorem Big2.of {p : Nat → Nat → Prop} (h : ∀ N n, p N n) : Big2 p := ⟨0, fun N n _ _ => h N n⟩
theorem Big.and {p q : Nat → Prop} (h : Big p) (h' : Big q) : Big fun N => p N ∧ q N := by
  obtain ⟨a, ha⟩ := h; obtain ⟨b, hb⟩ := h'
  exact ⟨max a b, fun N hN => ⟨ha N (by omega), hb N (by omega)⟩⟩
theorem Big2.and {p q : Nat → Nat → Prop} (h : Big2 p) (h' : Big2 q) : Big2 fun N n => p N n ∧ q N n := by
  obtain ⟨a, ha⟩ := h; obtain ⟨b, hb⟩ := h'
  exact ⟨max a b, fun N n h1 h2 => ⟨ha N n (by omega) (by omega), hb N n (by omega) (by omega)⟩⟩
theorem Big.two {p : Nat → Prop} (h : Big p) : Big2 fun N _ => p N := h.elim fun k hk => ⟨k, fun N _ h _ => hk N h⟩
theorem Big2.diag {p : Nat → Nat → Prop} (h : Big2 p) : Big fun N => p N N := h.elim fun k hk => ⟨k, fun N h => hk N N h h⟩
theorem Big2.succ {p : Nat → Nat → Prop} (h : Big2 fun N n => p N (n + 1)) : Big2 p := by
  obtain ⟨k, hk⟩ := h
  refine ⟨k + 1, fun N n h1 h2 => ?_⟩
  obtain ⟨m, rfl⟩ : ∃ m, n = m + 1 := ⟨n - 1, by omega⟩
  exact hk N m (by omega) (by omega)
theorem Big2.list {α : Type} {p : α → Nat → Nat → Prop} {l : List α} (h : ∀ x ∈ l, Big2 (p x)) : Big2 fun N n => ∀ x ∈ l, p x N n := by
  induction l with
  | nil => exact .of fun N n x hx => by cases hx
  | cons a l ih =>
    refine ((h a List.mem_cons_self).and (ih fun x hx => h x (List.mem_cons_of_mem _ hx))).imp fun N n ⟨h1, h2⟩ x hx => ?_
    rcases List.mem_cons.1 hx with rfl | hx
    · exact h1
    · exact h2 x hx
theorem Big.get {p : Nat → Prop} (h : Big p) : ∃ N, p N := h.elim fun k hk => ⟨k, hk k (Nat.le_refl k)⟩
def I64 (x : Int) : Prop := -9223372036854775808 ≤ x ∧ x ≤ 9223372036854775807
theorem wrap_i64_def (x : Int) : IntKind.i64.wrap x = if x % 18446744073709551616 ≥ 9223372036854775808 then x % 18446744073709551616 - 18446744073709551616 else x % 18446744073709551616 := by
  show (if (true && decide (x % 18446744073709551616 ≥ 9223372036854775808)) = true then x % 18446744073709551616 - 18446744073709551616 else x % 18446744073709551616) = _
  simp only [Bool.true_and, decide_eq_true_eq]
theorem wrap_u8_def (x : Int) : IntKind.u8.wrap x = x % 256 := by
  show (if (false && decide (x % 256 ≥ 128)) = true then x % 256 - 256 else x % 256) = _
  simp
theorem xBX {x : Int} (h1 : -9223372036854775808 ≤ x) (h2 : x ≤ 9223372036854775807) : IntKind.i64.wrap x = x := by
  rw [wrap_i64_def]
  split <;> omega
theorem wrap_u8 {x : Int} (h1 : 0 ≤ x) (h2 : x ≤ 255) : IntKind.u8.wrap x = x := by
  rw [wrap_u8_def]
  omega
theorem xDv {α : Type} {xs : List α} {i : Nat} {x : α} {l : List α} (h : xs.drop i = x :: l) : i < xs.length ∧ xs[i]? = some x ∧ xs.drop (i + 1) = l := by
  have h1 : i < xs.length := by
    rcases Nat.lt_or_ge i xs.length with h1 | h1
    · exact h1
    · rw [List.drop_eq_nil_of_le h1] at h; cases h
  rw [List.drop_eq_getElem_cons h1] at h
  cases h
  exact ⟨h1, by simp [h1], rfl⟩
theorem xGe {α : Type} {xs : List α} {i : Nat} (h : xs.drop i = []) : xs.length ≤ i := by simpa using h
end Go.Ab
end
section
namespace Go.Ab
set_option linter.unusedVariables false
inductive DK (K : Nat) : D → Prop where
  | int {k n} (h : (Lit.int k n).wf = true) : DK K (.int k n)
  | bool (b) : DK K (.bool b)
  | str {s : Str} (h : s.length ≤ K) : DK K (.str s)
  | sl {sz rows} (h : rows.length ≤ K) (hr : ∀ r ∈ rows, ∀ x ∈ r, DK K x) : DK K (.sl sz rows)
theorem wf_i64 {n : Int} : (Lit.int .i64 n).wf = true ↔ I64 n := by
  show (decide (_ ≤ n) && decide (n ≤ _)) = true ↔ _
  rw [Bool.and_eq_true, decide_eq_true_eq, decide_eq_true_eq]
  exact Iff.rfl
theorem DK.i64 {K : Nat} {n : Int} : DK K (.int .i64 n) ↔ I64 n := ⟨fun h => by cases h with | int h => exact wf_i64.1 h, fun h => .int (wf_i64.2 h)⟩
theorem DK.str_iff {K : Nat} {s : Str} : DK K (.str s) ↔ s.length ≤ K := ⟨fun h => by cases h; assumption, .str⟩
theorem DK.sl_iff {K sz : Nat} {α : Type} {f : α → List D} {xs : List α} : DK K (.sl sz (xs.map f)) ↔ xs.length ≤ K ∧ ∀ x ∈ xs, ∀ d ∈ f x, DK K d := by
  constructor
  · intro h
    cases h with
    | sl h hr => exact ⟨by simpa using h, fun x hx => hr _ (List.mem_map_of_mem hx)⟩
  · rintro ⟨h, hr⟩
    refine .sl (by simpa using h) fun r hr' => ?_
    obtain ⟨x, hx, rfl⟩ := List.mem_map.1 hr'
    exact hr x hx
def LFit {α : Type} (K : Nat) (p : α → Prop) (l : List α) : Prop := l.length ≤ K ∧ ∀ x ∈ l, p x
def Ty.Fit (K : Nat) (T : Ty) (x : T.den) : Prop := ∀ d ∈ T.toD x, DK K d
def Org.Fit (o : Org) : Prop := I64 o.cell ∧ I64 o.row
def Rowd.Fit (K : Nat) (r : Rowd) : Prop := LFit K I64 r.cells ∧ LFit K Org.Fit r.frm
def Str.Fit (K : Nat) (s : Str) : Prop := s.length ≤ K
def Exp.Fit (K : Nat) (v : Exp) : Prop := ∀ d ∈ Exp.toD v, DK K d
def Fil.Fit (K : Nat) (v : Fil) : Prop := Str.Fit K v.name ∧ I64 v.n
def Tok.Fit (K : Nat) (v : Tok) : Prop := I64 v.kind ∧ I64 v.n ∧ I64 v.pos ∧ Str.Fit K v.text
theorem rowd_fit {K : Nat} {r : Rowd} : (∀ d ∈ Rowd.toD r, DK K d) ↔ r.Fit K := by
  simp only [Rowd.toD, List.mem_cons, List.not_mem_nil, or_false, forall_eq_or_imp, forall_eq, DK.sl_iff, DK.i64, Rowd.Fit, LFit, Org.Fit]
theorem fil_fit {K : Nat} {r : Fil} : Ty.Fit K .fil r ↔ r.Fit K := by
  simp only [Ty.Fit, Ty.toD, List.mem_cons, List.not_mem_nil, or_false, forall_eq_or_imp, forall_eq, DK.str_iff, DK.i64, Fil.Fit, Str.Fit]
theorem Exp.fit_iff {K : Nat} {v : Exp} : v.Fit K ↔ I64 v.kind ∧ I64 v.n ∧ Str.Fit K v.text ∧ LFit K (Exp.Fit K) v.args := by
  cases v
  simp only [Exp.Fit, Exp.toD, Exp.toDs_eq, List.mem_cons, List.not_mem_nil, or_false, forall_eq_or_imp, forall_eq, DK.sl_iff, DK.i64, DK.str_iff, Str.Fit, LFit, Exp.kind, Exp.n, Exp.text, Exp.args]
theorem sizeOf_mem_args {l : List Exp} {x : Exp} (h : x ∈ l) (k n : Int) (t : Str) : SizeOf.sizeOf x < SizeOf.sizeOf (Exp.mk k n t l) := by
  have := List.sizeOf_lt_of_mem h
  simp only [Exp.mk.sizeOf_spec]
  omega
theorem Exp.ind {p : Exp → Prop} (h : ∀ k n t l, (∀ x ∈ l, p x) → p (.mk k n t l)) : ∀ v, p v
  | .mk k n t l => h k n t l fun x hx => Exp.ind h x
termination_by v => SizeOf.sizeOf v
decreasing_by exact sizeOf_mem_args hx k n t
end Go.Ab
end
section
namespace Go.Ab
set_option linter.unusedVariables false
theorem whileLoop {σ ρ : Type} {L : Nat → σ → Option ρ} (m : σ → Nat) (Inv : σ → Prop) (Post : ρ → Prop)
    (hstep : ∀ s, Inv s → (∃ s', Inv s' ∧ m s' < m s ∧ ∀ n, L (n + 1) s = L n s') ∨ (∃ r, Post r ∧ ∀ n, L (n + 1) s = some r)) :
    ∀ n s, Inv s → m s < n → ∃ r, Post r ∧ L n s = some r := by
  intro n
  induction n with
  | zero => intro s _ h; omega
  | succ n ih =>
    intro s hs hn
    rcases hstep s hs with ⟨s', h1, h2, h3⟩ | ⟨r, h1, h2⟩
    · obtain ⟨r, h4, h5⟩ := ih s' h1 (by omega)
      exact ⟨r, h4, by rw [h3]; exact h5⟩
    · exact ⟨r, h1, h2 n⟩
theorem xFe {α σ ρ : Type} {L : Nat → Int → σ → Option ρ} (x0 : List α) (g : List α → σ → ρ) (Inv : Nat → σ → Prop)
    (hnil : ∀ n s, Inv x0.length s → L (n + 1) (x0.length : Nat) s = some (g [] s))
    (hcons : ∀ i x l s, x0.drop i = x :: l → i < x0.length → x0[i]? = some x → Inv i s →
      (∃ s', Inv (i + 1) s' ∧ g (x :: l) s = g l s' ∧ ∀ n, L (n + 1) (i : Nat) s = L n ((i + 1 : Nat) : Int) s') ∨ (∀ n, L (n + 1) (i : Nat) s = some (g (x :: l) s))) :
    ∀ n i s, Inv i s → i ≤ x0.length → x0.length < n + i → L n (i : Nat) s = some (g (x0.drop i) s) := by
  intro n
  induction n with
  | zero => intro i s _ h1 h2; omega
  | succ n ih =>
    intro i s hs hi hn
    cases hd : x0.drop i with
    | nil =>
      have := xGe hd
      obtain rfl : i = x0.length := by omega
      exact hnil n s hs
    | cons x l =>
      obtain ⟨h1, h2, h3⟩ := xDv hd
      rcases hcons i x l s hd h1 h2 hs with ⟨s', h4, h5, h6⟩ | h
      · rw [h6, ih (i + 1) s' h4 (by omega) (by omega), h3, h5]
      · exact h n
theorem xCr {α : Type} {xs : List α} {i : Nat} {x : α} (h : xs[i]? = some x) (d : α) : xs.getD i d = x := by simp [List.getD, h]
theorem xBU {i : Nat} {len : Nat} (h : i < len) (hl : len ≤ 9223372036854775807) : IntKind.i64.wrap ((i : Int) + 1) = ((i + 1 : Nat) : Int) := by
  rw [xBX (by omega) (by omega)]; omega
def left (s : Nat) (l : Int) : Int := if (s : Int) ≤ l then l - s else -1
theorem left_of {s : Nat} {l : Int} (h : (s : Int) ≤ l) : left s l = l - s := by unfold left; rw [if_pos h]
theorem left_not {s : Nat} {l : Int} (h : ¬ (s : Int) ≤ l) : left s l = -1 := by unfold left; rw [if_neg h]
section
variable {α : Type} {d : α}
theorem eqLoop {L : Nat → Int → Option Bool} {x0 : List α} (hend : ∀ n, L (n + 1) (x0.length : Nat) = some true)
    (hcons : ∀ (i : Nat) x n, i < x0.length → x0[i]? = some x → x ∈ x0 → L (n + 1) (i : Nat) = L n ((i + 1 : Nat) : Int)) {n : Nat} (hn : x0.length < n) : L n 0 = some true := by
  have key := xFe (σ := Unit) (L := fun n i _ => L n i) x0 (fun _ _ => true) (fun _ _ => True) (fun n _ _ => hend n)
    (fun i x r s hd hi hx _ => .inl ⟨(), trivial, rfl, fun n => hcons i x n hi hx (List.mem_of_getElem? hx)⟩) n 0 () trivial (by omega) (by omega)
  exact key
end
end Go.Ab
end
section
namespace Go.Ab
set_option linter.unusedVariables false
theorem vk (a b c : Int) (t : Str) (l : List Val) (k : List Str) (r : List Rowd) : (Val.mk a b c t l k r).kind = a := rfl
theorem vs (a b c : Int) (t : Str) (l : List Val) (k : List Str) (r : List Rowd) : (Val.mk a b c t l k r).step = c := rfl
theorem vl (a b c : Int) (t : Str) (l : List Val) (k : List Str) (r : List Rowd) : (Val.mk a b c t l k r).list = l := rfl
theorem ek (a b : Int) (t : Str) (l : List Exp) : (Exp.mk a b t l).kind = a := rfl
theorem en (a b : Int) (t : Str) (l : List Exp) : (Exp.mk a b t l).n = b := rfl
theorem et (a b : Int) (t : Str) (l : List Exp) : (Exp.mk a b t l).text = t := rfl
theorem ea (a b : Int) (t : Str) (l : List Exp) : (Exp.mk a b t l).args = l := rfl
mutual
def Exp.size : Exp → Nat
  | .mk _ _ t a => t.length + (a.length + Exp.sizes a)
def Exp.sizes : List Exp → Nat
  | [] => 0
  | x :: r => Exp.size x + Exp.sizes r
end
theorem Exp.sizes_eq (l : List Exp) : Exp.sizes l = (l.map Exp.size).sum := by
  induction l with
  | nil => rfl
  | cons x l ih => simp [Exp.sizes, ih]
theorem size_mem {α : Type} {f : α → Nat} {l : List α} {x : α} (h : x ∈ l) : f x ≤ (l.map f).sum := by
  induction l with
  | nil => cases h
  | cons a l ih =>
    simp only [List.map_cons, List.sum_cons]
    rcases List.mem_cons.1 h with rfl | h
    · omega
    · have := ih h; omega
theorem Exp.size_eq (e : Exp) : e.size = e.text.length + (e.args.length + (e.args.map Exp.size).sum) := by
  cases e; simp [Exp.size, Exp.sizes_eq, Exp.text, Exp.args]
theorem big_lt (n : Nat) : Big fun N => n < N := ⟨n + 1, fun N h => by omega⟩
end Go.Ab
end
section
namespace Go.Ab
set_option linter.unusedVariables false
theorem markHeld {α : Type} {Lm : Nat → List α → Int → Int → Option (Int × List α)} {Lh : Nat → List α → Int → Int → Option Int} {c : α → Nat} {x0 : List α} {k0 B : Int} {n : Nat}
    (hm : ∀ n xs k, xs.length = x0.length → Lm (n + 1) xs k (xs.length : Nat) = some (k, xs)) (hh : ∀ n ys k, ys.length = x0.length → Lh (n + 1) ys k (ys.length : Nat) = some k)
    (hx : ∀ x ∈ x0, ∀ k, k0 ≤ k → k + c x ≤ B → ∃ y, (∀ n xs (i : Nat), xs.length = x0.length → xs[i]? = some x → Lm (n + 1) xs k i = Lm n (xs.set i y) (k + c x) ((i + 1 : Nat) : Int)) ∧
      (∀ n ys (i : Nat), ys.length = x0.length → ys[i]? = some y → Lh (n + 1) ys k i = Lh n ys (k + c x) ((i + 1 : Nat) : Int)))
    (hk : k0 + (x0.map c).sum ≤ B) (hn : x0.length < n) : ∃ ys, ys.length = x0.length ∧ Lm n x0 k0 0 = some (k0 + (x0.map c).sum, ys) ∧ Lh n ys k0 0 = some (k0 + (x0.map c).sum) := by
  have key : ∀ (l pre : List α) (k : Int) (n : Nat), pre.length + l.length = x0.length → (∀ x ∈ l, x ∈ x0) → k0 ≤ k → k + (l.map c).sum ≤ B → l.length < n →
      ∃ ys, ys.length = l.length ∧ Lm n (pre ++ l) k (pre.length : Nat) = some (k + (l.map c).sum, pre ++ ys) ∧ ∀ pre' : List α, pre'.length = pre.length → Lh n (pre' ++ ys) k (pre.length : Nat) = some (k + (l.map c).sum) := by
    intro l
    induction l with
    | nil =>
      intro pre k n hl hmem h0 hB hn
      obtain ⟨n, rfl⟩ : ∃ m, n = m + 1 := ⟨n - 1, by simp at hn; omega⟩
      refine ⟨[], rfl, ?_, fun pre' hp => ?_⟩
      · have := hm n (pre ++ []) k (by simpa using hl)
        simpa using this
      · have := hh n (pre' ++ []) k (by simp [hp]; simpa using hl)
        simp only [List.append_nil, hp] at this
        simpa using this
    | cons x l ih =>
      intro pre k n hl hmem h0 hB hn
      obtain ⟨n, rfl⟩ : ∃ m, n = m + 1 := ⟨n - 1, by simp at hn; omega⟩
      simp only [List.map_cons, List.sum_cons, List.length_cons] at hB hl hn
      obtain ⟨y, h1, h2⟩ := hx x (hmem x List.mem_cons_self) k h0 (by omega)
      obtain ⟨ys, g1, g2, g3⟩ := ih (pre ++ [y]) (k + c x) n (by simp; omega) (fun z hz => hmem z (List.mem_cons_of_mem _ hz)) (by omega) (by omega) (by omega)
      refine ⟨y :: ys, by simp [g1], ?_, fun pre' hp => ?_⟩
      · rw [h1 n (pre ++ x :: l) pre.length (by simp; omega) (by simp)]
        rw [List.set_append, if_neg (by omega), Nat.sub_self, List.set_cons_zero]
        have e : ((pre.length + 1 : Nat) : Int) = ((pre ++ [y]).length : Nat) := by simp
        rw [e, show pre ++ y :: l = (pre ++ [y]) ++ l from by simp, g2]
        simp only [List.map_cons, List.sum_cons, List.append_assoc, List.cons_append, List.nil_append]
        congr 2
        omega
      · rw [h2 n (pre' ++ y :: ys) pre.length (by simp [hp, g1]; omega) (by rw [← hp]; simp)]
        have e : ((pre.length + 1 : Nat) : Int) = ((pre ++ [y]).length : Nat) := by simp
        rw [e, show pre' ++ y :: ys = (pre' ++ [y]) ++ ys from by simp, g3 (pre' ++ [y]) (by simp [hp])]
        simp only [List.map_cons, List.sum_cons]
        congr 1
        omega
  obtain ⟨ys, h1, h2, h3⟩ := key x0 [] k0 n (by simp) (fun x h => h) (Int.le_refl _) hk hn
  exact ⟨ys, h1, h2, by simpa using h3 [] rfl⟩
theorem getD_set_self {α : Type} {xs : List α} {i : Nat} (h : i < xs.length) (y d : α) : (xs.set i y).getD i d = y := by simp [List.getD, h]
end Go.Ab
end
section
namespace Go.Ab
set_option linter.unusedVariables false
theorem eqExpr_big {K : Nat} (hK : K ≤ 9223372036854775807) : ∀ e : Exp, e.Fit K → Big2 fun N d => (xB4 N d).c_laws_eqExpr e e = some true := by
  refine Exp.ind fun k n t a ih h => ?_
  obtain ⟨h1, h2, h3, h4⟩ := Exp.fit_iff.1 h
  refine Big2.succ (Big2.succ ?_)
  refine ((Big2.list fun x hx => ih x hx (h4.2 x hx)).and (big_lt a.length).two).imp fun N d ⟨hx, hn⟩ => ?_
  have hl : a.length ≤ K := h4.1
  have key : (xB4 N (d + 1)).c_laws_eqExprS a a = some true := by
    show xEd _ _ _ a a = _
    unfold xEd
    rw [bne_self_eq_false, cond_false]
    exact eqLoop (L := fun n i => xEc N (xB4 N d).c_laws_eqExpr (xB4 N d).c_laws_eqExprS n a a i) (fun n => by simp [xEc]) (fun i x n hi hxi hm => by
      have hi' : (i : Int) < (a.length : Int) := by omega
      simp only [xEc, decide_eq_true hi', cond_true, Int.toNat_natCast, xCr hxi, hx x hm, Option.bind_some, xBU hi (by omega), Bool.not_true, cond_false]
      rw [if_pos (by omega), if_pos (by omega)]) hn
  show xEp N (xB4 N (d + 1)).c_laws_eqExpr (xB4 N (d + 1)).c_laws_eqExprS _ _ = _
  unfold xEp
  simp [Exp.args, key]
theorem eqExpr_self {e : Exp} {K : Nat} (h : e.Fit K) (hK : K ≤ 9223372036854775807) : Big fun N => xGm N e e = some true := (eqExpr_big hK e h).diag
end Go.Ab
end
section
namespace Go.Ab
set_option linter.unusedVariables false
set_option linter.unusedSimpArgs false
def xGU (c : UInt8) : Bool := decide ((c.toNat : Int) ≥ 97) && decide ((c.toNat : Int) ≤ 122)
def digitC (c : UInt8) : Bool := decide ((c.toNat : Int) ≥ 48) && decide ((c.toNat : Int) ≤ 57)
def xFT : List UInt8 → Bool → Bool
  | [], _ => true
  | x :: r, f => (xGU x || (!f && digitC x)) && xFT r false
theorem spec_l2Shape_eq {N : Nat} {s : Str} (hl : s.length ≤ 9223372036854775807) (hn : s.length < N) : xFW N s = some (xFT s true && decide ((s.length : Int) > 0)) :=
  xFe (L := fun n i _ => xCR N n s i) s (fun l f => xFT l f && decide ((s.length : Int) > 0)) (fun i f => f = (i == 0)) (fun n _ _ => by simp [xCR, xFT])
    (fun i x l f hd hi hx hf => by
      have hi' : (i : Int) < (s.length : Int) := by omega
      have hi0 : ((i : Int) == 0) = f := by rw [hf]; cases i <;> simp <;> omega
      by_cases h1 : (xGU x || (!f && digitC x)) = true
      · refine .inl ⟨false, by simp, by simp [xFT, h1], fun n => ?_⟩
        simp only [xCR, decide_eq_true hi', cond_true, Int.toNat_natCast, xCr hx, xBU hi hl, hi0]
        rw [if_pos (by omega)]
        unfold xGU digitC at h1
        by_cases c1 : (x.toNat : Int) ≥ 97 <;> by_cases c2 : (x.toNat : Int) ≤ 122 <;> by_cases c3 : (x.toNat : Int) ≥ 48 <;> by_cases c4 : (x.toNat : Int) ≤ 57 <;> cases f <;>
          simp only [c1, c2, c3, c4, decide_true, decide_false, cond_true, cond_false, Bool.not_true, Bool.not_false, Bool.and_true, Bool.and_false, Bool.or_true, Bool.or_false, Bool.false_and, Bool.true_and, Bool.false_or, Bool.false_eq_true] at h1 ⊢
      · refine .inr fun n => ?_
        have h1 := Bool.eq_false_iff.2 h1
        simp only [xCR, decide_eq_true hi', cond_true, Int.toNat_natCast, xCr hx, xBU hi hl, hi0, xFT, h1, Bool.false_and]
        rw [if_pos (by omega)]
        unfold xGU digitC at h1
        by_cases c1 : (x.toNat : Int) ≥ 97 <;> by_cases c2 : (x.toNat : Int) ≤ 122 <;> by_cases c3 : (x.toNat : Int) ≥ 48 <;> by_cases c4 : (x.toNat : Int) ≤ 57 <;> cases f <;>
          simp only [c1, c2, c3, c4, decide_true, decide_false, cond_true, cond_false, Bool.not_true, Bool.not_false, Bool.and_true, Bool.and_false, Bool.or_true, Bool.or_false, Bool.false_and, Bool.true_and, Bool.false_or, Bool.true_eq_false] at h1 ⊢) N 0 true rfl (by omega) (by omega)
theorem xGQ (N : Nat) (a b c : Int) : xEv N a b c = some (decide (b ≤ a) && decide (a ≤ c)) := by
  unfold xEv
  cases h : decide (b ≤ a) <;> simp
theorem spec_l1In_eq (N : Nat) (a b c : Int) : xGc N a b c = some (decide (b ≤ a) && decide (a ≤ c)) := by
  unfold xGc
  cases h : decide (b ≤ a)
  · rfl
  · rfl
theorem impl_isWord_eq {N : Nat} {s : Str} (hl : s.length ≤ 9223372036854775807) (hn : s.length < N) : xGi N s = some (xFT s true && (decide ((1 : Int) ≤ s.length) && decide ((s.length : Int) ≤ 8))) :=
  xFe (L := fun n i _ => xDp N n s i) s (fun l f => xFT l f && (decide ((1 : Int) ≤ s.length) && decide ((s.length : Int) ≤ 8))) (fun i f => f = (i == 0)) (fun n _ _ => by simp [xDp, xFT, xGQ])
    (fun i x l f hd hi hx hf => by
      have hi' : (i : Int) < (s.length : Int) := by omega
      have hi0 : ((i : Int) == 0) = f := by rw [hf]; cases i <;> simp <;> omega
      have e1 : decide ((x.toNat : Int) < 48) = !decide ((x.toNat : Int) ≥ 48) := by by_cases c : (x.toNat : Int) ≥ 48 <;> simp [c] <;> omega
      have e2 : decide ((x.toNat : Int) > 57) = !decide ((x.toNat : Int) ≤ 57) := by by_cases c : (x.toNat : Int) ≤ 57 <;> simp [c] <;> omega
      by_cases h1 : (xGU x || (!f && digitC x)) = true
      · refine .inl ⟨false, by simp, by simp [xFT, h1], fun n => ?_⟩
        simp only [xDp, decide_eq_true hi', cond_true, Int.toNat_natCast, xCr hx, xBU hi hl, hi0, e1, e2]
        rw [if_pos (by omega)]
        unfold xGU digitC at h1
        by_cases c1 : (x.toNat : Int) ≥ 97 <;> by_cases c2 : (x.toNat : Int) ≤ 122 <;> by_cases c3 : (x.toNat : Int) ≥ 48 <;> by_cases c4 : (x.toNat : Int) ≤ 57 <;> cases f <;>
          simp only [c1, c2, c3, c4, decide_true, decide_false, cond_true, cond_false, Bool.not_true, Bool.not_false, Bool.and_true, Bool.and_false, Bool.or_true, Bool.or_false, Bool.false_and, Bool.true_and, Bool.false_or, Bool.false_eq_true] at h1 ⊢
      · refine .inr fun n => ?_
        have h1 := Bool.eq_false_iff.2 h1
        simp only [xDp, decide_eq_true hi', cond_true, Int.toNat_natCast, xCr hx, xBU hi hl, hi0, e1, e2, xFT, h1, Bool.false_and]
        rw [if_pos (by omega)]
        unfold xGU digitC at h1
        by_cases c1 : (x.toNat : Int) ≥ 97 <;> by_cases c2 : (x.toNat : Int) ≤ 122 <;> by_cases c3 : (x.toNat : Int) ≥ 48 <;> by_cases c4 : (x.toNat : Int) ≤ 57 <;> cases f <;>
          simp only [c1, c2, c3, c4, decide_true, decide_false, cond_true, cond_false, Bool.not_true, Bool.not_false, Bool.and_true, Bool.and_false, Bool.or_true, Bool.or_false, Bool.false_and, Bool.true_and, Bool.false_or, Bool.true_eq_false] at h1 ⊢) N 0 true rfl (by omega) (by omega)
def xGa : List Str := [[108, 101, 116], [105, 110], [105, 102], [116, 104, 101, 110], [101, 108, 115, 101], [102, 111, 114], [100, 111], [108, 101, 110], [115, 117, 109], [116, 97, 107, 101], [115, 107, 105, 112], [114, 97, 110, 103, 101], [110, 116, 104], [119, 104, 101, 114, 101], [107, 101, 101, 112], [97, 100, 100], [103, 114, 111, 117, 112], [106, 111, 105, 110], [99, 111, 108, 117, 109, 110], [114, 111, 119, 115], [99, 108, 111, 99, 107], [99, 104, 97, 110, 99, 101], [102, 105, 108, 101], [116, 97, 98, 108, 101]]
theorem spec_l1Has_eq {N : Nat} {xs : List Str} {s : Str} (hl : xs.length ≤ 9223372036854775807) (hn : xs.length < N) : xGH N xs s = some (xs.any (· == s)) :=
  xFe (σ := Unit) (L := fun n i _ => xEn N n xs s i) xs (fun l _ => l.any (· == s)) (fun _ _ => True) (fun n _ _ => by simp [xEn])
    (fun i x l _ hd hi hx _ => by
      have hi' : (i : Int) < (xs.length : Int) := by omega
      cases h1 : x == s
      · refine .inl ⟨(), trivial, by simp [h1], fun n => ?_⟩
        simp only [xEn, decide_eq_true hi', cond_true, Int.toNat_natCast, xCr hx, h1, cond_false, xBU hi hl]
        rw [if_pos (by omega)]
      · refine .inr fun n => ?_
        simp only [xEn, decide_eq_true hi', cond_true, Int.toNat_natCast, xCr hx, h1]
        rw [if_pos (by omega)]
        simp [h1]) N 0 () trivial (by omega) (by omega)
def xGG (s : Str) : Bool := xGa.any (· == s)
theorem spec_IsReserved_eq {N : Nat} {s : Str} (hn : 24 < N) : xEy N s = some (xGG s) := by
  unfold xEy xFb
  rw [Option.bind_some, show ([[108, 101, 116], [105, 110], [105, 102], [116, 104, 101, 110], [101, 108, 115, 101], [102, 111, 114], [100, 111], [108, 101, 110], [115, 117, 109], [116, 97, 107, 101], [115, 107, 105, 112], [114, 97, 110, 103, 101], [110, 116, 104], [119, 104, 101, 114, 101], [107, 101, 101, 112], [97, 100, 100], [103, 114, 111, 117, 112], [106, 111, 105, 110], [99, 111, 108, 117, 109, 110], [114, 111, 119, 115], [99, 108, 111, 99, 107], [99, 104, 97, 110, 99, 101], [102, 105, 108, 101], [116, 97, 98, 108, 101]] : List Str) = xGa from rfl, spec_l1Has_eq (by decide) hn]
  rfl
theorem impl_IsReserved_eq (N : Nat) (s : Str) : xEu N s = some (xGG s) := by
  by_cases h : s ∈ xGa
  · have h' : xGG s = true := List.any_eq_true.2 ⟨s, h, by simp⟩
    rw [h']
    simp only [xGa, List.mem_cons, List.not_mem_nil, or_false] at h
    rcases h with h | h | h | h | h | h | h | h | h | h | h | h | h | h | h | h | h | h | h | h | h | h | h | h <;> subst h <;> rfl
  · have h' : xGG s = false := by
      unfold xGG
      rw [List.any_eq_false]
      intro x hx hxs
      exact h (by rw [← eq_of_beq hxs]; exact hx)
    rw [h']
    have hne : ∀ x ∈ xGa, (s == x) = false := by
      intro x hx
      cases hb : s == x
      · rfl
      · exact absurd (by rw [eq_of_beq hb]; exact hx) h
    simp only [xGa, List.mem_cons, List.not_mem_nil, or_false, forall_eq_or_imp, forall_eq] at hne
    simp only [xEu, xCN, hne, cond_false, Option.bind_some]
    rfl
def xDz (s : Str) : Bool := xFT s true && (decide ((1 : Int) ≤ s.length) && decide ((s.length : Int) ≤ 8)) && !xGG s
theorem xEU {N : Nat} {s : Str} (hl : s.length ≤ 9223372036854775807) (hn : s.length < N) : xCU N s = some (xDz s) := by
  unfold xCU xDz
  rw [impl_isWord_eq hl hn, Option.bind_some]
  cases (xFT s true && (decide ((1 : Int) ≤ s.length) && decide ((s.length : Int) ≤ 8)))
  · rfl
  · rw [impl_IsReserved_eq]; rfl
theorem xEZ {N : Nat} {s : Str} (hl : s.length ≤ 9223372036854775807) (hn : s.length < N) (hn2 : 24 < N) : xCX N s = some (xDz s) := by
  unfold xCX xDz
  rw [spec_l2Shape_eq hl hn, Option.bind_some, spec_IsReserved_eq hn2]
  have : decide ((s.length : Int) > 0) = decide ((1 : Int) ≤ s.length) := by by_cases c : (s.length : Int) > 0 <;> simp [c] <;> omega
  rw [this]
  cases xFT s true <;> cases decide ((1 : Int) ≤ s.length) <;> cases decide ((s.length : Int) ≤ 8) <;> rfl
end Go.Ab
end
section
namespace Go.Ab
set_option linter.unusedVariables false
set_option linter.unusedSimpArgs false
theorem markText_some {N : Nat} (hN : 274877906944 < N) {k : Int} (h0 : 0 ≤ k) (h1 : k ≤ 137438953472) : ∃ t, xEF N k = some t := by
  unfold xEF
  cases decide (k ≤ 0)
  · rw [cond_false]
    obtain ⟨r, _, hr⟩ := whileLoop (L := fun n (s : Int × Str) => xDW N n s.1 s.2) (fun s => s.1.toNat) (fun s => 0 ≤ s.1 ∧ (s.2.length : Int) + s.1 ≤ 137438953472) (fun _ => True) (fun s hs => by
      obtain ⟨x, t⟩ := s
      obtain ⟨g0, g1⟩ := hs
      have g0 : 0 ≤ x := g0
      have g1 : (t.length : Int) + x ≤ 137438953472 := g1
      by_cases hx : x > 0
      · have hq : Int.tdiv x 10 = x / 10 := Int.tdiv_eq_ediv_of_nonneg g0
        refine .inl ⟨(IntKind.i64.wrap (Int.tdiv x 10), (List.map (fun n => UInt8.ofNat (Int.toNat n)) [(IntKind.u8.wrap ((IntKind.i64.wrap (48 + (Int.tmod x 10)))))]) ++ t), ?_, ?_, fun n => ?_⟩
        · show 0 ≤ IntKind.i64.wrap (Int.tdiv x 10) ∧ _
          rw [hq, xBX (by omega) (by omega)]
          simp only [List.map_cons, List.map_nil, List.cons_append, List.nil_append, List.length_cons]
          omega
        · show (IntKind.i64.wrap (Int.tdiv x 10)).toNat < x.toNat
          rw [hq, xBX (by omega) (by omega)]
          omega
        · simp only [xDW, decide_eq_true hx, cond_true]
          rw [if_pos (by simp only [List.map_cons, List.map_nil, List.length_cons, List.length_nil]; unfold Lim; omega)]
      · refine .inr ⟨[109] ++ t, trivial, fun n => ?_⟩
        simp only [xDW, decide_eq_false hx, cond_false]
        rw [if_pos (by simp only [List.length_cons, List.length_nil]; unfold Lim; omega)]) N (k, []) ⟨h0, by simpa using h1⟩ (by show k.toNat < N; omega)
    exact ⟨r, hr⟩
  · exact ⟨_, rfl⟩
end Go.Ab
end
section
namespace Go.Ab
set_option linter.unusedVariables false
set_option linter.unusedSimpArgs false
def allI {α : Type} (p : Nat → α → Bool) : List α → Nat → Bool
  | [], _ => true
  | x :: r, i => p i x && allI p r (i + 1)
theorem allLoop {α : Type} {L : Nat → Int → Option Bool} {x0 : List α} {p : Nat → α → Bool} {e : Option Bool} (hend : ∀ n, L (n + 1) (x0.length : Nat) = e)
    (hcons : ∀ (i : Nat) x n, i < x0.length → x0[i]? = some x → x ∈ x0 → L (n + 1) (i : Nat) = bif p i x then L n ((i + 1 : Nat) : Int) else some false) {n : Nat} (hn : x0.length < n) :
    L n 0 = bif allI p x0 0 then e else some false := by
  have key : ∀ (m i : Nat), i ≤ x0.length → x0.length < m + i → L m (i : Nat) = bif allI p (x0.drop i) i then e else some false := by
    intro m
    induction m with
    | zero => intro i h1 h2; omega
    | succ m ih =>
      intro i h1 h2
      cases hd : x0.drop i with
      | nil =>
        have := xGe hd
        obtain rfl : i = x0.length := by omega
        rw [hend]; rfl
      | cons x l =>
        obtain ⟨g1, g2, g3⟩ := xDv hd
        rw [hcons i x m g1 g2 (List.mem_of_getElem? g2), ih (i + 1) (by omega) (by omega), g3]
        simp only [allI]
        cases p i x <;> rfl
  exact key n 0 (by omega) (by omega)
def textC (c : UInt8) : Bool := !(decide ((c.toNat : Int) < 32)) && (!(decide ((c.toNat : Int) > 126)) && !((c.toNat : Int) == 34))
def xGR (s : Str) : Bool := allI (fun _ => textC) s 0 && decide ((s.length : Int) ≤ 20)
theorem bif_and {a b : Bool} : (bif a then some b else some false) = some (a && b) := by cases a <;> rfl
theorem xE0 {N : Nat} {s : Str} (hl : s.length ≤ 9223372036854775807) (hn : s.length < N) : xDY N s = some (xGR s) := by
  rw [xGR, ← bif_and]
  exact allLoop (L := fun n i => xCx N n s i) (fun n => by simp [xCx]) (fun i x n hi hx hm => by
    have hi' : (i : Int) < (s.length : Int) := by omega
    simp only [xCx, decide_eq_true hi', cond_true, Int.toNat_natCast, xCr hx, xBU hi hl, textC]
    rw [if_pos (by omega)]
    cases decide ((x.toNat : Int) < 32) <;> cases decide ((x.toNat : Int) > 126) <;> cases ((x.toNat : Int) == 34) <;> rfl) hn
theorem xGs (N n : Nat) (s : Str) (i : Int) : xDQ N n s i = xCx N n s i := by
  induction n generalizing i with
  | zero => rfl
  | succ n ih => simp only [xDQ, xCx, ih]
theorem xFE {N : Nat} {s : Str} (hl : s.length ≤ 9223372036854775807) (hn : s.length < N) : xCV N s = some (xGR s) := (xGs N N s 0).trans (xE0 hl hn)
end Go.Ab
end
section
namespace Go.Ab
set_option linter.unusedVariables false
set_option linter.unusedSimpArgs false
def kb : List Val → List Int → Bool
  | [], _ => false
  | _ :: _, [] => false
  | x :: r, k :: ks => (x.kind != k) || kb r ks
end Go.Ab
end
section
namespace Go.Ab
set_option linter.unusedVariables false
set_option linter.unusedSimpArgs false
def pick (k : Int) (n : Int) (rs : List Rowd) : List Rowd := rs.filter fun r => r.cells.getD k.toNat Ty.int.dflt == n
end Go.Ab
end
section
namespace Go.Ab
set_option linter.unusedVariables false
def dd (n : Nat) : Str := if n = 0 then [] else Lib.decDigits n
theorem dd_step {n : Nat} (h : n ≠ 0) : dd n = dd (n / 10) ++ [UInt8.ofNat (48 + n % 10)] := by
  unfold dd
  rw [if_neg h]
  by_cases h1 : n < 10
  · rw [Lib.decDigits, dif_pos h1, if_pos (by omega), Nat.mod_eq_of_lt h1]; rfl
  · rw [Lib.decDigits, dif_neg h1, if_neg (by omega)]
theorem itoa_dd {n : Int} (h : n ≠ 0) : Lib.itoa n = (bif decide (n < 0) then [45] else []) ++ dd n.natAbs := by
  have h2 : ¬ n.natAbs = 0 := by omega
  unfold Lib.itoa dd
  by_cases h1 : n < 0
  · rw [if_pos h1, decide_eq_true h1, if_neg h2]; rfl
  · rw [if_neg h1, decide_eq_false h1, if_neg h2, show n.toNat = n.natAbs from by omega]; rfl
theorem dd_len : ∀ (k n : Nat), n < 10 ^ k → (dd n).length ≤ k := by
  intro k
  induction k with
  | zero => intro n h; have : n = 0 := by simpa using h
            subst this; exact Nat.le_refl _
  | succ k ih =>
    intro n h
    by_cases h0 : n = 0
    · subst h0; exact Nat.zero_le _
    · rw [dd_step h0, List.length_append]
      have := ih (n / 10) (by rw [Nat.pow_succ] at h; omega)
      simp only [List.length_cons, List.length_nil]; omega
mutual
def Exp.cnt : Exp → Nat
  | .mk _ _ _ a => 1 + Exp.cnts a
def Exp.cnts : List Exp → Nat
  | [] => 0
  | x :: r => Exp.cnt x + Exp.cnts r
end
theorem Exp.cnts_eq (l : List Exp) : Exp.cnts l = (l.map Exp.cnt).sum := by
  induction l with
  | nil => rfl
  | cons x l ih => simp only [Exp.cnts, List.map_cons, List.sum_cons, ih]
theorem Exp.cnt_eq (e : Exp) : e.cnt = 1 + (e.args.map Exp.cnt).sum := by
  cases e; simp only [Exp.cnt, Exp.cnts_eq, Exp.args]
mutual
def Exp.nest : Exp → Nat
  | .mk _ _ _ a => Exp.nests a + 1
def Exp.nests : List Exp → Nat
  | [] => 0
  | x :: r => max (Exp.nest x) (Exp.nests r)
end
theorem Exp.nest_eq (e : Exp) : e.nest = Exp.nests e.args + 1 := by cases e; rfl
theorem sums_le {f g : Exp → Nat} : ∀ {a : List Exp}, (∀ x ∈ a, f x ≤ g x + 1) → (a.map f).sum ≤ a.length + (a.map g).sum
  | [], _ => Nat.le_refl _
  | x :: l, ih => by
    have h1 := ih x List.mem_cons_self
    have h2 := sums_le fun y hy => ih y (List.mem_cons_of_mem _ hy)
    simp only [List.map_cons, List.sum_cons, List.length_cons]; omega
theorem Exp.cnt_le : ∀ e : Exp, e.cnt ≤ e.size + 1 := by
  refine Exp.ind fun k n t a ih => ?_
  rw [Exp.cnt_eq, Exp.size_eq]
  have := sums_le ih
  show 1 + (a.map Exp.cnt).sum ≤ t.length + (a.length + (a.map Exp.size).sum) + 1
  omega
theorem nests_le : ∀ {a : List Exp}, (∀ x ∈ a, x.nest ≤ x.cnt) → Exp.nests a ≤ (a.map Exp.cnt).sum
  | [], _ => Nat.le_refl _
  | x :: l, ih => by
    have h1 := ih x List.mem_cons_self
    have h2 := nests_le fun y hy => ih y (List.mem_cons_of_mem _ hy)
    simp only [Exp.nests, List.map_cons, List.sum_cons]; omega
theorem Exp.nest_le : ∀ e : Exp, e.nest ≤ e.cnt := by
  refine Exp.ind fun k n t a ih => ?_
  rw [Exp.nest_eq, Exp.cnt_eq]
  have := nests_le ih
  show Exp.nests a + 1 ≤ 1 + (a.map Exp.cnt).sum
  omega
def nodeOk (vT vN : Str → Bool) (ac : Str → Int) (k n : Int) (t : Str) (l : Nat) : Bool :=
  bif k == 1 then (decide (0 ≤ n) && decide (n ≤ 1000000000)) && ((t == []) && (l == 0))
  else bif k == 2 then (n == 0) && (vT t && (l == 0))
  else bif k == 3 then (n == 0) && (vN t && (l == 0))
  else bif k == 4 then (n == 0) && ((t == []) && decide (l ≤ 8))
  else bif k == 5 then (n == 0) && ((l : Int) == ac t)
  else bif k == 6 then (decide (1 ≤ n) && decide (n ≤ 5)) && ((t == []) && (l == 2))
  else bif k == 7 then (n == 0) && (vN t && (l == 2))
  else bif k == 9 then (n == 0) && (vN t && (l == 2))
  else bif k == 8 then (n == 0) && ((t == []) && (l == 3)) else false
end Go.Ab
end
section
namespace Go.Ab
set_option linter.unusedVariables false
set_option linter.unusedSimpArgs false
theorem xGY {N : Nat} : ∀ (k n : Nat) (x : Int) (b : Bool) (q : Str), x.natAbs < 10 ^ k → k < n → k + q.length ≤ 1000 → (-9223372036854775808 ≤ x ∧ x ≤ 9223372036854775807) →
    xCh N n x b q = some ((bif b then [45] else []) ++ (dd x.natAbs ++ q)) := by
  intro k
  induction k with
  | zero =>
    intro n x b q hx hn hq hi
    obtain ⟨n, rfl⟩ : ∃ m, n = m + 1 := ⟨n - 1, by omega⟩
    have : x = 0 := by have : x.natAbs < 1 := by simpa using hx
                       omega
    subst this
    simp only [xCh, show ((0 : Int) != 0) = false from rfl, cond_false]
    cases b
    · rfl
    · simp only [cond_true]
      rw [if_pos (by simp only [List.length_cons, List.length_nil]; unfold Lim; omega)]; rfl
  | succ k ih =>
    intro n x b q hx hn hq hi
    obtain ⟨n, rfl⟩ : ∃ m, n = m + 1 := ⟨n - 1, by omega⟩
    by_cases h0 : x = 0
    · subst h0
      simp only [xCh, show ((0 : Int) != 0) = false from rfl, cond_false]
      cases b
      · rfl
      · simp only [cond_true]
        rw [if_pos (by simp only [List.length_cons, List.length_nil]; unfold Lim; omega)]; rfl
    · have hne : (x != 0) = true := by simpa using h0
      have hn0 : x.natAbs ≠ 0 := by omega
      have hd : (Int.tdiv x 10).natAbs = x.natAbs / 10 := by rw [Int.natAbs_tdiv]; rfl
      have hm : (Int.tmod x 10).natAbs = x.natAbs % 10 := by rw [Int.natAbs_tmod]; rfl
      have hdi : -9223372036854775808 ≤ Int.tdiv x 10 ∧ Int.tdiv x 10 ≤ 9223372036854775807 := by omega
      have hb : (Int.tdiv x 10).natAbs < 10 ^ k := by rw [hd]; rw [Nat.pow_succ] at hx; omega
      have hw : IntKind.i64.wrap (Int.tdiv x 10) = Int.tdiv x 10 := xBX (by omega) (by omega)
      have fin : ∀ c : Int, c = ((48 + x.natAbs % 10 : Nat) : Int) → xCh N n (Int.tdiv x 10) b ((List.map (fun n => UInt8.ofNat (Int.toNat n)) [c]) ++ q) = some ((bif b then [45] else []) ++ (dd x.natAbs ++ q)) := by
        intro c hc
        rw [ih n _ b _ hb (by omega) (by simp only [List.length_append, List.length_map, List.length_cons, List.length_nil]; omega) hdi, hd, dd_step hn0, hc]
        simp only [List.map_cons, List.map_nil, Int.toNat_natCast, List.append_assoc, List.cons_append, List.nil_append]
      have hlim : ∀ c : Int, List.length (List.map (fun n => UInt8.ofNat (Int.toNat n)) [c]) + List.length q ≤ Lim := fun c => by
        simp only [List.length_map, List.length_cons, List.length_nil]; unfold Lim; omega
      by_cases hneg : Int.tmod x 10 < 0
      · have e1 : IntKind.i64.wrap (0 - Int.tmod x 10) = 0 - Int.tmod x 10 := xBX (by omega) (by omega)
        have e2 : IntKind.i64.wrap (48 + (0 - Int.tmod x 10)) = 48 + (0 - Int.tmod x 10) := xBX (by omega) (by omega)
        have e3 : IntKind.u8.wrap (48 + (0 - Int.tmod x 10)) = 48 + (0 - Int.tmod x 10) := wrap_u8 (by omega) (by omega)
        simp only [xCh, hne, cond_true, decide_eq_true hneg, e1, e2, e3, hw]
        rw [if_pos (hlim _)]
        exact fin _ (by omega)
      · have e2 : IntKind.i64.wrap (48 + Int.tmod x 10) = 48 + Int.tmod x 10 := xBX (by omega) (by omega)
        have e3 : IntKind.u8.wrap (48 + Int.tmod x 10) = 48 + Int.tmod x 10 := wrap_u8 (by omega) (by omega)
        simp only [xCh, hne, cond_true, decide_eq_false hneg, cond_false, e2, e3, hw]
        rw [if_pos (hlim _)]
        exact fin _ (by omega)
theorem spec_FormatInt_eq {N : Nat} {x : Int} (hN : 100 < N) (hi : -9223372036854775808 ≤ x ∧ x ≤ 9223372036854775807) : xEq N x = some (Lib.itoa x) := by
  unfold xEq
  by_cases h0 : x = 0
  · subst h0
    simp only [beq_self_eq_true, cond_true]
    show some [48] = some (Lib.decDigits 0)
    rw [Lib.decDigits, dif_pos (by omega)]; rfl
  · have e20 : x.natAbs < 10 ^ 20 := by
      have : (10 : Nat) ^ 20 = 100000000000000000000 := by decide
      omega
    rw [show (x == 0) = false from beq_eq_false_iff_ne.2 h0, cond_false, xGY 20 N x _ [] e20 (by omega) (by simp) hi, itoa_dd h0, List.append_nil]
theorem bif_ex {α : Type} {b : Bool} {x y : Option α} (h1 : ∃ r, x = some r) (h2 : ∃ r, y = some r) : ∃ r, (bif b then x else y) = some r := by cases b <;> assumption
theorem xDU {α : Type} {b : Bool} {x y : Option α} {p q : α} (h1 : x = some p) (h2 : y = some q) : (bif b then x else y) = some (bif b then p else q) := by cases b <;> assumption
def argc (s : Str) : Int := (xCa 0 s).getD 0
theorem xEx (N : Nat) (s : Str) : xCa N s = some (argc s) := by
  have key : ∃ r, xCa 0 s = some r := by
    unfold xCa
    repeat (first | exact ⟨_, rfl⟩ | refine bif_ex ⟨_, rfl⟩ ?_)
  obtain ⟨r, hr⟩ := key
  show xCa 0 s = _
  rw [argc, hr]; rfl
theorem xFk (N : Nat) (s : Str) : xCN N s = some (argc s) := (show xCN N s = xCa N s from rfl).trans (xEx N s)
def nodeE (e : Exp) : Bool := nodeOk xGR xDz argc e.kind e.n e.text e.args.length
theorem lenI0 (l : Nat) : ((l : Int) == 0) = (l == 0) := by
  rcases Nat.eq_zero_or_pos l with rfl | h
  · rfl
  · rw [beq_eq_false_iff_ne.2 (by omega : l ≠ 0), beq_eq_false_iff_ne.2 (by omega : (l : Int) ≠ 0)]
theorem lenI2 (l : Nat) : ((l : Int) == 2) = (l == 2) := by
  rcases Decidable.em (l = 2) with rfl | h
  · rfl
  · rw [beq_eq_false_iff_ne.2 h, beq_eq_false_iff_ne.2 (by omega : (l : Int) ≠ 2)]
theorem lenI3 (l : Nat) : ((l : Int) == 3) = (l == 3) := by
  rcases Decidable.em (l = 3) with rfl | h
  · rfl
  · rw [beq_eq_false_iff_ne.2 h, beq_eq_false_iff_ne.2 (by omega : (l : Int) ≠ 3)]
theorem lenI8 (l : Nat) : decide ((l : Int) ≤ 8) = decide (l ≤ 8) := by
  rcases Decidable.em (l ≤ 8) with h | h
  · rw [decide_eq_true h, decide_eq_true (by omega : (l : Int) ≤ 8)]
  · rw [decide_eq_false h, decide_eq_false (by omega : ¬ (l : Int) ≤ 8)]
theorem impl_isNode_eq {N : Nat} {e : Exp} (ht : e.text.length ≤ 9223372036854775807) (hn : e.text.length < N) : xFF N e = some (nodeE e) := by
  simp only [xFF, nodeE, nodeOk, xGQ, xFE ht hn, xEU (N := N) ht hn, xFk, Option.bind_some, lenI0, lenI2, lenI3, lenI8]
  refine xDU ?_ (xDU ?_ (xDU ?_ (xDU ?_ (xDU ?_ (xDU ?_ (xDU ?_ (xDU ?_ (xDU ?_ rfl)))))))) <;>
    first
    | rfl
    | (cases (decide ((0 : Int) ≤ e.n) && decide (e.n ≤ 1000000000)) <;> cases (e.text == []) <;> rfl)
    | (cases (decide ((1 : Int) ≤ e.n) && decide (e.n ≤ 5)) <;> cases (e.text == []) <;> rfl)
    | (cases (e.n == 0) <;> cases (e.text == []) <;> rfl)
    | (cases (e.n == 0) <;> cases (xGR e.text) <;> rfl)
    | (cases (e.n == 0) <;> cases (xDz e.text) <;> rfl)
theorem spec_l10Node_eq {N : Nat} {e : Exp} (ht : e.text.length ≤ 9223372036854775807) (hn : e.text.length < N) (h24 : 24 < N) : xFr N e = some (nodeE e) := by
  simp only [xFr, nodeE, nodeOk, spec_l1In_eq, xE0 ht hn, xEZ (N := N) (s := e.text) ht hn h24, xEx, Option.bind_some, lenI0, lenI2, lenI3, lenI8]
  refine xDU ?_ (xDU ?_ (xDU ?_ (xDU ?_ (xDU ?_ (xDU ?_ (xDU ?_ (xDU ?_ (xDU ?_ rfl)))))))) <;>
    first
    | rfl
    | (cases (e.args.length == 0) <;> cases (e.text == []) <;> cases (decide ((0 : Int) ≤ e.n) && decide (e.n ≤ 1000000000)) <;> rfl)
    | (cases (e.args.length == 0) <;> cases (e.n == 0) <;> cases (xGR e.text) <;> rfl)
    | (cases (e.args.length == 0) <;> cases (e.n == 0) <;> cases (xDz e.text) <;> rfl)
    | (cases (e.n == 0) <;> cases (e.text == []) <;> rfl)
    | (cases (e.args.length == 2) <;> cases (e.text == []) <;> cases (decide ((1 : Int) ≤ e.n) && decide (e.n ≤ 5)) <;> rfl)
    | (cases (e.args.length == 2) <;> cases (e.n == 0) <;> cases (xDz e.text) <;> rfl)
    | (cases (e.args.length == 3) <;> cases (e.n == 0) <;> cases (e.text == []) <;> rfl)
mutual
def okE : Exp → Bool
  | .mk k n t a => okEs a && nodeE (.mk k n t a)
def okEs : List Exp → Bool
  | [] => true
  | x :: r => okE x && okEs r
end
theorem okEs_eq (l : List Exp) : okEs l = l.all okE := by
  induction l with
  | nil => rfl
  | cons x l ih => simp only [okEs, List.all_cons, ih]
theorem okE_eq (e : Exp) : okE e = (e.args.all okE && nodeE e) := by
  cases e; simp only [okE, okEs_eq]; rfl
theorem all_ok {K : Nat} (hK : K ≤ 1048576) : ∀ e : Exp, e.Fit K → Big2 fun N d => xEb N d e = some (okE e) ∧ xEz N d e = some (okE e) := by
  refine Exp.ind fun k n t a ih h => ?_
  obtain ⟨h1, h2, h3, h4⟩ := Exp.fit_iff.1 h
  refine Big2.succ ?_
  refine ((Big2.list fun x hx => ih x hx (h4.2 x hx)).and (big_lt (K + 30)).two).imp fun N d ⟨hx, hn⟩ => ?_
  have hl : a.length ≤ K := h4.1
  have ht : (Exp.mk k n t a).text.length ≤ K := h3
  rw [okE_eq]
  refine ⟨?_, ?_⟩
  · exact xFe (σ := Unit) (L := fun m i _ => xDD N (xEb N d) m a a.length i (.mk k n t a)) a (fun l _ => l.all okE && nodeE (.mk k n t a)) (fun _ _ => True) (fun m _ _ => by simp [xDD, impl_isNode_eq (N := N) (e := .mk k n t a) (by omega) (by omega)])
      (fun i x l _ hd hi hxi _ => by
        have hi' : (i : Int) < (a.length : Int) := by omega
        have hm := List.mem_of_getElem? hxi
        cases ho : okE x
        · refine .inr fun m => ?_
          simp only [xDD, decide_eq_true hi', cond_true, Int.toNat_natCast, xCr hxi, (hx x hm).1, ho, Option.bind_some, Bool.not_false, List.all_cons, Bool.false_and]
          rw [if_pos (by omega)]
        · refine .inl ⟨(), trivial, by simp [ho], fun m => ?_⟩
          simp only [xDD, decide_eq_true hi', cond_true, Int.toNat_natCast, xCr hxi, (hx x hm).1, ho, Option.bind_some, Bool.not_true, cond_false, xBU hi (by omega : a.length ≤ _)]
          rw [if_pos (by omega)]) N 0 () trivial (by omega) (by omega)
  · exact xFe (σ := Unit) (L := fun m i _ => xD9 N (xEz N d) m i (.mk k n t a)) a (fun l _ => l.all okE && nodeE (.mk k n t a)) (fun _ _ => True) (fun m _ _ => by simp [xD9, ea, spec_l10Node_eq (N := N) (e := .mk k n t a) (by omega) (by omega) (by omega)])
      (fun i x l _ hd hi hxi _ => by
        have hi' : (i : Int) < ((Exp.mk k n t a).args.length : Int) := by show (i : Int) < (a.length : Int); omega
        have hi2 : (0 : Int) ≤ (i : Int) ∧ (i : Int) < ((Exp.mk k n t a).args.length : Int) := ⟨by omega, hi'⟩
        have hm := List.mem_of_getElem? hxi
        have hxi2 : (Exp.mk k n t a).args[i]? = some x := hxi
        cases ho : okE x
        · refine .inr fun m => ?_
          simp only [xD9, decide_eq_true hi', if_pos hi2, cond_true, Int.toNat_natCast, xCr hxi2, (hx x hm).2, ho, Option.bind_some, Bool.not_false, List.all_cons, Bool.false_and]
        · refine .inl ⟨(), trivial, by simp [ho], fun m => ?_⟩
          simp only [xD9, decide_eq_true hi', if_pos hi2, cond_true, Int.toNat_natCast, xCr hxi2, (hx x hm).2, ho, Option.bind_some, Bool.not_true, cond_false, xBU hi (by omega : a.length ≤ _)]) N 0 () trivial (by omega) (by omega)
end Go.Ab
end
