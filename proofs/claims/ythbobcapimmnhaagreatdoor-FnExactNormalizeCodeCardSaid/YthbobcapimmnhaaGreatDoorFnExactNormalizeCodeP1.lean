/- The statement FnExactNormalizeCode holds: plain functions, certificates, laws. Conditions: none. -/
import Derived.Test.YthbobcapimmnhaaGreatDoorL2
import Derived.Test.YthbobcapimmnhaaGreatDoorFnExactNormalizeCodeP0
set_option linter.all false
section
open Go.Proofs
namespace Go.Ab.T
set_option linter.unusedVariables false
set_option maxRecDepth 100000
variable [Inhabited Lb]
variable [Nonempty Tab10]
variable [Nonempty ErrVars]
def G137 (q : Rdr → Str → Option ((List Exp) × Rdr)) : Prop := ∀ a0 a1 r, q a0 a1 = some r → AbC 137 (xDG a0 a1) (xCb r)
def G127 (q : Rdr → Option (Exp × Rdr)) : Prop := ∀ a0 r, q a0 = some r → AbC 127 (xBr a0) (xBa r)
def G48 (q : Rdr → Option (Exp × Rdr)) : Prop := ∀ a0 r, q a0 = some r → AbC 48 (xDe a0) (xCW r)
def G28 (q : Rdr → Option (Exp × Rdr)) : Prop := ∀ a0 r, q a0 = some r → AbC 28 (xAL a0) (xAh r)
def G110 (q : Rdr → Option (Exp × Rdr)) : Prop := ∀ a0 r, q a0 = some r → AbC 110 (xCt a0) (xBb r)
def G88 (q : Rdr → Option (Exp × Rdr)) : Prop := ∀ a0 r, q a0 = some r → AbC 88 (xDB a0) (xBY r)
noncomputable def I137 : Info := { body := (Tryz.f137.body).getD .skip, nt := 44, results := [.tmp 4], keep := [0, 2, 8, 10, 18, 46, 62, 1], live := [(5, [0, 2, 10, 1])], modes := [(4, [(0, .take, false)]), (6, [(0, .take, false), (4, .take, false)]), (10, [(0, .take, false)])], ext := [0], casts := [(5, [(10, 0, false)])], fcast := [(8, 0, false)] }
theorem fk137 : FnOk Tryz.prog 137 Tryz.f137 I137 := ⟨Tryz.func137, by kernel_rfl, by kernel_rfl, by kernel_rfl, by kernel_rfl⟩
def S137_5 (x1 : Str) (x5 : List Exp) (b0 : Rdr) : St := [(0, .v false [.ptr 0 0]), (2, .v false [.str x1]), (10, .v false [.sl .tip .exp x5]), (1, .v true [.sl .ro .tok (Rdr.toks b0), .int .i64 (Rdr.i b0), .int .i64 (Rdr.fin b0), .int .i64 (Rdr.bad b0)])]
theorem p137_5_0 (x1 : Str) (x5 : List Exp) (b0 : Rdr) (r1 : Exp × Rdr) (r2 : Bool × Rdr) (r3 : Rdr) : rS 5 I137 (S137_5 x1 x5 b0) [Y, Y] [xAh r1, xAf r2, xAO r3] = dn (xCb ((x5 ++ [(Exp.re r1.1)]), r3)) [(decide (((Rdr.bad b0) : Int) < 0)) = true, AbC 28 (xAL b0) (xAh r1), Ln x5 + Ln [(Exp.re r1.1)] ≤ Lim, AbC 45 (xAo r1.2 [44]) (xAf r2), (!r2.1) = true, AbC 47 (xBJ r2.2 x1) (xAO r3)] := by kernel_rfl
theorem p137_5_1 (x1 : Str) (x5 : List Exp) (b0 : Rdr) (r1 : Exp × Rdr) (r2 : Bool × Rdr) : rS 5 I137 (S137_5 x1 x5 b0) [Y, F] [xAh r1, xAf r2] = st 5 I137 (S137_5 x1 (x5 ++ [(Exp.re r1.1)]) (Rdr.mk (Rdr.toks r2.2) (W ((Rdr.i r2.2) + 1)) (Rdr.fin r2.2) (Rdr.bad r2.2))) [(decide (((Rdr.bad b0) : Int) < 0)) = true, AbC 28 (xAL b0) (xAh r1), Ln x5 + Ln [(Exp.re r1.1)] ≤ Lim, AbC 45 (xAo r1.2 [44]) (xAf r2), (!r2.1) = false] := by kernel_rfl
theorem p137_5_2 (x1 : Str) (x5 : List Exp) (b0 r1 : Rdr) : rS 5 I137 (S137_5 x1 x5 b0) [F] [xAO r1] = dn (xCb (x5, r1)) [(decide (((Rdr.bad b0) : Int) < 0)) = false, AbC 47 (xBJ b0 x1) (xAO r1)] := by kernel_rfl
theorem p137_e_3 (a0 : Rdr) (a1 : Str) (r1 : Bool × Rdr) : rE I137 (xDG a0 a1) [Y] [xAf r1] = dn (xCb ([], (Rdr.mk (Rdr.toks r1.2) (W ((Rdr.i r1.2) + 1)) (Rdr.fin r1.2) (Rdr.bad r1.2)))) [AbC 45 (xAo a0 a1) (xAf r1), r1.1 = true] := by kernel_rfl
theorem p137_e_4 (a0 : Rdr) (a1 : Str) (r1 : Bool × Rdr) : rE I137 (xDG a0 a1) [F] [xAf r1] = st 5 I137 (S137_5 a1 [] r1.2) [AbC 45 (xAo a0 a1) (xAf r1), r1.1 = false] := by kernel_rfl
theorem c137_5 {N : Nat} {q0 : Rdr → Str → Option ((List Exp) × Rdr)} (g0 : G137 q0) {q1 : Rdr → Option (Exp × Rdr)} (g1 : G127 q1) {q2 : Rdr → Option (Exp × Rdr)} (g2 : G48 q2) {q3 : Rdr → Option (Exp × Rdr)} (g3 : G28 q3) {q4 : Rdr → Option (Exp × Rdr)} (g4 : G110 q4) {q5 : Rdr → Option (Exp × Rdr)} (g5 : G88 q5) : ∀ n x1 x5 b0 r, xEu N q0 q1 q2 q3 q4 q5 n x1 x5 b0 = some r → RS Tryz.f137 I137 5 (S137_5 x1 x5 b0) (xCb r) := by
 intro n
 induction n with
 | zero => exact fun _ _ _ _ h => nE h
 | succ n ih =>
  exact fun x1 x5 b0 r h =>
   cE h (fun h0 h => bE h fun r1 h1 h => iE h fun h2 h => bE h fun r2 h3 h => cE h (fun h4 h => bE h fun r3 h5 h => dS h fk137 (p137_5_0 x1 x5 b0 r1 r2 r3) (oc h0 (oc (g3 _ _ h1) (oc h2 (oc (xAx h3) (oc h4 (oc (xCH h5) on))))))) fun h4 h =>
   tS fk137 (p137_5_1 x1 x5 b0 r1 r2) (oc h0 (oc (g3 _ _ h1) (oc h2 (oc (xAx h3) (oc h4 on))))) (ih _ _ _ _ h)) fun h0 h =>
   bE h fun r1 h1 h => dS h fk137 (p137_5_2 x1 x5 b0 r1) (oc h0 (oc (xCH h1) on))
theorem c137_e {N : Nat} {q0 : Rdr → Str → Option ((List Exp) × Rdr)} (g0 : G137 q0) {q1 : Rdr → Option (Exp × Rdr)} (g1 : G127 q1) {q2 : Rdr → Option (Exp × Rdr)} (g2 : G48 q2) {q3 : Rdr → Option (Exp × Rdr)} (g3 : G28 q3) {q4 : Rdr → Option (Exp × Rdr)} (g4 : G110 q4) {q5 : Rdr → Option (Exp × Rdr)} (g5 : G88 q5) : ∀ a0 a1 r, xDu N q0 q1 q2 q3 q4 q5 a0 a1 = some r → RE Tryz.f137 I137 (xDG a0 a1) (xCb r) := fun a0 a1 r h =>
 bE h fun r1 h0 h => cE h (fun h1 h => dE h fk137 (p137_e_3 a0 a1 r1) (oc (xAx h0) (oc h1 on))) fun h1 h =>
 tE fk137 (p137_e_4 a0 a1 r1) (oc (xAx h0) (oc h1 on)) (c137_5 g0 g1 g2 g3 g4 g5 _ _ _ _ _ h)
theorem xHf {N : Nat} {q0 : Rdr → Str → Option ((List Exp) × Rdr)} (g0 : G137 q0) {q1 : Rdr → Option (Exp × Rdr)} (g1 : G127 q1) {q2 : Rdr → Option (Exp × Rdr)} (g2 : G48 q2) {q3 : Rdr → Option (Exp × Rdr)} (g3 : G28 q3) {q4 : Rdr → Option (Exp × Rdr)} (g4 : G110 q4) {q5 : Rdr → Option (Exp × Rdr)} (g5 : G88 q5) {a0 : Rdr} {a1 : Str} {r : (List Exp) × Rdr} (h : xDu N q0 q1 q2 q3 q4 q5 a0 a1 = some r) : AbC 137 (xDG a0 a1) (xCb r) :=
 AbsCalls.of_reach fk137 rfl rfl (Nat.le_of_ble_eq_true rfl) (c137_e g0 g1 g2 g3 g4 g5 a0 a1 r h)
noncomputable def I127 : Info := { body := (Tryz.f127.body).getD .skip, nt := 141, results := [.cell 2 25], keep := [0, 4, 6, 8, 42, 68, 98, 128, 168, 218, 246, 1, 5, 7, 9], live := [], modes := [(1, [(5, .take, false)]), (10, [(3, .take, false)]), (13, [(3, .take, false)])], ext := [0], fcast := [(5, 3, true)] }
theorem fk127 : FnOk Tryz.prog 127 Tryz.f127 I127 := ⟨Tryz.func127, by kernel_rfl, by kernel_rfl, by kernel_rfl, by kernel_rfl⟩
theorem p127_e_0 (a0 : Rdr) (r1 : Exp × Rdr) : rE I127 (xBr a0) [Y, Y] [xAH r1] = dn (xBa (r1.1, r1.2)) [(decide (((Rdr.bad a0) : Int) ≥ 0)) = true, true = true, AbC 29 (xBs a0) (xAH r1)] := by kernel_rfl
theorem p127_e_1 (a0 : Rdr) (r1 : Exp × Rdr) : rE I127 (xBr a0) [F, Y] [xAH r1] = dn (xBa (r1.1, r1.2)) [(decide (((Rdr.bad a0) : Int) ≥ 0)) = false, (decide (((Rdr.i a0) : Int) ≥ (Ln (Rdr.toks a0) : Int))) = true, AbC 29 (xBs a0) (xAH r1)] := by kernel_rfl
theorem p127_e_2 (a0 : Rdr) (r1 : Exp) : rE I127 (xBr a0) [F, F, Y] [xE4 r1] = dn (xBa (r1, (Rdr.mk (Rdr.toks a0) (W ((Rdr.i a0) + 1)) (Rdr.fin a0) (Rdr.bad a0)))) [(decide (((Rdr.bad a0) : Int) ≥ 0)) = false, (decide (((Rdr.i a0) : Int) ≥ (Ln (Rdr.toks a0) : Int))) = false, (0 : Int) ≤ (Rdr.i a0) ∧ (Rdr.i a0) < (Ln (Rdr.toks a0)), (((Tok.kind (gD (Rdr.toks a0) (tN (Rdr.i a0)) Ty.tok.dflt)) : Int) == 2) = true, AbC 67 (xFD (Tok.n (gD (Rdr.toks a0) (tN (Rdr.i a0)) Ty.tok.dflt))) (xE4 r1)] := by kernel_rfl
theorem p127_e_3 (a0 : Rdr) : rE I127 (xBr a0) [F, F, F, Y] [] = dn (xBa ((Exp.mk 2 0 (Tok.text (gD (Rdr.toks a0) (tN (Rdr.i a0)) Ty.tok.dflt)) []), (Rdr.mk (Rdr.toks a0) (W ((Rdr.i a0) + 1)) (Rdr.fin a0) (Rdr.bad a0)))) [(decide (((Rdr.bad a0) : Int) ≥ 0)) = false, (decide (((Rdr.i a0) : Int) ≥ (Ln (Rdr.toks a0) : Int))) = false, (0 : Int) ≤ (Rdr.i a0) ∧ (Rdr.i a0) < (Ln (Rdr.toks a0)), (((Tok.kind (gD (Rdr.toks a0) (tN (Rdr.i a0)) Ty.tok.dflt)) : Int) == 2) = false, (((Tok.kind (gD (Rdr.toks a0) (tN (Rdr.i a0)) Ty.tok.dflt)) : Int) == 3) = true] := by kernel_rfl
theorem p127_e_4 (a0 : Rdr) (r1 : Bool) (r2 : Exp) : rE I127 (xBr a0) [F, F, F, F, Y, Y] [xAz r1, xER r2] = dn (xBa (r2, (Rdr.mk (Rdr.toks a0) (W ((Rdr.i a0) + 1)) (Rdr.fin a0) (Rdr.bad a0)))) [(decide (((Rdr.bad a0) : Int) ≥ 0)) = false, (decide (((Rdr.i a0) : Int) ≥ (Ln (Rdr.toks a0) : Int))) = false, (0 : Int) ≤ (Rdr.i a0) ∧ (Rdr.i a0) < (Ln (Rdr.toks a0)), (((Tok.kind (gD (Rdr.toks a0) (tN (Rdr.i a0)) Ty.tok.dflt)) : Int) == 2) = false, (((Tok.kind (gD (Rdr.toks a0) (tN (Rdr.i a0)) Ty.tok.dflt)) : Int) == 3) = false, (((Tok.kind (gD (Rdr.toks a0) (tN (Rdr.i a0)) Ty.tok.dflt)) : Int) == 1) = true, AbC 87 (xA4 (Tok.text (gD (Rdr.toks a0) (tN (Rdr.i a0)) Ty.tok.dflt))) (xAz r1), r1 = true, AbC 101 (xFr (Tok.text (gD (Rdr.toks a0) (tN (Rdr.i a0)) Ty.tok.dflt))) (xER r2)] := by kernel_rfl
theorem p127_e_5 (a0 : Rdr) (r1 : Bool) (r2 : Int) (r3 : Rdr) (r4 : (List Exp) × Rdr) : rE I127 (xBr a0) [F, F, F, F, Y, F, Y, Y] [xAz r1, xAj r2, xAO r3, xCb r4] = dn (xBa ((Exp.mk 5 0 (Tok.text (gD (Rdr.toks a0) (tN (Rdr.i a0)) Ty.tok.dflt)) r4.1), r4.2)) [(decide (((Rdr.bad a0) : Int) ≥ 0)) = false, (decide (((Rdr.i a0) : Int) ≥ (Ln (Rdr.toks a0) : Int))) = false, (0 : Int) ≤ (Rdr.i a0) ∧ (Rdr.i a0) < (Ln (Rdr.toks a0)), (((Tok.kind (gD (Rdr.toks a0) (tN (Rdr.i a0)) Ty.tok.dflt)) : Int) == 2) = false, (((Tok.kind (gD (Rdr.toks a0) (tN (Rdr.i a0)) Ty.tok.dflt)) : Int) == 3) = false, (((Tok.kind (gD (Rdr.toks a0) (tN (Rdr.i a0)) Ty.tok.dflt)) : Int) == 1) = true, AbC 87 (xA4 (Tok.text (gD (Rdr.toks a0) (tN (Rdr.i a0)) Ty.tok.dflt))) (xAz r1), r1 = false, (((Tok.kind (gD (Rdr.toks a0) (tN (Rdr.i a0)) Ty.tok.dflt)) : Int) == 1) = true, AbC 106 (xAr (Tok.text (gD (Rdr.toks a0) (tN (Rdr.i a0)) Ty.tok.dflt))) (xAj r2), (decide ((r2 : Int) ≥ 0)) = true, AbC 47 (xBJ (Rdr.mk (Rdr.toks a0) (W ((Rdr.i a0) + 1)) (Rdr.fin a0) (Rdr.bad a0)) [40]) (xAO r3), AbC 137 (xDG r3 [41]) (xCb r4)] := by kernel_rfl
theorem p127_e_6 (a0 : Rdr) (r1 : Bool) (r2 : Int) (r3 : Bool) (r4 : (List Exp) × Rdr) : rE I127 (xBr a0) [F, F, F, F, Y, F, Y, F, Y] [xAz r1, xAj r2, xAE r3, xCb r4] = dn (xBa ((Exp.mk 4 0 [] r4.1), r4.2)) [(decide (((Rdr.bad a0) : Int) ≥ 0)) = false, (decide (((Rdr.i a0) : Int) ≥ (Ln (Rdr.toks a0) : Int))) = false, (0 : Int) ≤ (Rdr.i a0) ∧ (Rdr.i a0) < (Ln (Rdr.toks a0)), (((Tok.kind (gD (Rdr.toks a0) (tN (Rdr.i a0)) Ty.tok.dflt)) : Int) == 2) = false, (((Tok.kind (gD (Rdr.toks a0) (tN (Rdr.i a0)) Ty.tok.dflt)) : Int) == 3) = false, (((Tok.kind (gD (Rdr.toks a0) (tN (Rdr.i a0)) Ty.tok.dflt)) : Int) == 1) = true, AbC 87 (xA4 (Tok.text (gD (Rdr.toks a0) (tN (Rdr.i a0)) Ty.tok.dflt))) (xAz r1), r1 = false, (((Tok.kind (gD (Rdr.toks a0) (tN (Rdr.i a0)) Ty.tok.dflt)) : Int) == 1) = true, AbC 106 (xAr (Tok.text (gD (Rdr.toks a0) (tN (Rdr.i a0)) Ty.tok.dflt))) (xAj r2), (decide ((r2 : Int) ≥ 0)) = false, AbC 85 (xBo (gD (Rdr.toks a0) (tN (Rdr.i a0)) Ty.tok.dflt) [91]) (xAE r3), r3 = true, AbC 137 (xDG (Rdr.mk (Rdr.toks a0) (W ((Rdr.i a0) + 1)) (Rdr.fin a0) (Rdr.bad a0)) [93]) (xCb r4)] := by kernel_rfl
theorem p127_e_7 (a0 : Rdr) (r1 : Bool) (r2 : Int) (r3 r4 : Bool) (r5 : Exp × Rdr) (r6 : Rdr) : rE I127 (xBr a0) [F, F, F, F, Y, F, Y, F, F, Y] [xAz r1, xAj r2, xAE r3, xAE r4, xAh r5, xAO r6] = dn (xBa (r5.1, r6)) [(decide (((Rdr.bad a0) : Int) ≥ 0)) = false, (decide (((Rdr.i a0) : Int) ≥ (Ln (Rdr.toks a0) : Int))) = false, (0 : Int) ≤ (Rdr.i a0) ∧ (Rdr.i a0) < (Ln (Rdr.toks a0)), (((Tok.kind (gD (Rdr.toks a0) (tN (Rdr.i a0)) Ty.tok.dflt)) : Int) == 2) = false, (((Tok.kind (gD (Rdr.toks a0) (tN (Rdr.i a0)) Ty.tok.dflt)) : Int) == 3) = false, (((Tok.kind (gD (Rdr.toks a0) (tN (Rdr.i a0)) Ty.tok.dflt)) : Int) == 1) = true, AbC 87 (xA4 (Tok.text (gD (Rdr.toks a0) (tN (Rdr.i a0)) Ty.tok.dflt))) (xAz r1), r1 = false, (((Tok.kind (gD (Rdr.toks a0) (tN (Rdr.i a0)) Ty.tok.dflt)) : Int) == 1) = true, AbC 106 (xAr (Tok.text (gD (Rdr.toks a0) (tN (Rdr.i a0)) Ty.tok.dflt))) (xAj r2), (decide ((r2 : Int) ≥ 0)) = false, AbC 85 (xBo (gD (Rdr.toks a0) (tN (Rdr.i a0)) Ty.tok.dflt) [91]) (xAE r3), r3 = false, AbC 85 (xBo (gD (Rdr.toks a0) (tN (Rdr.i a0)) Ty.tok.dflt) [40]) (xAE r4), r4 = true, AbC 28 (xAL (Rdr.mk (Rdr.toks a0) (W ((Rdr.i a0) + 1)) (Rdr.fin a0) (Rdr.bad a0))) (xAh r5), AbC 47 (xBJ r5.2 [41]) (xAO r6)] := by kernel_rfl
theorem p127_e_8 (a0 : Rdr) (r1 : Bool) (r2 : Int) (r3 r4 : Bool) (r5 : Exp × Rdr) : rE I127 (xBr a0) [F, F, F, F, Y, F, Y, F, F, F] [xAz r1, xAj r2, xAE r3, xAE r4, xAH r5] = dn (xBa (r5.1, r5.2)) [(decide (((Rdr.bad a0) : Int) ≥ 0)) = false, (decide (((Rdr.i a0) : Int) ≥ (Ln (Rdr.toks a0) : Int))) = false, (0 : Int) ≤ (Rdr.i a0) ∧ (Rdr.i a0) < (Ln (Rdr.toks a0)), (((Tok.kind (gD (Rdr.toks a0) (tN (Rdr.i a0)) Ty.tok.dflt)) : Int) == 2) = false, (((Tok.kind (gD (Rdr.toks a0) (tN (Rdr.i a0)) Ty.tok.dflt)) : Int) == 3) = false, (((Tok.kind (gD (Rdr.toks a0) (tN (Rdr.i a0)) Ty.tok.dflt)) : Int) == 1) = true, AbC 87 (xA4 (Tok.text (gD (Rdr.toks a0) (tN (Rdr.i a0)) Ty.tok.dflt))) (xAz r1), r1 = false, (((Tok.kind (gD (Rdr.toks a0) (tN (Rdr.i a0)) Ty.tok.dflt)) : Int) == 1) = true, AbC 106 (xAr (Tok.text (gD (Rdr.toks a0) (tN (Rdr.i a0)) Ty.tok.dflt))) (xAj r2), (decide ((r2 : Int) ≥ 0)) = false, AbC 85 (xBo (gD (Rdr.toks a0) (tN (Rdr.i a0)) Ty.tok.dflt) [91]) (xAE r3), r3 = false, AbC 85 (xBo (gD (Rdr.toks a0) (tN (Rdr.i a0)) Ty.tok.dflt) [40]) (xAE r4), r4 = false, AbC 29 (xBs a0) (xAH r5)] := by kernel_rfl
theorem p127_e_9 (a0 : Rdr) (r1 : Bool) (r2 : (List Exp) × Rdr) : rE I127 (xBr a0) [F, F, F, F, F, F, F, F, Y] [xAE r1, xCb r2] = dn (xBa ((Exp.mk 4 0 [] r2.1), r2.2)) [(decide (((Rdr.bad a0) : Int) ≥ 0)) = false, (decide (((Rdr.i a0) : Int) ≥ (Ln (Rdr.toks a0) : Int))) = false, (0 : Int) ≤ (Rdr.i a0) ∧ (Rdr.i a0) < (Ln (Rdr.toks a0)), (((Tok.kind (gD (Rdr.toks a0) (tN (Rdr.i a0)) Ty.tok.dflt)) : Int) == 2) = false, (((Tok.kind (gD (Rdr.toks a0) (tN (Rdr.i a0)) Ty.tok.dflt)) : Int) == 3) = false, (((Tok.kind (gD (Rdr.toks a0) (tN (Rdr.i a0)) Ty.tok.dflt)) : Int) == 1) = false, false = false, (((Tok.kind (gD (Rdr.toks a0) (tN (Rdr.i a0)) Ty.tok.dflt)) : Int) == 1) = false, false = false, AbC 85 (xBo (gD (Rdr.toks a0) (tN (Rdr.i a0)) Ty.tok.dflt) [91]) (xAE r1), r1 = true, AbC 137 (xDG (Rdr.mk (Rdr.toks a0) (W ((Rdr.i a0) + 1)) (Rdr.fin a0) (Rdr.bad a0)) [93]) (xCb r2)] := by kernel_rfl
theorem p127_e_10 (a0 : Rdr) (r1 r2 : Bool) (r3 : Exp × Rdr) (r4 : Rdr) : rE I127 (xBr a0) [F, F, F, F, F, F, F, F, F, Y] [xAE r1, xAE r2, xAh r3, xAO r4] = dn (xBa (r3.1, r4)) [(decide (((Rdr.bad a0) : Int) ≥ 0)) = false, (decide (((Rdr.i a0) : Int) ≥ (Ln (Rdr.toks a0) : Int))) = false, (0 : Int) ≤ (Rdr.i a0) ∧ (Rdr.i a0) < (Ln (Rdr.toks a0)), (((Tok.kind (gD (Rdr.toks a0) (tN (Rdr.i a0)) Ty.tok.dflt)) : Int) == 2) = false, (((Tok.kind (gD (Rdr.toks a0) (tN (Rdr.i a0)) Ty.tok.dflt)) : Int) == 3) = false, (((Tok.kind (gD (Rdr.toks a0) (tN (Rdr.i a0)) Ty.tok.dflt)) : Int) == 1) = false, false = false, (((Tok.kind (gD (Rdr.toks a0) (tN (Rdr.i a0)) Ty.tok.dflt)) : Int) == 1) = false, false = false, AbC 85 (xBo (gD (Rdr.toks a0) (tN (Rdr.i a0)) Ty.tok.dflt) [91]) (xAE r1), r1 = false, AbC 85 (xBo (gD (Rdr.toks a0) (tN (Rdr.i a0)) Ty.tok.dflt) [40]) (xAE r2), r2 = true, AbC 28 (xAL (Rdr.mk (Rdr.toks a0) (W ((Rdr.i a0) + 1)) (Rdr.fin a0) (Rdr.bad a0))) (xAh r3), AbC 47 (xBJ r3.2 [41]) (xAO r4)] := by kernel_rfl
theorem p127_e_11 (a0 : Rdr) (r1 r2 : Bool) (r3 : Exp × Rdr) : rE I127 (xBr a0) [F, F, F, F, F, F, F, F, F, F] [xAE r1, xAE r2, xAH r3] = dn (xBa (r3.1, r3.2)) [(decide (((Rdr.bad a0) : Int) ≥ 0)) = false, (decide (((Rdr.i a0) : Int) ≥ (Ln (Rdr.toks a0) : Int))) = false, (0 : Int) ≤ (Rdr.i a0) ∧ (Rdr.i a0) < (Ln (Rdr.toks a0)), (((Tok.kind (gD (Rdr.toks a0) (tN (Rdr.i a0)) Ty.tok.dflt)) : Int) == 2) = false, (((Tok.kind (gD (Rdr.toks a0) (tN (Rdr.i a0)) Ty.tok.dflt)) : Int) == 3) = false, (((Tok.kind (gD (Rdr.toks a0) (tN (Rdr.i a0)) Ty.tok.dflt)) : Int) == 1) = false, false = false, (((Tok.kind (gD (Rdr.toks a0) (tN (Rdr.i a0)) Ty.tok.dflt)) : Int) == 1) = false, false = false, AbC 85 (xBo (gD (Rdr.toks a0) (tN (Rdr.i a0)) Ty.tok.dflt) [91]) (xAE r1), r1 = false, AbC 85 (xBo (gD (Rdr.toks a0) (tN (Rdr.i a0)) Ty.tok.dflt) [40]) (xAE r2), r2 = false, AbC 29 (xBs a0) (xAH r3)] := by kernel_rfl
theorem c127_e {N : Nat} {q0 : Rdr → Str → Option ((List Exp) × Rdr)} (g0 : G137 q0) {q1 : Rdr → Option (Exp × Rdr)} (g1 : G127 q1) {q2 : Rdr → Option (Exp × Rdr)} (g2 : G48 q2) {q3 : Rdr → Option (Exp × Rdr)} (g3 : G28 q3) {q4 : Rdr → Option (Exp × Rdr)} (g4 : G110 q4) {q5 : Rdr → Option (Exp × Rdr)} (g5 : G88 q5) : ∀ a0 r, xDv N q0 q1 q2 q3 q4 q5 a0 = some r → RE Tryz.f127 I127 (xBr a0) (xBa r) := fun a0 r h =>
 cE h (fun h0 h => bE h fun r1 h2 h => dE h fk127 (p127_e_0 a0 r1) (oc h0 (oc rfl (oc (xCj h2) on)))) fun h0 h =>
 cE h (fun h1 h => bE h fun r1 h2 h => dE h fk127 (p127_e_1 a0 r1) (oc h0 (oc h1 (oc (xCj h2) on)))) fun h1 h =>
 iE h fun h2 h => cE h (fun h3 h => bE h fun r1 h4 h => dE h fk127 (p127_e_2 a0 r1) (oc h0 (oc h1 (oc h2 (oc h3 (oc (spec_l10Num_ok h4) on)))))) fun h3 h =>
 cE h (fun h4 h => dE h fk127 (p127_e_3 a0) (oc h0 (oc h1 (oc h2 (oc h3 (oc h4 on)))))) fun h4 h =>
 cE h (fun h5 h => bE h fun r1 h6 h => cE h (fun h7 h => bE h fun r2 h8 h => dE h fk127 (p127_e_4 a0 r1 r2) (oc h0 (oc h1 (oc h2 (oc h3 (oc h4 (oc h5 (oc (xBX h6) (oc h7 (oc (spec_l10Name_ok h8) on)))))))))) fun h7 h =>
 bE h fun r2 h9 h => cE h (fun h10 h => bE h fun r3 h11 h => bE h fun r4 h12 h => dE h fk127 (p127_e_5 a0 r1 r2 r3 r4) (oc h0 (oc h1 (oc h2 (oc h3 (oc h4 (oc h5 (oc (xBX h6) (oc h7 (oc h5 (oc (xDE h9) (oc h10 (oc (xCH h11) (oc (g0 _ _ _ h12) on)))))))))))))) fun h10 h =>
 bE h fun r3 h11 h => cE h (fun h12 h => bE h fun r4 h13 h => dE h fk127 (p127_e_6 a0 r1 r2 r3 r4) (oc h0 (oc h1 (oc h2 (oc h3 (oc h4 (oc h5 (oc (xBX h6) (oc h7 (oc h5 (oc (xDE h9) (oc h10 (oc (xB8 h11) (oc h12 (oc (g0 _ _ _ h13) on))))))))))))))) fun h12 h =>
 bE h fun r4 h13 h => cE h (fun h14 h => bE h fun r5 h15 h => bE h fun r6 h16 h => dE h fk127 (p127_e_7 a0 r1 r2 r3 r4 r5 r6) (oc h0 (oc h1 (oc h2 (oc h3 (oc h4 (oc h5 (oc (xBX h6) (oc h7 (oc h5 (oc (xDE h9) (oc h10 (oc (xB8 h11) (oc h12 (oc (xB8 h13) (oc h14 (oc (g3 _ _ h15) (oc (xCH h16) on)))))))))))))))))) fun h14 h =>
 bE h fun r5 h15 h => dE h fk127 (p127_e_8 a0 r1 r2 r3 r4 r5) (oc h0 (oc h1 (oc h2 (oc h3 (oc h4 (oc h5 (oc (xBX h6) (oc h7 (oc h5 (oc (xDE h9) (oc h10 (oc (xB8 h11) (oc h12 (oc (xB8 h13) (oc h14 (oc (xCj h15) on))))))))))))))))) fun h5 h =>
 bE h fun r1 h9 h => cE h (fun h10 h => bE h fun r2 h11 h => dE h fk127 (p127_e_9 a0 r1 r2) (oc h0 (oc h1 (oc h2 (oc h3 (oc h4 (oc h5 (oc rfl (oc h5 (oc rfl (oc (xB8 h9) (oc h10 (oc (g0 _ _ _ h11) on))))))))))))) fun h10 h =>
 bE h fun r2 h11 h => cE h (fun h12 h => bE h fun r3 h13 h => bE h fun r4 h14 h => dE h fk127 (p127_e_10 a0 r1 r2 r3 r4) (oc h0 (oc h1 (oc h2 (oc h3 (oc h4 (oc h5 (oc rfl (oc h5 (oc rfl (oc (xB8 h9) (oc h10 (oc (xB8 h11) (oc h12 (oc (g3 _ _ h13) (oc (xCH h14) on)))))))))))))))) fun h12 h =>
 bE h fun r3 h13 h => dE h fk127 (p127_e_11 a0 r1 r2 r3) (oc h0 (oc h1 (oc h2 (oc h3 (oc h4 (oc h5 (oc rfl (oc h5 (oc rfl (oc (xB8 h9) (oc h10 (oc (xB8 h11) (oc h12 (oc (xCj h13) on))))))))))))))
theorem xHg {N : Nat} {q0 : Rdr → Str → Option ((List Exp) × Rdr)} (g0 : G137 q0) {q1 : Rdr → Option (Exp × Rdr)} (g1 : G127 q1) {q2 : Rdr → Option (Exp × Rdr)} (g2 : G48 q2) {q3 : Rdr → Option (Exp × Rdr)} (g3 : G28 q3) {q4 : Rdr → Option (Exp × Rdr)} (g4 : G110 q4) {q5 : Rdr → Option (Exp × Rdr)} (g5 : G88 q5) {a0 : Rdr} {r : Exp × Rdr} (h : xDv N q0 q1 q2 q3 q4 q5 a0 = some r) : AbC 127 (xBr a0) (xBa r) :=
 AbsCalls.of_reach fk127 rfl rfl (Nat.le_of_ble_eq_true rfl) (c127_e g0 g1 g2 g3 g4 g5 a0 r h)
noncomputable def I48 : Info := { body := (Tryz.f48.body).getD .skip, nt := 37, results := [.cell 2 25], keep := [0, 4, 6, 12, 42, 1, 5, 7], live := [], modes := [], ext := [0], fcast := [(5, 3, true)] }
theorem fk48 : FnOk Tryz.prog 48 Tryz.f48 I48 := ⟨Tryz.func48, by kernel_rfl, by kernel_rfl, by kernel_rfl, by kernel_rfl⟩
theorem p48_e_0 (a0 : Rdr) (r1 : Exp × Rdr) (r2 : Bool × Rdr) (r3 : Exp × Rdr) (r4 : Exp) : rE I48 (xDe a0) [Y] [xBY r1, xAf r2, xBY r3, xBS r4] = dn (xCW (r4, r3.2)) [AbC 88 (xDB a0) (xBY r1), AbC 45 (xAo r1.2 [60]) (xAf r2), r2.1 = true, AbC 88 (xDB (Rdr.mk (Rdr.toks r2.2) (W ((Rdr.i r2.2) + 1)) (Rdr.fin r2.2) (Rdr.bad r2.2))) (xBY r3), AbC 66 (xDA 4 r1.1 r3.1) (xBS r4)] := by kernel_rfl
theorem p48_e_1 (a0 : Rdr) (r1 : Exp × Rdr) (r2 : Bool × Rdr) (r3 : Bool × Rdr) (r4 : Exp × Rdr) (r5 : Exp) : rE I48 (xDe a0) [F, Y] [xBY r1, xAf r2, xAf r3, xBY r4, xBS r5] = dn (xCW (r5, r4.2)) [AbC 88 (xDB a0) (xBY r1), AbC 45 (xAo r1.2 [60]) (xAf r2), r2.1 = false, AbC 45 (xAo r2.2 [61, 61]) (xAf r3), r3.1 = true, AbC 88 (xDB (Rdr.mk (Rdr.toks r3.2) (W ((Rdr.i r3.2) + 1)) (Rdr.fin r3.2) (Rdr.bad r3.2))) (xBY r4), AbC 66 (xDA 5 r1.1 r4.1) (xBS r5)] := by kernel_rfl
theorem p48_e_2 (a0 : Rdr) (r1 : Exp × Rdr) (r2 : Bool × Rdr) (r3 : Bool × Rdr) : rE I48 (xDe a0) [F, F] [xBY r1, xAf r2, xAf r3] = dn (xCW (r1.1, r3.2)) [AbC 88 (xDB a0) (xBY r1), AbC 45 (xAo r1.2 [60]) (xAf r2), r2.1 = false, AbC 45 (xAo r2.2 [61, 61]) (xAf r3), r3.1 = false] := by kernel_rfl
theorem c48_e {N : Nat} {q0 : Rdr → Str → Option ((List Exp) × Rdr)} (g0 : G137 q0) {q1 : Rdr → Option (Exp × Rdr)} (g1 : G127 q1) {q2 : Rdr → Option (Exp × Rdr)} (g2 : G48 q2) {q3 : Rdr → Option (Exp × Rdr)} (g3 : G28 q3) {q4 : Rdr → Option (Exp × Rdr)} (g4 : G110 q4) {q5 : Rdr → Option (Exp × Rdr)} (g5 : G88 q5) : ∀ a0 r, xCT N q0 q1 q2 q3 q4 q5 a0 = some r → RE Tryz.f48 I48 (xDe a0) (xCW r) := fun a0 r h =>
 bE h fun r1 h0 h => bE h fun r2 h1 h => cE h (fun h2 h => bE h fun r3 h3 h => bE h fun r4 h4 h => dE h fk48 (p48_e_0 a0 r1 r2 r3 r4) (oc (g5 _ _ h0) (oc (xAx h1) (oc h2 (oc (g5 _ _ h3) (oc (xEC h4) on)))))) fun h2 h =>
 bE h fun r3 h3 h => cE h (fun h4 h => bE h fun r4 h5 h => bE h fun r5 h6 h => dE h fk48 (p48_e_1 a0 r1 r2 r3 r4 r5) (oc (g5 _ _ h0) (oc (xAx h1) (oc h2 (oc (xAx h3) (oc h4 (oc (g5 _ _ h5) (oc (xEC h6) on)))))))) fun h4 h =>
 dE h fk48 (p48_e_2 a0 r1 r2 r3) (oc (g5 _ _ h0) (oc (xAx h1) (oc h2 (oc (xAx h3) (oc h4 on)))))
theorem xGM {N : Nat} {q0 : Rdr → Str → Option ((List Exp) × Rdr)} (g0 : G137 q0) {q1 : Rdr → Option (Exp × Rdr)} (g1 : G127 q1) {q2 : Rdr → Option (Exp × Rdr)} (g2 : G48 q2) {q3 : Rdr → Option (Exp × Rdr)} (g3 : G28 q3) {q4 : Rdr → Option (Exp × Rdr)} (g4 : G110 q4) {q5 : Rdr → Option (Exp × Rdr)} (g5 : G88 q5) {a0 : Rdr} {r : Exp × Rdr} (h : xCT N q0 q1 q2 q3 q4 q5 a0 = some r) : AbC 48 (xDe a0) (xCW r) :=
 AbsCalls.of_reach fk48 rfl rfl (Nat.le_of_ble_eq_true rfl) (c48_e g0 g1 g2 g3 g4 g5 a0 r h)
noncomputable def I28 : Info := { body := (Tryz.f28.body).getD .skip, nt := 86, results := [.cell 2 25], keep := [0, 4, 6, 8, 10, 12, 14, 16, 18, 68, 118, 1, 5, 9, 11, 13, 17], live := [], modes := [(7, [(0, .take, false)]), (21, [(0, .take, false)])], ext := [0], fcast := [(5, 3, true)] }
theorem fk28 : FnOk Tryz.prog 28 Tryz.f28 I28 := ⟨Tryz.func28, by kernel_rfl, by kernel_rfl, by kernel_rfl, by kernel_rfl⟩
theorem p28_e_0 (a0 : Rdr) (r1 : Bool × Rdr) (r2 : Str × Rdr) (r3 : Rdr) (r4 : Exp × Rdr) (r5 : Rdr) (r6 : Exp × Rdr) : rE I28 (xAL a0) [Y] [xAf r1, xCG r2, xAO r3, xAh r4, xAO r5, xAh r6] = dn (xAh ((Exp.mk 7 0 r2.1 [(Exp.re r4.1), (Exp.re r6.1)]), r6.2)) [AbC 45 (xAo a0 [108, 101, 116]) (xAf r1), r1.1 = true, AbC 46 (xDg (Rdr.mk (Rdr.toks r1.2) (W ((Rdr.i r1.2) + 1)) (Rdr.fin r1.2) (Rdr.bad r1.2))) (xCG r2), AbC 47 (xBJ r2.2 [61]) (xAO r3), AbC 28 (xAL r3) (xAh r4), AbC 47 (xBJ r4.2 [105, 110]) (xAO r5), AbC 28 (xAL r5) (xAh r6)] := by kernel_rfl
theorem p28_e_1 (a0 : Rdr) (r1 : Bool × Rdr) (r2 : Bool × Rdr) (r3 : Exp × Rdr) (r4 : Rdr) (r5 : Exp × Rdr) (r6 : Rdr) (r7 : Exp × Rdr) : rE I28 (xAL a0) [F, Y] [xAf r1, xAf r2, xAh r3, xAO r4, xAh r5, xAO r6, xAh r7] = dn (xAh ((Exp.mk 8 0 [] [(Exp.re r3.1), (Exp.re r5.1), (Exp.re r7.1)]), r7.2)) [AbC 45 (xAo a0 [108, 101, 116]) (xAf r1), r1.1 = false, AbC 45 (xAo r1.2 [105, 102]) (xAf r2), r2.1 = true, AbC 28 (xAL (Rdr.mk (Rdr.toks r2.2) (W ((Rdr.i r2.2) + 1)) (Rdr.fin r2.2) (Rdr.bad r2.2))) (xAh r3), AbC 47 (xBJ r3.2 [116, 104, 101, 110]) (xAO r4), AbC 28 (xAL r4) (xAh r5), AbC 47 (xBJ r5.2 [101, 108, 115, 101]) (xAO r6), AbC 28 (xAL r6) (xAh r7)] := by kernel_rfl
theorem p28_e_2 (a0 : Rdr) (r1 : Bool × Rdr) (r2 : Bool × Rdr) (r3 : Bool × Rdr) (r4 : Str × Rdr) (r5 : Rdr) (r6 : Exp × Rdr) (r7 : Rdr) (r8 : Exp × Rdr) : rE I28 (xAL a0) [F, F, Y] [xAf r1, xAf r2, xAf r3, xCG r4, xAO r5, xAh r6, xAO r7, xAh r8] = dn (xAh ((Exp.mk 9 0 r4.1 [(Exp.re r6.1), (Exp.re r8.1)]), r8.2)) [AbC 45 (xAo a0 [108, 101, 116]) (xAf r1), r1.1 = false, AbC 45 (xAo r1.2 [105, 102]) (xAf r2), r2.1 = false, AbC 45 (xAo r2.2 [102, 111, 114]) (xAf r3), r3.1 = true, AbC 46 (xDg (Rdr.mk (Rdr.toks r3.2) (W ((Rdr.i r3.2) + 1)) (Rdr.fin r3.2) (Rdr.bad r3.2))) (xCG r4), AbC 47 (xBJ r4.2 [105, 110]) (xAO r5), AbC 28 (xAL r5) (xAh r6), AbC 47 (xBJ r6.2 [100, 111]) (xAO r7), AbC 28 (xAL r7) (xAh r8)] := by kernel_rfl
theorem p28_e_3 (a0 : Rdr) (r1 : Bool × Rdr) (r2 : Bool × Rdr) (r3 : Bool × Rdr) (r4 : Exp × Rdr) : rE I28 (xAL a0) [F, F, F] [xAf r1, xAf r2, xAf r3, xCW r4] = dn (xAh (r4.1, r4.2)) [AbC 45 (xAo a0 [108, 101, 116]) (xAf r1), r1.1 = false, AbC 45 (xAo r1.2 [105, 102]) (xAf r2), r2.1 = false, AbC 45 (xAo r2.2 [102, 111, 114]) (xAf r3), r3.1 = false, AbC 48 (xDe r3.2) (xCW r4)] := by kernel_rfl
theorem c28_e {N : Nat} {q0 : Rdr → Str → Option ((List Exp) × Rdr)} (g0 : G137 q0) {q1 : Rdr → Option (Exp × Rdr)} (g1 : G127 q1) {q2 : Rdr → Option (Exp × Rdr)} (g2 : G48 q2) {q3 : Rdr → Option (Exp × Rdr)} (g3 : G28 q3) {q4 : Rdr → Option (Exp × Rdr)} (g4 : G110 q4) {q5 : Rdr → Option (Exp × Rdr)} (g5 : G88 q5) : ∀ a0 r, xDw N q0 q1 q2 q3 q4 q5 a0 = some r → RE Tryz.f28 I28 (xAL a0) (xAh r) := fun a0 r h =>
 bE h fun r1 h0 h => cE h (fun h1 h => bE h fun r2 h2 h => bE h fun r3 h3 h => bE h fun r4 h4 h => bE h fun r5 h5 h => bE h fun r6 h6 h => dE h fk28 (p28_e_0 a0 r1 r2 r3 r4 r5 r6) (oc (xAx h0) (oc h1 (oc (xG4 h2) (oc (xCH h3) (oc (g3 _ _ h4) (oc (xCH h5) (oc (g3 _ _ h6) on)))))))) fun h1 h =>
 bE h fun r2 h2 h => cE h (fun h3 h => bE h fun r3 h4 h => bE h fun r4 h5 h => bE h fun r5 h6 h => bE h fun r6 h7 h => bE h fun r7 h8 h => dE h fk28 (p28_e_1 a0 r1 r2 r3 r4 r5 r6 r7) (oc (xAx h0) (oc h1 (oc (xAx h2) (oc h3 (oc (g3 _ _ h4) (oc (xCH h5) (oc (g3 _ _ h6) (oc (xCH h7) (oc (g3 _ _ h8) on)))))))))) fun h3 h =>
 bE h fun r3 h4 h => cE h (fun h5 h => bE h fun r4 h6 h => bE h fun r5 h7 h => bE h fun r6 h8 h => bE h fun r7 h9 h => bE h fun r8 h10 h => dE h fk28 (p28_e_2 a0 r1 r2 r3 r4 r5 r6 r7 r8) (oc (xAx h0) (oc h1 (oc (xAx h2) (oc h3 (oc (xAx h4) (oc h5 (oc (xG4 h6) (oc (xCH h7) (oc (g3 _ _ h8) (oc (xCH h9) (oc (g3 _ _ h10) on)))))))))))) fun h5 h =>
 bE h fun r4 h6 h => dE h fk28 (p28_e_3 a0 r1 r2 r3 r4) (oc (xAx h0) (oc h1 (oc (xAx h2) (oc h3 (oc (xAx h4) (oc h5 (oc (g2 _ _ h6) on)))))))
theorem xHh {N : Nat} {q0 : Rdr → Str → Option ((List Exp) × Rdr)} (g0 : G137 q0) {q1 : Rdr → Option (Exp × Rdr)} (g1 : G127 q1) {q2 : Rdr → Option (Exp × Rdr)} (g2 : G48 q2) {q3 : Rdr → Option (Exp × Rdr)} (g3 : G28 q3) {q4 : Rdr → Option (Exp × Rdr)} (g4 : G110 q4) {q5 : Rdr → Option (Exp × Rdr)} (g5 : G88 q5) {a0 : Rdr} {r : Exp × Rdr} (h : xDw N q0 q1 q2 q3 q4 q5 a0 = some r) : AbC 28 (xAL a0) (xAh r) :=
 AbsCalls.of_reach fk28 rfl rfl (Nat.le_of_ble_eq_true rfl) (c28_e g0 g1 g2 g3 g4 g5 a0 r h)
noncomputable def I110 : Info := { body := (Tryz.f110.body).getD .skip, nt := 21, results := [.cell 2 25], keep := [0, 4, 6, 14, 1, 5, 7], live := [(2, [0, 4, 6, 1, 5, 7])], modes := [], ext := [0], casts := [(2, [(7, 3, true)])] }
theorem fk110 : FnOk Tryz.prog 110 Tryz.f110 I110 := ⟨Tryz.func110, by kernel_rfl, by kernel_rfl, by kernel_rfl, by kernel_rfl⟩
def S110_2 (b0 : Rdr) (b2 b3 : Exp) : St := [(0, .v false [.ptr 0 0]), (4, .v false [.ptr 2 0]), (6, .v false [.ptr 3 0]), (1, .v true [.sl .ro .tok (Rdr.toks b0), .int .i64 (Rdr.i b0), .int .i64 (Rdr.fin b0), .int .i64 (Rdr.bad b0)]), (5, .v true [.int .i64 (Exp.kind b2), .int .i64 (Exp.n b2), .str (Exp.text b2), .sl .own .exp (Exp.args b2)]), (7, .v true [.int .i64 (Exp.kind b3), .int .i64 (Exp.n b3), .str (Exp.text b3), .sl .ro .exp (Exp.args b3)])]
theorem p110_2_0 (b0 : Rdr) (b2 b3 : Exp) (r1 : Bool × Rdr) (r2 : Exp × Rdr) (r3 : Exp) : rS 2 I110 (S110_2 b0 b2 b3) [Y] [xAf r1, xBa r2, xBS r3] = st 2 I110 (S110_2 r2.2 b2 r3) [AbC 45 (xAo b0 [42]) (xAf r1), r1.1 = true, AbC 127 (xBr (Rdr.mk (Rdr.toks r1.2) (W ((Rdr.i r1.2) + 1)) (Rdr.fin r1.2) (Rdr.bad r1.2))) (xBa r2), AbC 66 (xDA 3 b3 r2.1) (xBS r3)] := by kernel_rfl
theorem p110_2_1 (b0 : Rdr) (b2 b3 : Exp) (r1 : Bool × Rdr) : rS 2 I110 (S110_2 b0 b2 b3) [F] [xAf r1] = dn (xBb (b3, r1.2)) [AbC 45 (xAo b0 [42]) (xAf r1), r1.1 = false] := by kernel_rfl
theorem p110_e_2 (a0 : Rdr) (r1 : Exp × Rdr) : rE I110 (xCt a0) [] [xBa r1] = st 2 I110 (S110_2 r1.2 (Exp.mk 0 0 [] []) r1.1) [AbC 127 (xBr a0) (xBa r1)] := by kernel_rfl
theorem c110_2 {N : Nat} {q0 : Rdr → Str → Option ((List Exp) × Rdr)} (g0 : G137 q0) {q1 : Rdr → Option (Exp × Rdr)} (g1 : G127 q1) {q2 : Rdr → Option (Exp × Rdr)} (g2 : G48 q2) {q3 : Rdr → Option (Exp × Rdr)} (g3 : G28 q3) {q4 : Rdr → Option (Exp × Rdr)} (g4 : G110 q4) {q5 : Rdr → Option (Exp × Rdr)} (g5 : G88 q5) : ∀ n b0 b2 b3 r, xCX N q0 q1 q2 q3 q4 q5 n b0 b2 b3 = some r → RS Tryz.f110 I110 2 (S110_2 b0 b2 b3) (xBb r) := by
 intro n
 induction n with
 | zero => exact fun _ _ _ _ h => nE h
 | succ n ih =>
  exact fun b0 b2 b3 r h =>
   bE h fun r1 h0 h => cE h (fun h1 h => bE h fun r2 h2 h => bE h fun r3 h3 h => tS fk110 (p110_2_0 b0 b2 b3 r1 r2 r3) (oc (xAx h0) (oc h1 (oc (g1 _ _ h2) (oc (xEC h3) on)))) (ih _ _ _ _ h)) fun h1 h =>
   dS h fk110 (p110_2_1 b0 b2 b3 r1) (oc (xAx h0) (oc h1 on))
theorem c110_e {N : Nat} {q0 : Rdr → Str → Option ((List Exp) × Rdr)} (g0 : G137 q0) {q1 : Rdr → Option (Exp × Rdr)} (g1 : G127 q1) {q2 : Rdr → Option (Exp × Rdr)} (g2 : G48 q2) {q3 : Rdr → Option (Exp × Rdr)} (g3 : G28 q3) {q4 : Rdr → Option (Exp × Rdr)} (g4 : G110 q4) {q5 : Rdr → Option (Exp × Rdr)} (g5 : G88 q5) : ∀ a0 r, xCU N q0 q1 q2 q3 q4 q5 a0 = some r → RE Tryz.f110 I110 (xCt a0) (xBb r) := fun a0 r h =>
 bE h fun r1 h0 h => tE fk110 (p110_e_2 a0 r1) (oc (g1 _ _ h0) on) (c110_2 g0 g1 g2 g3 g4 g5 _ _ _ _ _ h)
theorem xGN {N : Nat} {q0 : Rdr → Str → Option ((List Exp) × Rdr)} (g0 : G137 q0) {q1 : Rdr → Option (Exp × Rdr)} (g1 : G127 q1) {q2 : Rdr → Option (Exp × Rdr)} (g2 : G48 q2) {q3 : Rdr → Option (Exp × Rdr)} (g3 : G28 q3) {q4 : Rdr → Option (Exp × Rdr)} (g4 : G110 q4) {q5 : Rdr → Option (Exp × Rdr)} (g5 : G88 q5) {a0 : Rdr} {r : Exp × Rdr} (h : xCU N q0 q1 q2 q3 q4 q5 a0 = some r) : AbC 110 (xCt a0) (xBb r) :=
 AbsCalls.of_reach fk110 rfl rfl (Nat.le_of_ble_eq_true rfl) (c110_e g0 g1 g2 g3 g4 g5 a0 r h)
noncomputable def I88 : Info := { body := (Tryz.f88.body).getD .skip, nt := 29, results := [.cell 2 25], keep := [0, 4, 6, 8, 24, 28, 1, 5, 7], live := [(2, [0, 4, 6, 1, 5, 7])], modes := [(2, [(2, .take, false)]), (7, [(0, .take, false)])], ext := [0], casts := [(2, [(7, 3, true)])] }
theorem fk88 : FnOk Tryz.prog 88 Tryz.f88 I88 := ⟨Tryz.func88, by kernel_rfl, by kernel_rfl, by kernel_rfl, by kernel_rfl⟩
def S88_2 (b0 : Rdr) (b2 b3 : Exp) : St := [(0, .v false [.ptr 0 0]), (4, .v false [.ptr 2 0]), (6, .v false [.ptr 3 0]), (1, .v true [.sl .ro .tok (Rdr.toks b0), .int .i64 (Rdr.i b0), .int .i64 (Rdr.fin b0), .int .i64 (Rdr.bad b0)]), (5, .v true [.int .i64 (Exp.kind b2), .int .i64 (Exp.n b2), .str (Exp.text b2), .sl .own .exp (Exp.args b2)]), (7, .v true [.int .i64 (Exp.kind b3), .int .i64 (Exp.n b3), .str (Exp.text b3), .sl .ro .exp (Exp.args b3)])]
theorem p88_2_0 (b0 : Rdr) (b2 b3 : Exp) (r1 : Bool × Rdr) (r2 : Bool × Rdr) (r3 : Exp × Rdr) (r4 : Exp) : rS 2 I88 (S88_2 b0 b2 b3) [Y, Y, Y] [xAf r1, xAf r2, xBb r3, xBS r4] = st 2 I88 (S88_2 r3.2 b2 r4) [AbC 45 (xAo b0 [43]) (xAf r1), r1.1 = true, true = true, AbC 45 (xAo r1.2 [45]) (xAf r2), r2.1 = true, AbC 110 (xCt (Rdr.mk (Rdr.toks r2.2) (W ((Rdr.i r2.2) + 1)) (Rdr.fin r2.2) (Rdr.bad r2.2))) (xBb r3), AbC 66 (xDA 2 b3 r3.1) (xBS r4)] := by kernel_rfl
theorem p88_2_1 (b0 : Rdr) (b2 b3 : Exp) (r1 : Bool × Rdr) (r2 : Bool × Rdr) (r3 : Exp × Rdr) (r4 : Exp) : rS 2 I88 (S88_2 b0 b2 b3) [Y, Y, F] [xAf r1, xAf r2, xBb r3, xBS r4] = st 2 I88 (S88_2 r3.2 b2 r4) [AbC 45 (xAo b0 [43]) (xAf r1), r1.1 = true, true = true, AbC 45 (xAo r1.2 [45]) (xAf r2), r2.1 = false, AbC 110 (xCt (Rdr.mk (Rdr.toks r2.2) (W ((Rdr.i r2.2) + 1)) (Rdr.fin r2.2) (Rdr.bad r2.2))) (xBb r3), AbC 66 (xDA 1 b3 r3.1) (xBS r4)] := by kernel_rfl
theorem p88_2_2 (b0 : Rdr) (b2 b3 : Exp) (r1 : Bool × Rdr) (r2 : Bool × Rdr) (r3 : Bool × Rdr) (r4 : Exp × Rdr) (r5 : Exp) : rS 2 I88 (S88_2 b0 b2 b3) [F, Y, Y] [xAf r1, xAf r2, xAf r3, xBb r4, xBS r5] = st 2 I88 (S88_2 r4.2 b2 r5) [AbC 45 (xAo b0 [43]) (xAf r1), r1.1 = false, AbC 45 (xAo r1.2 [45]) (xAf r2), r2.1 = true, AbC 45 (xAo r2.2 [45]) (xAf r3), r3.1 = true, AbC 110 (xCt (Rdr.mk (Rdr.toks r3.2) (W ((Rdr.i r3.2) + 1)) (Rdr.fin r3.2) (Rdr.bad r3.2))) (xBb r4), AbC 66 (xDA 2 b3 r4.1) (xBS r5)] := by kernel_rfl
theorem p88_2_3 (b0 : Rdr) (b2 b3 : Exp) (r1 : Bool × Rdr) (r2 : Bool × Rdr) (r3 : Bool × Rdr) (r4 : Exp × Rdr) (r5 : Exp) : rS 2 I88 (S88_2 b0 b2 b3) [F, Y, F] [xAf r1, xAf r2, xAf r3, xBb r4, xBS r5] = st 2 I88 (S88_2 r4.2 b2 r5) [AbC 45 (xAo b0 [43]) (xAf r1), r1.1 = false, AbC 45 (xAo r1.2 [45]) (xAf r2), r2.1 = true, AbC 45 (xAo r2.2 [45]) (xAf r3), r3.1 = false, AbC 110 (xCt (Rdr.mk (Rdr.toks r3.2) (W ((Rdr.i r3.2) + 1)) (Rdr.fin r3.2) (Rdr.bad r3.2))) (xBb r4), AbC 66 (xDA 1 b3 r4.1) (xBS r5)] := by kernel_rfl
theorem p88_2_4 (b0 : Rdr) (b2 b3 : Exp) (r1 : Bool × Rdr) (r2 : Bool × Rdr) : rS 2 I88 (S88_2 b0 b2 b3) [F, F] [xAf r1, xAf r2] = dn (xBY (b3, r2.2)) [AbC 45 (xAo b0 [43]) (xAf r1), r1.1 = false, AbC 45 (xAo r1.2 [45]) (xAf r2), r2.1 = false] := by kernel_rfl
theorem p88_e_5 (a0 : Rdr) (r1 : Exp × Rdr) : rE I88 (xDB a0) [] [xBb r1] = st 2 I88 (S88_2 r1.2 (Exp.mk 0 0 [] []) r1.1) [AbC 110 (xCt a0) (xBb r1)] := by kernel_rfl
theorem c88_2 {N : Nat} {q0 : Rdr → Str → Option ((List Exp) × Rdr)} (g0 : G137 q0) {q1 : Rdr → Option (Exp × Rdr)} (g1 : G127 q1) {q2 : Rdr → Option (Exp × Rdr)} (g2 : G48 q2) {q3 : Rdr → Option (Exp × Rdr)} (g3 : G28 q3) {q4 : Rdr → Option (Exp × Rdr)} (g4 : G110 q4) {q5 : Rdr → Option (Exp × Rdr)} (g5 : G88 q5) : ∀ n b0 b2 b3 r, xCL N q0 q1 q2 q3 q4 q5 n b0 b2 b3 = some r → RS Tryz.f88 I88 2 (S88_2 b0 b2 b3) (xBY r) := by
 intro n
 induction n with
 | zero => exact fun _ _ _ _ h => nE h
 | succ n ih =>
  exact fun b0 b2 b3 r h =>
   bE h fun r1 h0 h => cE h (fun h1 h => bE h fun r2 h3 h => cE h (fun h4 h => bE h fun r3 h5 h => bE h fun r4 h6 h => tS fk88 (p88_2_0 b0 b2 b3 r1 r2 r3 r4) (oc (xAx h0) (oc h1 (oc rfl (oc (xAx h3) (oc h4 (oc (g4 _ _ h5) (oc (xEC h6) on))))))) (ih _ _ _ _ h)) fun h4 h =>
   bE h fun r3 h5 h => bE h fun r4 h6 h => tS fk88 (p88_2_1 b0 b2 b3 r1 r2 r3 r4) (oc (xAx h0) (oc h1 (oc rfl (oc (xAx h3) (oc h4 (oc (g4 _ _ h5) (oc (xEC h6) on))))))) (ih _ _ _ _ h)) fun h1 h =>
   bE h fun r2 h2 h => cE h (fun h3 h => bE h fun r3 h4 h => cE h (fun h5 h => bE h fun r4 h6 h => bE h fun r5 h7 h => tS fk88 (p88_2_2 b0 b2 b3 r1 r2 r3 r4 r5) (oc (xAx h0) (oc h1 (oc (xAx h2) (oc h3 (oc (xAx h4) (oc h5 (oc (g4 _ _ h6) (oc (xEC h7) on)))))))) (ih _ _ _ _ h)) fun h5 h =>
   bE h fun r4 h6 h => bE h fun r5 h7 h => tS fk88 (p88_2_3 b0 b2 b3 r1 r2 r3 r4 r5) (oc (xAx h0) (oc h1 (oc (xAx h2) (oc h3 (oc (xAx h4) (oc h5 (oc (g4 _ _ h6) (oc (xEC h7) on)))))))) (ih _ _ _ _ h)) fun h3 h =>
   dS h fk88 (p88_2_4 b0 b2 b3 r1 r2) (oc (xAx h0) (oc h1 (oc (xAx h2) (oc h3 on))))
theorem c88_e {N : Nat} {q0 : Rdr → Str → Option ((List Exp) × Rdr)} (g0 : G137 q0) {q1 : Rdr → Option (Exp × Rdr)} (g1 : G127 q1) {q2 : Rdr → Option (Exp × Rdr)} (g2 : G48 q2) {q3 : Rdr → Option (Exp × Rdr)} (g3 : G28 q3) {q4 : Rdr → Option (Exp × Rdr)} (g4 : G110 q4) {q5 : Rdr → Option (Exp × Rdr)} (g5 : G88 q5) : ∀ a0 r, xDO N q0 q1 q2 q3 q4 q5 a0 = some r → RE Tryz.f88 I88 (xDB a0) (xBY r) := fun a0 r h =>
 bE h fun r1 h0 h => tE fk88 (p88_e_5 a0 r1) (oc (g4 _ _ h0) on) (c88_2 g0 g1 g2 g3 g4 g5 _ _ _ _ _ h)
theorem xHA {N : Nat} {q0 : Rdr → Str → Option ((List Exp) × Rdr)} (g0 : G137 q0) {q1 : Rdr → Option (Exp × Rdr)} (g1 : G127 q1) {q2 : Rdr → Option (Exp × Rdr)} (g2 : G48 q2) {q3 : Rdr → Option (Exp × Rdr)} (g3 : G28 q3) {q4 : Rdr → Option (Exp × Rdr)} (g4 : G110 q4) {q5 : Rdr → Option (Exp × Rdr)} (g5 : G88 q5) {a0 : Rdr} {r : Exp × Rdr} (h : xDO N q0 q1 q2 q3 q4 q5 a0 = some r) : AbC 88 (xDB a0) (xBY r) :=
 AbsCalls.of_reach fk88 rfl rfl (Nat.le_of_ble_eq_true rfl) (c88_e g0 g1 g2 g3 g4 g5 a0 r h)
theorem xHz {N : Nat} : ∀ d, G137 (xAa N d).c_spec_l11Args ∧ G127 (xAa N d).c_spec_l11Atom ∧ G48 (xAa N d).c_spec_l11Compare ∧ G28 (xAa N d).c_spec_l11Expr ∧ G110 (xAa N d).c_spec_l11Product ∧ G88 (xAa N d).c_spec_l11Sum := by
 intro d
 induction d with
 | zero => exact ⟨fun _ _ _ h => nE h, fun _ _ h => nE h, fun _ _ h => nE h, fun _ _ h => nE h, fun _ _ h => nE h, fun _ _ h => nE h⟩
 | succ d ih =>
  obtain ⟨ih0, ih1, ih2, ih3, ih4, ih5⟩ := ih
  exact ⟨fun _ _ _ h => xHf (N := N) ih0 ih1 ih2 ih3 ih4 ih5 h, fun _ _ h => xHg (N := N) ih0 ih1 ih2 ih3 ih4 ih5 h, fun _ _ h => xGM (N := N) ih0 ih1 ih2 ih3 ih4 ih5 h, fun _ _ h => xHh (N := N) ih0 ih1 ih2 ih3 ih4 ih5 h, fun _ _ h => xGN (N := N) ih0 ih1 ih2 ih3 ih4 ih5 h, fun _ _ h => xHA (N := N) ih0 ih1 ih2 ih3 ih4 ih5 h⟩
theorem xDf {N : Nat} {a0 : Rdr} {r : Exp × Rdr} (h : xGk N a0 = some r) : AbC 28 (xAL a0) (xAh r) := (xHz N).2.2.2.1 _ r h
def G40 (q : Exp → Int → Option (Int)) : Prop := ∀ a0 a1 r, q a0 a1 = some r → AbC 40 (xDd a0 a1) (xBI r)
noncomputable def I40 : Info := { body := (Tryz.f40.body).getD .skip, nt := 27, results := [.tmp 4], keep := [0, 2, 4, 8, 10, 32, 5], live := [(3, [2, 4, 10, 5])], modes := [(3, [(5, .take, false)])] }
theorem fk40 : FnOk Tryz.prog 40 Tryz.f40 I40 := ⟨Tryz.func40, by kernel_rfl, by kernel_rfl, by kernel_rfl, by kernel_rfl⟩
def S40_3 (x1 x5 : Int) (b2 : Exp) : St := [(2, .v false [.int .i64 x1]), (4, .v false [.ptr 2 0]), (10, .v false [.int .i64 x5]), (5, .v true [.int .i64 (Exp.kind b2), .int .i64 (Exp.n b2), .str (Exp.text b2), .sl .ro .exp (Exp.args b2)])]
theorem p40_3_0 (x1 x5 : Int) (b2 : Exp) (r1 : Int) : rS 3 I40 (S40_3 x1 x5 b2) [Y, Y] [xBI r1] = st 3 I40 (S40_3 r1 (W (x5 + 1)) b2) [(decide ((x5 : Int) < (Ln (Exp.args b2) : Int))) = true, (decide ((x1 : Int) ≥ 0)) = true, (0 : Int) ≤ x5 ∧ x5 < (Ln (Exp.args b2)), AbC 40 (xDd (gD (Exp.args b2) (tN x5) Ty.exp.dflt) x1) (xBI r1)] := by kernel_rfl
theorem p40_3_1 (x1 x5 : Int) (b2 : Exp) : rS 3 I40 (S40_3 x1 x5 b2) [Y, F] [] = dn (xBI x1) [(decide ((x5 : Int) < (Ln (Exp.args b2) : Int))) = true, (decide ((x1 : Int) ≥ 0)) = false] := by kernel_rfl
theorem p40_3_2 (x1 x5 : Int) (b2 : Exp) : rS 3 I40 (S40_3 x1 x5 b2) [F, F] [] = dn (xBI x1) [(decide ((x5 : Int) < (Ln (Exp.args b2) : Int))) = false, false = false] := by kernel_rfl
theorem p40_e_3 (a0 : Exp) (a1 : Int) : rE I40 (xDd a0 a1) [] [] = st 3 I40 (S40_3 (W (a1 - 1)) 0 a0) [] := by kernel_rfl
theorem c40_3 {N : Nat} {q0 : Exp → Int → Option (Int)} (g0 : G40 q0) : ∀ n x1 x5 b2 r, xDF N q0 n x1 x5 b2 = some r → RS Tryz.f40 I40 3 (S40_3 x1 x5 b2) (xBI r) := by
 intro n
 induction n with
 | zero => exact fun _ _ _ _ h => nE h
 | succ n ih =>
  exact fun x1 x5 b2 r h =>
   cE h (fun h0 h => cE h (fun h1 h => iE h fun h2 h => bE h fun r1 h3 h => tS fk40 (p40_3_0 x1 x5 b2 r1) (oc h0 (oc h1 (oc h2 (oc (g0 _ _ _ h3) on)))) (ih _ _ _ _ h)) fun h1 h =>
   dS h fk40 (p40_3_1 x1 x5 b2) (oc h0 (oc h1 on))) fun h0 h =>
   dS h fk40 (p40_3_2 x1 x5 b2) (oc h0 (oc rfl on))
theorem c40_e {N : Nat} {q0 : Exp → Int → Option (Int)} (g0 : G40 q0) : ∀ a0 a1 r, xFz N q0 a0 a1 = some r → RE Tryz.f40 I40 (xDd a0 a1) (xBI r) := fun a0 a1 r h =>
 tE fk40 (p40_e_3 a0 a1) on (c40_3 g0 _ _ _ _ _ h)
theorem xHe {N : Nat} {q0 : Exp → Int → Option (Int)} (g0 : G40 q0) {a0 : Exp} {a1 : Int} {r : Int} (h : xFz N q0 a0 a1 = some r) : AbC 40 (xDd a0 a1) (xBI r) :=
 AbsCalls.of_reach fk40 rfl rfl (Nat.le_of_ble_eq_true rfl) (c40_e g0 a0 a1 r h)
theorem xF6 {N : Nat} : ∀ d, G40 (xD7 N d)
 | 0 => fun _ _ _ h => nE h
 | d + 1 => fun _ _ _ h => xHe (N := N) (xF6 d) h
theorem xF7 {N : Nat} {a0 : Exp} {a1 : Int} {r : Int} (h : xG2 N a0 a1 = some r) : AbC 40 (xDd a0 a1) (xBI r) := xF6 N _ _ r h
noncomputable def I77 : Info := { body := (Tryz.f77.body).getD .skip, nt := 10, results := [.tmp 4], keep := [0, 2, 8, 14], live := [], modes := [] }
theorem fk77 : FnOk Tryz.prog 77 Tryz.f77 I77 := ⟨Tryz.func77, by kernel_rfl, by kernel_rfl, by kernel_rfl, by kernel_rfl⟩
theorem p77_e_0 (a0 a1 : Int) : rE I77 (xFs a0 a1) [Y] [] = dn (xEY a0) [(decide ((a0 : Int) > a1)) = true] := by kernel_rfl
theorem p77_e_1 (a0 a1 : Int) : rE I77 (xFs a0 a1) [F] [] = dn (xEY a1) [(decide ((a0 : Int) > a1)) = false] := by kernel_rfl
theorem c77_e {N : Nat} : ∀ a0 a1 r, xGD N a0 a1 = some r → RE Tryz.f77 I77 (xFs a0 a1) (xEY r) := fun a0 a1 r h =>
 cE h (fun h0 h => dE h fk77 (p77_e_0 a0 a1) (oc h0 on)) fun h0 h =>
 dE h fk77 (p77_e_1 a0 a1) (oc h0 on)
theorem spec_l1Max_ok {N : Nat} {a0 : Int} {a1 : Int} {r : Int} (h : xGD N  a0 a1 = some r) : AbC 77 (xFs a0 a1) (xEY r) :=
 AbsCalls.of_reach fk77 rfl rfl (Nat.le_of_ble_eq_true rfl) (c77_e a0 a1 r h)
def G41 (q : Exp → Option (Int)) : Prop := ∀ a0 r, q a0 = some r → AbC 41 (xC9 a0) (xBP r)
noncomputable def I41 : Info := { body := (Tryz.f41.body).getD .skip, nt := 22, results := [.tmp 2], keep := [0, 2, 4, 6, 8, 18, 3], live := [(3, [2, 6, 8, 3])], modes := [] }
theorem fk41 : FnOk Tryz.prog 41 Tryz.f41 I41 := ⟨Tryz.func41, by kernel_rfl, by kernel_rfl, by kernel_rfl, by kernel_rfl⟩
def S41_3 (x3 x4 : Int) (b1 : Exp) : St := [(2, .v false [.ptr 1 0]), (6, .v false [.int .i64 x3]), (8, .v false [.int .i64 x4]), (3, .v true [.int .i64 (Exp.kind b1), .int .i64 (Exp.n b1), .str (Exp.text b1), .sl .ro .exp (Exp.args b1)])]
theorem p41_3_0 (x3 x4 : Int) (b1 : Exp) (r1 r2 : Int) : rS 3 I41 (S41_3 x3 x4 b1) [Y] [xBP r1, xEY r2] = st 3 I41 (S41_3 r2 (W (x4 + 1)) b1) [(decide ((x4 : Int) < (Ln (Exp.args b1) : Int))) = true, (0 : Int) ≤ x4 ∧ x4 < (Ln (Exp.args b1)), AbC 41 (xC9 (gD (Exp.args b1) (tN x4) Ty.exp.dflt)) (xBP r1), AbC 77 (xFs x3 r1) (xEY r2)] := by kernel_rfl
theorem p41_3_1 (x3 x4 : Int) (b1 : Exp) : rS 3 I41 (S41_3 x3 x4 b1) [F] [] = dn (xBP (W (x3 + 1))) [(decide ((x4 : Int) < (Ln (Exp.args b1) : Int))) = false] := by kernel_rfl
theorem p41_e_2 (a0 : Exp) : rE I41 (xC9 a0) [] [] = st 3 I41 (S41_3 0 0 a0) [] := by kernel_rfl
theorem c41_3 {N : Nat} {q0 : Exp → Option (Int)} (g0 : G41 q0) : ∀ n x3 x4 b1 r, xDW N q0 n x3 x4 b1 = some r → RS Tryz.f41 I41 3 (S41_3 x3 x4 b1) (xBP r) := by
 intro n
 induction n with
 | zero => exact fun _ _ _ _ h => nE h
 | succ n ih =>
  exact fun x3 x4 b1 r h =>
   cE h (fun h0 h => iE h fun h1 h => bE h fun r1 h2 h => bE h fun r2 h3 h => tS fk41 (p41_3_0 x3 x4 b1 r1 r2) (oc h0 (oc h1 (oc (g0 _ _ h2) (oc (spec_l1Max_ok h3) on)))) (ih _ _ _ _ h)) fun h0 h =>
   dS h fk41 (p41_3_1 x3 x4 b1) (oc h0 on)
theorem c41_e {N : Nat} {q0 : Exp → Option (Int)} (g0 : G41 q0) : ∀ a0 r, xFg N q0 a0 = some r → RE Tryz.f41 I41 (xC9 a0) (xBP r) := fun a0 r h =>
 tE fk41 (p41_e_2 a0) on (c41_3 g0 _ _ _ _ _ h)
theorem xGT {N : Nat} {q0 : Exp → Option (Int)} (g0 : G41 q0) {a0 : Exp} {r : Int} (h : xFg N q0 a0 = some r) : AbC 41 (xC9 a0) (xBP r) :=
 AbsCalls.of_reach fk41 rfl rfl (Nat.le_of_ble_eq_true rfl) (c41_e g0 a0 r h)
theorem xFK {N : Nat} : ∀ d, G41 (xEf N d)
 | 0 => fun _ _ h => nE h
 | d + 1 => fun _ _ h => xGT (N := N) (xFK d) h
theorem xGB {N : Nat} {a0 : Exp} {r : Int} (h : xGr N a0 = some r) : AbC 41 (xC9 a0) (xBP r) := xFK N _ r h
noncomputable def I105 : Info := { body := (Tryz.f105.body).getD .skip, nt := 15, results := [.tmp 6], keep := [0, 2, 4, 12], live := [], modes := [(1, [(3, .take, false)])] }
theorem fk105 : FnOk Tryz.prog 105 Tryz.f105 I105 := ⟨Tryz.func105, by kernel_rfl, by kernel_rfl, by kernel_rfl, by kernel_rfl⟩
theorem p105_e_0 (a0 a1 a2 : Int) : rE I105 (xEy a0 a1 a2) [Y] [] = dn (xDo (decide ((a0 : Int) ≤ a2))) [(decide ((a0 : Int) ≥ a1)) = true] := by kernel_rfl
theorem p105_e_1 (a0 a1 a2 : Int) : rE I105 (xEy a0 a1 a2) [F] [] = dn (xDo false) [(decide ((a0 : Int) ≥ a1)) = false] := by kernel_rfl
theorem c105_e {N : Nat} : ∀ a0 a1 a2 r, xF8 N a0 a1 a2 = some r → RE Tryz.f105 I105 (xEy a0 a1 a2) (xDo r) := fun a0 a1 a2 r h =>
 cE h (fun h0 h => dE h fk105 (p105_e_0 a0 a1 a2) (oc h0 on)) fun h0 h =>
 dE h fk105 (p105_e_1 a0 a1 a2) (oc h0 on)
theorem xGl {N : Nat} {a0 : Int} {a1 : Int} {a2 : Int} {r : Bool} (h : xF8 N  a0 a1 a2 = some r) : AbC 105 (xEy a0 a1 a2) (xDo r) :=
 AbsCalls.of_reach fk105 rfl rfl (Nat.le_of_ble_eq_true rfl) (c105_e a0 a1 a2 r h)
noncomputable def I78 : Info := { body := (Tryz.f78.body).getD .skip, nt := 120, results := [.tmp 2], keep := [0, 2, 4, 6, 16, 18, 46, 74, 102, 130, 154, 182, 212, 3], live := [], modes := [(4, [(2, .take, false), (7, .take, false)]), (6, [(2, .take, false), (7, .take, false)]), (8, [(2, .take, false), (7, .take, false)]), (10, [(3, .take, false), (8, .take, false)]), (12, [(3, .take, false)]), (14, [(3, .take, false), (7, .take, false)]), (17, [(3, .take, false), (7, .take, false)]), (19, [(3, .take, false), (8, .take, false)])] }
theorem fk78 : FnOk Tryz.prog 78 Tryz.f78 I78 := ⟨Tryz.func78, by kernel_rfl, by kernel_rfl, by kernel_rfl, by kernel_rfl⟩
theorem p78_e_0 (a0 : Exp) (r1 : Bool) : rE I78 (xAF a0) [Y, Y, Y] [xDo r1] = dn (xAD r1) [(((Exp.kind a0) : Int) == 1) = true, (((Ln (Exp.args a0) : Int) : Int) == 0) = true, (((Exp.text a0) : Str) == []) = true, AbC 105 (xEy (Exp.n a0) 0 1000000000) (xDo r1)] := by kernel_rfl
theorem p78_e_1 (a0 : Exp) : rE I78 (xAF a0) [Y, Y, F] [] = dn (xAD false) [(((Exp.kind a0) : Int) == 1) = true, (((Ln (Exp.args a0) : Int) : Int) == 0) = true, (((Exp.text a0) : Str) == []) = false] := by kernel_rfl
theorem p78_e_2 (a0 : Exp) : rE I78 (xAF a0) [Y, F, F] [] = dn (xAD false) [(((Exp.kind a0) : Int) == 1) = true, (((Ln (Exp.args a0) : Int) : Int) == 0) = false, false = false] := by kernel_rfl
theorem p78_e_3 (a0 : Exp) (r1 : Bool) : rE I78 (xAF a0) [F, Y, Y, Y] [xAY r1] = dn (xAD r1) [(((Exp.kind a0) : Int) == 1) = false, (((Exp.kind a0) : Int) == 2) = true, (((Ln (Exp.args a0) : Int) : Int) == 0) = true, (((Exp.n a0) : Int) == 0) = true, AbC 82 (xCD (Exp.text a0)) (xAY r1)] := by kernel_rfl
theorem p78_e_4 (a0 : Exp) : rE I78 (xAF a0) [F, Y, Y, F] [] = dn (xAD false) [(((Exp.kind a0) : Int) == 1) = false, (((Exp.kind a0) : Int) == 2) = true, (((Ln (Exp.args a0) : Int) : Int) == 0) = true, (((Exp.n a0) : Int) == 0) = false] := by kernel_rfl
theorem p78_e_5 (a0 : Exp) : rE I78 (xAF a0) [F, Y, F, F] [] = dn (xAD false) [(((Exp.kind a0) : Int) == 1) = false, (((Exp.kind a0) : Int) == 2) = true, (((Ln (Exp.args a0) : Int) : Int) == 0) = false, false = false] := by kernel_rfl
theorem p78_e_6 (a0 : Exp) (r1 : Bool) : rE I78 (xAF a0) [F, F, Y, Y, Y] [xAz r1] = dn (xAD r1) [(((Exp.kind a0) : Int) == 1) = false, (((Exp.kind a0) : Int) == 2) = false, (((Exp.kind a0) : Int) == 3) = true, (((Ln (Exp.args a0) : Int) : Int) == 0) = true, (((Exp.n a0) : Int) == 0) = true, AbC 87 (xA4 (Exp.text a0)) (xAz r1)] := by kernel_rfl
theorem p78_e_7 (a0 : Exp) : rE I78 (xAF a0) [F, F, Y, Y, F] [] = dn (xAD false) [(((Exp.kind a0) : Int) == 1) = false, (((Exp.kind a0) : Int) == 2) = false, (((Exp.kind a0) : Int) == 3) = true, (((Ln (Exp.args a0) : Int) : Int) == 0) = true, (((Exp.n a0) : Int) == 0) = false] := by kernel_rfl
theorem p78_e_8 (a0 : Exp) : rE I78 (xAF a0) [F, F, Y, F, F] [] = dn (xAD false) [(((Exp.kind a0) : Int) == 1) = false, (((Exp.kind a0) : Int) == 2) = false, (((Exp.kind a0) : Int) == 3) = true, (((Ln (Exp.args a0) : Int) : Int) == 0) = false, false = false] := by kernel_rfl
theorem p78_e_9 (a0 : Exp) : rE I78 (xAF a0) [F, F, F, Y, Y, Y] [] = dn (xAD (decide (((Ln (Exp.args a0) : Int) : Int) ≤ 8))) [(((Exp.kind a0) : Int) == 1) = false, (((Exp.kind a0) : Int) == 2) = false, (((Exp.kind a0) : Int) == 3) = false, (((Exp.kind a0) : Int) == 4) = true, (((Exp.n a0) : Int) == 0) = true, (((Exp.text a0) : Str) == []) = true] := by kernel_rfl
theorem p78_e_10 (a0 : Exp) : rE I78 (xAF a0) [F, F, F, Y, Y, F] [] = dn (xAD false) [(((Exp.kind a0) : Int) == 1) = false, (((Exp.kind a0) : Int) == 2) = false, (((Exp.kind a0) : Int) == 3) = false, (((Exp.kind a0) : Int) == 4) = true, (((Exp.n a0) : Int) == 0) = true, (((Exp.text a0) : Str) == []) = false] := by kernel_rfl
theorem p78_e_11 (a0 : Exp) : rE I78 (xAF a0) [F, F, F, Y, F, F] [] = dn (xAD false) [(((Exp.kind a0) : Int) == 1) = false, (((Exp.kind a0) : Int) == 2) = false, (((Exp.kind a0) : Int) == 3) = false, (((Exp.kind a0) : Int) == 4) = true, (((Exp.n a0) : Int) == 0) = false, false = false] := by kernel_rfl
theorem p78_e_12 (a0 : Exp) (r1 : Int) : rE I78 (xAF a0) [F, F, F, F, Y, Y] [xAj r1] = dn (xAD (((Ln (Exp.args a0) : Int) : Int) == r1)) [(((Exp.kind a0) : Int) == 1) = false, (((Exp.kind a0) : Int) == 2) = false, (((Exp.kind a0) : Int) == 3) = false, (((Exp.kind a0) : Int) == 4) = false, (((Exp.kind a0) : Int) == 5) = true, (((Exp.n a0) : Int) == 0) = true, AbC 106 (xAr (Exp.text a0)) (xAj r1)] := by kernel_rfl
theorem p78_e_13 (a0 : Exp) : rE I78 (xAF a0) [F, F, F, F, Y, F] [] = dn (xAD false) [(((Exp.kind a0) : Int) == 1) = false, (((Exp.kind a0) : Int) == 2) = false, (((Exp.kind a0) : Int) == 3) = false, (((Exp.kind a0) : Int) == 4) = false, (((Exp.kind a0) : Int) == 5) = true, (((Exp.n a0) : Int) == 0) = false] := by kernel_rfl
theorem p78_e_14 (a0 : Exp) (r1 : Bool) : rE I78 (xAF a0) [F, F, F, F, F, Y, Y, Y] [xDo r1] = dn (xAD r1) [(((Exp.kind a0) : Int) == 1) = false, (((Exp.kind a0) : Int) == 2) = false, (((Exp.kind a0) : Int) == 3) = false, (((Exp.kind a0) : Int) == 4) = false, (((Exp.kind a0) : Int) == 5) = false, (((Exp.kind a0) : Int) == 6) = true, (((Exp.text a0) : Str) == []) = true, (((Ln (Exp.args a0) : Int) : Int) == 2) = true, AbC 105 (xEy (Exp.n a0) 1 5) (xDo r1)] := by kernel_rfl
theorem p78_e_15 (a0 : Exp) : rE I78 (xAF a0) [F, F, F, F, F, Y, Y, F] [] = dn (xAD false) [(((Exp.kind a0) : Int) == 1) = false, (((Exp.kind a0) : Int) == 2) = false, (((Exp.kind a0) : Int) == 3) = false, (((Exp.kind a0) : Int) == 4) = false, (((Exp.kind a0) : Int) == 5) = false, (((Exp.kind a0) : Int) == 6) = true, (((Exp.text a0) : Str) == []) = true, (((Ln (Exp.args a0) : Int) : Int) == 2) = false] := by kernel_rfl
theorem p78_e_16 (a0 : Exp) : rE I78 (xAF a0) [F, F, F, F, F, Y, F, F] [] = dn (xAD false) [(((Exp.kind a0) : Int) == 1) = false, (((Exp.kind a0) : Int) == 2) = false, (((Exp.kind a0) : Int) == 3) = false, (((Exp.kind a0) : Int) == 4) = false, (((Exp.kind a0) : Int) == 5) = false, (((Exp.kind a0) : Int) == 6) = true, (((Exp.text a0) : Str) == []) = false, false = false] := by kernel_rfl
theorem p78_e_17 (a0 : Exp) (r1 : Bool) : rE I78 (xAF a0) [F, F, F, F, F, F, Y, Y, Y, Y] [xAz r1] = dn (xAD r1) [(((Exp.kind a0) : Int) == 1) = false, (((Exp.kind a0) : Int) == 2) = false, (((Exp.kind a0) : Int) == 3) = false, (((Exp.kind a0) : Int) == 4) = false, (((Exp.kind a0) : Int) == 5) = false, (((Exp.kind a0) : Int) == 6) = false, (((Exp.kind a0) : Int) == 7) = true, (((Exp.kind a0) : Int) == 7) = true, (((Exp.n a0) : Int) == 0) = true, (((Ln (Exp.args a0) : Int) : Int) == 2) = true, AbC 87 (xA4 (Exp.text a0)) (xAz r1)] := by kernel_rfl
theorem p78_e_18 (a0 : Exp) : rE I78 (xAF a0) [F, F, F, F, F, F, Y, Y, Y, F] [] = dn (xAD false) [(((Exp.kind a0) : Int) == 1) = false, (((Exp.kind a0) : Int) == 2) = false, (((Exp.kind a0) : Int) == 3) = false, (((Exp.kind a0) : Int) == 4) = false, (((Exp.kind a0) : Int) == 5) = false, (((Exp.kind a0) : Int) == 6) = false, (((Exp.kind a0) : Int) == 7) = true, (((Exp.kind a0) : Int) == 7) = true, (((Exp.n a0) : Int) == 0) = true, (((Ln (Exp.args a0) : Int) : Int) == 2) = false] := by kernel_rfl
theorem p78_e_19 (a0 : Exp) : rE I78 (xAF a0) [F, F, F, F, F, F, Y, Y, F, F] [] = dn (xAD false) [(((Exp.kind a0) : Int) == 1) = false, (((Exp.kind a0) : Int) == 2) = false, (((Exp.kind a0) : Int) == 3) = false, (((Exp.kind a0) : Int) == 4) = false, (((Exp.kind a0) : Int) == 5) = false, (((Exp.kind a0) : Int) == 6) = false, (((Exp.kind a0) : Int) == 7) = true, (((Exp.kind a0) : Int) == 7) = true, (((Exp.n a0) : Int) == 0) = false, false = false] := by kernel_rfl
theorem p78_e_20 (a0 : Exp) (r1 : Bool) : rE I78 (xAF a0) [F, F, F, F, F, F, F, Y, Y, Y] [xAz r1] = dn (xAD r1) [(((Exp.kind a0) : Int) == 1) = false, (((Exp.kind a0) : Int) == 2) = false, (((Exp.kind a0) : Int) == 3) = false, (((Exp.kind a0) : Int) == 4) = false, (((Exp.kind a0) : Int) == 5) = false, (((Exp.kind a0) : Int) == 6) = false, (((Exp.kind a0) : Int) == 7) = false, (((Exp.kind a0) : Int) == 9) = true, (((Exp.n a0) : Int) == 0) = true, (((Ln (Exp.args a0) : Int) : Int) == 2) = true, AbC 87 (xA4 (Exp.text a0)) (xAz r1)] := by kernel_rfl
theorem p78_e_21 (a0 : Exp) : rE I78 (xAF a0) [F, F, F, F, F, F, F, Y, Y, F] [] = dn (xAD false) [(((Exp.kind a0) : Int) == 1) = false, (((Exp.kind a0) : Int) == 2) = false, (((Exp.kind a0) : Int) == 3) = false, (((Exp.kind a0) : Int) == 4) = false, (((Exp.kind a0) : Int) == 5) = false, (((Exp.kind a0) : Int) == 6) = false, (((Exp.kind a0) : Int) == 7) = false, (((Exp.kind a0) : Int) == 9) = true, (((Exp.n a0) : Int) == 0) = true, (((Ln (Exp.args a0) : Int) : Int) == 2) = false] := by kernel_rfl
theorem p78_e_22 (a0 : Exp) : rE I78 (xAF a0) [F, F, F, F, F, F, F, Y, F, F] [] = dn (xAD false) [(((Exp.kind a0) : Int) == 1) = false, (((Exp.kind a0) : Int) == 2) = false, (((Exp.kind a0) : Int) == 3) = false, (((Exp.kind a0) : Int) == 4) = false, (((Exp.kind a0) : Int) == 5) = false, (((Exp.kind a0) : Int) == 6) = false, (((Exp.kind a0) : Int) == 7) = false, (((Exp.kind a0) : Int) == 9) = true, (((Exp.n a0) : Int) == 0) = false, false = false] := by kernel_rfl
theorem p78_e_23 (a0 : Exp) : rE I78 (xAF a0) [F, F, F, F, F, F, F, F, Y, Y, Y] [] = dn (xAD (((Ln (Exp.args a0) : Int) : Int) == 3)) [(((Exp.kind a0) : Int) == 1) = false, (((Exp.kind a0) : Int) == 2) = false, (((Exp.kind a0) : Int) == 3) = false, (((Exp.kind a0) : Int) == 4) = false, (((Exp.kind a0) : Int) == 5) = false, (((Exp.kind a0) : Int) == 6) = false, (((Exp.kind a0) : Int) == 7) = false, (((Exp.kind a0) : Int) == 9) = false, (((Exp.kind a0) : Int) == 8) = true, (((Exp.n a0) : Int) == 0) = true, (((Exp.text a0) : Str) == []) = true] := by kernel_rfl
theorem p78_e_24 (a0 : Exp) : rE I78 (xAF a0) [F, F, F, F, F, F, F, F, Y, Y, F] [] = dn (xAD false) [(((Exp.kind a0) : Int) == 1) = false, (((Exp.kind a0) : Int) == 2) = false, (((Exp.kind a0) : Int) == 3) = false, (((Exp.kind a0) : Int) == 4) = false, (((Exp.kind a0) : Int) == 5) = false, (((Exp.kind a0) : Int) == 6) = false, (((Exp.kind a0) : Int) == 7) = false, (((Exp.kind a0) : Int) == 9) = false, (((Exp.kind a0) : Int) == 8) = true, (((Exp.n a0) : Int) == 0) = true, (((Exp.text a0) : Str) == []) = false] := by kernel_rfl
theorem p78_e_25 (a0 : Exp) : rE I78 (xAF a0) [F, F, F, F, F, F, F, F, Y, F, F] [] = dn (xAD false) [(((Exp.kind a0) : Int) == 1) = false, (((Exp.kind a0) : Int) == 2) = false, (((Exp.kind a0) : Int) == 3) = false, (((Exp.kind a0) : Int) == 4) = false, (((Exp.kind a0) : Int) == 5) = false, (((Exp.kind a0) : Int) == 6) = false, (((Exp.kind a0) : Int) == 7) = false, (((Exp.kind a0) : Int) == 9) = false, (((Exp.kind a0) : Int) == 8) = true, (((Exp.n a0) : Int) == 0) = false, false = false] := by kernel_rfl
theorem p78_e_26 (a0 : Exp) : rE I78 (xAF a0) [F, F, F, F, F, F, F, F, F] [] = dn (xAD false) [(((Exp.kind a0) : Int) == 1) = false, (((Exp.kind a0) : Int) == 2) = false, (((Exp.kind a0) : Int) == 3) = false, (((Exp.kind a0) : Int) == 4) = false, (((Exp.kind a0) : Int) == 5) = false, (((Exp.kind a0) : Int) == 6) = false, (((Exp.kind a0) : Int) == 7) = false, (((Exp.kind a0) : Int) == 9) = false, (((Exp.kind a0) : Int) == 8) = false] := by kernel_rfl
theorem c78_e {N : Nat} : ∀ a0 r, xFL N a0 = some r → RE Tryz.f78 I78 (xAF a0) (xAD r) := fun a0 r h =>
 cE h (fun h0 h => cE h (fun h1 h => cE h (fun h2 h => bE h fun r1 h3 h => dE h fk78 (p78_e_0 a0 r1) (oc h0 (oc h1 (oc h2 (oc (xGl h3) on))))) fun h2 h =>
 dE h fk78 (p78_e_1 a0) (oc h0 (oc h1 (oc h2 on)))) fun h1 h =>
 dE h fk78 (p78_e_2 a0) (oc h0 (oc h1 (oc rfl on)))) fun h0 h =>
 cE h (fun h1 h => cE h (fun h2 h => cE h (fun h3 h => bE h fun r1 h4 h => dE h fk78 (p78_e_3 a0 r1) (oc h0 (oc h1 (oc h2 (oc h3 (oc (xD1 h4) on)))))) fun h3 h =>
 dE h fk78 (p78_e_4 a0) (oc h0 (oc h1 (oc h2 (oc h3 on))))) fun h2 h =>
 dE h fk78 (p78_e_5 a0) (oc h0 (oc h1 (oc h2 (oc rfl on))))) fun h1 h =>
 cE h (fun h2 h => cE h (fun h3 h => cE h (fun h4 h => bE h fun r1 h5 h => dE h fk78 (p78_e_6 a0 r1) (oc h0 (oc h1 (oc h2 (oc h3 (oc h4 (oc (xBX h5) on))))))) fun h4 h =>
 dE h fk78 (p78_e_7 a0) (oc h0 (oc h1 (oc h2 (oc h3 (oc h4 on)))))) fun h3 h =>
 dE h fk78 (p78_e_8 a0) (oc h0 (oc h1 (oc h2 (oc h3 (oc rfl on)))))) fun h2 h =>
 cE h (fun h3 h => cE h (fun h4 h => cE h (fun h5 h => dE h fk78 (p78_e_9 a0) (oc h0 (oc h1 (oc h2 (oc h3 (oc h4 (oc h5 on))))))) fun h5 h =>
 dE h fk78 (p78_e_10 a0) (oc h0 (oc h1 (oc h2 (oc h3 (oc h4 (oc h5 on))))))) fun h4 h =>
 dE h fk78 (p78_e_11 a0) (oc h0 (oc h1 (oc h2 (oc h3 (oc h4 (oc rfl on))))))) fun h3 h =>
 cE h (fun h4 h => cE h (fun h5 h => bE h fun r1 h6 h => dE h fk78 (p78_e_12 a0 r1) (oc h0 (oc h1 (oc h2 (oc h3 (oc h4 (oc h5 (oc (xDE h6) on)))))))) fun h5 h =>
 dE h fk78 (p78_e_13 a0) (oc h0 (oc h1 (oc h2 (oc h3 (oc h4 (oc h5 on))))))) fun h4 h =>
 cE h (fun h5 h => cE h (fun h6 h => cE h (fun h7 h => bE h fun r1 h8 h => dE h fk78 (p78_e_14 a0 r1) (oc h0 (oc h1 (oc h2 (oc h3 (oc h4 (oc h5 (oc h6 (oc h7 (oc (xGl h8) on)))))))))) fun h7 h =>
 dE h fk78 (p78_e_15 a0) (oc h0 (oc h1 (oc h2 (oc h3 (oc h4 (oc h5 (oc h6 (oc h7 on))))))))) fun h6 h =>
 dE h fk78 (p78_e_16 a0) (oc h0 (oc h1 (oc h2 (oc h3 (oc h4 (oc h5 (oc h6 (oc rfl on))))))))) fun h5 h =>
 cE h (fun h6 h => cE h (fun h8 h => cE h (fun h9 h => bE h fun r1 h10 h => dE h fk78 (p78_e_17 a0 r1) (oc h0 (oc h1 (oc h2 (oc h3 (oc h4 (oc h5 (oc h6 (oc h6 (oc h8 (oc h9 (oc (xBX h10) on)))))))))))) fun h9 h =>
 dE h fk78 (p78_e_18 a0) (oc h0 (oc h1 (oc h2 (oc h3 (oc h4 (oc h5 (oc h6 (oc h6 (oc h8 (oc h9 on))))))))))) fun h8 h =>
 dE h fk78 (p78_e_19 a0) (oc h0 (oc h1 (oc h2 (oc h3 (oc h4 (oc h5 (oc h6 (oc h6 (oc h8 (oc rfl on))))))))))) fun h6 h =>
 cE h (fun h7 h => cE h (fun h8 h => cE h (fun h9 h => bE h fun r1 h10 h => dE h fk78 (p78_e_20 a0 r1) (oc h0 (oc h1 (oc h2 (oc h3 (oc h4 (oc h5 (oc h6 (oc h7 (oc h8 (oc h9 (oc (xBX h10) on)))))))))))) fun h9 h =>
 dE h fk78 (p78_e_21 a0) (oc h0 (oc h1 (oc h2 (oc h3 (oc h4 (oc h5 (oc h6 (oc h7 (oc h8 (oc h9 on))))))))))) fun h8 h =>
 dE h fk78 (p78_e_22 a0) (oc h0 (oc h1 (oc h2 (oc h3 (oc h4 (oc h5 (oc h6 (oc h7 (oc h8 (oc rfl on))))))))))) fun h7 h =>
 cE h (fun h8 h => cE h (fun h9 h => cE h (fun h10 h => dE h fk78 (p78_e_23 a0) (oc h0 (oc h1 (oc h2 (oc h3 (oc h4 (oc h5 (oc h6 (oc h7 (oc h8 (oc h9 (oc h10 on)))))))))))) fun h10 h =>
 dE h fk78 (p78_e_24 a0) (oc h0 (oc h1 (oc h2 (oc h3 (oc h4 (oc h5 (oc h6 (oc h7 (oc h8 (oc h9 (oc h10 on)))))))))))) fun h9 h =>
 dE h fk78 (p78_e_25 a0) (oc h0 (oc h1 (oc h2 (oc h3 (oc h4 (oc h5 (oc h6 (oc h7 (oc h8 (oc h9 (oc rfl on)))))))))))) fun h8 h =>
 dE h fk78 (p78_e_26 a0) (oc h0 (oc h1 (oc h2 (oc h3 (oc h4 (oc h5 (oc h6 (oc h7 (oc h8 on)))))))))
theorem spec_l10Node_ok {N : Nat} {a0 : Exp} {r : Bool} (h : xFL N  a0 = some r) : AbC 78 (xAF a0) (xAD r) :=
 AbsCalls.of_reach fk78 rfl rfl (Nat.le_of_ble_eq_true rfl) (c78_e a0 r h)
def G42 (q : Exp → Option (Bool)) : Prop := ∀ a0 r, q a0 = some r → AbC 42 (xDT a0) (xCn r)
noncomputable def I42 : Info := { body := (Tryz.f42.body).getD .skip, nt := 20, results := [.tmp 2], keep := [0, 2, 4, 6, 16, 34, 3], live := [(2, [2, 6, 3])], modes := [] }
theorem fk42 : FnOk Tryz.prog 42 Tryz.f42 I42 := ⟨Tryz.func42, by kernel_rfl, by kernel_rfl, by kernel_rfl, by kernel_rfl⟩
def S42_2 (x3 : Int) (b1 : Exp) : St := [(2, .v false [.ptr 1 0]), (6, .v false [.int .i64 x3]), (3, .v true [.int .i64 (Exp.kind b1), .int .i64 (Exp.n b1), .str (Exp.text b1), .sl .ro .exp (Exp.args b1)])]
theorem p42_2_0 (x3 : Int) (b1 : Exp) (r1 : Bool) : rS 2 I42 (S42_2 x3 b1) [Y, Y] [xCn r1] = dn (xCn false) [(decide ((x3 : Int) < (Ln (Exp.args b1) : Int))) = true, (0 : Int) ≤ x3 ∧ x3 < (Ln (Exp.args b1)), AbC 42 (xDT (gD (Exp.args b1) (tN x3) Ty.exp.dflt)) (xCn r1), (!r1) = true] := by kernel_rfl
theorem p42_2_1 (x3 : Int) (b1 : Exp) (r1 : Bool) : rS 2 I42 (S42_2 x3 b1) [Y, F] [xCn r1] = st 2 I42 (S42_2 (W (x3 + 1)) b1) [(decide ((x3 : Int) < (Ln (Exp.args b1) : Int))) = true, (0 : Int) ≤ x3 ∧ x3 < (Ln (Exp.args b1)), AbC 42 (xDT (gD (Exp.args b1) (tN x3) Ty.exp.dflt)) (xCn r1), (!r1) = false] := by kernel_rfl
theorem p42_2_2 (x3 : Int) (b1 : Exp) (r1 : Bool) : rS 2 I42 (S42_2 x3 b1) [F] [xAD r1] = dn (xCn r1) [(decide ((x3 : Int) < (Ln (Exp.args b1) : Int))) = false, AbC 78 (xAF b1) (xAD r1)] := by kernel_rfl
theorem p42_e_3 (a0 : Exp) : rE I42 (xDT a0) [] [] = st 2 I42 (S42_2 0 a0) [] := by kernel_rfl
theorem c42_2 {N : Nat} {q0 : Exp → Option (Bool)} (g0 : G42 q0) : ∀ n x3 b1 r, xEl N q0 n x3 b1 = some r → RS Tryz.f42 I42 2 (S42_2 x3 b1) (xCn r) := by
 intro n
 induction n with
 | zero => exact fun _ _ _ h => nE h
 | succ n ih =>
  exact fun x3 b1 r h =>
   cE h (fun h0 h => iE h fun h1 h => bE h fun r1 h2 h => cE h (fun h3 h => dS h fk42 (p42_2_0 x3 b1 r1) (oc h0 (oc h1 (oc (g0 _ _ h2) (oc h3 on))))) fun h3 h =>
   tS fk42 (p42_2_1 x3 b1 r1) (oc h0 (oc h1 (oc (g0 _ _ h2) (oc h3 on)))) (ih _ _ _ h)) fun h0 h =>
   bE h fun r1 h1 h => dS h fk42 (p42_2_2 x3 b1 r1) (oc h0 (oc (spec_l10Node_ok h1) on))
theorem c42_e {N : Nat} {q0 : Exp → Option (Bool)} (g0 : G42 q0) : ∀ a0 r, xFM N q0 a0 = some r → RE Tryz.f42 I42 (xDT a0) (xCn r) := fun a0 r h =>
 tE fk42 (p42_e_3 a0) on (c42_2 g0 _ _ _ _ h)
theorem xHx {N : Nat} {q0 : Exp → Option (Bool)} (g0 : G42 q0) {a0 : Exp} {r : Bool} (h : xFM N q0 a0 = some r) : AbC 42 (xDT a0) (xCn r) :=
 AbsCalls.of_reach fk42 rfl rfl (Nat.le_of_ble_eq_true rfl) (c42_e g0 a0 r h)
theorem xGj {N : Nat} : ∀ d, G42 (xEQ N d)
 | 0 => fun _ _ h => nE h
 | d + 1 => fun _ _ h => xHx (N := N) (xGj d) h
theorem spec_l10All_ok {N : Nat} {a0 : Exp} {r : Bool} (h : xHw N a0 = some r) : AbC 42 (xDT a0) (xCn r) := xGj N _ r h
noncomputable def I22 : Info := { body := (Tryz.f22.body).getD .skip, nt := 15, results := [.tmp 2], keep := [0, 2, 4, 3], live := [], modes := [(1, [(3, .take, false), (8, .take, false)])] }
theorem fk22 : FnOk Tryz.prog 22 Tryz.f22 I22 := ⟨Tryz.func22, by kernel_rfl, by kernel_rfl, by kernel_rfl, by kernel_rfl⟩
theorem p22_e_0 (a0 : Exp) (r1 r2 : Int) (r3 : Bool) : rE I22 (xBn a0) [Y, Y] [xBI r1, xBP r2, xCn r3] = dn (xAK r3) [AbC 40 (xDd a0 40) (xBI r1), (decide ((r1 : Int) ≥ 0)) = true, AbC 41 (xC9 a0) (xBP r2), (decide ((r2 : Int) ≤ 8)) = true, AbC 42 (xDT a0) (xCn r3)] := by kernel_rfl
theorem p22_e_1 (a0 : Exp) (r1 r2 : Int) : rE I22 (xBn a0) [Y, F] [xBI r1, xBP r2] = dn (xAK false) [AbC 40 (xDd a0 40) (xBI r1), (decide ((r1 : Int) ≥ 0)) = true, AbC 41 (xC9 a0) (xBP r2), (decide ((r2 : Int) ≤ 8)) = false] := by kernel_rfl
theorem p22_e_2 (a0 : Exp) (r1 : Int) : rE I22 (xBn a0) [F, F] [xBI r1] = dn (xAK false) [AbC 40 (xDd a0 40) (xBI r1), (decide ((r1 : Int) ≥ 0)) = false, false = false] := by kernel_rfl
theorem c22_e {N : Nat} : ∀ a0 r, xCJ N a0 = some r → RE Tryz.f22 I22 (xBn a0) (xAK r) := fun a0 r h =>
 bE h fun r1 h0 h => cE h (fun h1 h => bE h fun r2 h2 h => cE h (fun h3 h => bE h fun r3 h4 h => dE h fk22 (p22_e_0 a0 r1 r2 r3) (oc (xF7 h0) (oc h1 (oc (xGB h2) (oc h3 (oc (spec_l10All_ok h4) on)))))) fun h3 h =>
 dE h fk22 (p22_e_1 a0 r1 r2) (oc (xF7 h0) (oc h1 (oc (xGB h2) (oc h3 on))))) fun h1 h =>
 dE h fk22 (p22_e_2 a0 r1) (oc (xF7 h0) (oc h1 (oc rfl on)))
theorem xCC {N : Nat} {a0 : Exp} {r : Bool} (h : xCJ N  a0 = some r) : AbC 22 (xBn a0) (xAK r) :=
 AbsCalls.of_reach fk22 rfl rfl (Nat.le_of_ble_eq_true rfl) (c22_e a0 r h)
noncomputable def I11 : Info := { body := (Tryz.f11.body).getD .skip, nt := 55, results := [.cell 2 25, .tmp 3], keep := [0, 4, 6, 8, 10, 12, 14, 28, 74, 88, 104, 5, 15, 43], live := [], modes := [(1, [(1, .cp, true), (2, .take, false)]), (4, [(0, .take, false)]), (6, [(5, .take, false)])], fcast := [(5, 3, true)] }
theorem fk11 : FnOk Tryz.prog 11 Tryz.f11 I11 := ⟨Tryz.func11, by kernel_rfl, by kernel_rfl, by kernel_rfl, by kernel_rfl⟩
theorem p11_e_0 (a0 : Str) (r1 : (List Tok) × Int) : rE I11 (xBu a0) [Y] [xAG r1] = dn (xBf ((Exp.mk 0 0 [] []), r1.2)) [AbC 23 (xBH a0) (xAG r1), (decide ((r1.2 : Int) ≥ 0)) = true] := by kernel_rfl
theorem p11_e_1 (a0 : Str) (r1 : (List Tok) × Int) (r2 : Exp × Rdr) (r3 : Exp × Rdr) : rE I11 (xBu a0) [F, Y, Y, Y] [xAG r1, xAh r2, xAH r3] = dn (xBf ((Exp.mk 0 0 [] []), (Rdr.bad r3.2))) [AbC 23 (xBH a0) (xAG r1), (decide ((r1.2 : Int) ≥ 0)) = false, AbC 28 (xAL (Rdr.mk r1.1 0 (Ln a0 : Int) (-1))) (xAh r2), (decide (((Rdr.bad r2.2) : Int) < 0)) = true, (decide (((Rdr.i r2.2) : Int) < (Ln r1.1 : Int))) = true, AbC 29 (xBs r2.2) (xAH r3), (decide (((Rdr.bad r3.2) : Int) ≥ 0)) = true] := by kernel_rfl
theorem p11_e_2 (a0 : Str) (r1 : (List Tok) × Int) (r2 : Exp × Rdr) (r3 : Exp × Rdr) (r4 : Bool) : rE I11 (xBu a0) [F, Y, Y, F, Y] [xAG r1, xAh r2, xAH r3, xAK r4] = dn (xBf ((Exp.mk 0 0 [] []), 0)) [AbC 23 (xBH a0) (xAG r1), (decide ((r1.2 : Int) ≥ 0)) = false, AbC 28 (xAL (Rdr.mk r1.1 0 (Ln a0 : Int) (-1))) (xAh r2), (decide (((Rdr.bad r2.2) : Int) < 0)) = true, (decide (((Rdr.i r2.2) : Int) < (Ln r1.1 : Int))) = true, AbC 29 (xBs r2.2) (xAH r3), (decide (((Rdr.bad r3.2) : Int) ≥ 0)) = false, AbC 22 (xBn r2.1) (xAK r4), (!r4) = true] := by kernel_rfl
theorem p11_e_3 (a0 : Str) (r1 : (List Tok) × Int) (r2 : Exp × Rdr) (r3 : Exp × Rdr) (r4 : Bool) : rE I11 (xBu a0) [F, Y, Y, F, F] [xAG r1, xAh r2, xAH r3, xAK r4] = dn (xBf (r2.1, (-1))) [AbC 23 (xBH a0) (xAG r1), (decide ((r1.2 : Int) ≥ 0)) = false, AbC 28 (xAL (Rdr.mk r1.1 0 (Ln a0 : Int) (-1))) (xAh r2), (decide (((Rdr.bad r2.2) : Int) < 0)) = true, (decide (((Rdr.i r2.2) : Int) < (Ln r1.1 : Int))) = true, AbC 29 (xBs r2.2) (xAH r3), (decide (((Rdr.bad r3.2) : Int) ≥ 0)) = false, AbC 22 (xBn r2.1) (xAK r4), (!r4) = false] := by kernel_rfl
theorem p11_e_4 (a0 : Str) (r1 : (List Tok) × Int) (r2 : Exp × Rdr) : rE I11 (xBu a0) [F, Y, F, Y] [xAG r1, xAh r2] = dn (xBf ((Exp.mk 0 0 [] []), (Rdr.bad r2.2))) [AbC 23 (xBH a0) (xAG r1), (decide ((r1.2 : Int) ≥ 0)) = false, AbC 28 (xAL (Rdr.mk r1.1 0 (Ln a0 : Int) (-1))) (xAh r2), (decide (((Rdr.bad r2.2) : Int) < 0)) = true, (decide (((Rdr.i r2.2) : Int) < (Ln r1.1 : Int))) = false, (decide (((Rdr.bad r2.2) : Int) ≥ 0)) = true] := by kernel_rfl
theorem p11_e_5 (a0 : Str) (r1 : (List Tok) × Int) (r2 : Exp × Rdr) (r3 : Bool) : rE I11 (xBu a0) [F, Y, F, F, Y] [xAG r1, xAh r2, xAK r3] = dn (xBf ((Exp.mk 0 0 [] []), 0)) [AbC 23 (xBH a0) (xAG r1), (decide ((r1.2 : Int) ≥ 0)) = false, AbC 28 (xAL (Rdr.mk r1.1 0 (Ln a0 : Int) (-1))) (xAh r2), (decide (((Rdr.bad r2.2) : Int) < 0)) = true, (decide (((Rdr.i r2.2) : Int) < (Ln r1.1 : Int))) = false, (decide (((Rdr.bad r2.2) : Int) ≥ 0)) = false, AbC 22 (xBn r2.1) (xAK r3), (!r3) = true] := by kernel_rfl
theorem p11_e_6 (a0 : Str) (r1 : (List Tok) × Int) (r2 : Exp × Rdr) (r3 : Bool) : rE I11 (xBu a0) [F, Y, F, F, F] [xAG r1, xAh r2, xAK r3] = dn (xBf (r2.1, (-1))) [AbC 23 (xBH a0) (xAG r1), (decide ((r1.2 : Int) ≥ 0)) = false, AbC 28 (xAL (Rdr.mk r1.1 0 (Ln a0 : Int) (-1))) (xAh r2), (decide (((Rdr.bad r2.2) : Int) < 0)) = true, (decide (((Rdr.i r2.2) : Int) < (Ln r1.1 : Int))) = false, (decide (((Rdr.bad r2.2) : Int) ≥ 0)) = false, AbC 22 (xBn r2.1) (xAK r3), (!r3) = false] := by kernel_rfl
theorem p11_e_7 (a0 : Str) (r1 : (List Tok) × Int) (r2 : Exp × Rdr) : rE I11 (xBu a0) [F, F, F, Y] [xAG r1, xAh r2] = dn (xBf ((Exp.mk 0 0 [] []), (Rdr.bad r2.2))) [AbC 23 (xBH a0) (xAG r1), (decide ((r1.2 : Int) ≥ 0)) = false, AbC 28 (xAL (Rdr.mk r1.1 0 (Ln a0 : Int) (-1))) (xAh r2), (decide (((Rdr.bad r2.2) : Int) < 0)) = false, false = false, (decide (((Rdr.bad r2.2) : Int) ≥ 0)) = true] := by kernel_rfl
theorem p11_e_8 (a0 : Str) (r1 : (List Tok) × Int) (r2 : Exp × Rdr) (r3 : Bool) : rE I11 (xBu a0) [F, F, F, F, Y] [xAG r1, xAh r2, xAK r3] = dn (xBf ((Exp.mk 0 0 [] []), 0)) [AbC 23 (xBH a0) (xAG r1), (decide ((r1.2 : Int) ≥ 0)) = false, AbC 28 (xAL (Rdr.mk r1.1 0 (Ln a0 : Int) (-1))) (xAh r2), (decide (((Rdr.bad r2.2) : Int) < 0)) = false, false = false, (decide (((Rdr.bad r2.2) : Int) ≥ 0)) = false, AbC 22 (xBn r2.1) (xAK r3), (!r3) = true] := by kernel_rfl
theorem p11_e_9 (a0 : Str) (r1 : (List Tok) × Int) (r2 : Exp × Rdr) (r3 : Bool) : rE I11 (xBu a0) [F, F, F, F, F] [xAG r1, xAh r2, xAK r3] = dn (xBf (r2.1, (-1))) [AbC 23 (xBH a0) (xAG r1), (decide ((r1.2 : Int) ≥ 0)) = false, AbC 28 (xAL (Rdr.mk r1.1 0 (Ln a0 : Int) (-1))) (xAh r2), (decide (((Rdr.bad r2.2) : Int) < 0)) = false, false = false, (decide (((Rdr.bad r2.2) : Int) ≥ 0)) = false, AbC 22 (xBn r2.1) (xAK r3), (!r3) = false] := by kernel_rfl
theorem c11_e {N : Nat} : ∀ a0 r, xEk N a0 = some r → RE Tryz.f11 I11 (xBu a0) (xBf r) := fun a0 r h =>
 bE h fun r1 h0 h => cE h (fun h1 h => dE h fk11 (p11_e_0 a0 r1) (oc (xCK h0) (oc h1 on))) fun h1 h =>
 bE h fun r2 h2 h => cE h (fun h3 h => cE h (fun h4 h => bE h fun r3 h5 h => cE h (fun h6 h => dE h fk11 (p11_e_1 a0 r1 r2 r3) (oc (xCK h0) (oc h1 (oc (xDf h2) (oc h3 (oc h4 (oc (xCj h5) (oc h6 on)))))))) fun h6 h =>
 bE h fun r4 h7 h => cE h (fun h8 h => dE h fk11 (p11_e_2 a0 r1 r2 r3 r4) (oc (xCK h0) (oc h1 (oc (xDf h2) (oc h3 (oc h4 (oc (xCj h5) (oc h6 (oc (xCC h7) (oc h8 on)))))))))) fun h8 h =>
 dE h fk11 (p11_e_3 a0 r1 r2 r3 r4) (oc (xCK h0) (oc h1 (oc (xDf h2) (oc h3 (oc h4 (oc (xCj h5) (oc h6 (oc (xCC h7) (oc h8 on)))))))))) fun h4 h =>
 cE h (fun h5 h => dE h fk11 (p11_e_4 a0 r1 r2) (oc (xCK h0) (oc h1 (oc (xDf h2) (oc h3 (oc h4 (oc h5 on))))))) fun h5 h =>
 bE h fun r3 h6 h => cE h (fun h7 h => dE h fk11 (p11_e_5 a0 r1 r2 r3) (oc (xCK h0) (oc h1 (oc (xDf h2) (oc h3 (oc h4 (oc h5 (oc (xCC h6) (oc h7 on))))))))) fun h7 h =>
 dE h fk11 (p11_e_6 a0 r1 r2 r3) (oc (xCK h0) (oc h1 (oc (xDf h2) (oc h3 (oc h4 (oc h5 (oc (xCC h6) (oc h7 on))))))))) fun h3 h =>
 cE h (fun h5 h => dE h fk11 (p11_e_7 a0 r1 r2) (oc (xCK h0) (oc h1 (oc (xDf h2) (oc h3 (oc rfl (oc h5 on))))))) fun h5 h =>
 bE h fun r3 h6 h => cE h (fun h7 h => dE h fk11 (p11_e_8 a0 r1 r2 r3) (oc (xCK h0) (oc h1 (oc (xDf h2) (oc h3 (oc rfl (oc h5 (oc (xCC h6) (oc h7 on))))))))) fun h7 h =>
 dE h fk11 (p11_e_9 a0 r1 r2 r3) (oc (xCK h0) (oc h1 (oc (xDf h2) (oc h3 (oc rfl (oc h5 (oc (xCC h6) (oc h7 on))))))))
theorem xGC {N : Nat} {a0 : Str} {r : Exp × Int} (h : xEk N  a0 = some r) : AbC 11 (xBu a0) (xBf r) :=
 AbsCalls.of_reach fk11 rfl rfl (Nat.le_of_ble_eq_true rfl) (c11_e a0 r h)
theorem xGI {N : Nat} {a0 : Str} {a1 a2 : Int} {r : Int × Bool} (h : xFU N a0 a1 a2 = some r) : AbC 89 (xFP a0 a1 a2) (xEz r) :=
 lib_num enter_parse (fun s lo hi w hs hw => parse_calls s lo hi hs laid_below tab10 errVars w hw) h
theorem xBq {N : Nat} {a0 : Str} {a1 r : Int} (h : strings_IndexByte N a0 a1 = some r) : AbC 90 (xBg a0 a1) (xAu r) :=
 lib_indexByte (enter_IndexByte Tryz.lays137) (Any.strings_IndexByte Tryz.lays137) h
noncomputable def I91 : Info := { body := (Tryz.f91.body).getD .skip, nt := 29, results := [.tmp 2], keep := [0, 4, 6, 14, 50], live := [(2, [0, 6])], modes := [(4, [(4, .take, false), (10, .take, false)])] }
theorem fk91 : FnOk Tryz.prog 91 Tryz.f91 I91 := ⟨Tryz.func91, by kernel_rfl, by kernel_rfl, by kernel_rfl, by kernel_rfl⟩
def S91_2 (x0 : Str) (x3 : Int) : St := [(0, .v false [.str x0]), (6, .v false [.int .i64 x3])]
theorem p91_2_0 (x0 : Str) (x3 : Int) : rS 2 I91 (S91_2 x0 x3) [Y, Y, Y, Y] [] = dn (xAP false) [(decide ((x3 : Int) < (Ln x0 : Int))) = true, (0 : Int) ≤ x3 ∧ x3 < (Ln x0), (decide ((((gD x0 (tN x3) 0).toNat : Int) : Int) < 32)) = true, true = true, true = true] := by kernel_rfl
theorem p91_2_1 (x0 : Str) (x3 : Int) : rS 2 I91 (S91_2 x0 x3) [Y, F, Y, Y] [] = dn (xAP false) [(decide ((x3 : Int) < (Ln x0 : Int))) = true, (0 : Int) ≤ x3 ∧ x3 < (Ln x0), (decide ((((gD x0 (tN x3) 0).toNat : Int) : Int) < 32)) = false, (0 : Int) ≤ x3 ∧ x3 < (Ln x0), (decide ((((gD x0 (tN x3) 0).toNat : Int) : Int) > 126)) = true, true = true] := by kernel_rfl
theorem p91_2_2 (x0 : Str) (x3 : Int) : rS 2 I91 (S91_2 x0 x3) [Y, F, F, Y] [] = dn (xAP false) [(decide ((x3 : Int) < (Ln x0 : Int))) = true, (0 : Int) ≤ x3 ∧ x3 < (Ln x0), (decide ((((gD x0 (tN x3) 0).toNat : Int) : Int) < 32)) = false, (0 : Int) ≤ x3 ∧ x3 < (Ln x0), (decide ((((gD x0 (tN x3) 0).toNat : Int) : Int) > 126)) = false, (0 : Int) ≤ x3 ∧ x3 < (Ln x0), ((((gD x0 (tN x3) 0).toNat : Int) : Int) == 34) = true] := by kernel_rfl
theorem p91_2_3 (x0 : Str) (x3 : Int) : rS 2 I91 (S91_2 x0 x3) [Y, F, F, F] [] = st 2 I91 (S91_2 x0 (W (x3 + 1))) [(decide ((x3 : Int) < (Ln x0 : Int))) = true, (0 : Int) ≤ x3 ∧ x3 < (Ln x0), (decide ((((gD x0 (tN x3) 0).toNat : Int) : Int) < 32)) = false, (0 : Int) ≤ x3 ∧ x3 < (Ln x0), (decide ((((gD x0 (tN x3) 0).toNat : Int) : Int) > 126)) = false, (0 : Int) ≤ x3 ∧ x3 < (Ln x0), ((((gD x0 (tN x3) 0).toNat : Int) : Int) == 34) = false] := by kernel_rfl
theorem p91_2_4 (x0 : Str) (x3 : Int) : rS 2 I91 (S91_2 x0 x3) [F] [] = dn (xAP (decide (((Ln x0 : Int) : Int) ≤ 20))) [(decide ((x3 : Int) < (Ln x0 : Int))) = false] := by kernel_rfl
theorem p91_e_5 (a0 : Str) : rE I91 (xCg a0) [] [] = st 2 I91 (S91_2 a0 0) [] := by kernel_rfl
theorem c91_2 {N : Nat} : ∀ n x0 x3 r, xDY N n x0 x3 = some r → RS Tryz.f91 I91 2 (S91_2 x0 x3) (xAP r) := by
 intro n
 induction n with
 | zero => exact fun _ _ _ h => nE h
 | succ n ih =>
  exact fun x0 x3 r h =>
   cE h (fun h0 h => iE h fun h1 h => cE h (fun h2 h => dS h fk91 (p91_2_0 x0 x3) (oc h0 (oc h1 (oc h2 (oc rfl (oc rfl on)))))) fun h2 h =>
   cE h (fun h4 h => dS h fk91 (p91_2_1 x0 x3) (oc h0 (oc h1 (oc h2 (oc h1 (oc h4 (oc rfl on))))))) fun h4 h =>
   cE h (fun h6 h => dS h fk91 (p91_2_2 x0 x3) (oc h0 (oc h1 (oc h2 (oc h1 (oc h4 (oc h1 (oc h6 on)))))))) fun h6 h =>
   tS fk91 (p91_2_3 x0 x3) (oc h0 (oc h1 (oc h2 (oc h1 (oc h4 (oc h1 (oc h6 on))))))) (ih _ _ _ h)) fun h0 h =>
   dS h fk91 (p91_2_4 x0 x3) (oc h0 on)
theorem c91_e {N : Nat} : ∀ a0 r, xC2 N a0 = some r → RE Tryz.f91 I91 (xCg a0) (xAP r) := fun a0 r h =>
 tE fk91 (p91_e_5 a0) on (c91_2 _ _ _ _ h)
theorem xDs {N : Nat} {a0 : Str} {r : Bool} (h : xC2 N  a0 = some r) : AbC 91 (xCg a0) (xAP r) :=
 AbsCalls.of_reach fk91 rfl rfl (Nat.le_of_ble_eq_true rfl) (c91_e a0 r h)
theorem xCq {N : Nat} {a0 a1 : Str} {r : Bool} (h : strings_HasPrefix N a0 a1 = some r) : AbC 92 (xB2 a0 a1) (xAT r) :=
 lib_hasPrefix (enter_HasPrefix Tryz.lays99) (Any.strings_HasPrefix Tryz.lays99) h
noncomputable def I49 : Info := { body := (Tryz.f49.body).getD .skip, nt := 152, results := [.cell 4 50, .tmp 5, .tmp 6], keep := [0, 2, 8, 10, 12, 14, 16, 18, 20, 22, 24, 34, 102, 130, 174, 206, 224, 262, 9], live := [(4, [0, 2, 8, 14, 9]), (8, [0, 2, 8, 14, 9])], modes := [(3, [(2, .take, false)]), (4, [(4, .take, false), (9, .take, false), (15, .take, false), (20, .take, false)]), (7, [(2, .take, false)]), (8, [(4, .take, false), (10, .take, false)]), (10, [(5, .take, false)]), (11, [(0, .take, false), (4, .take, false)])] }
theorem fk49 : FnOk Tryz.prog 49 Tryz.f49 I49 := ⟨Tryz.func49, by kernel_rfl, by kernel_rfl, by kernel_rfl, by kernel_rfl⟩
def S49_4 (x0 : Str) (x1 x7 : Int) (b4 : Tok) : St := [(0, .v false [.str x0]), (2, .v false [.int .i64 x1]), (8, .v false [.ptr 4 0]), (14, .v false [.int .i64 x7]), (9, .v true [.int .i64 (Tok.kind b4), .int .i64 (Tok.n b4), .int .i64 (Tok.pos b4), .str (Tok.text b4)])]
def S49_8 (x0 : Str) (x1 x7 : Int) (b4 : Tok) : St := [(0, .v false [.str x0]), (2, .v false [.int .i64 x1]), (8, .v false [.ptr 4 0]), (14, .v false [.int .i64 x7]), (9, .v true [.int .i64 (Tok.kind b4), .int .i64 (Tok.n b4), .int .i64 (Tok.pos b4), .str (Tok.text b4)])]
theorem p49_4_0 (x0 : Str) (x1 x7 : Int) (b4 : Tok) : rS 4 I49 (S49_4 x0 x1 x7 b4) [Y, Y, Y, Y] [] = st 4 I49 (S49_4 x0 x1 (W (x7 + 1)) b4) [(decide ((x7 : Int) < (Ln x0 : Int))) = true, (0 : Int) ≤ x7 ∧ x7 < (Ln x0), (decide ((((gD x0 (tN x7) 0).toNat : Int) : Int) ≥ 97)) = true, (0 : Int) ≤ x7 ∧ x7 < (Ln x0), (decide ((((gD x0 (tN x7) 0).toNat : Int) : Int) ≤ 122)) = true, true = true] := by kernel_rfl
theorem p49_4_1 (x0 : Str) (x1 x7 : Int) (b4 : Tok) : rS 4 I49 (S49_4 x0 x1 x7 b4) [Y, Y, F, Y, Y] [] = st 4 I49 (S49_4 x0 x1 (W (x7 + 1)) b4) [(decide ((x7 : Int) < (Ln x0 : Int))) = true, (0 : Int) ≤ x7 ∧ x7 < (Ln x0), (decide ((((gD x0 (tN x7) 0).toNat : Int) : Int) ≥ 97)) = true, (0 : Int) ≤ x7 ∧ x7 < (Ln x0), (decide ((((gD x0 (tN x7) 0).toNat : Int) : Int) ≤ 122)) = false, (0 : Int) ≤ x7 ∧ x7 < (Ln x0), (decide ((((gD x0 (tN x7) 0).toNat : Int) : Int) ≥ 48)) = true, (0 : Int) ≤ x7 ∧ x7 < (Ln x0), (decide ((((gD x0 (tN x7) 0).toNat : Int) : Int) ≤ 57)) = true] := by kernel_rfl
theorem p49_4_2 (x0 : Str) (x1 x7 : Int) (b4 : Tok) : rS 4 I49 (S49_4 x0 x1 x7 b4) [Y, Y, F, Y, F] [] = dn (xAw ((Tok.mk 1 0 x1 (List.drop (tN x1) (List.take (tN x7) x0))), x7, (decide (((W (x7 - x1)) : Int) ≤ 8)))) [(decide ((x7 : Int) < (Ln x0 : Int))) = true, (0 : Int) ≤ x7 ∧ x7 < (Ln x0), (decide ((((gD x0 (tN x7) 0).toNat : Int) : Int) ≥ 97)) = true, (0 : Int) ≤ x7 ∧ x7 < (Ln x0), (decide ((((gD x0 (tN x7) 0).toNat : Int) : Int) ≤ 122)) = false, (0 : Int) ≤ x7 ∧ x7 < (Ln x0), (decide ((((gD x0 (tN x7) 0).toNat : Int) : Int) ≥ 48)) = true, (0 : Int) ≤ x7 ∧ x7 < (Ln x0), (decide ((((gD x0 (tN x7) 0).toNat : Int) : Int) ≤ 57)) = false, (0 : Int) ≤ x1 ∧ x1 ≤ x7 ∧ x7 ≤ (Ln x0)] := by kernel_rfl
theorem p49_4_3 (x0 : Str) (x1 x7 : Int) (b4 : Tok) : rS 4 I49 (S49_4 x0 x1 x7 b4) [Y, Y, F, F, F] [] = dn (xAw ((Tok.mk 1 0 x1 (List.drop (tN x1) (List.take (tN x7) x0))), x7, (decide (((W (x7 - x1)) : Int) ≤ 8)))) [(decide ((x7 : Int) < (Ln x0 : Int))) = true, (0 : Int) ≤ x7 ∧ x7 < (Ln x0), (decide ((((gD x0 (tN x7) 0).toNat : Int) : Int) ≥ 97)) = true, (0 : Int) ≤ x7 ∧ x7 < (Ln x0), (decide ((((gD x0 (tN x7) 0).toNat : Int) : Int) ≤ 122)) = false, (0 : Int) ≤ x7 ∧ x7 < (Ln x0), (decide ((((gD x0 (tN x7) 0).toNat : Int) : Int) ≥ 48)) = false, false = false, (0 : Int) ≤ x1 ∧ x1 ≤ x7 ∧ x7 ≤ (Ln x0)] := by kernel_rfl
theorem p49_4_4 (x0 : Str) (x1 x7 : Int) (b4 : Tok) : rS 4 I49 (S49_4 x0 x1 x7 b4) [Y, F, F, Y, Y] [] = st 4 I49 (S49_4 x0 x1 (W (x7 + 1)) b4) [(decide ((x7 : Int) < (Ln x0 : Int))) = true, (0 : Int) ≤ x7 ∧ x7 < (Ln x0), (decide ((((gD x0 (tN x7) 0).toNat : Int) : Int) ≥ 97)) = false, false = false, (0 : Int) ≤ x7 ∧ x7 < (Ln x0), (decide ((((gD x0 (tN x7) 0).toNat : Int) : Int) ≥ 48)) = true, (0 : Int) ≤ x7 ∧ x7 < (Ln x0), (decide ((((gD x0 (tN x7) 0).toNat : Int) : Int) ≤ 57)) = true] := by kernel_rfl
theorem p49_4_5 (x0 : Str) (x1 x7 : Int) (b4 : Tok) : rS 4 I49 (S49_4 x0 x1 x7 b4) [Y, F, F, Y, F] [] = dn (xAw ((Tok.mk 1 0 x1 (List.drop (tN x1) (List.take (tN x7) x0))), x7, (decide (((W (x7 - x1)) : Int) ≤ 8)))) [(decide ((x7 : Int) < (Ln x0 : Int))) = true, (0 : Int) ≤ x7 ∧ x7 < (Ln x0), (decide ((((gD x0 (tN x7) 0).toNat : Int) : Int) ≥ 97)) = false, false = false, (0 : Int) ≤ x7 ∧ x7 < (Ln x0), (decide ((((gD x0 (tN x7) 0).toNat : Int) : Int) ≥ 48)) = true, (0 : Int) ≤ x7 ∧ x7 < (Ln x0), (decide ((((gD x0 (tN x7) 0).toNat : Int) : Int) ≤ 57)) = false, (0 : Int) ≤ x1 ∧ x1 ≤ x7 ∧ x7 ≤ (Ln x0)] := by kernel_rfl
theorem p49_4_6 (x0 : Str) (x1 x7 : Int) (b4 : Tok) : rS 4 I49 (S49_4 x0 x1 x7 b4) [Y, F, F, F, F] [] = dn (xAw ((Tok.mk 1 0 x1 (List.drop (tN x1) (List.take (tN x7) x0))), x7, (decide (((W (x7 - x1)) : Int) ≤ 8)))) [(decide ((x7 : Int) < (Ln x0 : Int))) = true, (0 : Int) ≤ x7 ∧ x7 < (Ln x0), (decide ((((gD x0 (tN x7) 0).toNat : Int) : Int) ≥ 97)) = false, false = false, (0 : Int) ≤ x7 ∧ x7 < (Ln x0), (decide ((((gD x0 (tN x7) 0).toNat : Int) : Int) ≥ 48)) = false, false = false, (0 : Int) ≤ x1 ∧ x1 ≤ x7 ∧ x7 ≤ (Ln x0)] := by kernel_rfl
theorem p49_4_7 (x0 : Str) (x1 x7 : Int) (b4 : Tok) : rS 4 I49 (S49_4 x0 x1 x7 b4) [F, F] [] = dn (xAw ((Tok.mk 1 0 x1 (List.drop (tN x1) (List.take (tN x7) x0))), x7, (decide (((W (x7 - x1)) : Int) ≤ 8)))) [(decide ((x7 : Int) < (Ln x0 : Int))) = false, false = false, (0 : Int) ≤ x1 ∧ x1 ≤ x7 ∧ x7 ≤ (Ln x0)] := by kernel_rfl
theorem p49_8_8 (x0 : Str) (x1 x7 : Int) (b4 : Tok) : rS 8 I49 (S49_8 x0 x1 x7 b4) [Y, Y, Y] [] = st 8 I49 (S49_8 x0 x1 (W (x7 + 1)) b4) [(decide ((x7 : Int) < (Ln x0 : Int))) = true, (0 : Int) ≤ x7 ∧ x7 < (Ln x0), (decide ((((gD x0 (tN x7) 0).toNat : Int) : Int) ≥ 48)) = true, (0 : Int) ≤ x7 ∧ x7 < (Ln x0), (decide ((((gD x0 (tN x7) 0).toNat : Int) : Int) ≤ 57)) = true] := by kernel_rfl
theorem p49_8_9 (x0 : Str) (x1 x7 : Int) (b4 : Tok) (r1 : Int × Bool) : rS 8 I49 (S49_8 x0 x1 x7 b4) [Y, Y, F] [xEz r1] = dn (xAw ((Tok.mk 2 r1.1 x1 []), x7, r1.2)) [(decide ((x7 : Int) < (Ln x0 : Int))) = true, (0 : Int) ≤ x7 ∧ x7 < (Ln x0), (decide ((((gD x0 (tN x7) 0).toNat : Int) : Int) ≥ 48)) = true, (0 : Int) ≤ x7 ∧ x7 < (Ln x0), (decide ((((gD x0 (tN x7) 0).toNat : Int) : Int) ≤ 57)) = false, (0 : Int) ≤ x1 ∧ x1 ≤ x7 ∧ x7 ≤ (Ln x0), AbC 89 (xFP (List.drop (tN x1) (List.take (tN x7) x0)) 0 1000000000) (xEz r1)] := by kernel_rfl
theorem p49_8_10 (x0 : Str) (x1 x7 : Int) (b4 : Tok) (r1 : Int × Bool) : rS 8 I49 (S49_8 x0 x1 x7 b4) [Y, F, F] [xEz r1] = dn (xAw ((Tok.mk 2 r1.1 x1 []), x7, r1.2)) [(decide ((x7 : Int) < (Ln x0 : Int))) = true, (0 : Int) ≤ x7 ∧ x7 < (Ln x0), (decide ((((gD x0 (tN x7) 0).toNat : Int) : Int) ≥ 48)) = false, false = false, (0 : Int) ≤ x1 ∧ x1 ≤ x7 ∧ x7 ≤ (Ln x0), AbC 89 (xFP (List.drop (tN x1) (List.take (tN x7) x0)) 0 1000000000) (xEz r1)] := by kernel_rfl
theorem p49_8_11 (x0 : Str) (x1 x7 : Int) (b4 : Tok) (r1 : Int × Bool) : rS 8 I49 (S49_8 x0 x1 x7 b4) [F, F, F] [xEz r1] = dn (xAw ((Tok.mk 2 r1.1 x1 []), x7, r1.2)) [(decide ((x7 : Int) < (Ln x0 : Int))) = false, false = false, false = false, (0 : Int) ≤ x1 ∧ x1 ≤ x7 ∧ x7 ≤ (Ln x0), AbC 89 (xFP (List.drop (tN x1) (List.take (tN x7) x0)) 0 1000000000) (xEz r1)] := by kernel_rfl
theorem p49_e_12 (a0 : Str) (a1 : Int) : rE I49 (xAU a0 a1) [Y, Y] [] = st 4 I49 (S49_4 a0 a1 a1 (Tok.mk 0 0 0 [])) [(0 : Int) ≤ a1 ∧ a1 < (Ln a0), (decide ((((gD a0 (tN a1) 0).toNat : Int) : Int) ≥ 97)) = true, (decide ((((gD a0 (tN a1) 0).toNat : Int) : Int) ≤ 122)) = true] := by kernel_rfl
theorem p49_e_13 (a0 : Str) (a1 : Int) : rE I49 (xAU a0 a1) [Y, F, Y, Y] [] = st 8 I49 (S49_8 a0 a1 a1 (Tok.mk 0 0 0 [])) [(0 : Int) ≤ a1 ∧ a1 < (Ln a0), (decide ((((gD a0 (tN a1) 0).toNat : Int) : Int) ≥ 97)) = true, (decide ((((gD a0 (tN a1) 0).toNat : Int) : Int) ≤ 122)) = false, (decide ((((gD a0 (tN a1) 0).toNat : Int) : Int) ≥ 48)) = true, (decide ((((gD a0 (tN a1) 0).toNat : Int) : Int) ≤ 57)) = true] := by kernel_rfl
theorem p49_e_14 (a0 : Str) (a1 r1 : Int) : rE I49 (xAU a0 a1) [Y, F, Y, F, Y, Y] [xAu r1] = dn (xAw ((Tok.mk 0 0 0 []), 0, false)) [(0 : Int) ≤ a1 ∧ a1 < (Ln a0), (decide ((((gD a0 (tN a1) 0).toNat : Int) : Int) ≥ 97)) = true, (decide ((((gD a0 (tN a1) 0).toNat : Int) : Int) ≤ 122)) = false, (decide ((((gD a0 (tN a1) 0).toNat : Int) : Int) ≥ 48)) = true, (decide ((((gD a0 (tN a1) 0).toNat : Int) : Int) ≤ 57)) = false, ((((gD a0 (tN a1) 0).toNat : Int) : Int) == 34) = true, (0 : Int) ≤ (W (a1 + 1)) ∧ (W (a1 + 1)) ≤ (Ln a0), AbC 90 (xBg (List.drop (tN (W (a1 + 1))) a0) 34) (xAu r1), (decide ((r1 : Int) < 0)) = true] := by kernel_rfl
theorem p49_e_15 (a0 : Str) (a1 r1 : Int) (r2 : Bool) : rE I49 (xAU a0 a1) [Y, F, Y, F, Y, F] [xAu r1, xAP r2] = dn (xAw ((Tok.mk 3 0 a1 (List.drop (tN (W (a1 + 1))) (List.take (tN (W ((W (a1 + 1)) + r1))) a0))), (W ((W (a1 + r1)) + 2)), r2)) [(0 : Int) ≤ a1 ∧ a1 < (Ln a0), (decide ((((gD a0 (tN a1) 0).toNat : Int) : Int) ≥ 97)) = true, (decide ((((gD a0 (tN a1) 0).toNat : Int) : Int) ≤ 122)) = false, (decide ((((gD a0 (tN a1) 0).toNat : Int) : Int) ≥ 48)) = true, (decide ((((gD a0 (tN a1) 0).toNat : Int) : Int) ≤ 57)) = false, ((((gD a0 (tN a1) 0).toNat : Int) : Int) == 34) = true, (0 : Int) ≤ (W (a1 + 1)) ∧ (W (a1 + 1)) ≤ (Ln a0), AbC 90 (xBg (List.drop (tN (W (a1 + 1))) a0) 34) (xAu r1), (decide ((r1 : Int) < 0)) = false, (0 : Int) ≤ (W (a1 + 1)) ∧ (W (a1 + 1)) ≤ (W ((W (a1 + 1)) + r1)) ∧ (W ((W (a1 + 1)) + r1)) ≤ (Ln a0), AbC 91 (xCg (List.drop (tN (W (a1 + 1))) (List.take (tN (W ((W (a1 + 1)) + r1))) a0))) (xAP r2)] := by kernel_rfl
theorem p49_e_16 (a0 : Str) (a1 : Int) (r1 : Bool) : rE I49 (xAU a0 a1) [Y, F, Y, F, F, Y] [xAT r1] = dn (xAw ((Tok.mk 4 0 a1 [61, 61]), (W (a1 + 2)), true)) [(0 : Int) ≤ a1 ∧ a1 < (Ln a0), (decide ((((gD a0 (tN a1) 0).toNat : Int) : Int) ≥ 97)) = true, (decide ((((gD a0 (tN a1) 0).toNat : Int) : Int) ≤ 122)) = false, (decide ((((gD a0 (tN a1) 0).toNat : Int) : Int) ≥ 48)) = true, (decide ((((gD a0 (tN a1) 0).toNat : Int) : Int) ≤ 57)) = false, ((((gD a0 (tN a1) 0).toNat : Int) : Int) == 34) = false, (0 : Int) ≤ a1 ∧ a1 ≤ (Ln a0), AbC 92 (xB2 (List.drop (tN a1) a0) [61, 61]) (xAT r1), r1 = true] := by kernel_rfl
theorem p49_e_17 (a0 : Str) (a1 : Int) (r1 : Bool) (r2 : Int) : rE I49 (xAU a0 a1) [Y, F, Y, F, F, F] [xAT r1, xAu r2] = dn (xAw ((Tok.mk 4 0 a1 (List.drop (tN a1) (List.take (tN (W (a1 + 1))) a0))), (W (a1 + 1)), (decide ((r2 : Int) ≥ 0)))) [(0 : Int) ≤ a1 ∧ a1 < (Ln a0), (decide ((((gD a0 (tN a1) 0).toNat : Int) : Int) ≥ 97)) = true, (decide ((((gD a0 (tN a1) 0).toNat : Int) : Int) ≤ 122)) = false, (decide ((((gD a0 (tN a1) 0).toNat : Int) : Int) ≥ 48)) = true, (decide ((((gD a0 (tN a1) 0).toNat : Int) : Int) ≤ 57)) = false, ((((gD a0 (tN a1) 0).toNat : Int) : Int) == 34) = false, (0 : Int) ≤ a1 ∧ a1 ≤ (Ln a0), AbC 92 (xB2 (List.drop (tN a1) a0) [61, 61]) (xAT r1), r1 = false, (0 : Int) ≤ a1 ∧ a1 ≤ (W (a1 + 1)) ∧ (W (a1 + 1)) ≤ (Ln a0), AbC 90 (xBg [40, 41, 91, 93, 44, 43, 45, 42, 60, 61] ((gD a0 (tN a1) 0).toNat : Int)) (xAu r2)] := by kernel_rfl
theorem p49_e_18 (a0 : Str) (a1 r1 : Int) : rE I49 (xAU a0 a1) [Y, F, F, F, Y, Y] [xAu r1] = dn (xAw ((Tok.mk 0 0 0 []), 0, false)) [(0 : Int) ≤ a1 ∧ a1 < (Ln a0), (decide ((((gD a0 (tN a1) 0).toNat : Int) : Int) ≥ 97)) = true, (decide ((((gD a0 (tN a1) 0).toNat : Int) : Int) ≤ 122)) = false, (decide ((((gD a0 (tN a1) 0).toNat : Int) : Int) ≥ 48)) = false, false = false, ((((gD a0 (tN a1) 0).toNat : Int) : Int) == 34) = true, (0 : Int) ≤ (W (a1 + 1)) ∧ (W (a1 + 1)) ≤ (Ln a0), AbC 90 (xBg (List.drop (tN (W (a1 + 1))) a0) 34) (xAu r1), (decide ((r1 : Int) < 0)) = true] := by kernel_rfl
theorem p49_e_19 (a0 : Str) (a1 r1 : Int) (r2 : Bool) : rE I49 (xAU a0 a1) [Y, F, F, F, Y, F] [xAu r1, xAP r2] = dn (xAw ((Tok.mk 3 0 a1 (List.drop (tN (W (a1 + 1))) (List.take (tN (W ((W (a1 + 1)) + r1))) a0))), (W ((W (a1 + r1)) + 2)), r2)) [(0 : Int) ≤ a1 ∧ a1 < (Ln a0), (decide ((((gD a0 (tN a1) 0).toNat : Int) : Int) ≥ 97)) = true, (decide ((((gD a0 (tN a1) 0).toNat : Int) : Int) ≤ 122)) = false, (decide ((((gD a0 (tN a1) 0).toNat : Int) : Int) ≥ 48)) = false, false = false, ((((gD a0 (tN a1) 0).toNat : Int) : Int) == 34) = true, (0 : Int) ≤ (W (a1 + 1)) ∧ (W (a1 + 1)) ≤ (Ln a0), AbC 90 (xBg (List.drop (tN (W (a1 + 1))) a0) 34) (xAu r1), (decide ((r1 : Int) < 0)) = false, (0 : Int) ≤ (W (a1 + 1)) ∧ (W (a1 + 1)) ≤ (W ((W (a1 + 1)) + r1)) ∧ (W ((W (a1 + 1)) + r1)) ≤ (Ln a0), AbC 91 (xCg (List.drop (tN (W (a1 + 1))) (List.take (tN (W ((W (a1 + 1)) + r1))) a0))) (xAP r2)] := by kernel_rfl
theorem p49_e_20 (a0 : Str) (a1 : Int) (r1 : Bool) : rE I49 (xAU a0 a1) [Y, F, F, F, F, Y] [xAT r1] = dn (xAw ((Tok.mk 4 0 a1 [61, 61]), (W (a1 + 2)), true)) [(0 : Int) ≤ a1 ∧ a1 < (Ln a0), (decide ((((gD a0 (tN a1) 0).toNat : Int) : Int) ≥ 97)) = true, (decide ((((gD a0 (tN a1) 0).toNat : Int) : Int) ≤ 122)) = false, (decide ((((gD a0 (tN a1) 0).toNat : Int) : Int) ≥ 48)) = false, false = false, ((((gD a0 (tN a1) 0).toNat : Int) : Int) == 34) = false, (0 : Int) ≤ a1 ∧ a1 ≤ (Ln a0), AbC 92 (xB2 (List.drop (tN a1) a0) [61, 61]) (xAT r1), r1 = true] := by kernel_rfl
theorem p49_e_21 (a0 : Str) (a1 : Int) (r1 : Bool) (r2 : Int) : rE I49 (xAU a0 a1) [Y, F, F, F, F, F] [xAT r1, xAu r2] = dn (xAw ((Tok.mk 4 0 a1 (List.drop (tN a1) (List.take (tN (W (a1 + 1))) a0))), (W (a1 + 1)), (decide ((r2 : Int) ≥ 0)))) [(0 : Int) ≤ a1 ∧ a1 < (Ln a0), (decide ((((gD a0 (tN a1) 0).toNat : Int) : Int) ≥ 97)) = true, (decide ((((gD a0 (tN a1) 0).toNat : Int) : Int) ≤ 122)) = false, (decide ((((gD a0 (tN a1) 0).toNat : Int) : Int) ≥ 48)) = false, false = false, ((((gD a0 (tN a1) 0).toNat : Int) : Int) == 34) = false, (0 : Int) ≤ a1 ∧ a1 ≤ (Ln a0), AbC 92 (xB2 (List.drop (tN a1) a0) [61, 61]) (xAT r1), r1 = false, (0 : Int) ≤ a1 ∧ a1 ≤ (W (a1 + 1)) ∧ (W (a1 + 1)) ≤ (Ln a0), AbC 90 (xBg [40, 41, 91, 93, 44, 43, 45, 42, 60, 61] ((gD a0 (tN a1) 0).toNat : Int)) (xAu r2)] := by kernel_rfl
theorem p49_e_22 (a0 : Str) (a1 : Int) : rE I49 (xAU a0 a1) [F, F, Y, Y] [] = st 8 I49 (S49_8 a0 a1 a1 (Tok.mk 0 0 0 [])) [(0 : Int) ≤ a1 ∧ a1 < (Ln a0), (decide ((((gD a0 (tN a1) 0).toNat : Int) : Int) ≥ 97)) = false, false = false, (decide ((((gD a0 (tN a1) 0).toNat : Int) : Int) ≥ 48)) = true, (decide ((((gD a0 (tN a1) 0).toNat : Int) : Int) ≤ 57)) = true] := by kernel_rfl
theorem p49_e_23 (a0 : Str) (a1 r1 : Int) : rE I49 (xAU a0 a1) [F, F, Y, F, Y, Y] [xAu r1] = dn (xAw ((Tok.mk 0 0 0 []), 0, false)) [(0 : Int) ≤ a1 ∧ a1 < (Ln a0), (decide ((((gD a0 (tN a1) 0).toNat : Int) : Int) ≥ 97)) = false, false = false, (decide ((((gD a0 (tN a1) 0).toNat : Int) : Int) ≥ 48)) = true, (decide ((((gD a0 (tN a1) 0).toNat : Int) : Int) ≤ 57)) = false, ((((gD a0 (tN a1) 0).toNat : Int) : Int) == 34) = true, (0 : Int) ≤ (W (a1 + 1)) ∧ (W (a1 + 1)) ≤ (Ln a0), AbC 90 (xBg (List.drop (tN (W (a1 + 1))) a0) 34) (xAu r1), (decide ((r1 : Int) < 0)) = true] := by kernel_rfl
theorem p49_e_24 (a0 : Str) (a1 r1 : Int) (r2 : Bool) : rE I49 (xAU a0 a1) [F, F, Y, F, Y, F] [xAu r1, xAP r2] = dn (xAw ((Tok.mk 3 0 a1 (List.drop (tN (W (a1 + 1))) (List.take (tN (W ((W (a1 + 1)) + r1))) a0))), (W ((W (a1 + r1)) + 2)), r2)) [(0 : Int) ≤ a1 ∧ a1 < (Ln a0), (decide ((((gD a0 (tN a1) 0).toNat : Int) : Int) ≥ 97)) = false, false = false, (decide ((((gD a0 (tN a1) 0).toNat : Int) : Int) ≥ 48)) = true, (decide ((((gD a0 (tN a1) 0).toNat : Int) : Int) ≤ 57)) = false, ((((gD a0 (tN a1) 0).toNat : Int) : Int) == 34) = true, (0 : Int) ≤ (W (a1 + 1)) ∧ (W (a1 + 1)) ≤ (Ln a0), AbC 90 (xBg (List.drop (tN (W (a1 + 1))) a0) 34) (xAu r1), (decide ((r1 : Int) < 0)) = false, (0 : Int) ≤ (W (a1 + 1)) ∧ (W (a1 + 1)) ≤ (W ((W (a1 + 1)) + r1)) ∧ (W ((W (a1 + 1)) + r1)) ≤ (Ln a0), AbC 91 (xCg (List.drop (tN (W (a1 + 1))) (List.take (tN (W ((W (a1 + 1)) + r1))) a0))) (xAP r2)] := by kernel_rfl
theorem p49_e_25 (a0 : Str) (a1 : Int) (r1 : Bool) : rE I49 (xAU a0 a1) [F, F, Y, F, F, Y] [xAT r1] = dn (xAw ((Tok.mk 4 0 a1 [61, 61]), (W (a1 + 2)), true)) [(0 : Int) ≤ a1 ∧ a1 < (Ln a0), (decide ((((gD a0 (tN a1) 0).toNat : Int) : Int) ≥ 97)) = false, false = false, (decide ((((gD a0 (tN a1) 0).toNat : Int) : Int) ≥ 48)) = true, (decide ((((gD a0 (tN a1) 0).toNat : Int) : Int) ≤ 57)) = false, ((((gD a0 (tN a1) 0).toNat : Int) : Int) == 34) = false, (0 : Int) ≤ a1 ∧ a1 ≤ (Ln a0), AbC 92 (xB2 (List.drop (tN a1) a0) [61, 61]) (xAT r1), r1 = true] := by kernel_rfl
theorem p49_e_26 (a0 : Str) (a1 : Int) (r1 : Bool) (r2 : Int) : rE I49 (xAU a0 a1) [F, F, Y, F, F, F] [xAT r1, xAu r2] = dn (xAw ((Tok.mk 4 0 a1 (List.drop (tN a1) (List.take (tN (W (a1 + 1))) a0))), (W (a1 + 1)), (decide ((r2 : Int) ≥ 0)))) [(0 : Int) ≤ a1 ∧ a1 < (Ln a0), (decide ((((gD a0 (tN a1) 0).toNat : Int) : Int) ≥ 97)) = false, false = false, (decide ((((gD a0 (tN a1) 0).toNat : Int) : Int) ≥ 48)) = true, (decide ((((gD a0 (tN a1) 0).toNat : Int) : Int) ≤ 57)) = false, ((((gD a0 (tN a1) 0).toNat : Int) : Int) == 34) = false, (0 : Int) ≤ a1 ∧ a1 ≤ (Ln a0), AbC 92 (xB2 (List.drop (tN a1) a0) [61, 61]) (xAT r1), r1 = false, (0 : Int) ≤ a1 ∧ a1 ≤ (W (a1 + 1)) ∧ (W (a1 + 1)) ≤ (Ln a0), AbC 90 (xBg [40, 41, 91, 93, 44, 43, 45, 42, 60, 61] ((gD a0 (tN a1) 0).toNat : Int)) (xAu r2)] := by kernel_rfl
theorem p49_e_27 (a0 : Str) (a1 r1 : Int) : rE I49 (xAU a0 a1) [F, F, F, F, Y, Y] [xAu r1] = dn (xAw ((Tok.mk 0 0 0 []), 0, false)) [(0 : Int) ≤ a1 ∧ a1 < (Ln a0), (decide ((((gD a0 (tN a1) 0).toNat : Int) : Int) ≥ 97)) = false, false = false, (decide ((((gD a0 (tN a1) 0).toNat : Int) : Int) ≥ 48)) = false, false = false, ((((gD a0 (tN a1) 0).toNat : Int) : Int) == 34) = true, (0 : Int) ≤ (W (a1 + 1)) ∧ (W (a1 + 1)) ≤ (Ln a0), AbC 90 (xBg (List.drop (tN (W (a1 + 1))) a0) 34) (xAu r1), (decide ((r1 : Int) < 0)) = true] := by kernel_rfl
theorem p49_e_28 (a0 : Str) (a1 r1 : Int) (r2 : Bool) : rE I49 (xAU a0 a1) [F, F, F, F, Y, F] [xAu r1, xAP r2] = dn (xAw ((Tok.mk 3 0 a1 (List.drop (tN (W (a1 + 1))) (List.take (tN (W ((W (a1 + 1)) + r1))) a0))), (W ((W (a1 + r1)) + 2)), r2)) [(0 : Int) ≤ a1 ∧ a1 < (Ln a0), (decide ((((gD a0 (tN a1) 0).toNat : Int) : Int) ≥ 97)) = false, false = false, (decide ((((gD a0 (tN a1) 0).toNat : Int) : Int) ≥ 48)) = false, false = false, ((((gD a0 (tN a1) 0).toNat : Int) : Int) == 34) = true, (0 : Int) ≤ (W (a1 + 1)) ∧ (W (a1 + 1)) ≤ (Ln a0), AbC 90 (xBg (List.drop (tN (W (a1 + 1))) a0) 34) (xAu r1), (decide ((r1 : Int) < 0)) = false, (0 : Int) ≤ (W (a1 + 1)) ∧ (W (a1 + 1)) ≤ (W ((W (a1 + 1)) + r1)) ∧ (W ((W (a1 + 1)) + r1)) ≤ (Ln a0), AbC 91 (xCg (List.drop (tN (W (a1 + 1))) (List.take (tN (W ((W (a1 + 1)) + r1))) a0))) (xAP r2)] := by kernel_rfl
theorem p49_e_29 (a0 : Str) (a1 : Int) (r1 : Bool) : rE I49 (xAU a0 a1) [F, F, F, F, F, Y] [xAT r1] = dn (xAw ((Tok.mk 4 0 a1 [61, 61]), (W (a1 + 2)), true)) [(0 : Int) ≤ a1 ∧ a1 < (Ln a0), (decide ((((gD a0 (tN a1) 0).toNat : Int) : Int) ≥ 97)) = false, false = false, (decide ((((gD a0 (tN a1) 0).toNat : Int) : Int) ≥ 48)) = false, false = false, ((((gD a0 (tN a1) 0).toNat : Int) : Int) == 34) = false, (0 : Int) ≤ a1 ∧ a1 ≤ (Ln a0), AbC 92 (xB2 (List.drop (tN a1) a0) [61, 61]) (xAT r1), r1 = true] := by kernel_rfl
theorem p49_e_30 (a0 : Str) (a1 : Int) (r1 : Bool) (r2 : Int) : rE I49 (xAU a0 a1) [F, F, F, F, F, F] [xAT r1, xAu r2] = dn (xAw ((Tok.mk 4 0 a1 (List.drop (tN a1) (List.take (tN (W (a1 + 1))) a0))), (W (a1 + 1)), (decide ((r2 : Int) ≥ 0)))) [(0 : Int) ≤ a1 ∧ a1 < (Ln a0), (decide ((((gD a0 (tN a1) 0).toNat : Int) : Int) ≥ 97)) = false, false = false, (decide ((((gD a0 (tN a1) 0).toNat : Int) : Int) ≥ 48)) = false, false = false, ((((gD a0 (tN a1) 0).toNat : Int) : Int) == 34) = false, (0 : Int) ≤ a1 ∧ a1 ≤ (Ln a0), AbC 92 (xB2 (List.drop (tN a1) a0) [61, 61]) (xAT r1), r1 = false, (0 : Int) ≤ a1 ∧ a1 ≤ (W (a1 + 1)) ∧ (W (a1 + 1)) ≤ (Ln a0), AbC 90 (xBg [40, 41, 91, 93, 44, 43, 45, 42, 60, 61] ((gD a0 (tN a1) 0).toNat : Int)) (xAu r2)] := by kernel_rfl
theorem c49_4 {N : Nat} : ∀ n x0 x1 x7 b4 r, xCB N n x0 x1 x7 b4 = some r → RS Tryz.f49 I49 4 (S49_4 x0 x1 x7 b4) (xAw r) := by
 intro n
 induction n with
 | zero => exact fun _ _ _ _ _ h => nE h
 | succ n ih =>
  exact fun x0 x1 x7 b4 r h =>
   cE h (fun h0 h => iE h fun h1 h => cE h (fun h2 h => cE h (fun h4 h => tS fk49 (p49_4_0 x0 x1 x7 b4) (oc h0 (oc h1 (oc h2 (oc h1 (oc h4 (oc rfl on)))))) (ih _ _ _ _ _ h)) fun h4 h =>
   cE h (fun h6 h => cE h (fun h8 h => tS fk49 (p49_4_1 x0 x1 x7 b4) (oc h0 (oc h1 (oc h2 (oc h1 (oc h4 (oc h1 (oc h6 (oc h1 (oc h8 on))))))))) (ih _ _ _ _ _ h)) fun h8 h =>
   iE h fun h9 h => dS h fk49 (p49_4_2 x0 x1 x7 b4) (oc h0 (oc h1 (oc h2 (oc h1 (oc h4 (oc h1 (oc h6 (oc h1 (oc h8 (oc h9 on))))))))))) fun h6 h =>
   iE h fun h8 h => dS h fk49 (p49_4_3 x0 x1 x7 b4) (oc h0 (oc h1 (oc h2 (oc h1 (oc h4 (oc h1 (oc h6 (oc rfl (oc h8 on)))))))))) fun h2 h =>
   cE h (fun h5 h => cE h (fun h7 h => tS fk49 (p49_4_4 x0 x1 x7 b4) (oc h0 (oc h1 (oc h2 (oc rfl (oc h1 (oc h5 (oc h1 (oc h7 on)))))))) (ih _ _ _ _ _ h)) fun h7 h =>
   iE h fun h8 h => dS h fk49 (p49_4_5 x0 x1 x7 b4) (oc h0 (oc h1 (oc h2 (oc rfl (oc h1 (oc h5 (oc h1 (oc h7 (oc h8 on)))))))))) fun h5 h =>
   iE h fun h7 h => dS h fk49 (p49_4_6 x0 x1 x7 b4) (oc h0 (oc h1 (oc h2 (oc rfl (oc h1 (oc h5 (oc rfl (oc h7 on))))))))) fun h0 h =>
   iE h fun h2 h => dS h fk49 (p49_4_7 x0 x1 x7 b4) (oc h0 (oc rfl (oc h2 on)))
theorem c49_8 {N : Nat} : ∀ n x0 x1 x7 b4 r, xCY N n x0 x1 x7 b4 = some r → RS Tryz.f49 I49 8 (S49_8 x0 x1 x7 b4) (xAw r) := by
 intro n
 induction n with
 | zero => exact fun _ _ _ _ _ h => nE h
 | succ n ih =>
  exact fun x0 x1 x7 b4 r h =>
   cE h (fun h0 h => iE h fun h1 h => cE h (fun h2 h => cE h (fun h4 h => tS fk49 (p49_8_8 x0 x1 x7 b4) (oc h0 (oc h1 (oc h2 (oc h1 (oc h4 on))))) (ih _ _ _ _ _ h)) fun h4 h =>
   iE h fun h5 h => bE h fun r1 h6 h => dS h fk49 (p49_8_9 x0 x1 x7 b4 r1) (oc h0 (oc h1 (oc h2 (oc h1 (oc h4 (oc h5 (oc (xGI h6) on)))))))) fun h2 h =>
   iE h fun h4 h => bE h fun r1 h5 h => dS h fk49 (p49_8_10 x0 x1 x7 b4 r1) (oc h0 (oc h1 (oc h2 (oc rfl (oc h4 (oc (xGI h5) on))))))) fun h0 h =>
   iE h fun h3 h => bE h fun r1 h4 h => dS h fk49 (p49_8_11 x0 x1 x7 b4 r1) (oc h0 (oc rfl (oc rfl (oc h3 (oc (xGI h4) on)))))
theorem c49_e {N : Nat} : ∀ a0 a1 r, xFI N a0 a1 = some r → RE Tryz.f49 I49 (xAU a0 a1) (xAw r) := fun a0 a1 r h =>
 iE h fun h0 h => cE h (fun h1 h => cE h (fun h2 h => tE fk49 (p49_e_12 a0 a1) (oc h0 (oc h1 (oc h2 on))) (c49_4 _ _ _ _ _ _ h)) fun h2 h =>
 cE h (fun h3 h => cE h (fun h4 h => tE fk49 (p49_e_13 a0 a1) (oc h0 (oc h1 (oc h2 (oc h3 (oc h4 on))))) (c49_8 _ _ _ _ _ _ h)) fun h4 h =>
 cE h (fun h5 h => iE h fun h6 h => bE h fun r1 h7 h => cE h (fun h8 h => dE h fk49 (p49_e_14 a0 a1 r1) (oc h0 (oc h1 (oc h2 (oc h3 (oc h4 (oc h5 (oc h6 (oc (xBq h7) (oc h8 on)))))))))) fun h8 h =>
 iE h fun h9 h => bE h fun r2 h10 h => dE h fk49 (p49_e_15 a0 a1 r1 r2) (oc h0 (oc h1 (oc h2 (oc h3 (oc h4 (oc h5 (oc h6 (oc (xBq h7) (oc h8 (oc h9 (oc (xDs h10) on)))))))))))) fun h5 h =>
 iE h fun h6 h => bE h fun r1 h7 h => cE h (fun h8 h => dE h fk49 (p49_e_16 a0 a1 r1) (oc h0 (oc h1 (oc h2 (oc h3 (oc h4 (oc h5 (oc h6 (oc (xCq h7) (oc h8 on)))))))))) fun h8 h =>
 iE h fun h9 h => bE h fun r2 h10 h => dE h fk49 (p49_e_17 a0 a1 r1 r2) (oc h0 (oc h1 (oc h2 (oc h3 (oc h4 (oc h5 (oc h6 (oc (xCq h7) (oc h8 (oc h9 (oc (xBq h10) on)))))))))))) fun h3 h =>
 cE h (fun h5 h => iE h fun h6 h => bE h fun r1 h7 h => cE h (fun h8 h => dE h fk49 (p49_e_18 a0 a1 r1) (oc h0 (oc h1 (oc h2 (oc h3 (oc rfl (oc h5 (oc h6 (oc (xBq h7) (oc h8 on)))))))))) fun h8 h =>
 iE h fun h9 h => bE h fun r2 h10 h => dE h fk49 (p49_e_19 a0 a1 r1 r2) (oc h0 (oc h1 (oc h2 (oc h3 (oc rfl (oc h5 (oc h6 (oc (xBq h7) (oc h8 (oc h9 (oc (xDs h10) on)))))))))))) fun h5 h =>
 iE h fun h6 h => bE h fun r1 h7 h => cE h (fun h8 h => dE h fk49 (p49_e_20 a0 a1 r1) (oc h0 (oc h1 (oc h2 (oc h3 (oc rfl (oc h5 (oc h6 (oc (xCq h7) (oc h8 on)))))))))) fun h8 h =>
 iE h fun h9 h => bE h fun r2 h10 h => dE h fk49 (p49_e_21 a0 a1 r1 r2) (oc h0 (oc h1 (oc h2 (oc h3 (oc rfl (oc h5 (oc h6 (oc (xCq h7) (oc h8 (oc h9 (oc (xBq h10) on)))))))))))) fun h1 h =>
 cE h (fun h3 h => cE h (fun h4 h => tE fk49 (p49_e_22 a0 a1) (oc h0 (oc h1 (oc rfl (oc h3 (oc h4 on))))) (c49_8 _ _ _ _ _ _ h)) fun h4 h =>
 cE h (fun h5 h => iE h fun h6 h => bE h fun r1 h7 h => cE h (fun h8 h => dE h fk49 (p49_e_23 a0 a1 r1) (oc h0 (oc h1 (oc rfl (oc h3 (oc h4 (oc h5 (oc h6 (oc (xBq h7) (oc h8 on)))))))))) fun h8 h =>
 iE h fun h9 h => bE h fun r2 h10 h => dE h fk49 (p49_e_24 a0 a1 r1 r2) (oc h0 (oc h1 (oc rfl (oc h3 (oc h4 (oc h5 (oc h6 (oc (xBq h7) (oc h8 (oc h9 (oc (xDs h10) on)))))))))))) fun h5 h =>
 iE h fun h6 h => bE h fun r1 h7 h => cE h (fun h8 h => dE h fk49 (p49_e_25 a0 a1 r1) (oc h0 (oc h1 (oc rfl (oc h3 (oc h4 (oc h5 (oc h6 (oc (xCq h7) (oc h8 on)))))))))) fun h8 h =>
 iE h fun h9 h => bE h fun r2 h10 h => dE h fk49 (p49_e_26 a0 a1 r1 r2) (oc h0 (oc h1 (oc rfl (oc h3 (oc h4 (oc h5 (oc h6 (oc (xCq h7) (oc h8 (oc h9 (oc (xBq h10) on)))))))))))) fun h3 h =>
 cE h (fun h5 h => iE h fun h6 h => bE h fun r1 h7 h => cE h (fun h8 h => dE h fk49 (p49_e_27 a0 a1 r1) (oc h0 (oc h1 (oc rfl (oc h3 (oc rfl (oc h5 (oc h6 (oc (xBq h7) (oc h8 on)))))))))) fun h8 h =>
 iE h fun h9 h => bE h fun r2 h10 h => dE h fk49 (p49_e_28 a0 a1 r1 r2) (oc h0 (oc h1 (oc rfl (oc h3 (oc rfl (oc h5 (oc h6 (oc (xBq h7) (oc h8 (oc h9 (oc (xDs h10) on)))))))))))) fun h5 h =>
 iE h fun h6 h => bE h fun r1 h7 h => cE h (fun h8 h => dE h fk49 (p49_e_29 a0 a1 r1) (oc h0 (oc h1 (oc rfl (oc h3 (oc rfl (oc h5 (oc h6 (oc (xCq h7) (oc h8 on)))))))))) fun h8 h =>
 iE h fun h9 h => bE h fun r2 h10 h => dE h fk49 (p49_e_30 a0 a1 r1 r2) (oc h0 (oc h1 (oc rfl (oc h3 (oc rfl (oc h5 (oc h6 (oc (xCq h7) (oc h8 (oc h9 (oc (xBq h10) on)))))))))))
theorem xF1 {N : Nat} {a0 : Str} {a1 : Int} {r : Tok × Int × Bool} (h : xFI N  a0 a1 = some r) : AbC 49 (xAU a0 a1) (xAw r) :=
 AbsCalls.of_reach fk49 rfl rfl (Nat.le_of_ble_eq_true rfl) (c49_e a0 a1 r h)
noncomputable def I30 : Info := { body := (Tryz.f30.body).getD .skip, nt := 44, results := [.tmp 2, .tmp 3], keep := [0, 4, 6, 8, 10, 12, 14, 16, 22, 32, 40, 72, 13], live := [(5, [0, 8, 10])], modes := [(8, [(3, .take, false)]), (9, [(0, .take, false), (2, .take, false)]), (11, [(0, .take, false)]), (12, [(0, .take, false)]), (13, [(0, .take, false)])] }
theorem fk30 : FnOk Tryz.prog 30 Tryz.f30 I30 := ⟨Tryz.func30, by kernel_rfl, by kernel_rfl, by kernel_rfl, by kernel_rfl⟩
def S30_5 (x0 : Str) (x4 : List Tok) (x5 : Int) : St := [(0, .v false [.str x0]), (8, .v false [.sl .own .tok x4]), (10, .v false [.int .i64 x5])]
theorem p30_5_0 (x0 : Str) (x4 : List Tok) (x5 : Int) : rS 5 I30 (S30_5 x0 x4 x5) [Y, Y] [] = st 5 I30 (S30_5 x0 x4 (W (x5 + 1))) [(decide ((x5 : Int) < (Ln x0 : Int))) = true, (0 : Int) ≤ x5 ∧ x5 < (Ln x0), ((((gD x0 (tN x5) 0).toNat : Int) : Int) == 32) = true] := by kernel_rfl
theorem p30_5_1 (x0 : Str) (x4 : List Tok) (x5 : Int) (r1 : Tok × Int × Bool) : rS 5 I30 (S30_5 x0 x4 x5) [Y, F, Y, Y] [xAw r1] = dn (xAt ([], x5)) [(decide ((x5 : Int) < (Ln x0 : Int))) = true, (0 : Int) ≤ x5 ∧ x5 < (Ln x0), ((((gD x0 (tN x5) 0).toNat : Int) : Int) == 32) = false, AbC 49 (xAU x0 x5) (xAw r1), (!r1.2.2) = true, true = true] := by kernel_rfl
theorem p30_5_2 (x0 : Str) (x4 : List Tok) (x5 : Int) (r1 : Tok × Int × Bool) : rS 5 I30 (S30_5 x0 x4 x5) [Y, F, F, Y] [xAw r1] = dn (xAt ([], x5)) [(decide ((x5 : Int) < (Ln x0 : Int))) = true, (0 : Int) ≤ x5 ∧ x5 < (Ln x0), ((((gD x0 (tN x5) 0).toNat : Int) : Int) == 32) = false, AbC 49 (xAU x0 x5) (xAw r1), (!r1.2.2) = false, (((Ln x4 : Int) : Int) == 60) = true] := by kernel_rfl
theorem p30_5_3 (x0 : Str) (x4 : List Tok) (x5 : Int) (r1 : Tok × Int × Bool) : rS 5 I30 (S30_5 x0 x4 x5) [Y, F, F, F] [xAw r1] = st 5 I30 (S30_5 x0 (x4 ++ [r1.1]) r1.2.1) [(decide ((x5 : Int) < (Ln x0 : Int))) = true, (0 : Int) ≤ x5 ∧ x5 < (Ln x0), ((((gD x0 (tN x5) 0).toNat : Int) : Int) == 32) = false, AbC 49 (xAU x0 x5) (xAw r1), (!r1.2.2) = false, (((Ln x4 : Int) : Int) == 60) = false, Ln x4 + Ln [r1.1] ≤ Lim] := by kernel_rfl
theorem p30_5_4 (x0 : Str) (x4 : List Tok) (x5 : Int) : rS 5 I30 (S30_5 x0 x4 x5) [F] [] = dn (xAt (x4, (-1))) [(decide ((x5 : Int) < (Ln x0 : Int))) = false] := by kernel_rfl
theorem p30_e_5 (a0 : Str) : rE I30 (xBh a0) [Y] [] = dn (xAt ([], 120)) [(decide (((Ln a0 : Int) : Int) > 120)) = true] := by kernel_rfl
theorem p30_e_6 (a0 : Str) : rE I30 (xBh a0) [F] [] = st 5 I30 (S30_5 a0 [] 0) [(decide (((Ln a0 : Int) : Int) > 120)) = false] := by kernel_rfl
theorem c30_5 {N : Nat} : ∀ n x0 x4 x5 r, xDL N n x0 x4 x5 = some r → RS Tryz.f30 I30 5 (S30_5 x0 x4 x5) (xAt r) := by
 intro n
 induction n with
 | zero => exact fun _ _ _ _ h => nE h
 | succ n ih =>
  exact fun x0 x4 x5 r h =>
   cE h (fun h0 h => iE h fun h1 h => cE h (fun h2 h => tS fk30 (p30_5_0 x0 x4 x5) (oc h0 (oc h1 (oc h2 on))) (ih _ _ _ _ h)) fun h2 h =>
   bE h fun r1 h3 h => cE h (fun h4 h => dS h fk30 (p30_5_1 x0 x4 x5 r1) (oc h0 (oc h1 (oc h2 (oc (xF1 h3) (oc h4 (oc rfl on))))))) fun h4 h =>
   cE h (fun h5 h => dS h fk30 (p30_5_2 x0 x4 x5 r1) (oc h0 (oc h1 (oc h2 (oc (xF1 h3) (oc h4 (oc h5 on))))))) fun h5 h =>
   iE h fun h6 h => tS fk30 (p30_5_3 x0 x4 x5 r1) (oc h0 (oc h1 (oc h2 (oc (xF1 h3) (oc h4 (oc h5 (oc h6 on))))))) (ih _ _ _ _ h)) fun h0 h =>
   dS h fk30 (p30_5_4 x0 x4 x5) (oc h0 on)
theorem c30_e {N : Nat} : ∀ a0 r, xEW N a0 = some r → RE Tryz.f30 I30 (xBh a0) (xAt r) := fun a0 r h =>
 cE h (fun h0 h => dE h fk30 (p30_e_5 a0) (oc h0 on)) fun h0 h =>
 tE fk30 (p30_e_6 a0) (oc h0 on) (c30_5 _ _ _ _ _ h)
theorem xBM {N : Nat} {a0 : Str} {r : (List Tok) × Int} (h : xEW N  a0 = some r) : AbC 30 (xBh a0) (xAt r) :=
 AbsCalls.of_reach fk30 rfl rfl (Nat.le_of_ble_eq_true rfl) (c30_e a0 r h)
noncomputable def I51 : Info := { body := (Tryz.f51.body).getD .skip, nt := 31, results := [.cell 2 50], keep := [0, 4, 38, 1, 5], live := [], modes := [(1, [(5, .take, false)])], ext := [0] }
theorem fk51 : FnOk Tryz.prog 51 Tryz.f51 I51 := ⟨Tryz.func51, by kernel_rfl, by kernel_rfl, by kernel_rfl, by kernel_rfl⟩
theorem p51_e_0 (a0 : Psr) : rE I51 (xAi a0) [Y, Y] [] = dn (xAc ((gD (Psr.list a0) (tN (Psr.pos a0)) Ty.tok.dflt), a0)) [(decide (((Psr.bad a0) : Int) < 0)) = true, (decide (((Psr.pos a0) : Int) < (Ln (Psr.list a0) : Int))) = true, (0 : Int) ≤ (Psr.pos a0) ∧ (Psr.pos a0) < (Ln (Psr.list a0))] := by kernel_rfl
theorem p51_e_1 (a0 : Psr) : rE I51 (xAi a0) [Y, F] [] = dn (xAc ((Tok.mk 0 0 0 []), a0)) [(decide (((Psr.bad a0) : Int) < 0)) = true, (decide (((Psr.pos a0) : Int) < (Ln (Psr.list a0) : Int))) = false] := by kernel_rfl
theorem p51_e_2 (a0 : Psr) : rE I51 (xAi a0) [F, F] [] = dn (xAc ((Tok.mk 0 0 0 []), a0)) [(decide (((Psr.bad a0) : Int) < 0)) = false, false = false] := by kernel_rfl
theorem c51_e {N : Nat} : ∀ a0 r, xBG N a0 = some r → RE Tryz.f51 I51 (xAi a0) (xAc r) := fun a0 r h =>
 cE h (fun h0 h => cE h (fun h1 h => iE h fun h2 h => dE h fk51 (p51_e_0 a0) (oc h0 (oc h1 (oc h2 on)))) fun h1 h =>
 dE h fk51 (p51_e_1 a0) (oc h0 (oc h1 on))) fun h0 h =>
 dE h fk51 (p51_e_2 a0) (oc h0 (oc rfl on))
theorem xAq {N : Nat} {a0 : Psr} {r : Tok × Psr} (h : xBG N  a0 = some r) : AbC 51 (xAi a0) (xAc r) :=
 AbsCalls.of_reach fk51 rfl rfl (Nat.le_of_ble_eq_true rfl) (c51_e a0 r h)
noncomputable def I50 : Info := { body := (Tryz.f50.body).getD .skip, nt := 14, results := [.tmp 4], keep := [0, 2, 4, 8, 5], live := [], modes := [(1, [(3, .take, false)])] }
theorem fk50 : FnOk Tryz.prog 50 Tryz.f50 I50 := ⟨Tryz.func50, by kernel_rfl, by kernel_rfl, by kernel_rfl, by kernel_rfl⟩
theorem p50_e_0 (a0 : Tok) (a1 : Str) : rE I50 (xBc a0 a1) [Y] [] = dn (xAB (((Tok.text a0) : Str) == a1)) [(((Tok.kind a0) : Int) == 1) = true] := by kernel_rfl
theorem p50_e_1 (a0 : Tok) (a1 : Str) : rE I50 (xBc a0 a1) [F] [] = dn (xAB false) [(((Tok.kind a0) : Int) == 1) = false] := by kernel_rfl
theorem c50_e {N : Nat} : ∀ a0 a1 r, xDR N a0 a1 = some r → RE Tryz.f50 I50 (xBc a0 a1) (xAB r) := fun a0 a1 r h =>
 cE h (fun h0 h => dE h fk50 (p50_e_0 a0 a1) (oc h0 on)) fun h0 h =>
 dE h fk50 (p50_e_1 a0 a1) (oc h0 on)
theorem xBK {N : Nat} {a0 : Tok} {a1 : Str} {r : Bool} (h : xDR N  a0 a1 = some r) : AbC 50 (xBc a0 a1) (xAB r) :=
 AbsCalls.of_reach fk50 rfl rfl (Nat.le_of_ble_eq_true rfl) (c50_e a0 a1 r h)
noncomputable def I97 : Info := { body := (Tryz.f97.body).getD .skip, nt := 15, results := [.tmp 6], keep := [0, 2, 4, 12], live := [], modes := [(1, [(3, .take, false)])] }
theorem fk97 : FnOk Tryz.prog 97 Tryz.f97 I97 := ⟨Tryz.func97, by kernel_rfl, by kernel_rfl, by kernel_rfl, by kernel_rfl⟩
theorem p97_e_0 (a0 a1 a2 : Int) : rE I97 (xCl a0 a1 a2) [Y] [] = dn (xA5 (decide ((a0 : Int) ≤ a2))) [(decide ((a1 : Int) ≤ a0)) = true] := by kernel_rfl
theorem p97_e_1 (a0 a1 a2 : Int) : rE I97 (xCl a0 a1 a2) [F] [] = dn (xA5 false) [(decide ((a1 : Int) ≤ a0)) = false] := by kernel_rfl
theorem c97_e {N : Nat} : ∀ a0 a1 a2 r, xEK N a0 a1 a2 = some r → RE Tryz.f97 I97 (xCl a0 a1 a2) (xA5 r) := fun a0 a1 a2 r h =>
 cE h (fun h0 h => dE h fk97 (p97_e_0 a0 a1 a2) (oc h0 on)) fun h0 h =>
 dE h fk97 (p97_e_1 a0 a1 a2) (oc h0 on)
theorem xDy {N : Nat} {a0 : Int} {a1 : Int} {a2 : Int} {r : Bool} (h : xEK N  a0 a1 a2 = some r) : AbC 97 (xCl a0 a1 a2) (xA5 r) :=
 AbsCalls.of_reach fk97 rfl rfl (Nat.le_of_ble_eq_true rfl) (c97_e a0 a1 a2 r h)
noncomputable def I114 : Info := { body := (Tryz.f114.body).getD .skip, nt := 42, results := [.tmp 2], keep := [0, 4, 6, 8, 16, 76], live := [(2, [0, 6])], modes := [(4, [(4, .take, false)]), (5, [(0, .take, false), (2, .take, false), (5, .take, false), (11, .take, false)])] }
theorem fk114 : FnOk Tryz.prog 114 Tryz.f114 I114 := ⟨Tryz.func114, by kernel_rfl, by kernel_rfl, by kernel_rfl, by kernel_rfl⟩
def xFW (x0 : Str) (x3 : Int) : St := [(0, .v false [.str x0]), (6, .v false [.int .i64 x3])]
theorem p114_2_0 (x0 : Str) (x3 : Int) : rS 2 I114 (xFW x0 x3) [Y, Y, Y, Y, Y, Y] [] = dn (xCc false) [(decide ((x3 : Int) < (Ln x0 : Int))) = true, (0 : Int) ≤ x3 ∧ x3 < (Ln x0), (decide ((((gD x0 (tN x3) 0).toNat : Int) : Int) ≥ 97)) = true, (0 : Int) ≤ x3 ∧ x3 < (Ln x0), (!(decide ((((gD x0 (tN x3) 0).toNat : Int) : Int) ≤ 122))) = true, ((x3 : Int) == 0) = true, true = true, true = true] := by kernel_rfl
theorem p114_2_1 (x0 : Str) (x3 : Int) : rS 2 I114 (xFW x0 x3) [Y, Y, Y, F, Y, Y] [] = dn (xCc false) [(decide ((x3 : Int) < (Ln x0 : Int))) = true, (0 : Int) ≤ x3 ∧ x3 < (Ln x0), (decide ((((gD x0 (tN x3) 0).toNat : Int) : Int) ≥ 97)) = true, (0 : Int) ≤ x3 ∧ x3 < (Ln x0), (!(decide ((((gD x0 (tN x3) 0).toNat : Int) : Int) ≤ 122))) = true, ((x3 : Int) == 0) = false, (0 : Int) ≤ x3 ∧ x3 < (Ln x0), (decide ((((gD x0 (tN x3) 0).toNat : Int) : Int) < 48)) = true, true = true] := by kernel_rfl
theorem p114_2_2 (x0 : Str) (x3 : Int) : rS 2 I114 (xFW x0 x3) [Y, Y, Y, F, F, Y] [] = dn (xCc false) [(decide ((x3 : Int) < (Ln x0 : Int))) = true, (0 : Int) ≤ x3 ∧ x3 < (Ln x0), (decide ((((gD x0 (tN x3) 0).toNat : Int) : Int) ≥ 97)) = true, (0 : Int) ≤ x3 ∧ x3 < (Ln x0), (!(decide ((((gD x0 (tN x3) 0).toNat : Int) : Int) ≤ 122))) = true, ((x3 : Int) == 0) = false, (0 : Int) ≤ x3 ∧ x3 < (Ln x0), (decide ((((gD x0 (tN x3) 0).toNat : Int) : Int) < 48)) = false, (0 : Int) ≤ x3 ∧ x3 < (Ln x0), (decide ((((gD x0 (tN x3) 0).toNat : Int) : Int) > 57)) = true] := by kernel_rfl
theorem p114_2_3 (x0 : Str) (x3 : Int) : rS 2 I114 (xFW x0 x3) [Y, Y, Y, F, F, F] [] = st 2 I114 (xFW x0 (W (x3 + 1))) [(decide ((x3 : Int) < (Ln x0 : Int))) = true, (0 : Int) ≤ x3 ∧ x3 < (Ln x0), (decide ((((gD x0 (tN x3) 0).toNat : Int) : Int) ≥ 97)) = true, (0 : Int) ≤ x3 ∧ x3 < (Ln x0), (!(decide ((((gD x0 (tN x3) 0).toNat : Int) : Int) ≤ 122))) = true, ((x3 : Int) == 0) = false, (0 : Int) ≤ x3 ∧ x3 < (Ln x0), (decide ((((gD x0 (tN x3) 0).toNat : Int) : Int) < 48)) = false, (0 : Int) ≤ x3 ∧ x3 < (Ln x0), (decide ((((gD x0 (tN x3) 0).toNat : Int) : Int) > 57)) = false] := by kernel_rfl
theorem p114_2_4 (x0 : Str) (x3 : Int) : rS 2 I114 (xFW x0 x3) [Y, Y, F, F] [] = st 2 I114 (xFW x0 (W (x3 + 1))) [(decide ((x3 : Int) < (Ln x0 : Int))) = true, (0 : Int) ≤ x3 ∧ x3 < (Ln x0), (decide ((((gD x0 (tN x3) 0).toNat : Int) : Int) ≥ 97)) = true, (0 : Int) ≤ x3 ∧ x3 < (Ln x0), (!(decide ((((gD x0 (tN x3) 0).toNat : Int) : Int) ≤ 122))) = false, false = false] := by kernel_rfl
theorem p114_2_5 (x0 : Str) (x3 : Int) : rS 2 I114 (xFW x0 x3) [Y, F, Y, Y, Y, Y] [] = dn (xCc false) [(decide ((x3 : Int) < (Ln x0 : Int))) = true, (0 : Int) ≤ x3 ∧ x3 < (Ln x0), (decide ((((gD x0 (tN x3) 0).toNat : Int) : Int) ≥ 97)) = false, (!false) = true, ((x3 : Int) == 0) = true, true = true, true = true] := by kernel_rfl
theorem p114_2_6 (x0 : Str) (x3 : Int) : rS 2 I114 (xFW x0 x3) [Y, F, Y, F, Y, Y] [] = dn (xCc false) [(decide ((x3 : Int) < (Ln x0 : Int))) = true, (0 : Int) ≤ x3 ∧ x3 < (Ln x0), (decide ((((gD x0 (tN x3) 0).toNat : Int) : Int) ≥ 97)) = false, (!false) = true, ((x3 : Int) == 0) = false, (0 : Int) ≤ x3 ∧ x3 < (Ln x0), (decide ((((gD x0 (tN x3) 0).toNat : Int) : Int) < 48)) = true, true = true] := by kernel_rfl
theorem p114_2_7 (x0 : Str) (x3 : Int) : rS 2 I114 (xFW x0 x3) [Y, F, Y, F, F, Y] [] = dn (xCc false) [(decide ((x3 : Int) < (Ln x0 : Int))) = true, (0 : Int) ≤ x3 ∧ x3 < (Ln x0), (decide ((((gD x0 (tN x3) 0).toNat : Int) : Int) ≥ 97)) = false, (!false) = true, ((x3 : Int) == 0) = false, (0 : Int) ≤ x3 ∧ x3 < (Ln x0), (decide ((((gD x0 (tN x3) 0).toNat : Int) : Int) < 48)) = false, (0 : Int) ≤ x3 ∧ x3 < (Ln x0), (decide ((((gD x0 (tN x3) 0).toNat : Int) : Int) > 57)) = true] := by kernel_rfl
theorem p114_2_8 (x0 : Str) (x3 : Int) : rS 2 I114 (xFW x0 x3) [Y, F, Y, F, F, F] [] = st 2 I114 (xFW x0 (W (x3 + 1))) [(decide ((x3 : Int) < (Ln x0 : Int))) = true, (0 : Int) ≤ x3 ∧ x3 < (Ln x0), (decide ((((gD x0 (tN x3) 0).toNat : Int) : Int) ≥ 97)) = false, (!false) = true, ((x3 : Int) == 0) = false, (0 : Int) ≤ x3 ∧ x3 < (Ln x0), (decide ((((gD x0 (tN x3) 0).toNat : Int) : Int) < 48)) = false, (0 : Int) ≤ x3 ∧ x3 < (Ln x0), (decide ((((gD x0 (tN x3) 0).toNat : Int) : Int) > 57)) = false] := by kernel_rfl
theorem p114_2_9 (x0 : Str) (x3 : Int) (r1 : Bool) : rS 2 I114 (xFW x0 x3) [F] [xA5 r1] = dn (xCc r1) [(decide ((x3 : Int) < (Ln x0 : Int))) = false, AbC 97 (xCl (Ln x0 : Int) 1 8) (xA5 r1)] := by kernel_rfl
theorem p114_e_10 (a0 : Str) : rE I114 (xE2 a0) [] [] = st 2 I114 (xFW a0 0) [] := by kernel_rfl
theorem c114_2 {N : Nat} : ∀ n x0 x3 r, xDx N n x0 x3 = some r → RS Tryz.f114 I114 2 (xFW x0 x3) (xCc r) := by
 intro n
 induction n with
 | zero => exact fun _ _ _ h => nE h
 | succ n ih =>
  exact fun x0 x3 r h =>
   cE h (fun h0 h => iE h fun h1 h => cE h (fun h2 h => cE h (fun h4 h => cE h (fun h5 h => dS h fk114 (p114_2_0 x0 x3) (oc h0 (oc h1 (oc h2 (oc h1 (oc h4 (oc h5 (oc rfl (oc rfl on))))))))) fun h5 h =>
   cE h (fun h7 h => dS h fk114 (p114_2_1 x0 x3) (oc h0 (oc h1 (oc h2 (oc h1 (oc h4 (oc h5 (oc h1 (oc h7 (oc rfl on)))))))))) fun h7 h =>
   cE h (fun h9 h => dS h fk114 (p114_2_2 x0 x3) (oc h0 (oc h1 (oc h2 (oc h1 (oc h4 (oc h5 (oc h1 (oc h7 (oc h1 (oc h9 on))))))))))) fun h9 h =>
   tS fk114 (p114_2_3 x0 x3) (oc h0 (oc h1 (oc h2 (oc h1 (oc h4 (oc h5 (oc h1 (oc h7 (oc h1 (oc h9 on)))))))))) (ih _ _ _ h)) fun h4 h =>
   tS fk114 (p114_2_4 x0 x3) (oc h0 (oc h1 (oc h2 (oc h1 (oc h4 (oc rfl on)))))) (ih _ _ _ h)) fun h2 h =>
   cE h (fun h4 h => dS h fk114 (p114_2_5 x0 x3) (oc h0 (oc h1 (oc h2 (oc rfl (oc h4 (oc rfl (oc rfl on)))))))) fun h4 h =>
   cE h (fun h6 h => dS h fk114 (p114_2_6 x0 x3) (oc h0 (oc h1 (oc h2 (oc rfl (oc h4 (oc h1 (oc h6 (oc rfl on))))))))) fun h6 h =>
   cE h (fun h8 h => dS h fk114 (p114_2_7 x0 x3) (oc h0 (oc h1 (oc h2 (oc rfl (oc h4 (oc h1 (oc h6 (oc h1 (oc h8 on)))))))))) fun h8 h =>
   tS fk114 (p114_2_8 x0 x3) (oc h0 (oc h1 (oc h2 (oc rfl (oc h4 (oc h1 (oc h6 (oc h1 (oc h8 on))))))))) (ih _ _ _ h)) fun h0 h =>
   bE h fun r1 h1 h => dS h fk114 (p114_2_9 x0 x3 r1) (oc h0 (oc (xDy h1) on))
theorem c114_e {N : Nat} : ∀ a0 r, xGH N a0 = some r → RE Tryz.f114 I114 (xE2 a0) (xCc r) := fun a0 r h =>
 tE fk114 (p114_e_10 a0) on (c114_2 _ _ _ _ h)
theorem xHm {N : Nat} {a0 : Str} {r : Bool} (h : xGH N  a0 = some r) : AbC 114 (xE2 a0) (xCc r) :=
 AbsCalls.of_reach fk114 rfl rfl (Nat.le_of_ble_eq_true rfl) (c114_e a0 r h)
end Go.Ab.T
end
section
open Go.Proofs
namespace Go.Ab.T
set_option linter.unusedVariables false
set_option maxRecDepth 100000
variable [Inhabited Lb]
variable [Nonempty Tab10]
variable [Nonempty ErrVars]
noncomputable def I117 : Info := { body := (Tryz.f117.body).getD .skip, nt := 26, results := [.tmp 2], keep := [0, 4, 6, 8, 12, 24, 40, 48], live := [], modes := [] }
theorem xGF : FnOk Tryz.prog 117 Tryz.f117 I117 := ⟨Tryz.func117, by kernel_rfl, by kernel_rfl, by kernel_rfl, by kernel_rfl⟩
theorem p117_e_0 (a0 : Str) : rE I117 (xAp a0) [Y] [] = dn (xAg 0) [((a0 : Str) == [99, 108, 111, 99, 107]) = true] := by kernel_rfl
theorem p117_e_1 (a0 : Str) : rE I117 (xAp a0) [F, Y, Y] [] = dn (xAg 1) [((a0 : Str) == [99, 108, 111, 99, 107]) = false, ((a0 : Str) == [108, 101, 110]) = true, ((a0 : Str) == [108, 101, 110]) = true] := by kernel_rfl
theorem p117_e_2 (a0 : Str) : rE I117 (xAp a0) [F, F, Y, Y] [] = dn (xAg 1) [((a0 : Str) == [99, 108, 111, 99, 107]) = false, ((a0 : Str) == [108, 101, 110]) = false, ((a0 : Str) == [115, 117, 109]) = true, ((a0 : Str) == [115, 117, 109]) = true] := by kernel_rfl
theorem p117_e_3 (a0 : Str) : rE I117 (xAp a0) [F, F, F, Y, Y] [] = dn (xAg 1) [((a0 : Str) == [99, 108, 111, 99, 107]) = false, ((a0 : Str) == [108, 101, 110]) = false, ((a0 : Str) == [115, 117, 109]) = false, ((a0 : Str) == [114, 111, 119, 115]) = true, ((a0 : Str) == [114, 111, 119, 115]) = true] := by kernel_rfl
theorem p117_e_4 (a0 : Str) : rE I117 (xAp a0) [F, F, F, F, Y, Y] [] = dn (xAg 1) [((a0 : Str) == [99, 108, 111, 99, 107]) = false, ((a0 : Str) == [108, 101, 110]) = false, ((a0 : Str) == [115, 117, 109]) = false, ((a0 : Str) == [114, 111, 119, 115]) = false, ((a0 : Str) == [99, 104, 97, 110, 99, 101]) = true, ((a0 : Str) == [99, 104, 97, 110, 99, 101]) = true] := by kernel_rfl
theorem p117_e_5 (a0 : Str) : rE I117 (xAp a0) [F, F, F, F, F, Y] [] = dn (xAg 1) [((a0 : Str) == [99, 108, 111, 99, 107]) = false, ((a0 : Str) == [108, 101, 110]) = false, ((a0 : Str) == [115, 117, 109]) = false, ((a0 : Str) == [114, 111, 119, 115]) = false, ((a0 : Str) == [99, 104, 97, 110, 99, 101]) = false, ((a0 : Str) == [102, 105, 108, 101]) = true] := by kernel_rfl
theorem p117_e_6 (a0 : Str) : rE I117 (xAp a0) [F, F, F, F, F, F, Y, Y] [] = dn (xAg 2) [((a0 : Str) == [99, 108, 111, 99, 107]) = false, ((a0 : Str) == [108, 101, 110]) = false, ((a0 : Str) == [115, 117, 109]) = false, ((a0 : Str) == [114, 111, 119, 115]) = false, ((a0 : Str) == [99, 104, 97, 110, 99, 101]) = false, ((a0 : Str) == [102, 105, 108, 101]) = false, ((a0 : Str) == [116, 97, 107, 101]) = true, ((a0 : Str) == [116, 97, 107, 101]) = true] := by kernel_rfl
theorem p117_e_7 (a0 : Str) : rE I117 (xAp a0) [F, F, F, F, F, F, F, Y, Y] [] = dn (xAg 2) [((a0 : Str) == [99, 108, 111, 99, 107]) = false, ((a0 : Str) == [108, 101, 110]) = false, ((a0 : Str) == [115, 117, 109]) = false, ((a0 : Str) == [114, 111, 119, 115]) = false, ((a0 : Str) == [99, 104, 97, 110, 99, 101]) = false, ((a0 : Str) == [102, 105, 108, 101]) = false, ((a0 : Str) == [116, 97, 107, 101]) = false, ((a0 : Str) == [115, 107, 105, 112]) = true, ((a0 : Str) == [115, 107, 105, 112]) = true] := by kernel_rfl
theorem p117_e_8 (a0 : Str) : rE I117 (xAp a0) [F, F, F, F, F, F, F, F, Y, Y] [] = dn (xAg 2) [((a0 : Str) == [99, 108, 111, 99, 107]) = false, ((a0 : Str) == [108, 101, 110]) = false, ((a0 : Str) == [115, 117, 109]) = false, ((a0 : Str) == [114, 111, 119, 115]) = false, ((a0 : Str) == [99, 104, 97, 110, 99, 101]) = false, ((a0 : Str) == [102, 105, 108, 101]) = false, ((a0 : Str) == [116, 97, 107, 101]) = false, ((a0 : Str) == [115, 107, 105, 112]) = false, ((a0 : Str) == [114, 97, 110, 103, 101]) = true, ((a0 : Str) == [114, 97, 110, 103, 101]) = true] := by kernel_rfl
theorem p117_e_9 (a0 : Str) : rE I117 (xAp a0) [F, F, F, F, F, F, F, F, F, Y, Y] [] = dn (xAg 2) [((a0 : Str) == [99, 108, 111, 99, 107]) = false, ((a0 : Str) == [108, 101, 110]) = false, ((a0 : Str) == [115, 117, 109]) = false, ((a0 : Str) == [114, 111, 119, 115]) = false, ((a0 : Str) == [99, 104, 97, 110, 99, 101]) = false, ((a0 : Str) == [102, 105, 108, 101]) = false, ((a0 : Str) == [116, 97, 107, 101]) = false, ((a0 : Str) == [115, 107, 105, 112]) = false, ((a0 : Str) == [114, 97, 110, 103, 101]) = false, ((a0 : Str) == [110, 116, 104]) = true, ((a0 : Str) == [110, 116, 104]) = true] := by kernel_rfl
theorem p117_e_10 (a0 : Str) : rE I117 (xAp a0) [F, F, F, F, F, F, F, F, F, F, Y, Y] [] = dn (xAg 2) [((a0 : Str) == [99, 108, 111, 99, 107]) = false, ((a0 : Str) == [108, 101, 110]) = false, ((a0 : Str) == [115, 117, 109]) = false, ((a0 : Str) == [114, 111, 119, 115]) = false, ((a0 : Str) == [99, 104, 97, 110, 99, 101]) = false, ((a0 : Str) == [102, 105, 108, 101]) = false, ((a0 : Str) == [116, 97, 107, 101]) = false, ((a0 : Str) == [115, 107, 105, 112]) = false, ((a0 : Str) == [114, 97, 110, 103, 101]) = false, ((a0 : Str) == [110, 116, 104]) = false, ((a0 : Str) == [107, 101, 101, 112]) = true, ((a0 : Str) == [107, 101, 101, 112]) = true] := by kernel_rfl
theorem p117_e_11 (a0 : Str) : rE I117 (xAp a0) [F, F, F, F, F, F, F, F, F, F, F, Y, Y] [] = dn (xAg 2) [((a0 : Str) == [99, 108, 111, 99, 107]) = false, ((a0 : Str) == [108, 101, 110]) = false, ((a0 : Str) == [115, 117, 109]) = false, ((a0 : Str) == [114, 111, 119, 115]) = false, ((a0 : Str) == [99, 104, 97, 110, 99, 101]) = false, ((a0 : Str) == [102, 105, 108, 101]) = false, ((a0 : Str) == [116, 97, 107, 101]) = false, ((a0 : Str) == [115, 107, 105, 112]) = false, ((a0 : Str) == [114, 97, 110, 103, 101]) = false, ((a0 : Str) == [110, 116, 104]) = false, ((a0 : Str) == [107, 101, 101, 112]) = false, ((a0 : Str) == [99, 111, 108, 117, 109, 110]) = true, ((a0 : Str) == [99, 111, 108, 117, 109, 110]) = true] := by kernel_rfl
theorem p117_e_12 (a0 : Str) : rE I117 (xAp a0) [F, F, F, F, F, F, F, F, F, F, F, F, Y] [] = dn (xAg 2) [((a0 : Str) == [99, 108, 111, 99, 107]) = false, ((a0 : Str) == [108, 101, 110]) = false, ((a0 : Str) == [115, 117, 109]) = false, ((a0 : Str) == [114, 111, 119, 115]) = false, ((a0 : Str) == [99, 104, 97, 110, 99, 101]) = false, ((a0 : Str) == [102, 105, 108, 101]) = false, ((a0 : Str) == [116, 97, 107, 101]) = false, ((a0 : Str) == [115, 107, 105, 112]) = false, ((a0 : Str) == [114, 97, 110, 103, 101]) = false, ((a0 : Str) == [110, 116, 104]) = false, ((a0 : Str) == [107, 101, 101, 112]) = false, ((a0 : Str) == [99, 111, 108, 117, 109, 110]) = false, ((a0 : Str) == [116, 97, 98, 108, 101]) = true] := by kernel_rfl
theorem p117_e_13 (a0 : Str) : rE I117 (xAp a0) [F, F, F, F, F, F, F, F, F, F, F, F, F, Y, Y] [] = dn (xAg 3) [((a0 : Str) == [99, 108, 111, 99, 107]) = false, ((a0 : Str) == [108, 101, 110]) = false, ((a0 : Str) == [115, 117, 109]) = false, ((a0 : Str) == [114, 111, 119, 115]) = false, ((a0 : Str) == [99, 104, 97, 110, 99, 101]) = false, ((a0 : Str) == [102, 105, 108, 101]) = false, ((a0 : Str) == [116, 97, 107, 101]) = false, ((a0 : Str) == [115, 107, 105, 112]) = false, ((a0 : Str) == [114, 97, 110, 103, 101]) = false, ((a0 : Str) == [110, 116, 104]) = false, ((a0 : Str) == [107, 101, 101, 112]) = false, ((a0 : Str) == [99, 111, 108, 117, 109, 110]) = false, ((a0 : Str) == [116, 97, 98, 108, 101]) = false, ((a0 : Str) == [119, 104, 101, 114, 101]) = true, ((a0 : Str) == [119, 104, 101, 114, 101]) = true] := by kernel_rfl
theorem p117_e_14 (a0 : Str) : rE I117 (xAp a0) [F, F, F, F, F, F, F, F, F, F, F, F, F, F, Y, Y] [] = dn (xAg 3) [((a0 : Str) == [99, 108, 111, 99, 107]) = false, ((a0 : Str) == [108, 101, 110]) = false, ((a0 : Str) == [115, 117, 109]) = false, ((a0 : Str) == [114, 111, 119, 115]) = false, ((a0 : Str) == [99, 104, 97, 110, 99, 101]) = false, ((a0 : Str) == [102, 105, 108, 101]) = false, ((a0 : Str) == [116, 97, 107, 101]) = false, ((a0 : Str) == [115, 107, 105, 112]) = false, ((a0 : Str) == [114, 97, 110, 103, 101]) = false, ((a0 : Str) == [110, 116, 104]) = false, ((a0 : Str) == [107, 101, 101, 112]) = false, ((a0 : Str) == [99, 111, 108, 117, 109, 110]) = false, ((a0 : Str) == [116, 97, 98, 108, 101]) = false, ((a0 : Str) == [119, 104, 101, 114, 101]) = false, ((a0 : Str) == [103, 114, 111, 117, 112]) = true, ((a0 : Str) == [103, 114, 111, 117, 112]) = true] := by kernel_rfl
theorem p117_e_15 (a0 : Str) : rE I117 (xAp a0) [F, F, F, F, F, F, F, F, F, F, F, F, F, F, F, Y] [] = dn (xAg 3) [((a0 : Str) == [99, 108, 111, 99, 107]) = false, ((a0 : Str) == [108, 101, 110]) = false, ((a0 : Str) == [115, 117, 109]) = false, ((a0 : Str) == [114, 111, 119, 115]) = false, ((a0 : Str) == [99, 104, 97, 110, 99, 101]) = false, ((a0 : Str) == [102, 105, 108, 101]) = false, ((a0 : Str) == [116, 97, 107, 101]) = false, ((a0 : Str) == [115, 107, 105, 112]) = false, ((a0 : Str) == [114, 97, 110, 103, 101]) = false, ((a0 : Str) == [110, 116, 104]) = false, ((a0 : Str) == [107, 101, 101, 112]) = false, ((a0 : Str) == [99, 111, 108, 117, 109, 110]) = false, ((a0 : Str) == [116, 97, 98, 108, 101]) = false, ((a0 : Str) == [119, 104, 101, 114, 101]) = false, ((a0 : Str) == [103, 114, 111, 117, 112]) = false, ((a0 : Str) == [106, 111, 105, 110]) = true] := by kernel_rfl
theorem p117_e_16 (a0 : Str) : rE I117 (xAp a0) [F, F, F, F, F, F, F, F, F, F, F, F, F, F, F, F, Y] [] = dn (xAg 4) [((a0 : Str) == [99, 108, 111, 99, 107]) = false, ((a0 : Str) == [108, 101, 110]) = false, ((a0 : Str) == [115, 117, 109]) = false, ((a0 : Str) == [114, 111, 119, 115]) = false, ((a0 : Str) == [99, 104, 97, 110, 99, 101]) = false, ((a0 : Str) == [102, 105, 108, 101]) = false, ((a0 : Str) == [116, 97, 107, 101]) = false, ((a0 : Str) == [115, 107, 105, 112]) = false, ((a0 : Str) == [114, 97, 110, 103, 101]) = false, ((a0 : Str) == [110, 116, 104]) = false, ((a0 : Str) == [107, 101, 101, 112]) = false, ((a0 : Str) == [99, 111, 108, 117, 109, 110]) = false, ((a0 : Str) == [116, 97, 98, 108, 101]) = false, ((a0 : Str) == [119, 104, 101, 114, 101]) = false, ((a0 : Str) == [103, 114, 111, 117, 112]) = false, ((a0 : Str) == [106, 111, 105, 110]) = false, ((a0 : Str) == [97, 100, 100]) = true] := by kernel_rfl
theorem p117_e_17 (a0 : Str) : rE I117 (xAp a0) [F, F, F, F, F, F, F, F, F, F, F, F, F, F, F, F, F] [] = dn (xAg (-1)) [((a0 : Str) == [99, 108, 111, 99, 107]) = false, ((a0 : Str) == [108, 101, 110]) = false, ((a0 : Str) == [115, 117, 109]) = false, ((a0 : Str) == [114, 111, 119, 115]) = false, ((a0 : Str) == [99, 104, 97, 110, 99, 101]) = false, ((a0 : Str) == [102, 105, 108, 101]) = false, ((a0 : Str) == [116, 97, 107, 101]) = false, ((a0 : Str) == [115, 107, 105, 112]) = false, ((a0 : Str) == [114, 97, 110, 103, 101]) = false, ((a0 : Str) == [110, 116, 104]) = false, ((a0 : Str) == [107, 101, 101, 112]) = false, ((a0 : Str) == [99, 111, 108, 117, 109, 110]) = false, ((a0 : Str) == [116, 97, 98, 108, 101]) = false, ((a0 : Str) == [119, 104, 101, 114, 101]) = false, ((a0 : Str) == [103, 114, 111, 117, 112]) = false, ((a0 : Str) == [106, 111, 105, 110]) = false, ((a0 : Str) == [97, 100, 100]) = false] := by kernel_rfl
theorem c117_e {N : Nat} : ∀ a0 r, xCV N a0 = some r → RE Tryz.f117 I117 (xAp a0) (xAg r) := fun a0 r h =>
 cE h (fun h0 h => dE h xGF (p117_e_0 a0) (oc h0 on)) fun h0 h =>
 cE h (fun h1 h => dE h xGF (p117_e_1 a0) (oc h0 (oc h1 (oc h1 on)))) fun h1 h =>
 cE h (fun h2 h => dE h xGF (p117_e_2 a0) (oc h0 (oc h1 (oc h2 (oc h2 on))))) fun h2 h =>
 cE h (fun h3 h => dE h xGF (p117_e_3 a0) (oc h0 (oc h1 (oc h2 (oc h3 (oc h3 on)))))) fun h3 h =>
 cE h (fun h4 h => dE h xGF (p117_e_4 a0) (oc h0 (oc h1 (oc h2 (oc h3 (oc h4 (oc h4 on))))))) fun h4 h =>
 cE h (fun h5 h => dE h xGF (p117_e_5 a0) (oc h0 (oc h1 (oc h2 (oc h3 (oc h4 (oc h5 on))))))) fun h5 h =>
 cE h (fun h6 h => dE h xGF (p117_e_6 a0) (oc h0 (oc h1 (oc h2 (oc h3 (oc h4 (oc h5 (oc h6 (oc h6 on))))))))) fun h6 h =>
 cE h (fun h7 h => dE h xGF (p117_e_7 a0) (oc h0 (oc h1 (oc h2 (oc h3 (oc h4 (oc h5 (oc h6 (oc h7 (oc h7 on)))))))))) fun h7 h =>
 cE h (fun h8 h => dE h xGF (p117_e_8 a0) (oc h0 (oc h1 (oc h2 (oc h3 (oc h4 (oc h5 (oc h6 (oc h7 (oc h8 (oc h8 on))))))))))) fun h8 h =>
 cE h (fun h9 h => dE h xGF (p117_e_9 a0) (oc h0 (oc h1 (oc h2 (oc h3 (oc h4 (oc h5 (oc h6 (oc h7 (oc h8 (oc h9 (oc h9 on)))))))))))) fun h9 h =>
 cE h (fun h10 h => dE h xGF (p117_e_10 a0) (oc h0 (oc h1 (oc h2 (oc h3 (oc h4 (oc h5 (oc h6 (oc h7 (oc h8 (oc h9 (oc h10 (oc h10 on))))))))))))) fun h10 h =>
 cE h (fun h11 h => dE h xGF (p117_e_11 a0) (oc h0 (oc h1 (oc h2 (oc h3 (oc h4 (oc h5 (oc h6 (oc h7 (oc h8 (oc h9 (oc h10 (oc h11 (oc h11 on)))))))))))))) fun h11 h =>
 cE h (fun h12 h => dE h xGF (p117_e_12 a0) (oc h0 (oc h1 (oc h2 (oc h3 (oc h4 (oc h5 (oc h6 (oc h7 (oc h8 (oc h9 (oc h10 (oc h11 (oc h12 on)))))))))))))) fun h12 h =>
 cE h (fun h13 h => dE h xGF (p117_e_13 a0) (oc h0 (oc h1 (oc h2 (oc h3 (oc h4 (oc h5 (oc h6 (oc h7 (oc h8 (oc h9 (oc h10 (oc h11 (oc h12 (oc h13 (oc h13 on)))))))))))))))) fun h13 h =>
 cE h (fun h14 h => dE h xGF (p117_e_14 a0) (oc h0 (oc h1 (oc h2 (oc h3 (oc h4 (oc h5 (oc h6 (oc h7 (oc h8 (oc h9 (oc h10 (oc h11 (oc h12 (oc h13 (oc h14 (oc h14 on))))))))))))))))) fun h14 h =>
 cE h (fun h15 h => dE h xGF (p117_e_15 a0) (oc h0 (oc h1 (oc h2 (oc h3 (oc h4 (oc h5 (oc h6 (oc h7 (oc h8 (oc h9 (oc h10 (oc h11 (oc h12 (oc h13 (oc h14 (oc h15 on))))))))))))))))) fun h15 h =>
 cE h (fun h16 h => dE h xGF (p117_e_16 a0) (oc h0 (oc h1 (oc h2 (oc h3 (oc h4 (oc h5 (oc h6 (oc h7 (oc h8 (oc h9 (oc h10 (oc h11 (oc h12 (oc h13 (oc h14 (oc h15 (oc h16 on)))))))))))))))))) fun h16 h =>
 dE h xGF (p117_e_17 a0) (oc h0 (oc h1 (oc h2 (oc h3 (oc h4 (oc h5 (oc h6 (oc h7 (oc h8 (oc h9 (oc h10 (oc h11 (oc h12 (oc h13 (oc h14 (oc h15 (oc h16 on)))))))))))))))))
theorem xC7 {N : Nat} {a0 : Str} {r : Int} (h : xCV N  a0 = some r) : AbC 117 (xAp a0) (xAg r) :=
 AbsCalls.of_reach xGF rfl rfl (Nat.le_of_ble_eq_true rfl) (c117_e a0 r h)
noncomputable def I115 : Info := { body := (Tryz.f115.body).getD .skip, nt := 15, results := [.tmp 2], keep := [0, 4, 6, 8], live := [], modes := [] }
theorem fk115 : FnOk Tryz.prog 115 Tryz.f115 I115 := ⟨Tryz.func115, by kernel_rfl, by kernel_rfl, by kernel_rfl, by kernel_rfl⟩
theorem p115_e_0 (a0 : Str) : rE I115 (xBR a0) [Y, Y] [] = dn (xBF true) [((a0 : Str) == [108, 101, 116]) = true, ((a0 : Str) == [108, 101, 116]) = true] := by kernel_rfl
theorem p115_e_1 (a0 : Str) : rE I115 (xBR a0) [F, Y, Y] [] = dn (xBF true) [((a0 : Str) == [108, 101, 116]) = false, ((a0 : Str) == [105, 110]) = true, ((a0 : Str) == [105, 110]) = true] := by kernel_rfl
theorem p115_e_2 (a0 : Str) : rE I115 (xBR a0) [F, F, Y, Y] [] = dn (xBF true) [((a0 : Str) == [108, 101, 116]) = false, ((a0 : Str) == [105, 110]) = false, ((a0 : Str) == [105, 102]) = true, ((a0 : Str) == [105, 102]) = true] := by kernel_rfl
theorem p115_e_3 (a0 : Str) : rE I115 (xBR a0) [F, F, F, Y, Y] [] = dn (xBF true) [((a0 : Str) == [108, 101, 116]) = false, ((a0 : Str) == [105, 110]) = false, ((a0 : Str) == [105, 102]) = false, ((a0 : Str) == [116, 104, 101, 110]) = true, ((a0 : Str) == [116, 104, 101, 110]) = true] := by kernel_rfl
theorem p115_e_4 (a0 : Str) : rE I115 (xBR a0) [F, F, F, F, Y, Y] [] = dn (xBF true) [((a0 : Str) == [108, 101, 116]) = false, ((a0 : Str) == [105, 110]) = false, ((a0 : Str) == [105, 102]) = false, ((a0 : Str) == [116, 104, 101, 110]) = false, ((a0 : Str) == [101, 108, 115, 101]) = true, ((a0 : Str) == [101, 108, 115, 101]) = true] := by kernel_rfl
theorem p115_e_5 (a0 : Str) : rE I115 (xBR a0) [F, F, F, F, F, Y, Y] [] = dn (xBF true) [((a0 : Str) == [108, 101, 116]) = false, ((a0 : Str) == [105, 110]) = false, ((a0 : Str) == [105, 102]) = false, ((a0 : Str) == [116, 104, 101, 110]) = false, ((a0 : Str) == [101, 108, 115, 101]) = false, ((a0 : Str) == [102, 111, 114]) = true, ((a0 : Str) == [102, 111, 114]) = true] := by kernel_rfl
theorem p115_e_6 (a0 : Str) : rE I115 (xBR a0) [F, F, F, F, F, F, Y] [] = dn (xBF true) [((a0 : Str) == [108, 101, 116]) = false, ((a0 : Str) == [105, 110]) = false, ((a0 : Str) == [105, 102]) = false, ((a0 : Str) == [116, 104, 101, 110]) = false, ((a0 : Str) == [101, 108, 115, 101]) = false, ((a0 : Str) == [102, 111, 114]) = false, ((a0 : Str) == [100, 111]) = true] := by kernel_rfl
theorem p115_e_7 (a0 : Str) (r1 : Int) : rE I115 (xBR a0) [F, F, F, F, F, F, F] [xAg r1] = dn (xBF (decide ((r1 : Int) ≥ 0))) [((a0 : Str) == [108, 101, 116]) = false, ((a0 : Str) == [105, 110]) = false, ((a0 : Str) == [105, 102]) = false, ((a0 : Str) == [116, 104, 101, 110]) = false, ((a0 : Str) == [101, 108, 115, 101]) = false, ((a0 : Str) == [102, 111, 114]) = false, ((a0 : Str) == [100, 111]) = false, AbC 117 (xAp a0) (xAg r1)] := by kernel_rfl
theorem c115_e {N : Nat} : ∀ a0 r, xEI N a0 = some r → RE Tryz.f115 I115 (xBR a0) (xBF r) := fun a0 r h =>
 cE h (fun h0 h => dE h fk115 (p115_e_0 a0) (oc h0 (oc h0 on))) fun h0 h =>
 cE h (fun h1 h => dE h fk115 (p115_e_1 a0) (oc h0 (oc h1 (oc h1 on)))) fun h1 h =>
 cE h (fun h2 h => dE h fk115 (p115_e_2 a0) (oc h0 (oc h1 (oc h2 (oc h2 on))))) fun h2 h =>
 cE h (fun h3 h => dE h fk115 (p115_e_3 a0) (oc h0 (oc h1 (oc h2 (oc h3 (oc h3 on)))))) fun h3 h =>
 cE h (fun h4 h => dE h fk115 (p115_e_4 a0) (oc h0 (oc h1 (oc h2 (oc h3 (oc h4 (oc h4 on))))))) fun h4 h =>
 cE h (fun h5 h => dE h fk115 (p115_e_5 a0) (oc h0 (oc h1 (oc h2 (oc h3 (oc h4 (oc h5 (oc h5 on)))))))) fun h5 h =>
 cE h (fun h6 h => dE h fk115 (p115_e_6 a0) (oc h0 (oc h1 (oc h2 (oc h3 (oc h4 (oc h5 (oc h6 on)))))))) fun h6 h =>
 bE h fun r1 h7 h => dE h fk115 (p115_e_7 a0 r1) (oc h0 (oc h1 (oc h2 (oc h3 (oc h4 (oc h5 (oc h6 (oc (xC7 h7) on))))))))
theorem impl_IsReserved_ok {N : Nat} {a0 : Str} {r : Bool} (h : xEI N  a0 = some r) : AbC 115 (xBR a0) (xBF r) :=
 AbsCalls.of_reach fk115 rfl rfl (Nat.le_of_ble_eq_true rfl) (c115_e a0 r h)
noncomputable def I93 : Info := { body := (Tryz.f93.body).getD .skip, nt := 10, results := [.tmp 2], keep := [0, 4], live := [], modes := [(1, [(2, .take, false)])] }
theorem fk93 : FnOk Tryz.prog 93 Tryz.f93 I93 := ⟨Tryz.func93, by kernel_rfl, by kernel_rfl, by kernel_rfl, by kernel_rfl⟩
theorem p93_e_0 (a0 : Str) (r1 r2 : Bool) : rE I93 (xAW a0) [Y] [xCc r1, xBF r2] = dn (xAn (!r2)) [AbC 114 (xE2 a0) (xCc r1), r1 = true, AbC 115 (xBR a0) (xBF r2)] := by kernel_rfl
theorem p93_e_1 (a0 : Str) (r1 : Bool) : rE I93 (xAW a0) [F] [xCc r1] = dn (xAn false) [AbC 114 (xE2 a0) (xCc r1), r1 = false] := by kernel_rfl
theorem c93_e {N : Nat} : ∀ a0 r, xC1 N a0 = some r → RE Tryz.f93 I93 (xAW a0) (xAn r) := fun a0 r h =>
 bE h fun r1 h0 h => cE h (fun h1 h => bE h fun r2 h2 h => dE h fk93 (p93_e_0 a0 r1 r2) (oc (xHm h0) (oc h1 (oc (impl_IsReserved_ok h2) on)))) fun h1 h =>
 dE h fk93 (p93_e_1 a0 r1) (oc (xHm h0) (oc h1 on))
theorem xBm {N : Nat} {a0 : Str} {r : Bool} (h : xC1 N  a0 = some r) : AbC 93 (xAW a0) (xAn r) :=
 AbsCalls.of_reach fk93 rfl rfl (Nat.le_of_ble_eq_true rfl) (c93_e a0 r h)
noncomputable def I94 : Info := { body := (Tryz.f94.body).getD .skip, nt := 16, results := [.cell 2 25], keep := [0, 4, 14, 1, 5], live := [], modes := [], ext := [0] }
theorem fk94 : FnOk Tryz.prog 94 Tryz.f94 I94 := ⟨Tryz.func94, by kernel_rfl, by kernel_rfl, by kernel_rfl, by kernel_rfl⟩
theorem p94_e_0 (a0 : Psr) : rE I94 (xCh a0) [Y] [] = dn (xA9 ((Exp.mk 0 0 [] []), (Psr.mk (Psr.list a0) (Psr.pos a0) (Psr.pos a0)))) [(decide (((Psr.bad a0) : Int) < 0)) = true] := by kernel_rfl
theorem p94_e_1 (a0 : Psr) : rE I94 (xCh a0) [F] [] = dn (xA9 ((Exp.mk 0 0 [] []), a0)) [(decide (((Psr.bad a0) : Int) < 0)) = false] := by kernel_rfl
theorem c94_e {N : Nat} : ∀ a0 r, xB5 N a0 = some r → RE Tryz.f94 I94 (xCh a0) (xA9 r) := fun a0 r h =>
 cE h (fun h0 h => dE h fk94 (p94_e_0 a0) (oc h0 on)) fun h0 h =>
 dE h fk94 (p94_e_1 a0) (oc h0 on)
theorem xDZ {N : Nat} {a0 : Psr} {r : Exp × Psr} (h : xB5 N  a0 = some r) : AbC 94 (xCh a0) (xA9 r) :=
 AbsCalls.of_reach fk94 rfl rfl (Nat.le_of_ble_eq_true rfl) (c94_e a0 r h)
noncomputable def I52 : Info := { body := (Tryz.f52.body).getD .skip, nt := 26, results := [.tmp 2], keep := [0, 4, 6, 28, 1, 7], live := [], modes := [(2, [(3, .take, false)])], ext := [0] }
theorem fk52 : FnOk Tryz.prog 52 Tryz.f52 I52 := ⟨Tryz.func52, by kernel_rfl, by kernel_rfl, by kernel_rfl, by kernel_rfl⟩
theorem p52_e_0 (a0 : Psr) (r1 : Tok × Psr) (r2 : Exp × Psr) : rE I52 (xC6 a0) [Y, Y] [xAc r1, xA9 r2] = dn (xCi ([], r2.2)) [AbC 51 (xAi a0) (xAc r1), (((Tok.kind r1.1) : Int) != 1) = true, true = true, AbC 94 (xCh r1.2) (xA9 r2)] := by kernel_rfl
theorem p52_e_1 (a0 : Psr) (r1 : Tok × Psr) (r2 : Bool) (r3 : Exp × Psr) : rE I52 (xC6 a0) [F, Y] [xAc r1, xAn r2, xA9 r3] = dn (xCi ([], r3.2)) [AbC 51 (xAi a0) (xAc r1), (((Tok.kind r1.1) : Int) != 1) = false, AbC 93 (xAW (Tok.text r1.1)) (xAn r2), (!r2) = true, AbC 94 (xCh r1.2) (xA9 r3)] := by kernel_rfl
theorem p52_e_2 (a0 : Psr) (r1 : Tok × Psr) (r2 : Bool) : rE I52 (xC6 a0) [F, F] [xAc r1, xAn r2] = dn (xCi ((Tok.text r1.1), (Psr.mk (Psr.list r1.2) (W ((Psr.pos r1.2) + 1)) (Psr.bad r1.2)))) [AbC 51 (xAi a0) (xAc r1), (((Tok.kind r1.1) : Int) != 1) = false, AbC 93 (xAW (Tok.text r1.1)) (xAn r2), (!r2) = false] := by kernel_rfl
theorem c52_e {N : Nat} : ∀ a0 r, xB6 N a0 = some r → RE Tryz.f52 I52 (xC6 a0) (xCi r) := fun a0 r h =>
 bE h fun r1 h0 h => cE h (fun h1 h => bE h fun r2 h3 h => dE h fk52 (p52_e_0 a0 r1 r2) (oc (xAq h0) (oc h1 (oc rfl (oc (xDZ h3) on))))) fun h1 h =>
 bE h fun r2 h2 h => cE h (fun h3 h => bE h fun r3 h4 h => dE h fk52 (p52_e_1 a0 r1 r2 r3) (oc (xAq h0) (oc h1 (oc (xBm h2) (oc h3 (oc (xDZ h4) on)))))) fun h3 h =>
 dE h fk52 (p52_e_2 a0 r1 r2) (oc (xAq h0) (oc h1 (oc (xBm h2) (oc h3 on))))
theorem xFZ {N : Nat} {a0 : Psr} {r : Str × Psr} (h : xB6 N  a0 = some r) : AbC 52 (xC6 a0) (xCi r) :=
 AbsCalls.of_reach fk52 rfl rfl (Nat.le_of_ble_eq_true rfl) (c52_e a0 r h)
noncomputable def I95 : Info := { body := (Tryz.f95.body).getD .skip, nt := 14, results := [.tmp 4], keep := [0, 2, 4, 8, 5], live := [], modes := [(1, [(3, .take, false)])] }
theorem fk95 : FnOk Tryz.prog 95 Tryz.f95 I95 := ⟨Tryz.func95, by kernel_rfl, by kernel_rfl, by kernel_rfl, by kernel_rfl⟩
theorem p95_e_0 (a0 : Tok) (a1 : Str) : rE I95 (xDj a0 a1) [Y] [] = dn (xB3 (((Tok.text a0) : Str) == a1)) [(((Tok.kind a0) : Int) == 4) = true] := by kernel_rfl
theorem p95_e_1 (a0 : Tok) (a1 : Str) : rE I95 (xDj a0 a1) [F] [] = dn (xB3 false) [(((Tok.kind a0) : Int) == 4) = false] := by kernel_rfl
theorem c95_e {N : Nat} : ∀ a0 a1 r, xEV N a0 a1 = some r → RE Tryz.f95 I95 (xDj a0 a1) (xB3 r) := fun a0 a1 r h =>
 cE h (fun h0 h => dE h fk95 (p95_e_0 a0 a1) (oc h0 on)) fun h0 h =>
 dE h fk95 (p95_e_1 a0 a1) (oc h0 on)
theorem xE5 {N : Nat} {a0 : Tok} {a1 : Str} {r : Bool} (h : xEV N  a0 a1 = some r) : AbC 95 (xDj a0 a1) (xB3 r) :=
 AbsCalls.of_reach fk95 rfl rfl (Nat.le_of_ble_eq_true rfl) (c95_e a0 a1 r h)
noncomputable def I53 : Info := { body := (Tryz.f53.body).getD .skip, nt := 23, results := [], keep := [0, 2, 26, 1], live := [], modes := [(0, [(4, .take, false)])], ext := [0] }
theorem fk53 : FnOk Tryz.prog 53 Tryz.f53 I53 := ⟨Tryz.func53, by kernel_rfl, by kernel_rfl, by kernel_rfl, by kernel_rfl⟩
theorem p53_e_0 (a0 : Psr) (a1 : Str) (r1 : Tok × Psr) (r2 : Bool) : rE I53 (xA3 a0 a1) [Y, Y] [xAc r1, xAB r2] = dn (xAy (Psr.mk (Psr.list r1.2) (W ((Psr.pos r1.2) + 1)) (Psr.bad r1.2))) [AbC 51 (xAi a0) (xAc r1), AbC 50 (xBc r1.1 a1) (xAB r2), r2 = true, true = true] := by kernel_rfl
theorem p53_e_1 (a0 : Psr) (a1 : Str) (r1 : Tok × Psr) (r2 : Bool) (r3 : Tok × Psr) (r4 : Bool) : rE I53 (xA3 a0 a1) [F, Y] [xAc r1, xAB r2, xAc r3, xB3 r4] = dn (xAy (Psr.mk (Psr.list r3.2) (W ((Psr.pos r3.2) + 1)) (Psr.bad r3.2))) [AbC 51 (xAi a0) (xAc r1), AbC 50 (xBc r1.1 a1) (xAB r2), r2 = false, AbC 51 (xAi r1.2) (xAc r3), AbC 95 (xDj r3.1 a1) (xB3 r4), r4 = true] := by kernel_rfl
theorem p53_e_2 (a0 : Psr) (a1 : Str) (r1 : Tok × Psr) (r2 : Bool) (r3 : Tok × Psr) (r4 : Bool) (r5 : Exp × Psr) : rE I53 (xA3 a0 a1) [F, F] [xAc r1, xAB r2, xAc r3, xB3 r4, xA9 r5] = dn (xAy r5.2) [AbC 51 (xAi a0) (xAc r1), AbC 50 (xBc r1.1 a1) (xAB r2), r2 = false, AbC 51 (xAi r1.2) (xAc r3), AbC 95 (xDj r3.1 a1) (xB3 r4), r4 = false, AbC 94 (xCh r3.2) (xA9 r5)] := by kernel_rfl
theorem c53_e {N : Nat} : ∀ a0 a1 r, xAN N a0 a1 = some r → RE Tryz.f53 I53 (xA3 a0 a1) (xAy r) := fun a0 a1 r h =>
 bE h fun r1 h0 h => bE h fun r2 h1 h => cE h (fun h2 h => dE h fk53 (p53_e_0 a0 a1 r1 r2) (oc (xAq h0) (oc (xBK h1) (oc h2 (oc rfl on))))) fun h2 h =>
 bE h fun r3 h3 h => bE h fun r4 h4 h => cE h (fun h5 h => dE h fk53 (p53_e_1 a0 a1 r1 r2 r3 r4) (oc (xAq h0) (oc (xBK h1) (oc h2 (oc (xAq h3) (oc (xE5 h4) (oc h5 on))))))) fun h5 h =>
 bE h fun r5 h6 h => dE h fk53 (p53_e_2 a0 a1 r1 r2 r3 r4 r5) (oc (xAq h0) (oc (xBK h1) (oc h2 (oc (xAq h3) (oc (xE5 h4) (oc h5 (oc (xDZ h6) on)))))))
theorem xBW {N : Nat} {a0 : Psr} {a1 : Str} {r : Psr} (h : xAN N  a0 a1 = some r) : AbC 53 (xA3 a0 a1) (xAy r) :=
 AbsCalls.of_reach fk53 rfl rfl (Nat.le_of_ble_eq_true rfl) (c53_e a0 a1 r h)
noncomputable def I55 : Info := { body := (Tryz.f55.body).getD .skip, nt := 16, results := [.tmp 4], keep := [0, 2, 8, 16, 1], live := [], modes := [], ext := [0] }
theorem fk55 : FnOk Tryz.prog 55 Tryz.f55 I55 := ⟨Tryz.func55, by kernel_rfl, by kernel_rfl, by kernel_rfl, by kernel_rfl⟩
theorem p55_e_0 (a0 : Psr) (a1 : Str) (r1 : Tok × Psr) (r2 : Bool) : rE I55 (xAm a0 a1) [Y] [xAc r1, xB3 r2] = dn (xAd (true, (Psr.mk (Psr.list r1.2) (W ((Psr.pos r1.2) + 1)) (Psr.bad r1.2)))) [AbC 51 (xAi a0) (xAc r1), AbC 95 (xDj r1.1 a1) (xB3 r2), r2 = true] := by kernel_rfl
theorem p55_e_1 (a0 : Psr) (a1 : Str) (r1 : Tok × Psr) (r2 : Bool) : rE I55 (xAm a0 a1) [F] [xAc r1, xB3 r2] = dn (xAd (false, r1.2)) [AbC 51 (xAi a0) (xAc r1), AbC 95 (xDj r1.1 a1) (xB3 r2), r2 = false] := by kernel_rfl
theorem c55_e {N : Nat} : ∀ a0 a1 r, xAR N a0 a1 = some r → RE Tryz.f55 I55 (xAm a0 a1) (xAd r) := fun a0 a1 r h =>
 bE h fun r1 h0 h => bE h fun r2 h1 h => cE h (fun h2 h => dE h fk55 (p55_e_0 a0 a1 r1 r2) (oc (xAq h0) (oc (xE5 h1) (oc h2 on)))) fun h2 h =>
 dE h fk55 (p55_e_1 a0 a1 r1 r2) (oc (xAq h0) (oc (xE5 h1) (oc h2 on)))
theorem xAv {N : Nat} {a0 : Psr} {a1 : Str} {r : Bool × Psr} (h : xAR N  a0 a1 = some r) : AbC 55 (xAm a0 a1) (xAd r) :=
 AbsCalls.of_reach fk55 rfl rfl (Nat.le_of_ble_eq_true rfl) (c55_e a0 a1 r h)
noncomputable def I56 : Info := { body := (Tryz.f56.body).getD .skip, nt := 11, results := [.tmp 2], keep := [0, 4, 10], live := [], modes := [] }
theorem fk56 : FnOk Tryz.prog 56 Tryz.f56 I56 := ⟨Tryz.func56, by kernel_rfl, by kernel_rfl, by kernel_rfl, by kernel_rfl⟩
theorem p56_e_0 (a0 : Int) (r1 : Bool) : rE I56 (xDk a0) [Y] [xA5 r1] = dn (xB4 [63]) [AbC 97 (xCl a0 1 5) (xA5 r1), (!r1) = true] := by kernel_rfl
theorem p56_e_1 (a0 : Int) (r1 : Bool) : rE I56 (xDk a0) [F] [xA5 r1] = dn (xB4 (gD [[43], [45], [42], [60], [61, 61]] (tN (W (a0 - 1))) Ty.str.dflt)) [AbC 97 (xCl a0 1 5) (xA5 r1), (!r1) = false, (0 : Int) ≤ (W (a0 - 1)) ∧ (W (a0 - 1)) < (Ln [[43], [45], [42], [60], [61, 61]])] := by kernel_rfl
theorem c56_e {N : Nat} : ∀ a0 r, xEb N a0 = some r → RE Tryz.f56 I56 (xDk a0) (xB4 r) := fun a0 r h =>
 bE h fun r1 h0 h => cE h (fun h1 h => dE h fk56 (p56_e_0 a0 r1) (oc (xDy h0) (oc h1 on))) fun h1 h =>
 iE h fun h2 h => dE h fk56 (p56_e_1 a0 r1) (oc (xDy h0) (oc h1 (oc h2 on)))
theorem xE6 {N : Nat} {a0 : Int} {r : Str} (h : xEb N  a0 = some r) : AbC 56 (xDk a0) (xB4 r) :=
 AbsCalls.of_reach fk56 rfl rfl (Nat.le_of_ble_eq_true rfl) (c56_e a0 r h)
def G116 (q : Psr → Option (Exp × Psr)) : Prop := ∀ a0 r, q a0 = some r → AbC 116 (xA2 a0) (xAX r)
def G31 (q : Psr → Option (Exp × Psr)) : Prop := ∀ a0 r, q a0 = some r → AbC 31 (xAk a0) (xAe r)
def G131 (q : Psr → Str → Option ((List Exp) × Psr)) : Prop := ∀ a0 a1 r, q a0 a1 = some r → AbC 131 (xCo a0 a1) (xBd r)
def G96 (q : Psr → Option (Exp × Psr)) : Prop := ∀ a0 r, q a0 = some r → AbC 96 (xCs a0) (xBj r)
def G54 (q : Psr → Option (Exp × Psr)) : Prop := ∀ a0 r, q a0 = some r → AbC 54 (xDJ a0) (xCe r)
noncomputable def I116 : Info := { body := (Tryz.f116.body).getD .skip, nt := 94, results := [.cell 2 25], keep := [0, 4, 6, 8, 14, 42, 70, 108, 156, 168, 1, 5, 7, 9], live := [], modes := [(8, [(3, .take, false)]), (11, [(3, .take, false)]), (20, [(0, .take, false)])], ext := [0] }
theorem fk116 : FnOk Tryz.prog 116 Tryz.f116 I116 := ⟨Tryz.func116, by kernel_rfl, by kernel_rfl, by kernel_rfl, by kernel_rfl⟩
theorem p116_e_0 (a0 : Psr) (r1 : Tok × Psr) : rE I116 (xA2 a0) [Y] [xAc r1] = dn (xAX ((Exp.mk 1 (Tok.n r1.1) [] []), (Psr.mk (Psr.list r1.2) (W ((Psr.pos r1.2) + 1)) (Psr.bad r1.2)))) [AbC 51 (xAi a0) (xAc r1), (((Tok.kind r1.1) : Int) == 2) = true] := by kernel_rfl
theorem p116_e_1 (a0 : Psr) (r1 : Tok × Psr) : rE I116 (xA2 a0) [F, Y] [xAc r1] = dn (xAX ((Exp.mk 2 0 (Tok.text r1.1) []), (Psr.mk (Psr.list r1.2) (W ((Psr.pos r1.2) + 1)) (Psr.bad r1.2)))) [AbC 51 (xAi a0) (xAc r1), (((Tok.kind r1.1) : Int) == 2) = false, (((Tok.kind r1.1) : Int) == 3) = true] := by kernel_rfl
theorem p116_e_2 (a0 : Psr) (r1 : Tok × Psr) (r2 : Bool) : rE I116 (xA2 a0) [F, F, Y, Y] [xAc r1, xAn r2] = dn (xAX ((Exp.mk 3 0 (Tok.text r1.1) []), (Psr.mk (Psr.list r1.2) (W ((Psr.pos r1.2) + 1)) (Psr.bad r1.2)))) [AbC 51 (xAi a0) (xAc r1), (((Tok.kind r1.1) : Int) == 2) = false, (((Tok.kind r1.1) : Int) == 3) = false, (((Tok.kind r1.1) : Int) == 1) = true, AbC 93 (xAW (Tok.text r1.1)) (xAn r2), r2 = true] := by kernel_rfl
theorem p116_e_3 (a0 : Psr) (r1 : Tok × Psr) (r2 : Bool) (r3 : Int) (r4 : Psr) (r5 : (List Exp) × Psr) : rE I116 (xA2 a0) [F, F, Y, F, Y, Y] [xAc r1, xAn r2, xAg r3, xAy r4, xBd r5] = dn (xAX ((Exp.mk 5 0 (Tok.text r1.1) r5.1), r5.2)) [AbC 51 (xAi a0) (xAc r1), (((Tok.kind r1.1) : Int) == 2) = false, (((Tok.kind r1.1) : Int) == 3) = false, (((Tok.kind r1.1) : Int) == 1) = true, AbC 93 (xAW (Tok.text r1.1)) (xAn r2), r2 = false, (((Tok.kind r1.1) : Int) == 1) = true, AbC 117 (xAp (Tok.text r1.1)) (xAg r3), (decide ((r3 : Int) ≥ 0)) = true, AbC 53 (xA3 (Psr.mk (Psr.list r1.2) (W ((Psr.pos r1.2) + 1)) (Psr.bad r1.2)) [40]) (xAy r4), AbC 131 (xCo r4 [41]) (xBd r5)] := by kernel_rfl
theorem p116_e_4 (a0 : Psr) (r1 : Tok × Psr) (r2 : Bool) (r3 : Int) (r4 : Bool × Psr) (r5 : (List Exp) × Psr) : rE I116 (xA2 a0) [F, F, Y, F, Y, F, Y] [xAc r1, xAn r2, xAg r3, xAd r4, xBd r5] = dn (xAX ((Exp.mk 4 0 [] r5.1), r5.2)) [AbC 51 (xAi a0) (xAc r1), (((Tok.kind r1.1) : Int) == 2) = false, (((Tok.kind r1.1) : Int) == 3) = false, (((Tok.kind r1.1) : Int) == 1) = true, AbC 93 (xAW (Tok.text r1.1)) (xAn r2), r2 = false, (((Tok.kind r1.1) : Int) == 1) = true, AbC 117 (xAp (Tok.text r1.1)) (xAg r3), (decide ((r3 : Int) ≥ 0)) = false, AbC 55 (xAm r1.2 [91]) (xAd r4), r4.1 = true, AbC 131 (xCo r4.2 [93]) (xBd r5)] := by kernel_rfl
theorem p116_e_5 (a0 : Psr) (r1 : Tok × Psr) (r2 : Bool) (r3 : Int) (r4 : Bool × Psr) (r5 : Bool × Psr) (r6 : Exp × Psr) (r7 : Psr) : rE I116 (xA2 a0) [F, F, Y, F, Y, F, F, Y] [xAc r1, xAn r2, xAg r3, xAd r4, xAd r5, xAe r6, xAy r7] = dn (xAX (r6.1, r7)) [AbC 51 (xAi a0) (xAc r1), (((Tok.kind r1.1) : Int) == 2) = false, (((Tok.kind r1.1) : Int) == 3) = false, (((Tok.kind r1.1) : Int) == 1) = true, AbC 93 (xAW (Tok.text r1.1)) (xAn r2), r2 = false, (((Tok.kind r1.1) : Int) == 1) = true, AbC 117 (xAp (Tok.text r1.1)) (xAg r3), (decide ((r3 : Int) ≥ 0)) = false, AbC 55 (xAm r1.2 [91]) (xAd r4), r4.1 = false, AbC 55 (xAm r4.2 [40]) (xAd r5), r5.1 = true, AbC 31 (xAk r5.2) (xAe r6), AbC 53 (xA3 r6.2 [41]) (xAy r7)] := by kernel_rfl
theorem p116_e_6 (a0 : Psr) (r1 : Tok × Psr) (r2 : Bool) (r3 : Int) (r4 : Bool × Psr) (r5 : Bool × Psr) (r6 : Exp × Psr) : rE I116 (xA2 a0) [F, F, Y, F, Y, F, F, F] [xAc r1, xAn r2, xAg r3, xAd r4, xAd r5, xA9 r6] = dn (xAX (r6.1, r6.2)) [AbC 51 (xAi a0) (xAc r1), (((Tok.kind r1.1) : Int) == 2) = false, (((Tok.kind r1.1) : Int) == 3) = false, (((Tok.kind r1.1) : Int) == 1) = true, AbC 93 (xAW (Tok.text r1.1)) (xAn r2), r2 = false, (((Tok.kind r1.1) : Int) == 1) = true, AbC 117 (xAp (Tok.text r1.1)) (xAg r3), (decide ((r3 : Int) ≥ 0)) = false, AbC 55 (xAm r1.2 [91]) (xAd r4), r4.1 = false, AbC 55 (xAm r4.2 [40]) (xAd r5), r5.1 = false, AbC 94 (xCh r5.2) (xA9 r6)] := by kernel_rfl
theorem p116_e_7 (a0 : Psr) (r1 : Tok × Psr) (r2 : Bool × Psr) (r3 : (List Exp) × Psr) : rE I116 (xA2 a0) [F, F, F, F, F, F, Y] [xAc r1, xAd r2, xBd r3] = dn (xAX ((Exp.mk 4 0 [] r3.1), r3.2)) [AbC 51 (xAi a0) (xAc r1), (((Tok.kind r1.1) : Int) == 2) = false, (((Tok.kind r1.1) : Int) == 3) = false, (((Tok.kind r1.1) : Int) == 1) = false, false = false, (((Tok.kind r1.1) : Int) == 1) = false, false = false, AbC 55 (xAm r1.2 [91]) (xAd r2), r2.1 = true, AbC 131 (xCo r2.2 [93]) (xBd r3)] := by kernel_rfl
theorem p116_e_8 (a0 : Psr) (r1 : Tok × Psr) (r2 : Bool × Psr) (r3 : Bool × Psr) (r4 : Exp × Psr) (r5 : Psr) : rE I116 (xA2 a0) [F, F, F, F, F, F, F, Y] [xAc r1, xAd r2, xAd r3, xAe r4, xAy r5] = dn (xAX (r4.1, r5)) [AbC 51 (xAi a0) (xAc r1), (((Tok.kind r1.1) : Int) == 2) = false, (((Tok.kind r1.1) : Int) == 3) = false, (((Tok.kind r1.1) : Int) == 1) = false, false = false, (((Tok.kind r1.1) : Int) == 1) = false, false = false, AbC 55 (xAm r1.2 [91]) (xAd r2), r2.1 = false, AbC 55 (xAm r2.2 [40]) (xAd r3), r3.1 = true, AbC 31 (xAk r3.2) (xAe r4), AbC 53 (xA3 r4.2 [41]) (xAy r5)] := by kernel_rfl
theorem p116_e_9 (a0 : Psr) (r1 : Tok × Psr) (r2 : Bool × Psr) (r3 : Bool × Psr) (r4 : Exp × Psr) : rE I116 (xA2 a0) [F, F, F, F, F, F, F, F] [xAc r1, xAd r2, xAd r3, xA9 r4] = dn (xAX (r4.1, r4.2)) [AbC 51 (xAi a0) (xAc r1), (((Tok.kind r1.1) : Int) == 2) = false, (((Tok.kind r1.1) : Int) == 3) = false, (((Tok.kind r1.1) : Int) == 1) = false, false = false, (((Tok.kind r1.1) : Int) == 1) = false, false = false, AbC 55 (xAm r1.2 [91]) (xAd r2), r2.1 = false, AbC 55 (xAm r2.2 [40]) (xAd r3), r3.1 = false, AbC 94 (xCh r3.2) (xA9 r4)] := by kernel_rfl
theorem c116_e {N : Nat} {q0 : Psr → Option (Exp × Psr)} (g0 : G116 q0) {q1 : Psr → Option (Exp × Psr)} (g1 : G31 q1) {q2 : Psr → Str → Option ((List Exp) × Psr)} (g2 : G131 q2) {q3 : Psr → Option (Exp × Psr)} (g3 : G96 q3) {q4 : Psr → Option (Exp × Psr)} (g4 : G54 q4) : ∀ a0 r, xCz N q0 q1 q2 q3 q4 a0 = some r → RE Tryz.f116 I116 (xA2 a0) (xAX r) := fun a0 r h =>
 bE h fun r1 h0 h => cE h (fun h1 h => dE h fk116 (p116_e_0 a0 r1) (oc (xAq h0) (oc h1 on))) fun h1 h =>
 cE h (fun h2 h => dE h fk116 (p116_e_1 a0 r1) (oc (xAq h0) (oc h1 (oc h2 on)))) fun h2 h =>
 cE h (fun h3 h => bE h fun r2 h4 h => cE h (fun h5 h => dE h fk116 (p116_e_2 a0 r1 r2) (oc (xAq h0) (oc h1 (oc h2 (oc h3 (oc (xBm h4) (oc h5 on))))))) fun h5 h =>
 bE h fun r3 h7 h => cE h (fun h8 h => bE h fun r4 h9 h => bE h fun r5 h10 h => dE h fk116 (p116_e_3 a0 r1 r2 r3 r4 r5) (oc (xAq h0) (oc h1 (oc h2 (oc h3 (oc (xBm h4) (oc h5 (oc h3 (oc (xC7 h7) (oc h8 (oc (xBW h9) (oc (g2 _ _ _ h10) on)))))))))))) fun h8 h =>
 bE h fun r4 h9 h => cE h (fun h10 h => bE h fun r5 h11 h => dE h fk116 (p116_e_4 a0 r1 r2 r3 r4 r5) (oc (xAq h0) (oc h1 (oc h2 (oc h3 (oc (xBm h4) (oc h5 (oc h3 (oc (xC7 h7) (oc h8 (oc (xAv h9) (oc h10 (oc (g2 _ _ _ h11) on))))))))))))) fun h10 h =>
 bE h fun r5 h11 h => cE h (fun h12 h => bE h fun r6 h13 h => bE h fun r7 h14 h => dE h fk116 (p116_e_5 a0 r1 r2 r3 r4 r5 r6 r7) (oc (xAq h0) (oc h1 (oc h2 (oc h3 (oc (xBm h4) (oc h5 (oc h3 (oc (xC7 h7) (oc h8 (oc (xAv h9) (oc h10 (oc (xAv h11) (oc h12 (oc (g1 _ _ h13) (oc (xBW h14) on)))))))))))))))) fun h12 h =>
 bE h fun r6 h13 h => dE h fk116 (p116_e_6 a0 r1 r2 r3 r4 r5 r6) (oc (xAq h0) (oc h1 (oc h2 (oc h3 (oc (xBm h4) (oc h5 (oc h3 (oc (xC7 h7) (oc h8 (oc (xAv h9) (oc h10 (oc (xAv h11) (oc h12 (oc (xDZ h13) on))))))))))))))) fun h3 h =>
 bE h fun r2 h7 h => cE h (fun h8 h => bE h fun r3 h9 h => dE h fk116 (p116_e_7 a0 r1 r2 r3) (oc (xAq h0) (oc h1 (oc h2 (oc h3 (oc rfl (oc h3 (oc rfl (oc (xAv h7) (oc h8 (oc (g2 _ _ _ h9) on))))))))))) fun h8 h =>
 bE h fun r3 h9 h => cE h (fun h10 h => bE h fun r4 h11 h => bE h fun r5 h12 h => dE h fk116 (p116_e_8 a0 r1 r2 r3 r4 r5) (oc (xAq h0) (oc h1 (oc h2 (oc h3 (oc rfl (oc h3 (oc rfl (oc (xAv h7) (oc h8 (oc (xAv h9) (oc h10 (oc (g1 _ _ h11) (oc (xBW h12) on)))))))))))))) fun h10 h =>
 bE h fun r4 h11 h => dE h fk116 (p116_e_9 a0 r1 r2 r3 r4) (oc (xAq h0) (oc h1 (oc h2 (oc h3 (oc rfl (oc h3 (oc rfl (oc (xAv h7) (oc h8 (oc (xAv h9) (oc h10 (oc (xDZ h11) on))))))))))))
theorem xGw {N : Nat} {q0 : Psr → Option (Exp × Psr)} (g0 : G116 q0) {q1 : Psr → Option (Exp × Psr)} (g1 : G31 q1) {q2 : Psr → Str → Option ((List Exp) × Psr)} (g2 : G131 q2) {q3 : Psr → Option (Exp × Psr)} (g3 : G96 q3) {q4 : Psr → Option (Exp × Psr)} (g4 : G54 q4) {a0 : Psr} {r : Exp × Psr} (h : xCz N q0 q1 q2 q3 q4 a0 = some r) : AbC 116 (xA2 a0) (xAX r) :=
 AbsCalls.of_reach fk116 rfl rfl (Nat.le_of_ble_eq_true rfl) (c116_e g0 g1 g2 g3 g4 a0 r h)
noncomputable def I31 : Info := { body := (Tryz.f31.body).getD .skip, nt := 133, results := [.cell 2 25], keep := [0, 4, 6, 8, 10, 12, 16, 18, 84, 160, 230, 232, 234, 236, 248, 1, 5, 7, 9, 11, 13], live := [(28, [0, 4, 12, 230, 232, 234, 1, 5, 13])], modes := [(5, [(1, .take, false), (5, .take, false)]), (7, [(1, .take, false), (5, .take, false)]), (8, [(0, .take, false)]), (12, [(1, .take, false), (5, .take, false)]), (14, [(1, .take, false), (5, .take, false)]), (16, [(1, .take, false), (5, .take, false)]), (17, [(0, .take, false)]), (22, [(1, .take, false), (5, .take, false)]), (24, [(1, .take, false), (5, .take, false)]), (25, [(0, .take, false)]), (31, [(1, .take, false)]), (32, [(1, .take, false)]), (33, [(0, .take, false)])], ext := [0] }
theorem fk31 : FnOk Tryz.prog 31 Tryz.f31 I31 := ⟨Tryz.func31, by kernel_rfl, by kernel_rfl, by kernel_rfl, by kernel_rfl⟩
def S31_28 (x115 : List Int) (x116 x117 : Int) (b0 : Psr) (b2 b6 : Exp) : St := [(0, .v false [.ptr 0 0]), (4, .v false [.ptr 2 0]), (12, .v false [.ptr 6 0]), (230, .v false [.sl .own .int x115]), (232, .v false [.int .i64 x116]), (234, .v false [.int .i64 x117]), (1, .v true [.sl .ro .tok (Psr.list b0), .int .i64 (Psr.pos b0), .int .i64 (Psr.bad b0)]), (5, .v true [.int .i64 (Exp.kind b2), .int .i64 (Exp.n b2), .str (Exp.text b2), .sl .own .exp (Exp.args b2)]), (13, .v true [.int .i64 (Exp.kind b6), .int .i64 (Exp.n b6), .str (Exp.text b6), .sl .own .exp (Exp.args b6)])]
theorem p31_28_0 (x115 : List Int) (x116 x117 : Int) (b0 : Psr) (b2 b6 : Exp) (r1 : Str) (r2 : Bool × Psr) (r3 : Exp × Psr) : rS 28 I31 (S31_28 x115 x116 x117 b0 b2 b6) [Y, Y] [xB4 r1, xAd r2, xCe r3] = dn (xAe ((Exp.mk 6 (gD x115 (tN x117) Ty.int.dflt) [] [(Exp.re b6), (Exp.re r3.1)]), r3.2)) [(decide ((x117 : Int) < x116)) = true, (0 : Int) ≤ x117 ∧ x117 < (Ln x115), AbC 56 (xDk (gD x115 (tN x117) Ty.int.dflt)) (xB4 r1), AbC 55 (xAm b0 r1) (xAd r2), r2.1 = true, AbC 54 (xDJ r2.2) (xCe r3)] := by kernel_rfl
theorem p31_28_1 (x115 : List Int) (x116 x117 : Int) (b0 : Psr) (b2 b6 : Exp) (r1 : Str) (r2 : Bool × Psr) : rS 28 I31 (S31_28 x115 x116 x117 b0 b2 b6) [Y, F] [xB4 r1, xAd r2] = st 28 I31 (S31_28 x115 x116 (W (x117 + 1)) r2.2 b2 b6) [(decide ((x117 : Int) < x116)) = true, (0 : Int) ≤ x117 ∧ x117 < (Ln x115), AbC 56 (xDk (gD x115 (tN x117) Ty.int.dflt)) (xB4 r1), AbC 55 (xAm b0 r1) (xAd r2), r2.1 = false] := by kernel_rfl
theorem p31_28_2 (x115 : List Int) (x116 x117 : Int) (b0 : Psr) (b2 b6 : Exp) : rS 28 I31 (S31_28 x115 x116 x117 b0 b2 b6) [F] [] = dn (xAe (b6, b0)) [(decide ((x117 : Int) < x116)) = false] := by kernel_rfl
theorem p31_e_3 (a0 : Psr) (r1 : Tok × Psr) (r2 : Bool) (r3 : Str × Psr) (r4 : Psr) (r5 : Exp × Psr) (r6 : Psr) (r7 : Exp × Psr) : rE I31 (xAk a0) [Y] [xAc r1, xAB r2, xCi r3, xAy r4, xAe r5, xAy r6, xAe r7] = dn (xAe ((Exp.mk 7 0 r3.1 (([] ++ [(Exp.re r5.1)]) ++ [(Exp.re r7.1)])), r7.2)) [AbC 51 (xAi a0) (xAc r1), AbC 50 (xBc r1.1 [108, 101, 116]) (xAB r2), r2 = true, AbC 52 (xC6 (Psr.mk (Psr.list r1.2) (W ((Psr.pos r1.2) + 1)) (Psr.bad r1.2))) (xCi r3), AbC 53 (xA3 r3.2 [61]) (xAy r4), AbC 31 (xAk r4) (xAe r5), 0 + Ln [(Exp.re r5.1)] ≤ Lim, AbC 53 (xA3 r5.2 [105, 110]) (xAy r6), AbC 31 (xAk r6) (xAe r7), Ln ([] ++ [(Exp.re r5.1)]) + Ln [(Exp.re r7.1)] ≤ Lim] := by kernel_rfl
theorem p31_e_4 (a0 : Psr) (r1 : Tok × Psr) (r2 : Bool) (r3 : Tok × Psr) (r4 : Bool) (r5 : Exp × Psr) (r6 : Psr) (r7 : Exp × Psr) (r8 : Psr) (r9 : Exp × Psr) : rE I31 (xAk a0) [F, Y] [xAc r1, xAB r2, xAc r3, xAB r4, xAe r5, xAy r6, xAe r7, xAy r8, xAe r9] = dn (xAe ((Exp.mk 8 0 [] ((([] ++ [(Exp.re r5.1)]) ++ [(Exp.re r7.1)]) ++ [(Exp.re r9.1)])), r9.2)) [AbC 51 (xAi a0) (xAc r1), AbC 50 (xBc r1.1 [108, 101, 116]) (xAB r2), r2 = false, AbC 51 (xAi r1.2) (xAc r3), AbC 50 (xBc r3.1 [105, 102]) (xAB r4), r4 = true, AbC 31 (xAk (Psr.mk (Psr.list r3.2) (W ((Psr.pos r3.2) + 1)) (Psr.bad r3.2))) (xAe r5), 0 + Ln [(Exp.re r5.1)] ≤ Lim, AbC 53 (xA3 r5.2 [116, 104, 101, 110]) (xAy r6), AbC 31 (xAk r6) (xAe r7), Ln ([] ++ [(Exp.re r5.1)]) + Ln [(Exp.re r7.1)] ≤ Lim, AbC 53 (xA3 r7.2 [101, 108, 115, 101]) (xAy r8), AbC 31 (xAk r8) (xAe r9), Ln (([] ++ [(Exp.re r5.1)]) ++ [(Exp.re r7.1)]) + Ln [(Exp.re r9.1)] ≤ Lim] := by kernel_rfl
theorem p31_e_5 (a0 : Psr) (r1 : Tok × Psr) (r2 : Bool) (r3 : Tok × Psr) (r4 : Bool) (r5 : Tok × Psr) (r6 : Bool) (r7 : Str × Psr) (r8 : Psr) (r9 : Exp × Psr) (r10 : Psr) (r11 : Exp × Psr) : rE I31 (xAk a0) [F, F, Y] [xAc r1, xAB r2, xAc r3, xAB r4, xAc r5, xAB r6, xCi r7, xAy r8, xAe r9, xAy r10, xAe r11] = dn (xAe ((Exp.mk 9 0 r7.1 (([] ++ [(Exp.re r9.1)]) ++ [(Exp.re r11.1)])), r11.2)) [AbC 51 (xAi a0) (xAc r1), AbC 50 (xBc r1.1 [108, 101, 116]) (xAB r2), r2 = false, AbC 51 (xAi r1.2) (xAc r3), AbC 50 (xBc r3.1 [105, 102]) (xAB r4), r4 = false, AbC 51 (xAi r3.2) (xAc r5), AbC 50 (xBc r5.1 [102, 111, 114]) (xAB r6), r6 = true, AbC 52 (xC6 (Psr.mk (Psr.list r5.2) (W ((Psr.pos r5.2) + 1)) (Psr.bad r5.2))) (xCi r7), AbC 53 (xA3 r7.2 [105, 110]) (xAy r8), AbC 31 (xAk r8) (xAe r9), 0 + Ln [(Exp.re r9.1)] ≤ Lim, AbC 53 (xA3 r9.2 [100, 111]) (xAy r10), AbC 31 (xAk r10) (xAe r11), Ln ([] ++ [(Exp.re r9.1)]) + Ln [(Exp.re r11.1)] ≤ Lim] := by kernel_rfl
theorem p31_e_6 (a0 : Psr) (r1 : Tok × Psr) (r2 : Bool) (r3 : Tok × Psr) (r4 : Bool) (r5 : Tok × Psr) (r6 : Bool) (r7 : Exp × Psr) : rE I31 (xAk a0) [F, F, F] [xAc r1, xAB r2, xAc r3, xAB r4, xAc r5, xAB r6, xCe r7] = st 28 I31 (S31_28 [4, 5] (Ln [4, 5] : Int) 0 r7.2 (Exp.mk 0 0 [] []) r7.1) [AbC 51 (xAi a0) (xAc r1), AbC 50 (xBc r1.1 [108, 101, 116]) (xAB r2), r2 = false, AbC 51 (xAi r1.2) (xAc r3), AbC 50 (xBc r3.1 [105, 102]) (xAB r4), r4 = false, AbC 51 (xAi r3.2) (xAc r5), AbC 50 (xBc r5.1 [102, 111, 114]) (xAB r6), r6 = false, AbC 54 (xDJ r5.2) (xCe r7)] := by kernel_rfl
theorem c31_28 {N : Nat} {q0 : Psr → Option (Exp × Psr)} (g0 : G116 q0) {q1 : Psr → Option (Exp × Psr)} (g1 : G31 q1) {q2 : Psr → Str → Option ((List Exp) × Psr)} (g2 : G131 q2) {q3 : Psr → Option (Exp × Psr)} (g3 : G96 q3) {q4 : Psr → Option (Exp × Psr)} (g4 : G54 q4) : ∀ n x115 x116 x117 b0 b2 b6 r, xCQ N q0 q1 q2 q3 q4 n x115 x116 x117 b0 b2 b6 = some r → RS Tryz.f31 I31 28 (S31_28 x115 x116 x117 b0 b2 b6) (xAe r) := by
 intro n
 induction n with
 | zero => exact fun _ _ _ _ _ _ _ h => nE h
 | succ n ih =>
  exact fun x115 x116 x117 b0 b2 b6 r h =>
   cE h (fun h0 h => iE h fun h1 h => bE h fun r1 h2 h => bE h fun r2 h3 h => cE h (fun h4 h => bE h fun r3 h5 h => dS h fk31 (p31_28_0 x115 x116 x117 b0 b2 b6 r1 r2 r3) (oc h0 (oc h1 (oc (xE6 h2) (oc (xAv h3) (oc h4 (oc (g4 _ _ h5) on))))))) fun h4 h =>
   tS fk31 (p31_28_1 x115 x116 x117 b0 b2 b6 r1 r2) (oc h0 (oc h1 (oc (xE6 h2) (oc (xAv h3) (oc h4 on))))) (ih _ _ _ _ _ _ _ h)) fun h0 h =>
   dS h fk31 (p31_28_2 x115 x116 x117 b0 b2 b6) (oc h0 on)
theorem c31_e {N : Nat} {q0 : Psr → Option (Exp × Psr)} (g0 : G116 q0) {q1 : Psr → Option (Exp × Psr)} (g1 : G31 q1) {q2 : Psr → Str → Option ((List Exp) × Psr)} (g2 : G131 q2) {q3 : Psr → Option (Exp × Psr)} (g3 : G96 q3) {q4 : Psr → Option (Exp × Psr)} (g4 : G54 q4) : ∀ a0 r, xCA N q0 q1 q2 q3 q4 a0 = some r → RE Tryz.f31 I31 (xAk a0) (xAe r) := fun a0 r h =>
 bE h fun r1 h0 h => bE h fun r2 h1 h => cE h (fun h2 h => bE h fun r3 h3 h => bE h fun r4 h4 h => bE h fun r5 h5 h => iE h fun h6 h => bE h fun r6 h7 h => bE h fun r7 h8 h => iE h fun h9 h => dE h fk31 (p31_e_3 a0 r1 r2 r3 r4 r5 r6 r7) (oc (xAq h0) (oc (xBK h1) (oc h2 (oc (xFZ h3) (oc (xBW h4) (oc (g1 _ _ h5) (oc h6 (oc (xBW h7) (oc (g1 _ _ h8) (oc h9 on))))))))))) fun h2 h =>
 bE h fun r3 h3 h => bE h fun r4 h4 h => cE h (fun h5 h => bE h fun r5 h6 h => iE h fun h7 h => bE h fun r6 h8 h => bE h fun r7 h9 h => iE h fun h10 h => bE h fun r8 h11 h => bE h fun r9 h12 h => iE h fun h13 h => dE h fk31 (p31_e_4 a0 r1 r2 r3 r4 r5 r6 r7 r8 r9) (oc (xAq h0) (oc (xBK h1) (oc h2 (oc (xAq h3) (oc (xBK h4) (oc h5 (oc (g1 _ _ h6) (oc h7 (oc (xBW h8) (oc (g1 _ _ h9) (oc h10 (oc (xBW h11) (oc (g1 _ _ h12) (oc h13 on))))))))))))))) fun h5 h =>
 bE h fun r5 h6 h => bE h fun r6 h7 h => cE h (fun h8 h => bE h fun r7 h9 h => bE h fun r8 h10 h => bE h fun r9 h11 h => iE h fun h12 h => bE h fun r10 h13 h => bE h fun r11 h14 h => iE h fun h15 h => dE h fk31 (p31_e_5 a0 r1 r2 r3 r4 r5 r6 r7 r8 r9 r10 r11) (oc (xAq h0) (oc (xBK h1) (oc h2 (oc (xAq h3) (oc (xBK h4) (oc h5 (oc (xAq h6) (oc (xBK h7) (oc h8 (oc (xFZ h9) (oc (xBW h10) (oc (g1 _ _ h11) (oc h12 (oc (xBW h13) (oc (g1 _ _ h14) (oc h15 on))))))))))))))))) fun h8 h =>
 bE h fun r7 h9 h => tE fk31 (p31_e_6 a0 r1 r2 r3 r4 r5 r6 r7) (oc (xAq h0) (oc (xBK h1) (oc h2 (oc (xAq h3) (oc (xBK h4) (oc h5 (oc (xAq h6) (oc (xBK h7) (oc h8 (oc (g4 _ _ h9) on)))))))))) (c31_28 g0 g1 g2 g3 g4 _ _ _ _ _ _ _ _ h)
theorem xGx {N : Nat} {q0 : Psr → Option (Exp × Psr)} (g0 : G116 q0) {q1 : Psr → Option (Exp × Psr)} (g1 : G31 q1) {q2 : Psr → Str → Option ((List Exp) × Psr)} (g2 : G131 q2) {q3 : Psr → Option (Exp × Psr)} (g3 : G96 q3) {q4 : Psr → Option (Exp × Psr)} (g4 : G54 q4) {a0 : Psr} {r : Exp × Psr} (h : xCA N q0 q1 q2 q3 q4 a0 = some r) : AbC 31 (xAk a0) (xAe r) :=
 AbsCalls.of_reach fk31 rfl rfl (Nat.le_of_ble_eq_true rfl) (c31_e g0 g1 g2 g3 g4 a0 r h)
noncomputable def I131 : Info := { body := (Tryz.f131.body).getD .skip, nt := 27, results := [.tmp 4], keep := [0, 2, 8, 10, 18, 30, 46, 1], live := [(4, [0, 2, 10, 1])], modes := [(3, [(0, .take, false)]), (5, [(0, .take, false), (4, .take, false)]), (8, [(0, .take, false)])], ext := [0] }
theorem fk131 : FnOk Tryz.prog 131 Tryz.f131 I131 := ⟨Tryz.func131, by kernel_rfl, by kernel_rfl, by kernel_rfl, by kernel_rfl⟩
def S131_4 (x1 : Str) (x5 : List Exp) (b0 : Psr) : St := [(0, .v false [.ptr 0 0]), (2, .v false [.str x1]), (10, .v false [.sl .own .exp x5]), (1, .v true [.sl .ro .tok (Psr.list b0), .int .i64 (Psr.pos b0), .int .i64 (Psr.bad b0)])]
theorem p131_4_0 (x1 : Str) (x5 : List Exp) (b0 : Psr) (r1 : Exp × Psr) (r2 : Bool × Psr) : rS 4 I131 (S131_4 x1 x5 b0) [Y, Y] [xAe r1, xAd r2] = dn (xBd ((x5 ++ [(Exp.re r1.1)]), r2.2)) [(decide (((Psr.bad b0) : Int) < 0)) = true, AbC 31 (xAk b0) (xAe r1), Ln x5 + Ln [(Exp.re r1.1)] ≤ Lim, AbC 55 (xAm r1.2 x1) (xAd r2), r2.1 = true] := by kernel_rfl
theorem p131_4_1 (x1 : Str) (x5 : List Exp) (b0 : Psr) (r1 : Exp × Psr) (r2 : Bool × Psr) (r3 : Psr) : rS 4 I131 (S131_4 x1 x5 b0) [Y, F] [xAe r1, xAd r2, xAy r3] = st 4 I131 (S131_4 x1 (x5 ++ [(Exp.re r1.1)]) r3) [(decide (((Psr.bad b0) : Int) < 0)) = true, AbC 31 (xAk b0) (xAe r1), Ln x5 + Ln [(Exp.re r1.1)] ≤ Lim, AbC 55 (xAm r1.2 x1) (xAd r2), r2.1 = false, AbC 53 (xA3 r2.2 [44]) (xAy r3)] := by kernel_rfl
theorem p131_4_2 (x1 : Str) (x5 : List Exp) (b0 : Psr) : rS 4 I131 (S131_4 x1 x5 b0) [F] [] = dn (xBd (x5, b0)) [(decide (((Psr.bad b0) : Int) < 0)) = false] := by kernel_rfl
theorem p131_e_3 (a0 : Psr) (a1 : Str) (r1 : Bool × Psr) : rE I131 (xCo a0 a1) [Y] [xAd r1] = dn (xBd ([], r1.2)) [AbC 55 (xAm a0 a1) (xAd r1), r1.1 = true] := by kernel_rfl
theorem p131_e_4 (a0 : Psr) (a1 : Str) (r1 : Bool × Psr) : rE I131 (xCo a0 a1) [F] [xAd r1] = st 4 I131 (S131_4 a1 [] r1.2) [AbC 55 (xAm a0 a1) (xAd r1), r1.1 = false] := by kernel_rfl
theorem c131_4 {N : Nat} {q0 : Psr → Option (Exp × Psr)} (g0 : G116 q0) {q1 : Psr → Option (Exp × Psr)} (g1 : G31 q1) {q2 : Psr → Str → Option ((List Exp) × Psr)} (g2 : G131 q2) {q3 : Psr → Option (Exp × Psr)} (g3 : G96 q3) {q4 : Psr → Option (Exp × Psr)} (g4 : G54 q4) : ∀ n x1 x5 b0 r, xCp N q0 q1 q2 q3 q4 n x1 x5 b0 = some r → RS Tryz.f131 I131 4 (S131_4 x1 x5 b0) (xBd r) := by
 intro n
 induction n with
 | zero => exact fun _ _ _ _ h => nE h
 | succ n ih =>
  exact fun x1 x5 b0 r h =>
   cE h (fun h0 h => bE h fun r1 h1 h => iE h fun h2 h => bE h fun r2 h3 h => cE h (fun h4 h => dS h fk131 (p131_4_0 x1 x5 b0 r1 r2) (oc h0 (oc (g1 _ _ h1) (oc h2 (oc (xAv h3) (oc h4 on)))))) fun h4 h =>
   bE h fun r3 h5 h => tS fk131 (p131_4_1 x1 x5 b0 r1 r2 r3) (oc h0 (oc (g1 _ _ h1) (oc h2 (oc (xAv h3) (oc h4 (oc (xBW h5) on)))))) (ih _ _ _ _ h)) fun h0 h =>
   dS h fk131 (p131_4_2 x1 x5 b0) (oc h0 on)
theorem c131_e {N : Nat} {q0 : Psr → Option (Exp × Psr)} (g0 : G116 q0) {q1 : Psr → Option (Exp × Psr)} (g1 : G31 q1) {q2 : Psr → Str → Option ((List Exp) × Psr)} (g2 : G131 q2) {q3 : Psr → Option (Exp × Psr)} (g3 : G96 q3) {q4 : Psr → Option (Exp × Psr)} (g4 : G54 q4) : ∀ a0 a1 r, xCr N q0 q1 q2 q3 q4 a0 a1 = some r → RE Tryz.f131 I131 (xCo a0 a1) (xBd r) := fun a0 a1 r h =>
 bE h fun r1 h0 h => cE h (fun h1 h => dE h fk131 (p131_e_3 a0 a1 r1) (oc (xAv h0) (oc h1 on))) fun h1 h =>
 tE fk131 (p131_e_4 a0 a1 r1) (oc (xAv h0) (oc h1 on)) (c131_4 g0 g1 g2 g3 g4 _ _ _ _ _ h)
theorem xGp {N : Nat} {q0 : Psr → Option (Exp × Psr)} (g0 : G116 q0) {q1 : Psr → Option (Exp × Psr)} (g1 : G31 q1) {q2 : Psr → Str → Option ((List Exp) × Psr)} (g2 : G131 q2) {q3 : Psr → Option (Exp × Psr)} (g3 : G96 q3) {q4 : Psr → Option (Exp × Psr)} (g4 : G54 q4) {a0 : Psr} {a1 : Str} {r : (List Exp) × Psr} (h : xCr N q0 q1 q2 q3 q4 a0 a1 = some r) : AbC 131 (xCo a0 a1) (xBd r) :=
 AbsCalls.of_reach fk131 rfl rfl (Nat.le_of_ble_eq_true rfl) (c131_e g0 g1 g2 g3 g4 a0 a1 r h)
noncomputable def I96 : Info := { body := (Tryz.f96.body).getD .skip, nt := 14, results := [.cell 2 25], keep := [0, 4, 6, 14, 1, 5, 7], live := [(2, [0, 4, 6, 1, 5, 7])], modes := [(3, [(0, .take, false)]), (4, [(0, .take, false)])], ext := [0] }
theorem fk96 : FnOk Tryz.prog 96 Tryz.f96 I96 := ⟨Tryz.func96, by kernel_rfl, by kernel_rfl, by kernel_rfl, by kernel_rfl⟩
def S96_2 (b0 : Psr) (b2 b3 : Exp) : St := [(0, .v false [.ptr 0 0]), (4, .v false [.ptr 2 0]), (6, .v false [.ptr 3 0]), (1, .v true [.sl .ro .tok (Psr.list b0), .int .i64 (Psr.pos b0), .int .i64 (Psr.bad b0)]), (5, .v true [.int .i64 (Exp.kind b2), .int .i64 (Exp.n b2), .str (Exp.text b2), .sl .own .exp (Exp.args b2)]), (7, .v true [.int .i64 (Exp.kind b3), .int .i64 (Exp.n b3), .str (Exp.text b3), .sl .own .exp (Exp.args b3)])]
theorem p96_2_0 (b0 : Psr) (b2 b3 : Exp) (r1 : Bool × Psr) (r2 : Exp × Psr) : rS 2 I96 (S96_2 b0 b2 b3) [Y] [xAd r1, xAX r2] = st 2 I96 (S96_2 r2.2 b2 (Exp.mk 6 3 [] [(Exp.re b3), (Exp.re r2.1)])) [AbC 55 (xAm b0 [42]) (xAd r1), r1.1 = true, AbC 116 (xA2 r1.2) (xAX r2)] := by kernel_rfl
theorem p96_2_1 (b0 : Psr) (b2 b3 : Exp) (r1 : Bool × Psr) : rS 2 I96 (S96_2 b0 b2 b3) [F] [xAd r1] = dn (xBj (b3, r1.2)) [AbC 55 (xAm b0 [42]) (xAd r1), r1.1 = false] := by kernel_rfl
theorem p96_e_2 (a0 : Psr) (r1 : Exp × Psr) : rE I96 (xCs a0) [] [xAX r1] = st 2 I96 (S96_2 r1.2 (Exp.mk 0 0 [] []) r1.1) [AbC 116 (xA2 a0) (xAX r1)] := by kernel_rfl
theorem c96_2 {N : Nat} {q0 : Psr → Option (Exp × Psr)} (g0 : G116 q0) {q1 : Psr → Option (Exp × Psr)} (g1 : G31 q1) {q2 : Psr → Str → Option ((List Exp) × Psr)} (g2 : G131 q2) {q3 : Psr → Option (Exp × Psr)} (g3 : G96 q3) {q4 : Psr → Option (Exp × Psr)} (g4 : G54 q4) : ∀ n b0 b2 b3 r, xB1 N q0 q1 q2 q3 q4 n b0 b2 b3 = some r → RS Tryz.f96 I96 2 (S96_2 b0 b2 b3) (xBj r) := by
 intro n
 induction n with
 | zero => exact fun _ _ _ _ h => nE h
 | succ n ih =>
  exact fun b0 b2 b3 r h =>
   bE h fun r1 h0 h => cE h (fun h1 h => bE h fun r2 h2 h => tS fk96 (p96_2_0 b0 b2 b3 r1 r2) (oc (xAv h0) (oc h1 (oc (g0 _ _ h2) on))) (ih _ _ _ _ h)) fun h1 h =>
   dS h fk96 (p96_2_1 b0 b2 b3 r1) (oc (xAv h0) (oc h1 on))
theorem c96_e {N : Nat} {q0 : Psr → Option (Exp × Psr)} (g0 : G116 q0) {q1 : Psr → Option (Exp × Psr)} (g1 : G31 q1) {q2 : Psr → Str → Option ((List Exp) × Psr)} (g2 : G131 q2) {q3 : Psr → Option (Exp × Psr)} (g3 : G96 q3) {q4 : Psr → Option (Exp × Psr)} (g4 : G54 q4) : ∀ a0 r, xCa N q0 q1 q2 q3 q4 a0 = some r → RE Tryz.f96 I96 (xCs a0) (xBj r) := fun a0 r h =>
 bE h fun r1 h0 h => tE fk96 (p96_e_2 a0 r1) (oc (g0 _ _ h0) on) (c96_2 g0 g1 g2 g3 g4 _ _ _ _ _ h)
theorem xF0 {N : Nat} {q0 : Psr → Option (Exp × Psr)} (g0 : G116 q0) {q1 : Psr → Option (Exp × Psr)} (g1 : G31 q1) {q2 : Psr → Str → Option ((List Exp) × Psr)} (g2 : G131 q2) {q3 : Psr → Option (Exp × Psr)} (g3 : G96 q3) {q4 : Psr → Option (Exp × Psr)} (g4 : G54 q4) {a0 : Psr} {r : Exp × Psr} (h : xCa N q0 q1 q2 q3 q4 a0 = some r) : AbC 96 (xCs a0) (xBj r) :=
 AbsCalls.of_reach fk96 rfl rfl (Nat.le_of_ble_eq_true rfl) (c96_e g0 g1 g2 g3 g4 a0 r h)
noncomputable def I54 : Info := { body := (Tryz.f54.body).getD .skip, nt := 25, results := [.cell 2 25], keep := [0, 4, 6, 8, 22, 28, 34, 1, 5, 7], live := [(2, [0, 4, 6, 1, 5, 7])], modes := [(7, [(0, .take, false), (1, .take, false)]), (8, [(0, .take, false)])], ext := [0] }
theorem fk54 : FnOk Tryz.prog 54 Tryz.f54 I54 := ⟨Tryz.func54, by kernel_rfl, by kernel_rfl, by kernel_rfl, by kernel_rfl⟩
def S54_2 (b0 : Psr) (b2 b3 : Exp) : St := [(0, .v false [.ptr 0 0]), (4, .v false [.ptr 2 0]), (6, .v false [.ptr 3 0]), (1, .v true [.sl .ro .tok (Psr.list b0), .int .i64 (Psr.pos b0), .int .i64 (Psr.bad b0)]), (5, .v true [.int .i64 (Exp.kind b2), .int .i64 (Exp.n b2), .str (Exp.text b2), .sl .own .exp (Exp.args b2)]), (7, .v true [.int .i64 (Exp.kind b3), .int .i64 (Exp.n b3), .str (Exp.text b3), .sl .own .exp (Exp.args b3)])]
theorem p54_2_0 (b0 : Psr) (b2 b3 : Exp) (r1 : Bool × Psr) (r2 : Bool × Psr) : rS 2 I54 (S54_2 b0 b2 b3) [Y, Y, Y] [xAd r1, xAd r2] = dn (xCe (b3, r2.2)) [(decide (((Psr.bad b0) : Int) < 0)) = true, AbC 55 (xAm b0 [43]) (xAd r1), (!r1.1) = true, AbC 55 (xAm r1.2 [45]) (xAd r2), (!r2.1) = true] := by kernel_rfl
theorem p54_2_1 (b0 : Psr) (b2 b3 : Exp) (r1 : Bool × Psr) (r2 : Bool × Psr) (r3 : Exp × Psr) : rS 2 I54 (S54_2 b0 b2 b3) [Y, Y, F] [xAd r1, xAd r2, xBj r3] = st 2 I54 (S54_2 r3.2 b2 (Exp.mk 6 2 [] [(Exp.re b3), (Exp.re r3.1)])) [(decide (((Psr.bad b0) : Int) < 0)) = true, AbC 55 (xAm b0 [43]) (xAd r1), (!r1.1) = true, AbC 55 (xAm r1.2 [45]) (xAd r2), (!r2.1) = false, AbC 96 (xCs r2.2) (xBj r3)] := by kernel_rfl
theorem p54_2_2 (b0 : Psr) (b2 b3 : Exp) (r1 : Bool × Psr) (r2 : Exp × Psr) : rS 2 I54 (S54_2 b0 b2 b3) [Y, F] [xAd r1, xBj r2] = st 2 I54 (S54_2 r2.2 b2 (Exp.mk 6 1 [] [(Exp.re b3), (Exp.re r2.1)])) [(decide (((Psr.bad b0) : Int) < 0)) = true, AbC 55 (xAm b0 [43]) (xAd r1), (!r1.1) = false, AbC 96 (xCs r1.2) (xBj r2)] := by kernel_rfl
theorem p54_2_3 (b0 : Psr) (b2 b3 : Exp) : rS 2 I54 (S54_2 b0 b2 b3) [F] [] = dn (xCe (b3, b0)) [(decide (((Psr.bad b0) : Int) < 0)) = false] := by kernel_rfl
theorem p54_e_4 (a0 : Psr) (r1 : Exp × Psr) : rE I54 (xDJ a0) [] [xBj r1] = st 2 I54 (S54_2 r1.2 (Exp.mk 0 0 [] []) r1.1) [AbC 96 (xCs a0) (xBj r1)] := by kernel_rfl
theorem c54_2 {N : Nat} {q0 : Psr → Option (Exp × Psr)} (g0 : G116 q0) {q1 : Psr → Option (Exp × Psr)} (g1 : G31 q1) {q2 : Psr → Str → Option ((List Exp) × Psr)} (g2 : G131 q2) {q3 : Psr → Option (Exp × Psr)} (g3 : G96 q3) {q4 : Psr → Option (Exp × Psr)} (g4 : G54 q4) : ∀ n b0 b2 b3 r, xCd N q0 q1 q2 q3 q4 n b0 b2 b3 = some r → RS Tryz.f54 I54 2 (S54_2 b0 b2 b3) (xCe r) := by
 intro n
 induction n with
 | zero => exact fun _ _ _ _ h => nE h
 | succ n ih =>
  exact fun b0 b2 b3 r h =>
   cE h (fun h0 h => bE h fun r1 h1 h => cE h (fun h2 h => bE h fun r2 h3 h => cE h (fun h4 h => dS h fk54 (p54_2_0 b0 b2 b3 r1 r2) (oc h0 (oc (xAv h1) (oc h2 (oc (xAv h3) (oc h4 on)))))) fun h4 h =>
   bE h fun r3 h5 h => tS fk54 (p54_2_1 b0 b2 b3 r1 r2 r3) (oc h0 (oc (xAv h1) (oc h2 (oc (xAv h3) (oc h4 (oc (g3 _ _ h5) on)))))) (ih _ _ _ _ h)) fun h2 h =>
   bE h fun r2 h3 h => tS fk54 (p54_2_2 b0 b2 b3 r1 r2) (oc h0 (oc (xAv h1) (oc h2 (oc (g3 _ _ h3) on)))) (ih _ _ _ _ h)) fun h0 h =>
   dS h fk54 (p54_2_3 b0 b2 b3) (oc h0 on)
theorem c54_e {N : Nat} {q0 : Psr → Option (Exp × Psr)} (g0 : G116 q0) {q1 : Psr → Option (Exp × Psr)} (g1 : G31 q1) {q2 : Psr → Str → Option ((List Exp) × Psr)} (g2 : G131 q2) {q3 : Psr → Option (Exp × Psr)} (g3 : G96 q3) {q4 : Psr → Option (Exp × Psr)} (g4 : G54 q4) : ∀ a0 r, xCR N q0 q1 q2 q3 q4 a0 = some r → RE Tryz.f54 I54 (xDJ a0) (xCe r) := fun a0 r h =>
 bE h fun r1 h0 h => tE fk54 (p54_e_4 a0 r1) (oc (g3 _ _ h0) on) (c54_2 g0 g1 g2 g3 g4 _ _ _ _ _ h)
theorem xGK {N : Nat} {q0 : Psr → Option (Exp × Psr)} (g0 : G116 q0) {q1 : Psr → Option (Exp × Psr)} (g1 : G31 q1) {q2 : Psr → Str → Option ((List Exp) × Psr)} (g2 : G131 q2) {q3 : Psr → Option (Exp × Psr)} (g3 : G96 q3) {q4 : Psr → Option (Exp × Psr)} (g4 : G54 q4) {a0 : Psr} {r : Exp × Psr} (h : xCR N q0 q1 q2 q3 q4 a0 = some r) : AbC 54 (xDJ a0) (xCe r) :=
 AbsCalls.of_reach fk54 rfl rfl (Nat.le_of_ble_eq_true rfl) (c54_e g0 g1 g2 g3 g4 a0 r h)
theorem xGJ {N : Nat} : ∀ d, G116 (xAb N d).c_impl_parser_atom ∧ G31 (xAb N d).c_impl_parser_expr ∧ G131 (xAb N d).c_impl_parser_list2 ∧ G96 (xAb N d).c_impl_parser_product ∧ G54 (xAb N d).c_impl_parser_sum := by
 intro d
 induction d with
 | zero => exact ⟨fun _ _ h => nE h, fun _ _ h => nE h, fun _ _ _ h => nE h, fun _ _ h => nE h, fun _ _ h => nE h⟩
 | succ d ih =>
  obtain ⟨ih0, ih1, ih2, ih3, ih4⟩ := ih
  exact ⟨fun _ _ h => xGw (N := N) ih0 ih1 ih2 ih3 ih4 h, fun _ _ h => xGx (N := N) ih0 ih1 ih2 ih3 ih4 h, fun _ _ _ h => xGp (N := N) ih0 ih1 ih2 ih3 ih4 h, fun _ _ h => xF0 (N := N) ih0 ih1 ih2 ih3 ih4 h, fun _ _ h => xGK (N := N) ih0 ih1 ih2 ih3 ih4 h⟩
theorem xBv {N : Nat} {a0 : Psr} {r : Exp × Psr} (h : xE7 N a0 = some r) : AbC 31 (xAk a0) (xAe r) := (xGJ N).2.1 _ r h
def G57 (q : Exp → Option (Int)) : Prop := ∀ a0 r, q a0 = some r → AbC 57 (xCN a0) (xBt r)
noncomputable def I57 : Info := { body := (Tryz.f57.body).getD .skip, nt := 19, results := [.tmp 2], keep := [0, 2, 4, 6, 10, 14, 16, 18, 20, 3, 11], live := [(3, [6, 14, 16, 18])], modes := [(6, [(1, .take, false)])] }
theorem fk57 : FnOk Tryz.prog 57 Tryz.f57 I57 := ⟨Tryz.func57, by kernel_rfl, by kernel_rfl, by kernel_rfl, by kernel_rfl⟩
def S57_3 (x3 : Int) (x7 : List Exp) (x8 x9 : Int) : St := [(6, .v false [.int .i64 x3]), (14, .v false [.sl .ro .exp x7]), (16, .v false [.int .i64 x8]), (18, .v false [.int .i64 x9])]
theorem p57_3_0 (x3 : Int) (x7 : List Exp) (x8 x9 r1 : Int) : rS 3 I57 (S57_3 x3 x7 x8 x9) [Y] [xBt r1] = st 3 I57 (S57_3 (W (x3 + r1)) x7 x8 (W (x9 + 1))) [(decide ((x9 : Int) < x8)) = true, (0 : Int) ≤ x9 ∧ x9 < (Ln x7), AbC 57 (xCN (gD x7 (tN x9) Ty.exp.dflt)) (xBt r1)] := by kernel_rfl
theorem p57_3_1 (x3 : Int) (x7 : List Exp) (x8 x9 : Int) : rS 3 I57 (S57_3 x3 x7 x8 x9) [F] [] = dn (xBt x3) [(decide ((x9 : Int) < x8)) = false] := by kernel_rfl
theorem p57_e_2 (a0 : Exp) : rE I57 (xCN a0) [] [] = st 3 I57 (S57_3 1 (Exp.args a0) (Ln (Exp.args a0) : Int) 0) [] := by kernel_rfl
theorem c57_3 {N : Nat} {q0 : Exp → Option (Int)} (g0 : G57 q0) : ∀ n x3 x7 x8 x9 r, xDt N q0 n x3 x7 x8 x9 = some r → RS Tryz.f57 I57 3 (S57_3 x3 x7 x8 x9) (xBt r) := by
 intro n
 induction n with
 | zero => exact fun _ _ _ _ _ h => nE h
 | succ n ih =>
  exact fun x3 x7 x8 x9 r h =>
   cE h (fun h0 h => iE h fun h1 h => bE h fun r1 h2 h => tS fk57 (p57_3_0 x3 x7 x8 x9 r1) (oc h0 (oc h1 (oc (g0 _ _ h2) on))) (ih _ _ _ _ _ h)) fun h0 h =>
   dS h fk57 (p57_3_1 x3 x7 x8 x9) (oc h0 on)
theorem c57_e {N : Nat} {q0 : Exp → Option (Int)} (g0 : G57 q0) : ∀ a0 r, xFd N q0 a0 = some r → RE Tryz.f57 I57 (xCN a0) (xBt r) := fun a0 r h =>
 tE fk57 (p57_e_2 a0) on (c57_3 g0 _ _ _ _ _ _ h)
theorem xGS {N : Nat} {q0 : Exp → Option (Int)} (g0 : G57 q0) {a0 : Exp} {r : Int} (h : xFd N q0 a0 = some r) : AbC 57 (xCN a0) (xBt r) :=
 AbsCalls.of_reach fk57 rfl rfl (Nat.le_of_ble_eq_true rfl) (c57_e g0 a0 r h)
theorem xFH {N : Nat} : ∀ d, G57 (xDI N d)
 | 0 => fun _ _ h => nE h
 | d + 1 => fun _ _ h => xGS (N := N) (xFH d) h
theorem xFx {N : Nat} {a0 : Exp} {r : Int} (h : xGo N a0 = some r) : AbC 57 (xCN a0) (xBt r) := xFH N _ r h
def G58 (q : Exp → Option (Int)) : Prop := ∀ a0 r, q a0 = some r → AbC 58 (xC8 a0) (xBL r)
noncomputable def I58 : Info := { body := (Tryz.f58.body).getD .skip, nt := 20, results := [.tmp 2], keep := [0, 2, 4, 6, 10, 14, 16, 18, 20, 3, 11], live := [(3, [6, 14, 16, 18])], modes := [(6, [(1, .take, false)])] }
theorem fk58 : FnOk Tryz.prog 58 Tryz.f58 I58 := ⟨Tryz.func58, by kernel_rfl, by kernel_rfl, by kernel_rfl, by kernel_rfl⟩
def S58_3 (x3 : Int) (x7 : List Exp) (x8 x9 : Int) : St := [(6, .v false [.int .i64 x3]), (14, .v false [.sl .ro .exp x7]), (16, .v false [.int .i64 x8]), (18, .v false [.int .i64 x9])]
theorem p58_3_0 (x3 : Int) (x7 : List Exp) (x8 x9 r1 : Int) : rS 3 I58 (S58_3 x3 x7 x8 x9) [Y] [xBL r1] = st 3 I58 (S58_3 (if (r1 : Int) > x3 then r1 else x3) x7 x8 (W (x9 + 1))) [(decide ((x9 : Int) < x8)) = true, (0 : Int) ≤ x9 ∧ x9 < (Ln x7), AbC 58 (xC8 (gD x7 (tN x9) Ty.exp.dflt)) (xBL r1)] := by kernel_rfl
theorem p58_3_1 (x3 : Int) (x7 : List Exp) (x8 x9 : Int) : rS 3 I58 (S58_3 x3 x7 x8 x9) [F] [] = dn (xBL (W (x3 + 1))) [(decide ((x9 : Int) < x8)) = false] := by kernel_rfl
theorem p58_e_2 (a0 : Exp) : rE I58 (xC8 a0) [] [] = st 3 I58 (S58_3 0 (Exp.args a0) (Ln (Exp.args a0) : Int) 0) [] := by kernel_rfl
theorem c58_3 {N : Nat} {q0 : Exp → Option (Int)} (g0 : G58 q0) : ∀ n x3 x7 x8 x9 r, xDU N q0 n x3 x7 x8 x9 = some r → RS Tryz.f58 I58 3 (S58_3 x3 x7 x8 x9) (xBL r) := by
 intro n
 induction n with
 | zero => exact fun _ _ _ _ _ h => nE h
 | succ n ih =>
  exact fun x3 x7 x8 x9 r h =>
   cE h (fun h0 h => iE h fun h1 h => bE h fun r1 h2 h => tS fk58 (p58_3_0 x3 x7 x8 x9 r1) (oc h0 (oc h1 (oc (g0 _ _ h2) on))) (ih _ _ _ _ _ h)) fun h0 h =>
   dS h fk58 (p58_3_1 x3 x7 x8 x9) (oc h0 on)
theorem c58_e {N : Nat} {q0 : Exp → Option (Int)} (g0 : G58 q0) : ∀ a0 r, xFc N q0 a0 = some r → RE Tryz.f58 I58 (xC8 a0) (xBL r) := fun a0 r h =>
 tE fk58 (p58_e_2 a0) on (c58_3 g0 _ _ _ _ _ _ h)
theorem xGR {N : Nat} {q0 : Exp → Option (Int)} (g0 : G58 q0) {a0 : Exp} {r : Int} (h : xFc N q0 a0 = some r) : AbC 58 (xC8 a0) (xBL r) :=
 AbsCalls.of_reach fk58 rfl rfl (Nat.le_of_ble_eq_true rfl) (c58_e g0 a0 r h)
theorem xFG {N : Nat} : ∀ d, G58 (xD9 N d)
 | 0 => fun _ _ h => nE h
 | d + 1 => fun _ _ h => xGR (N := N) (xFG d) h
theorem xGu {N : Nat} {a0 : Exp} {r : Int} (h : xGn N a0 = some r) : AbC 58 (xC8 a0) (xBL r) := xFG N _ r h
noncomputable def I98 : Info := { body := (Tryz.f98.body).getD .skip, nt := 120, results := [.tmp 2], keep := [0, 2, 4, 6, 16, 18, 46, 74, 102, 130, 154, 182, 212, 3], live := [], modes := [(4, [(3, .take, false), (8, .take, false)]), (6, [(3, .take, false), (8, .take, false)]), (8, [(3, .take, false), (8, .take, false)]), (10, [(3, .take, false), (8, .take, false)]), (12, [(3, .take, false)]), (14, [(3, .take, false), (8, .take, false)]), (17, [(3, .take, false), (8, .take, false)]), (19, [(3, .take, false), (8, .take, false)])] }
theorem fk98 : FnOk Tryz.prog 98 Tryz.f98 I98 := ⟨Tryz.func98, by kernel_rfl, by kernel_rfl, by kernel_rfl, by kernel_rfl⟩
theorem p98_e_0 (a0 : Exp) (r1 : Bool) : rE I98 (xAM a0) [Y, Y, Y] [xA5 r1] = dn (xAJ (((Ln (Exp.args a0) : Int) : Int) == 0)) [(((Exp.kind a0) : Int) == 1) = true, AbC 97 (xCl (Exp.n a0) 0 1000000000) (xA5 r1), r1 = true, (((Exp.text a0) : Str) == []) = true] := by kernel_rfl
theorem p98_e_1 (a0 : Exp) (r1 : Bool) : rE I98 (xAM a0) [Y, Y, F] [xA5 r1] = dn (xAJ false) [(((Exp.kind a0) : Int) == 1) = true, AbC 97 (xCl (Exp.n a0) 0 1000000000) (xA5 r1), r1 = true, (((Exp.text a0) : Str) == []) = false] := by kernel_rfl
theorem p98_e_2 (a0 : Exp) (r1 : Bool) : rE I98 (xAM a0) [Y, F, F] [xA5 r1] = dn (xAJ false) [(((Exp.kind a0) : Int) == 1) = true, AbC 97 (xCl (Exp.n a0) 0 1000000000) (xA5 r1), r1 = false, false = false] := by kernel_rfl
theorem p98_e_3 (a0 : Exp) (r1 : Bool) : rE I98 (xAM a0) [F, Y, Y, Y] [xAP r1] = dn (xAJ (((Ln (Exp.args a0) : Int) : Int) == 0)) [(((Exp.kind a0) : Int) == 1) = false, (((Exp.kind a0) : Int) == 2) = true, (((Exp.n a0) : Int) == 0) = true, AbC 91 (xCg (Exp.text a0)) (xAP r1), r1 = true] := by kernel_rfl
theorem p98_e_4 (a0 : Exp) (r1 : Bool) : rE I98 (xAM a0) [F, Y, Y, F] [xAP r1] = dn (xAJ false) [(((Exp.kind a0) : Int) == 1) = false, (((Exp.kind a0) : Int) == 2) = true, (((Exp.n a0) : Int) == 0) = true, AbC 91 (xCg (Exp.text a0)) (xAP r1), r1 = false] := by kernel_rfl
theorem p98_e_5 (a0 : Exp) : rE I98 (xAM a0) [F, Y, F, F] [] = dn (xAJ false) [(((Exp.kind a0) : Int) == 1) = false, (((Exp.kind a0) : Int) == 2) = true, (((Exp.n a0) : Int) == 0) = false, false = false] := by kernel_rfl
theorem p98_e_6 (a0 : Exp) (r1 : Bool) : rE I98 (xAM a0) [F, F, Y, Y, Y] [xAn r1] = dn (xAJ (((Ln (Exp.args a0) : Int) : Int) == 0)) [(((Exp.kind a0) : Int) == 1) = false, (((Exp.kind a0) : Int) == 2) = false, (((Exp.kind a0) : Int) == 3) = true, (((Exp.n a0) : Int) == 0) = true, AbC 93 (xAW (Exp.text a0)) (xAn r1), r1 = true] := by kernel_rfl
theorem p98_e_7 (a0 : Exp) (r1 : Bool) : rE I98 (xAM a0) [F, F, Y, Y, F] [xAn r1] = dn (xAJ false) [(((Exp.kind a0) : Int) == 1) = false, (((Exp.kind a0) : Int) == 2) = false, (((Exp.kind a0) : Int) == 3) = true, (((Exp.n a0) : Int) == 0) = true, AbC 93 (xAW (Exp.text a0)) (xAn r1), r1 = false] := by kernel_rfl
theorem p98_e_8 (a0 : Exp) : rE I98 (xAM a0) [F, F, Y, F, F] [] = dn (xAJ false) [(((Exp.kind a0) : Int) == 1) = false, (((Exp.kind a0) : Int) == 2) = false, (((Exp.kind a0) : Int) == 3) = true, (((Exp.n a0) : Int) == 0) = false, false = false] := by kernel_rfl
theorem p98_e_9 (a0 : Exp) : rE I98 (xAM a0) [F, F, F, Y, Y, Y] [] = dn (xAJ (decide (((Ln (Exp.args a0) : Int) : Int) ≤ 8))) [(((Exp.kind a0) : Int) == 1) = false, (((Exp.kind a0) : Int) == 2) = false, (((Exp.kind a0) : Int) == 3) = false, (((Exp.kind a0) : Int) == 4) = true, (((Exp.n a0) : Int) == 0) = true, (((Exp.text a0) : Str) == []) = true] := by kernel_rfl
theorem p98_e_10 (a0 : Exp) : rE I98 (xAM a0) [F, F, F, Y, Y, F] [] = dn (xAJ false) [(((Exp.kind a0) : Int) == 1) = false, (((Exp.kind a0) : Int) == 2) = false, (((Exp.kind a0) : Int) == 3) = false, (((Exp.kind a0) : Int) == 4) = true, (((Exp.n a0) : Int) == 0) = true, (((Exp.text a0) : Str) == []) = false] := by kernel_rfl
theorem p98_e_11 (a0 : Exp) : rE I98 (xAM a0) [F, F, F, Y, F, F] [] = dn (xAJ false) [(((Exp.kind a0) : Int) == 1) = false, (((Exp.kind a0) : Int) == 2) = false, (((Exp.kind a0) : Int) == 3) = false, (((Exp.kind a0) : Int) == 4) = true, (((Exp.n a0) : Int) == 0) = false, false = false] := by kernel_rfl
theorem p98_e_12 (a0 : Exp) (r1 : Int) : rE I98 (xAM a0) [F, F, F, F, Y, Y] [xAg r1] = dn (xAJ (((Ln (Exp.args a0) : Int) : Int) == r1)) [(((Exp.kind a0) : Int) == 1) = false, (((Exp.kind a0) : Int) == 2) = false, (((Exp.kind a0) : Int) == 3) = false, (((Exp.kind a0) : Int) == 4) = false, (((Exp.kind a0) : Int) == 5) = true, (((Exp.n a0) : Int) == 0) = true, AbC 117 (xAp (Exp.text a0)) (xAg r1)] := by kernel_rfl
theorem p98_e_13 (a0 : Exp) : rE I98 (xAM a0) [F, F, F, F, Y, F] [] = dn (xAJ false) [(((Exp.kind a0) : Int) == 1) = false, (((Exp.kind a0) : Int) == 2) = false, (((Exp.kind a0) : Int) == 3) = false, (((Exp.kind a0) : Int) == 4) = false, (((Exp.kind a0) : Int) == 5) = true, (((Exp.n a0) : Int) == 0) = false] := by kernel_rfl
theorem p98_e_14 (a0 : Exp) (r1 : Bool) : rE I98 (xAM a0) [F, F, F, F, F, Y, Y, Y] [xA5 r1] = dn (xAJ (((Ln (Exp.args a0) : Int) : Int) == 2)) [(((Exp.kind a0) : Int) == 1) = false, (((Exp.kind a0) : Int) == 2) = false, (((Exp.kind a0) : Int) == 3) = false, (((Exp.kind a0) : Int) == 4) = false, (((Exp.kind a0) : Int) == 5) = false, (((Exp.kind a0) : Int) == 6) = true, AbC 97 (xCl (Exp.n a0) 1 5) (xA5 r1), r1 = true, (((Exp.text a0) : Str) == []) = true] := by kernel_rfl
theorem p98_e_15 (a0 : Exp) (r1 : Bool) : rE I98 (xAM a0) [F, F, F, F, F, Y, Y, F] [xA5 r1] = dn (xAJ false) [(((Exp.kind a0) : Int) == 1) = false, (((Exp.kind a0) : Int) == 2) = false, (((Exp.kind a0) : Int) == 3) = false, (((Exp.kind a0) : Int) == 4) = false, (((Exp.kind a0) : Int) == 5) = false, (((Exp.kind a0) : Int) == 6) = true, AbC 97 (xCl (Exp.n a0) 1 5) (xA5 r1), r1 = true, (((Exp.text a0) : Str) == []) = false] := by kernel_rfl
theorem p98_e_16 (a0 : Exp) (r1 : Bool) : rE I98 (xAM a0) [F, F, F, F, F, Y, F, F] [xA5 r1] = dn (xAJ false) [(((Exp.kind a0) : Int) == 1) = false, (((Exp.kind a0) : Int) == 2) = false, (((Exp.kind a0) : Int) == 3) = false, (((Exp.kind a0) : Int) == 4) = false, (((Exp.kind a0) : Int) == 5) = false, (((Exp.kind a0) : Int) == 6) = true, AbC 97 (xCl (Exp.n a0) 1 5) (xA5 r1), r1 = false, false = false] := by kernel_rfl
theorem p98_e_17 (a0 : Exp) (r1 : Bool) : rE I98 (xAM a0) [F, F, F, F, F, F, Y, Y, Y, Y] [xAn r1] = dn (xAJ (((Ln (Exp.args a0) : Int) : Int) == 2)) [(((Exp.kind a0) : Int) == 1) = false, (((Exp.kind a0) : Int) == 2) = false, (((Exp.kind a0) : Int) == 3) = false, (((Exp.kind a0) : Int) == 4) = false, (((Exp.kind a0) : Int) == 5) = false, (((Exp.kind a0) : Int) == 6) = false, (((Exp.kind a0) : Int) == 7) = true, (((Exp.kind a0) : Int) == 7) = true, (((Exp.n a0) : Int) == 0) = true, AbC 93 (xAW (Exp.text a0)) (xAn r1), r1 = true] := by kernel_rfl
theorem p98_e_18 (a0 : Exp) (r1 : Bool) : rE I98 (xAM a0) [F, F, F, F, F, F, Y, Y, Y, F] [xAn r1] = dn (xAJ false) [(((Exp.kind a0) : Int) == 1) = false, (((Exp.kind a0) : Int) == 2) = false, (((Exp.kind a0) : Int) == 3) = false, (((Exp.kind a0) : Int) == 4) = false, (((Exp.kind a0) : Int) == 5) = false, (((Exp.kind a0) : Int) == 6) = false, (((Exp.kind a0) : Int) == 7) = true, (((Exp.kind a0) : Int) == 7) = true, (((Exp.n a0) : Int) == 0) = true, AbC 93 (xAW (Exp.text a0)) (xAn r1), r1 = false] := by kernel_rfl
theorem p98_e_19 (a0 : Exp) : rE I98 (xAM a0) [F, F, F, F, F, F, Y, Y, F, F] [] = dn (xAJ false) [(((Exp.kind a0) : Int) == 1) = false, (((Exp.kind a0) : Int) == 2) = false, (((Exp.kind a0) : Int) == 3) = false, (((Exp.kind a0) : Int) == 4) = false, (((Exp.kind a0) : Int) == 5) = false, (((Exp.kind a0) : Int) == 6) = false, (((Exp.kind a0) : Int) == 7) = true, (((Exp.kind a0) : Int) == 7) = true, (((Exp.n a0) : Int) == 0) = false, false = false] := by kernel_rfl
theorem p98_e_20 (a0 : Exp) (r1 : Bool) : rE I98 (xAM a0) [F, F, F, F, F, F, F, Y, Y, Y] [xAn r1] = dn (xAJ (((Ln (Exp.args a0) : Int) : Int) == 2)) [(((Exp.kind a0) : Int) == 1) = false, (((Exp.kind a0) : Int) == 2) = false, (((Exp.kind a0) : Int) == 3) = false, (((Exp.kind a0) : Int) == 4) = false, (((Exp.kind a0) : Int) == 5) = false, (((Exp.kind a0) : Int) == 6) = false, (((Exp.kind a0) : Int) == 7) = false, (((Exp.kind a0) : Int) == 9) = true, (((Exp.n a0) : Int) == 0) = true, AbC 93 (xAW (Exp.text a0)) (xAn r1), r1 = true] := by kernel_rfl
theorem p98_e_21 (a0 : Exp) (r1 : Bool) : rE I98 (xAM a0) [F, F, F, F, F, F, F, Y, Y, F] [xAn r1] = dn (xAJ false) [(((Exp.kind a0) : Int) == 1) = false, (((Exp.kind a0) : Int) == 2) = false, (((Exp.kind a0) : Int) == 3) = false, (((Exp.kind a0) : Int) == 4) = false, (((Exp.kind a0) : Int) == 5) = false, (((Exp.kind a0) : Int) == 6) = false, (((Exp.kind a0) : Int) == 7) = false, (((Exp.kind a0) : Int) == 9) = true, (((Exp.n a0) : Int) == 0) = true, AbC 93 (xAW (Exp.text a0)) (xAn r1), r1 = false] := by kernel_rfl
theorem p98_e_22 (a0 : Exp) : rE I98 (xAM a0) [F, F, F, F, F, F, F, Y, F, F] [] = dn (xAJ false) [(((Exp.kind a0) : Int) == 1) = false, (((Exp.kind a0) : Int) == 2) = false, (((Exp.kind a0) : Int) == 3) = false, (((Exp.kind a0) : Int) == 4) = false, (((Exp.kind a0) : Int) == 5) = false, (((Exp.kind a0) : Int) == 6) = false, (((Exp.kind a0) : Int) == 7) = false, (((Exp.kind a0) : Int) == 9) = true, (((Exp.n a0) : Int) == 0) = false, false = false] := by kernel_rfl
theorem p98_e_23 (a0 : Exp) : rE I98 (xAM a0) [F, F, F, F, F, F, F, F, Y, Y, Y] [] = dn (xAJ (((Ln (Exp.args a0) : Int) : Int) == 3)) [(((Exp.kind a0) : Int) == 1) = false, (((Exp.kind a0) : Int) == 2) = false, (((Exp.kind a0) : Int) == 3) = false, (((Exp.kind a0) : Int) == 4) = false, (((Exp.kind a0) : Int) == 5) = false, (((Exp.kind a0) : Int) == 6) = false, (((Exp.kind a0) : Int) == 7) = false, (((Exp.kind a0) : Int) == 9) = false, (((Exp.kind a0) : Int) == 8) = true, (((Exp.n a0) : Int) == 0) = true, (((Exp.text a0) : Str) == []) = true] := by kernel_rfl
theorem p98_e_24 (a0 : Exp) : rE I98 (xAM a0) [F, F, F, F, F, F, F, F, Y, Y, F] [] = dn (xAJ false) [(((Exp.kind a0) : Int) == 1) = false, (((Exp.kind a0) : Int) == 2) = false, (((Exp.kind a0) : Int) == 3) = false, (((Exp.kind a0) : Int) == 4) = false, (((Exp.kind a0) : Int) == 5) = false, (((Exp.kind a0) : Int) == 6) = false, (((Exp.kind a0) : Int) == 7) = false, (((Exp.kind a0) : Int) == 9) = false, (((Exp.kind a0) : Int) == 8) = true, (((Exp.n a0) : Int) == 0) = true, (((Exp.text a0) : Str) == []) = false] := by kernel_rfl
theorem p98_e_25 (a0 : Exp) : rE I98 (xAM a0) [F, F, F, F, F, F, F, F, Y, F, F] [] = dn (xAJ false) [(((Exp.kind a0) : Int) == 1) = false, (((Exp.kind a0) : Int) == 2) = false, (((Exp.kind a0) : Int) == 3) = false, (((Exp.kind a0) : Int) == 4) = false, (((Exp.kind a0) : Int) == 5) = false, (((Exp.kind a0) : Int) == 6) = false, (((Exp.kind a0) : Int) == 7) = false, (((Exp.kind a0) : Int) == 9) = false, (((Exp.kind a0) : Int) == 8) = true, (((Exp.n a0) : Int) == 0) = false, false = false] := by kernel_rfl
theorem p98_e_26 (a0 : Exp) : rE I98 (xAM a0) [F, F, F, F, F, F, F, F, F] [] = dn (xAJ false) [(((Exp.kind a0) : Int) == 1) = false, (((Exp.kind a0) : Int) == 2) = false, (((Exp.kind a0) : Int) == 3) = false, (((Exp.kind a0) : Int) == 4) = false, (((Exp.kind a0) : Int) == 5) = false, (((Exp.kind a0) : Int) == 6) = false, (((Exp.kind a0) : Int) == 7) = false, (((Exp.kind a0) : Int) == 9) = false, (((Exp.kind a0) : Int) == 8) = false] := by kernel_rfl
theorem c98_e {N : Nat} : ∀ a0 r, xFY N a0 = some r → RE Tryz.f98 I98 (xAM a0) (xAJ r) := fun a0 r h =>
 cE h (fun h0 h => bE h fun r1 h1 h => cE h (fun h2 h => cE h (fun h3 h => dE h fk98 (p98_e_0 a0 r1) (oc h0 (oc (xDy h1) (oc h2 (oc h3 on))))) fun h3 h =>
 dE h fk98 (p98_e_1 a0 r1) (oc h0 (oc (xDy h1) (oc h2 (oc h3 on))))) fun h2 h =>
 dE h fk98 (p98_e_2 a0 r1) (oc h0 (oc (xDy h1) (oc h2 (oc rfl on))))) fun h0 h =>
 cE h (fun h1 h => cE h (fun h2 h => bE h fun r1 h3 h => cE h (fun h4 h => dE h fk98 (p98_e_3 a0 r1) (oc h0 (oc h1 (oc h2 (oc (xDs h3) (oc h4 on)))))) fun h4 h =>
 dE h fk98 (p98_e_4 a0 r1) (oc h0 (oc h1 (oc h2 (oc (xDs h3) (oc h4 on)))))) fun h2 h =>
 dE h fk98 (p98_e_5 a0) (oc h0 (oc h1 (oc h2 (oc rfl on))))) fun h1 h =>
 cE h (fun h2 h => cE h (fun h3 h => bE h fun r1 h4 h => cE h (fun h5 h => dE h fk98 (p98_e_6 a0 r1) (oc h0 (oc h1 (oc h2 (oc h3 (oc (xBm h4) (oc h5 on))))))) fun h5 h =>
 dE h fk98 (p98_e_7 a0 r1) (oc h0 (oc h1 (oc h2 (oc h3 (oc (xBm h4) (oc h5 on))))))) fun h3 h =>
 dE h fk98 (p98_e_8 a0) (oc h0 (oc h1 (oc h2 (oc h3 (oc rfl on)))))) fun h2 h =>
 cE h (fun h3 h => cE h (fun h4 h => cE h (fun h5 h => dE h fk98 (p98_e_9 a0) (oc h0 (oc h1 (oc h2 (oc h3 (oc h4 (oc h5 on))))))) fun h5 h =>
 dE h fk98 (p98_e_10 a0) (oc h0 (oc h1 (oc h2 (oc h3 (oc h4 (oc h5 on))))))) fun h4 h =>
 dE h fk98 (p98_e_11 a0) (oc h0 (oc h1 (oc h2 (oc h3 (oc h4 (oc rfl on))))))) fun h3 h =>
 cE h (fun h4 h => cE h (fun h5 h => bE h fun r1 h6 h => dE h fk98 (p98_e_12 a0 r1) (oc h0 (oc h1 (oc h2 (oc h3 (oc h4 (oc h5 (oc (xC7 h6) on)))))))) fun h5 h =>
 dE h fk98 (p98_e_13 a0) (oc h0 (oc h1 (oc h2 (oc h3 (oc h4 (oc h5 on))))))) fun h4 h =>
 cE h (fun h5 h => bE h fun r1 h6 h => cE h (fun h7 h => cE h (fun h8 h => dE h fk98 (p98_e_14 a0 r1) (oc h0 (oc h1 (oc h2 (oc h3 (oc h4 (oc h5 (oc (xDy h6) (oc h7 (oc h8 on)))))))))) fun h8 h =>
 dE h fk98 (p98_e_15 a0 r1) (oc h0 (oc h1 (oc h2 (oc h3 (oc h4 (oc h5 (oc (xDy h6) (oc h7 (oc h8 on)))))))))) fun h7 h =>
 dE h fk98 (p98_e_16 a0 r1) (oc h0 (oc h1 (oc h2 (oc h3 (oc h4 (oc h5 (oc (xDy h6) (oc h7 (oc rfl on)))))))))) fun h5 h =>
 cE h (fun h6 h => cE h (fun h8 h => bE h fun r1 h9 h => cE h (fun h10 h => dE h fk98 (p98_e_17 a0 r1) (oc h0 (oc h1 (oc h2 (oc h3 (oc h4 (oc h5 (oc h6 (oc h6 (oc h8 (oc (xBm h9) (oc h10 on)))))))))))) fun h10 h =>
 dE h fk98 (p98_e_18 a0 r1) (oc h0 (oc h1 (oc h2 (oc h3 (oc h4 (oc h5 (oc h6 (oc h6 (oc h8 (oc (xBm h9) (oc h10 on)))))))))))) fun h8 h =>
 dE h fk98 (p98_e_19 a0) (oc h0 (oc h1 (oc h2 (oc h3 (oc h4 (oc h5 (oc h6 (oc h6 (oc h8 (oc rfl on))))))))))) fun h6 h =>
 cE h (fun h7 h => cE h (fun h8 h => bE h fun r1 h9 h => cE h (fun h10 h => dE h fk98 (p98_e_20 a0 r1) (oc h0 (oc h1 (oc h2 (oc h3 (oc h4 (oc h5 (oc h6 (oc h7 (oc h8 (oc (xBm h9) (oc h10 on)))))))))))) fun h10 h =>
 dE h fk98 (p98_e_21 a0 r1) (oc h0 (oc h1 (oc h2 (oc h3 (oc h4 (oc h5 (oc h6 (oc h7 (oc h8 (oc (xBm h9) (oc h10 on)))))))))))) fun h8 h =>
 dE h fk98 (p98_e_22 a0) (oc h0 (oc h1 (oc h2 (oc h3 (oc h4 (oc h5 (oc h6 (oc h7 (oc h8 (oc rfl on))))))))))) fun h7 h =>
 cE h (fun h8 h => cE h (fun h9 h => cE h (fun h10 h => dE h fk98 (p98_e_23 a0) (oc h0 (oc h1 (oc h2 (oc h3 (oc h4 (oc h5 (oc h6 (oc h7 (oc h8 (oc h9 (oc h10 on)))))))))))) fun h10 h =>
 dE h fk98 (p98_e_24 a0) (oc h0 (oc h1 (oc h2 (oc h3 (oc h4 (oc h5 (oc h6 (oc h7 (oc h8 (oc h9 (oc h10 on)))))))))))) fun h9 h =>
 dE h fk98 (p98_e_25 a0) (oc h0 (oc h1 (oc h2 (oc h3 (oc h4 (oc h5 (oc h6 (oc h7 (oc h8 (oc h9 (oc rfl on)))))))))))) fun h8 h =>
 dE h fk98 (p98_e_26 a0) (oc h0 (oc h1 (oc h2 (oc h3 (oc h4 (oc h5 (oc h6 (oc h7 (oc h8 on)))))))))
theorem impl_isNode_ok {N : Nat} {a0 : Exp} {r : Bool} (h : xFY N  a0 = some r) : AbC 98 (xAM a0) (xAJ r) :=
 AbsCalls.of_reach fk98 rfl rfl (Nat.le_of_ble_eq_true rfl) (c98_e a0 r h)
def G59 (q : Exp → Option (Bool)) : Prop := ∀ a0 r, q a0 = some r → AbC 59 (xDl a0) (xBN r)
noncomputable def I59 : Info := { body := (Tryz.f59.body).getD .skip, nt := 18, results := [.tmp 2], keep := [0, 2, 4, 8, 12, 14, 16, 18, 28, 3, 9], live := [(2, [2, 12, 14, 16, 3])], modes := [(6, [(1, .take, false)])] }
theorem fk59 : FnOk Tryz.prog 59 Tryz.f59 I59 := ⟨Tryz.func59, by kernel_rfl, by kernel_rfl, by kernel_rfl, by kernel_rfl⟩
def S59_2 (x6 : List Exp) (x7 x8 : Int) (b1 : Exp) : St := [(2, .v false [.ptr 1 0]), (12, .v false [.sl .ro .exp x6]), (14, .v false [.int .i64 x7]), (16, .v false [.int .i64 x8]), (3, .v true [.int .i64 (Exp.kind b1), .int .i64 (Exp.n b1), .str (Exp.text b1), .sl .ro .exp (Exp.args b1)])]
theorem p59_2_0 (x6 : List Exp) (x7 x8 : Int) (b1 : Exp) (r1 : Bool) : rS 2 I59 (S59_2 x6 x7 x8 b1) [Y, Y] [xBN r1] = dn (xBN false) [(decide ((x8 : Int) < x7)) = true, (0 : Int) ≤ x8 ∧ x8 < (Ln x6), AbC 59 (xDl (gD x6 (tN x8) Ty.exp.dflt)) (xBN r1), (!r1) = true] := by kernel_rfl
theorem p59_2_1 (x6 : List Exp) (x7 x8 : Int) (b1 : Exp) (r1 : Bool) : rS 2 I59 (S59_2 x6 x7 x8 b1) [Y, F] [xBN r1] = st 2 I59 (S59_2 x6 x7 (W (x8 + 1)) b1) [(decide ((x8 : Int) < x7)) = true, (0 : Int) ≤ x8 ∧ x8 < (Ln x6), AbC 59 (xDl (gD x6 (tN x8) Ty.exp.dflt)) (xBN r1), (!r1) = false] := by kernel_rfl
theorem p59_2_2 (x6 : List Exp) (x7 x8 : Int) (b1 : Exp) (r1 : Bool) : rS 2 I59 (S59_2 x6 x7 x8 b1) [F] [xAJ r1] = dn (xBN r1) [(decide ((x8 : Int) < x7)) = false, AbC 98 (xAM b1) (xAJ r1)] := by kernel_rfl
theorem p59_e_3 (a0 : Exp) : rE I59 (xDl a0) [] [] = st 2 I59 (S59_2 (Exp.args a0) (Ln (Exp.args a0) : Int) 0 a0) [] := by kernel_rfl
theorem c59_2 {N : Nat} {q0 : Exp → Option (Bool)} (g0 : G59 q0) : ∀ n x6 x7 x8 b1 r, xDM N q0 n x6 x7 x8 b1 = some r → RS Tryz.f59 I59 2 (S59_2 x6 x7 x8 b1) (xBN r) := by
 intro n
 induction n with
 | zero => exact fun _ _ _ _ _ h => nE h
 | succ n ih =>
  exact fun x6 x7 x8 b1 r h =>
   cE h (fun h0 h => iE h fun h1 h => bE h fun r1 h2 h => cE h (fun h3 h => dS h fk59 (p59_2_0 x6 x7 x8 b1 r1) (oc h0 (oc h1 (oc (g0 _ _ h2) (oc h3 on))))) fun h3 h =>
   tS fk59 (p59_2_1 x6 x7 x8 b1 r1) (oc h0 (oc h1 (oc (g0 _ _ h2) (oc h3 on)))) (ih _ _ _ _ _ h)) fun h0 h =>
   bE h fun r1 h1 h => dS h fk59 (p59_2_2 x6 x7 x8 b1 r1) (oc h0 (oc (impl_isNode_ok h1) on))
theorem c59_e {N : Nat} {q0 : Exp → Option (Bool)} (g0 : G59 q0) : ∀ a0 r, xFn N q0 a0 = some r → RE Tryz.f59 I59 (xDl a0) (xBN r) := fun a0 r h =>
 tE fk59 (p59_e_3 a0) on (c59_2 g0 _ _ _ _ _ _ h)
theorem xGX {N : Nat} {q0 : Exp → Option (Bool)} (g0 : G59 q0) {a0 : Exp} {r : Bool} (h : xFn N q0 a0 = some r) : AbC 59 (xDl a0) (xBN r) :=
 AbsCalls.of_reach fk59 rfl rfl (Nat.le_of_ble_eq_true rfl) (c59_e g0 a0 r h)
theorem xFN {N : Nat} : ∀ d, G59 (xEp N d)
 | 0 => fun _ _ h => nE h
 | d + 1 => fun _ _ h => xGX (N := N) (xFN d) h
theorem impl_areNodes_ok {N : Nat} {a0 : Exp} {r : Bool} (h : xGG N a0 = some r) : AbC 59 (xDl a0) (xBN r) := xFN N _ r h
noncomputable def I32 : Info := { body := (Tryz.f32.body).getD .skip, nt := 15, results := [.tmp 2], keep := [0, 2, 4, 3], live := [], modes := [(1, [(3, .take, false), (8, .take, false)])] }
theorem fk32 : FnOk Tryz.prog 32 Tryz.f32 I32 := ⟨Tryz.func32, by kernel_rfl, by kernel_rfl, by kernel_rfl, by kernel_rfl⟩
theorem p32_e_0 (a0 : Exp) (r1 r2 : Int) (r3 : Bool) : rE I32 (xBl a0) [Y, Y] [xBt r1, xBL r2, xBN r3] = dn (xAI r3) [AbC 57 (xCN a0) (xBt r1), (decide ((r1 : Int) ≤ 40)) = true, AbC 58 (xC8 a0) (xBL r2), (decide ((r2 : Int) ≤ 8)) = true, AbC 59 (xDl a0) (xBN r3)] := by kernel_rfl
theorem p32_e_1 (a0 : Exp) (r1 r2 : Int) : rE I32 (xBl a0) [Y, F] [xBt r1, xBL r2] = dn (xAI false) [AbC 57 (xCN a0) (xBt r1), (decide ((r1 : Int) ≤ 40)) = true, AbC 58 (xC8 a0) (xBL r2), (decide ((r2 : Int) ≤ 8)) = false] := by kernel_rfl
theorem p32_e_2 (a0 : Exp) (r1 : Int) : rE I32 (xBl a0) [F, F] [xBt r1] = dn (xAI false) [AbC 57 (xCN a0) (xBt r1), (decide ((r1 : Int) ≤ 40)) = false, false = false] := by kernel_rfl
theorem c32_e {N : Nat} : ∀ a0 r, xCI N a0 = some r → RE Tryz.f32 I32 (xBl a0) (xAI r) := fun a0 r h =>
 bE h fun r1 h0 h => cE h (fun h1 h => bE h fun r2 h2 h => cE h (fun h3 h => bE h fun r3 h4 h => dE h fk32 (p32_e_0 a0 r1 r2 r3) (oc (xFx h0) (oc h1 (oc (xGu h2) (oc h3 (oc (impl_areNodes_ok h4) on)))))) fun h3 h =>
 dE h fk32 (p32_e_1 a0 r1 r2) (oc (xFx h0) (oc h1 (oc (xGu h2) (oc h3 on))))) fun h1 h =>
 dE h fk32 (p32_e_2 a0 r1) (oc (xFx h0) (oc h1 (oc rfl on)))
theorem xCx {N : Nat} {a0 : Exp} {r : Bool} (h : xCI N  a0 = some r) : AbC 32 (xBl a0) (xAI r) :=
 AbsCalls.of_reach fk32 rfl rfl (Nat.le_of_ble_eq_true rfl) (c32_e a0 r h)
noncomputable def I12 : Info := { body := (Tryz.f12.body).getD .skip, nt := 72, results := [.cell 2 25, .tmp 3], keep := [0, 4, 6, 8, 10, 12, 14, 28, 70, 98, 114, 138, 5, 15, 39], live := [], modes := [(1, [(2, .take, false)]), (6, [(5, .take, false)]), (14, [(0, .take, false)])] }
theorem fk12 : FnOk Tryz.prog 12 Tryz.f12 I12 := ⟨Tryz.func12, by kernel_rfl, by kernel_rfl, by kernel_rfl, by kernel_rfl⟩
theorem p12_e_0 (a0 : Str) (r1 : (List Tok) × Int) : rE I12 (xA7 a0) [Y] [xAt r1] = dn (xA0 ((Exp.mk 0 0 [] []), r1.2)) [AbC 30 (xBh a0) (xAt r1), (decide ((r1.2 : Int) ≥ 0)) = true] := by kernel_rfl
theorem p12_e_1 (a0 : Str) (r1 : (List Tok) × Int) (r2 : Exp × Psr) : rE I12 (xA7 a0) [F, Y, Y, Y] [xAt r1, xAe r2] = dn (xA0 ((Exp.mk 0 0 [] []), (Ln a0 : Int))) [AbC 30 (xBh a0) (xAt r1), (decide ((r1.2 : Int) ≥ 0)) = false, AbC 31 (xAk (Psr.mk r1.1 0 (-1))) (xAe r2), (decide (((Psr.bad r2.2) : Int) < 0)) = true, (decide (((Psr.pos r2.2) : Int) < (Ln r1.1 : Int))) = true, (decide (((Psr.pos r2.2) : Int) ≥ (Ln r1.1 : Int))) = true] := by kernel_rfl
theorem p12_e_2 (a0 : Str) (r1 : (List Tok) × Int) (r2 : Exp × Psr) : rE I12 (xA7 a0) [F, Y, Y, F, Y] [xAt r1, xAe r2] = dn (xA0 ((Exp.mk 0 0 [] []), (Tok.pos (gD r1.1 (tN (Psr.pos r2.2)) Ty.tok.dflt)))) [AbC 30 (xBh a0) (xAt r1), (decide ((r1.2 : Int) ≥ 0)) = false, AbC 31 (xAk (Psr.mk r1.1 0 (-1))) (xAe r2), (decide (((Psr.bad r2.2) : Int) < 0)) = true, (decide (((Psr.pos r2.2) : Int) < (Ln r1.1 : Int))) = true, (decide (((Psr.pos r2.2) : Int) ≥ (Ln r1.1 : Int))) = false, (decide (((Psr.pos r2.2) : Int) ≥ 0)) = true, (0 : Int) ≤ (Psr.pos r2.2) ∧ (Psr.pos r2.2) < (Ln r1.1)] := by kernel_rfl
theorem p12_e_3 (a0 : Str) (r1 : (List Tok) × Int) (r2 : Exp × Psr) (r3 : Bool) : rE I12 (xA7 a0) [F, Y, Y, F, F, Y] [xAt r1, xAe r2, xAI r3] = dn (xA0 ((Exp.mk 0 0 [] []), 0)) [AbC 30 (xBh a0) (xAt r1), (decide ((r1.2 : Int) ≥ 0)) = false, AbC 31 (xAk (Psr.mk r1.1 0 (-1))) (xAe r2), (decide (((Psr.bad r2.2) : Int) < 0)) = true, (decide (((Psr.pos r2.2) : Int) < (Ln r1.1 : Int))) = true, (decide (((Psr.pos r2.2) : Int) ≥ (Ln r1.1 : Int))) = false, (decide (((Psr.pos r2.2) : Int) ≥ 0)) = false, AbC 32 (xBl r2.1) (xAI r3), (!r3) = true] := by kernel_rfl
theorem p12_e_4 (a0 : Str) (r1 : (List Tok) × Int) (r2 : Exp × Psr) (r3 : Bool) : rE I12 (xA7 a0) [F, Y, Y, F, F, F] [xAt r1, xAe r2, xAI r3] = dn (xA0 (r2.1, (-1))) [AbC 30 (xBh a0) (xAt r1), (decide ((r1.2 : Int) ≥ 0)) = false, AbC 31 (xAk (Psr.mk r1.1 0 (-1))) (xAe r2), (decide (((Psr.bad r2.2) : Int) < 0)) = true, (decide (((Psr.pos r2.2) : Int) < (Ln r1.1 : Int))) = true, (decide (((Psr.pos r2.2) : Int) ≥ (Ln r1.1 : Int))) = false, (decide (((Psr.pos r2.2) : Int) ≥ 0)) = false, AbC 32 (xBl r2.1) (xAI r3), (!r3) = false] := by kernel_rfl
theorem p12_e_5 (a0 : Str) (r1 : (List Tok) × Int) (r2 : Exp × Psr) : rE I12 (xA7 a0) [F, Y, F, Y] [xAt r1, xAe r2] = dn (xA0 ((Exp.mk 0 0 [] []), (Ln a0 : Int))) [AbC 30 (xBh a0) (xAt r1), (decide ((r1.2 : Int) ≥ 0)) = false, AbC 31 (xAk (Psr.mk r1.1 0 (-1))) (xAe r2), (decide (((Psr.bad r2.2) : Int) < 0)) = true, (decide (((Psr.pos r2.2) : Int) < (Ln r1.1 : Int))) = false, (decide (((Psr.bad r2.2) : Int) ≥ (Ln r1.1 : Int))) = true] := by kernel_rfl
theorem p12_e_6 (a0 : Str) (r1 : (List Tok) × Int) (r2 : Exp × Psr) : rE I12 (xA7 a0) [F, Y, F, F, Y] [xAt r1, xAe r2] = dn (xA0 ((Exp.mk 0 0 [] []), (Tok.pos (gD r1.1 (tN (Psr.bad r2.2)) Ty.tok.dflt)))) [AbC 30 (xBh a0) (xAt r1), (decide ((r1.2 : Int) ≥ 0)) = false, AbC 31 (xAk (Psr.mk r1.1 0 (-1))) (xAe r2), (decide (((Psr.bad r2.2) : Int) < 0)) = true, (decide (((Psr.pos r2.2) : Int) < (Ln r1.1 : Int))) = false, (decide (((Psr.bad r2.2) : Int) ≥ (Ln r1.1 : Int))) = false, (decide (((Psr.bad r2.2) : Int) ≥ 0)) = true, (0 : Int) ≤ (Psr.bad r2.2) ∧ (Psr.bad r2.2) < (Ln r1.1)] := by kernel_rfl
theorem p12_e_7 (a0 : Str) (r1 : (List Tok) × Int) (r2 : Exp × Psr) (r3 : Bool) : rE I12 (xA7 a0) [F, Y, F, F, F, Y] [xAt r1, xAe r2, xAI r3] = dn (xA0 ((Exp.mk 0 0 [] []), 0)) [AbC 30 (xBh a0) (xAt r1), (decide ((r1.2 : Int) ≥ 0)) = false, AbC 31 (xAk (Psr.mk r1.1 0 (-1))) (xAe r2), (decide (((Psr.bad r2.2) : Int) < 0)) = true, (decide (((Psr.pos r2.2) : Int) < (Ln r1.1 : Int))) = false, (decide (((Psr.bad r2.2) : Int) ≥ (Ln r1.1 : Int))) = false, (decide (((Psr.bad r2.2) : Int) ≥ 0)) = false, AbC 32 (xBl r2.1) (xAI r3), (!r3) = true] := by kernel_rfl
theorem p12_e_8 (a0 : Str) (r1 : (List Tok) × Int) (r2 : Exp × Psr) (r3 : Bool) : rE I12 (xA7 a0) [F, Y, F, F, F, F] [xAt r1, xAe r2, xAI r3] = dn (xA0 (r2.1, (-1))) [AbC 30 (xBh a0) (xAt r1), (decide ((r1.2 : Int) ≥ 0)) = false, AbC 31 (xAk (Psr.mk r1.1 0 (-1))) (xAe r2), (decide (((Psr.bad r2.2) : Int) < 0)) = true, (decide (((Psr.pos r2.2) : Int) < (Ln r1.1 : Int))) = false, (decide (((Psr.bad r2.2) : Int) ≥ (Ln r1.1 : Int))) = false, (decide (((Psr.bad r2.2) : Int) ≥ 0)) = false, AbC 32 (xBl r2.1) (xAI r3), (!r3) = false] := by kernel_rfl
theorem p12_e_9 (a0 : Str) (r1 : (List Tok) × Int) (r2 : Exp × Psr) : rE I12 (xA7 a0) [F, F, F, Y] [xAt r1, xAe r2] = dn (xA0 ((Exp.mk 0 0 [] []), (Ln a0 : Int))) [AbC 30 (xBh a0) (xAt r1), (decide ((r1.2 : Int) ≥ 0)) = false, AbC 31 (xAk (Psr.mk r1.1 0 (-1))) (xAe r2), (decide (((Psr.bad r2.2) : Int) < 0)) = false, false = false, (decide (((Psr.bad r2.2) : Int) ≥ (Ln r1.1 : Int))) = true] := by kernel_rfl
theorem p12_e_10 (a0 : Str) (r1 : (List Tok) × Int) (r2 : Exp × Psr) : rE I12 (xA7 a0) [F, F, F, F, Y] [xAt r1, xAe r2] = dn (xA0 ((Exp.mk 0 0 [] []), (Tok.pos (gD r1.1 (tN (Psr.bad r2.2)) Ty.tok.dflt)))) [AbC 30 (xBh a0) (xAt r1), (decide ((r1.2 : Int) ≥ 0)) = false, AbC 31 (xAk (Psr.mk r1.1 0 (-1))) (xAe r2), (decide (((Psr.bad r2.2) : Int) < 0)) = false, false = false, (decide (((Psr.bad r2.2) : Int) ≥ (Ln r1.1 : Int))) = false, (decide (((Psr.bad r2.2) : Int) ≥ 0)) = true, (0 : Int) ≤ (Psr.bad r2.2) ∧ (Psr.bad r2.2) < (Ln r1.1)] := by kernel_rfl
theorem p12_e_11 (a0 : Str) (r1 : (List Tok) × Int) (r2 : Exp × Psr) (r3 : Bool) : rE I12 (xA7 a0) [F, F, F, F, F, Y] [xAt r1, xAe r2, xAI r3] = dn (xA0 ((Exp.mk 0 0 [] []), 0)) [AbC 30 (xBh a0) (xAt r1), (decide ((r1.2 : Int) ≥ 0)) = false, AbC 31 (xAk (Psr.mk r1.1 0 (-1))) (xAe r2), (decide (((Psr.bad r2.2) : Int) < 0)) = false, false = false, (decide (((Psr.bad r2.2) : Int) ≥ (Ln r1.1 : Int))) = false, (decide (((Psr.bad r2.2) : Int) ≥ 0)) = false, AbC 32 (xBl r2.1) (xAI r3), (!r3) = true] := by kernel_rfl
theorem p12_e_12 (a0 : Str) (r1 : (List Tok) × Int) (r2 : Exp × Psr) (r3 : Bool) : rE I12 (xA7 a0) [F, F, F, F, F, F] [xAt r1, xAe r2, xAI r3] = dn (xA0 (r2.1, (-1))) [AbC 30 (xBh a0) (xAt r1), (decide ((r1.2 : Int) ≥ 0)) = false, AbC 31 (xAk (Psr.mk r1.1 0 (-1))) (xAe r2), (decide (((Psr.bad r2.2) : Int) < 0)) = false, false = false, (decide (((Psr.bad r2.2) : Int) ≥ (Ln r1.1 : Int))) = false, (decide (((Psr.bad r2.2) : Int) ≥ 0)) = false, AbC 32 (xBl r2.1) (xAI r3), (!r3) = false] := by kernel_rfl
theorem c12_e {N : Nat} : ∀ a0 r, xEi N a0 = some r → RE Tryz.f12 I12 (xA7 a0) (xA0 r) := fun a0 r h =>
 bE h fun r1 h0 h => cE h (fun h1 h => dE h fk12 (p12_e_0 a0 r1) (oc (xBM h0) (oc h1 on))) fun h1 h =>
 bE h fun r2 h2 h => cE h (fun h3 h => cE h (fun h4 h => cE h (fun h5 h => dE h fk12 (p12_e_1 a0 r1 r2) (oc (xBM h0) (oc h1 (oc (xBv h2) (oc h3 (oc h4 (oc h5 on))))))) fun h5 h =>
 cE h (fun h6 h => iE h fun h7 h => dE h fk12 (p12_e_2 a0 r1 r2) (oc (xBM h0) (oc h1 (oc (xBv h2) (oc h3 (oc h4 (oc h5 (oc h6 (oc h7 on))))))))) fun h6 h =>
 bE h fun r3 h7 h => cE h (fun h8 h => dE h fk12 (p12_e_3 a0 r1 r2 r3) (oc (xBM h0) (oc h1 (oc (xBv h2) (oc h3 (oc h4 (oc h5 (oc h6 (oc (xCx h7) (oc h8 on)))))))))) fun h8 h =>
 dE h fk12 (p12_e_4 a0 r1 r2 r3) (oc (xBM h0) (oc h1 (oc (xBv h2) (oc h3 (oc h4 (oc h5 (oc h6 (oc (xCx h7) (oc h8 on)))))))))) fun h4 h =>
 cE h (fun h5 h => dE h fk12 (p12_e_5 a0 r1 r2) (oc (xBM h0) (oc h1 (oc (xBv h2) (oc h3 (oc h4 (oc h5 on))))))) fun h5 h =>
 cE h (fun h6 h => iE h fun h7 h => dE h fk12 (p12_e_6 a0 r1 r2) (oc (xBM h0) (oc h1 (oc (xBv h2) (oc h3 (oc h4 (oc h5 (oc h6 (oc h7 on))))))))) fun h6 h =>
 bE h fun r3 h7 h => cE h (fun h8 h => dE h fk12 (p12_e_7 a0 r1 r2 r3) (oc (xBM h0) (oc h1 (oc (xBv h2) (oc h3 (oc h4 (oc h5 (oc h6 (oc (xCx h7) (oc h8 on)))))))))) fun h8 h =>
 dE h fk12 (p12_e_8 a0 r1 r2 r3) (oc (xBM h0) (oc h1 (oc (xBv h2) (oc h3 (oc h4 (oc h5 (oc h6 (oc (xCx h7) (oc h8 on)))))))))) fun h3 h =>
 cE h (fun h5 h => dE h fk12 (p12_e_9 a0 r1 r2) (oc (xBM h0) (oc h1 (oc (xBv h2) (oc h3 (oc rfl (oc h5 on))))))) fun h5 h =>
 cE h (fun h6 h => iE h fun h7 h => dE h fk12 (p12_e_10 a0 r1 r2) (oc (xBM h0) (oc h1 (oc (xBv h2) (oc h3 (oc rfl (oc h5 (oc h6 (oc h7 on))))))))) fun h6 h =>
 bE h fun r3 h7 h => cE h (fun h8 h => dE h fk12 (p12_e_11 a0 r1 r2 r3) (oc (xBM h0) (oc h1 (oc (xBv h2) (oc h3 (oc rfl (oc h5 (oc h6 (oc (xCx h7) (oc h8 on)))))))))) fun h8 h =>
 dE h fk12 (p12_e_12 a0 r1 r2 r3) (oc (xBM h0) (oc h1 (oc (xBv h2) (oc h3 (oc rfl (oc h5 (oc h6 (oc (xCx h7) (oc h8 on)))))))))
theorem xGv {N : Nat} {a0 : Str} {r : Exp × Int} (h : xEi N  a0 = some r) : AbC 12 (xA7 a0) (xA0 r) :=
 AbsCalls.of_reach fk12 rfl rfl (Nat.le_of_ble_eq_true rfl) (c12_e a0 r h)
end Go.Ab.T
end
section
open Go.Proofs
namespace Go.Ab.T
set_option linter.unusedVariables false
set_option maxRecDepth 100000
variable [Inhabited Lb]
variable [Nonempty Tab10]
variable [Nonempty ErrVars]
noncomputable def I104 : Info := { body := (Tryz.f104.body).getD .skip, nt := 27, results := [.tmp 4], keep := [0, 2, 8, 10, 12, 22, 30], live := [(3, [0, 2, 10, 12])], modes := [(6, [(0, .take, false)]), (7, [(0, .take, false)])] }
theorem fk104 : FnOk Tryz.prog 104 Tryz.f104 I104 := ⟨Tryz.func104, by kernel_rfl, by kernel_rfl, by kernel_rfl, by kernel_rfl⟩
def S104_3 (x0 : List Str) (x1 : Str) (x5 : List Int) (x6 : Int) : St := [(0, .v false [.sl .ro .str x0]), (2, .v false [.str x1]), (10, .v false [.sl .own .byte x5]), (12, .v false [.int .i64 x6])]
theorem p104_3_0 (x0 : List Str) (x1 : Str) (x5 : List Int) (x6 : Int) : rS 3 I104 (S104_3 x0 x1 x5 x6) [Y, Y] [] = st 3 I104 (S104_3 x0 x1 ((x5 ++ List.map (fun c => (c.toNat : Int)) x1) ++ List.map (fun c => (c.toNat : Int)) (gD x0 (tN x6) Ty.str.dflt)) (W (x6 + 1))) [(decide ((x6 : Int) < (Ln x0 : Int))) = true, (decide ((x6 : Int) > 0)) = true, Ln x5 + Ln x1 ≤ Lim, (0 : Int) ≤ x6 ∧ x6 < (Ln x0), Ln (x5 ++ List.map (fun c => (c.toNat : Int)) x1) + Ln (gD x0 (tN x6) Ty.str.dflt) ≤ Lim] := by kernel_rfl
theorem p104_3_1 (x0 : List Str) (x1 : Str) (x5 : List Int) (x6 : Int) : rS 3 I104 (S104_3 x0 x1 x5 x6) [Y, F] [] = st 3 I104 (S104_3 x0 x1 (x5 ++ List.map (fun c => (c.toNat : Int)) (gD x0 (tN x6) Ty.str.dflt)) (W (x6 + 1))) [(decide ((x6 : Int) < (Ln x0 : Int))) = true, (decide ((x6 : Int) > 0)) = false, (0 : Int) ≤ x6 ∧ x6 < (Ln x0), Ln x5 + Ln (gD x0 (tN x6) Ty.str.dflt) ≤ Lim] := by kernel_rfl
theorem p104_3_2 (x0 : List Str) (x1 : Str) (x5 : List Int) (x6 : Int) : rS 3 I104 (S104_3 x0 x1 x5 x6) [F] [] = dn (xFi (List.map (fun n => UInt8.ofNat (tN n)) x5)) [(decide ((x6 : Int) < (Ln x0 : Int))) = false] := by kernel_rfl
theorem p104_e_3 (a0 : List Str) (a1 : Str) : rE I104 (xGi a0 a1) [] [] = st 3 I104 (S104_3 a0 a1 [] 0) [] := by kernel_rfl
theorem c104_3 {N : Nat} : ∀ n x0 x1 x5 x6 r, xDS N n x0 x1 x5 x6 = some r → RS Tryz.f104 I104 3 (S104_3 x0 x1 x5 x6) (xFi r) := by
 intro n
 induction n with
 | zero => exact fun _ _ _ _ _ h => nE h
 | succ n ih =>
  exact fun x0 x1 x5 x6 r h =>
   cE h (fun h0 h => cE h (fun h1 h => iE h fun h2 h => iE h fun h3 h => iE h fun h4 h => tS fk104 (p104_3_0 x0 x1 x5 x6) (oc h0 (oc h1 (oc h2 (oc h3 (oc h4 on))))) (ih _ _ _ _ _ h)) fun h1 h =>
   iE h fun h2 h => iE h fun h3 h => tS fk104 (p104_3_1 x0 x1 x5 x6) (oc h0 (oc h1 (oc h2 (oc h3 on)))) (ih _ _ _ _ _ h)) fun h0 h =>
   dS h fk104 (p104_3_2 x0 x1 x5 x6) (oc h0 on)
theorem c104_e {N : Nat} : ∀ a0 a1 r, xG1 N a0 a1 = some r → RE Tryz.f104 I104 (xGi a0 a1) (xFi r) := fun a0 a1 r h =>
 tE fk104 (p104_e_3 a0 a1) on (c104_3 _ _ _ _ _ _ h)
theorem spec_Join_ok {N : Nat} {a0 : List Str} {a1 : Str} {r : Str} (h : xG1 N  a0 a1 = some r) : AbC 104 (xGi a0 a1) (xFi r) :=
 AbsCalls.of_reach fk104 rfl rfl (Nat.le_of_ble_eq_true rfl) (c104_e a0 a1 r h)
noncomputable def I74 : Info := { body := (Tryz.f74.body).getD .skip, nt := 21, results := [.tmp 2], keep := [0, 2, 4, 8, 10, 18, 24, 26, 32, 38, 3], live := [], modes := [] }
theorem fk74 : FnOk Tryz.prog 74 Tryz.f74 I74 := ⟨Tryz.func74, by kernel_rfl, by kernel_rfl, by kernel_rfl, by kernel_rfl⟩
theorem p74_e_0 (a0 : Exp) : rE I74 (xBA a0) [Y, Y] [] = dn (xA8 0) [(((Exp.kind a0) : Int) == 7) = true, (((Exp.kind a0) : Int) == 7) = true] := by kernel_rfl
theorem p74_e_1 (a0 : Exp) : rE I74 (xBA a0) [F, Y, Y] [] = dn (xA8 0) [(((Exp.kind a0) : Int) == 7) = false, (((Exp.kind a0) : Int) == 8) = true, (((Exp.kind a0) : Int) == 8) = true] := by kernel_rfl
theorem p74_e_2 (a0 : Exp) : rE I74 (xBA a0) [F, F, Y] [] = dn (xA8 0) [(((Exp.kind a0) : Int) == 7) = false, (((Exp.kind a0) : Int) == 8) = false, (((Exp.kind a0) : Int) == 9) = true] := by kernel_rfl
theorem p74_e_3 (a0 : Exp) : rE I74 (xBA a0) [F, F, F, Y, Y, Y] [] = dn (xA8 1) [(((Exp.kind a0) : Int) == 7) = false, (((Exp.kind a0) : Int) == 8) = false, (((Exp.kind a0) : Int) == 9) = false, (((Exp.kind a0) : Int) == 6) = true, (((Exp.n a0) : Int) == 4) = true, (((Exp.n a0) : Int) == 4) = true] := by kernel_rfl
theorem p74_e_4 (a0 : Exp) : rE I74 (xBA a0) [F, F, F, Y, F, Y] [] = dn (xA8 1) [(((Exp.kind a0) : Int) == 7) = false, (((Exp.kind a0) : Int) == 8) = false, (((Exp.kind a0) : Int) == 9) = false, (((Exp.kind a0) : Int) == 6) = true, (((Exp.n a0) : Int) == 4) = false, (((Exp.n a0) : Int) == 5) = true] := by kernel_rfl
theorem p74_e_5 (a0 : Exp) : rE I74 (xBA a0) [F, F, F, Y, F, F, Y, Y] [] = dn (xA8 2) [(((Exp.kind a0) : Int) == 7) = false, (((Exp.kind a0) : Int) == 8) = false, (((Exp.kind a0) : Int) == 9) = false, (((Exp.kind a0) : Int) == 6) = true, (((Exp.n a0) : Int) == 4) = false, (((Exp.n a0) : Int) == 5) = false, (((Exp.n a0) : Int) == 1) = true, (((Exp.n a0) : Int) == 1) = true] := by kernel_rfl
theorem p74_e_6 (a0 : Exp) : rE I74 (xBA a0) [F, F, F, Y, F, F, F, Y] [] = dn (xA8 2) [(((Exp.kind a0) : Int) == 7) = false, (((Exp.kind a0) : Int) == 8) = false, (((Exp.kind a0) : Int) == 9) = false, (((Exp.kind a0) : Int) == 6) = true, (((Exp.n a0) : Int) == 4) = false, (((Exp.n a0) : Int) == 5) = false, (((Exp.n a0) : Int) == 1) = false, (((Exp.n a0) : Int) == 2) = true] := by kernel_rfl
theorem p74_e_7 (a0 : Exp) : rE I74 (xBA a0) [F, F, F, Y, F, F, F, F, Y] [] = dn (xA8 3) [(((Exp.kind a0) : Int) == 7) = false, (((Exp.kind a0) : Int) == 8) = false, (((Exp.kind a0) : Int) == 9) = false, (((Exp.kind a0) : Int) == 6) = true, (((Exp.n a0) : Int) == 4) = false, (((Exp.n a0) : Int) == 5) = false, (((Exp.n a0) : Int) == 1) = false, (((Exp.n a0) : Int) == 2) = false, (((Exp.n a0) : Int) == 3) = true] := by kernel_rfl
theorem p74_e_8 (a0 : Exp) : rE I74 (xBA a0) [F, F, F, Y, F, F, F, F, F] [] = dn (xA8 4) [(((Exp.kind a0) : Int) == 7) = false, (((Exp.kind a0) : Int) == 8) = false, (((Exp.kind a0) : Int) == 9) = false, (((Exp.kind a0) : Int) == 6) = true, (((Exp.n a0) : Int) == 4) = false, (((Exp.n a0) : Int) == 5) = false, (((Exp.n a0) : Int) == 1) = false, (((Exp.n a0) : Int) == 2) = false, (((Exp.n a0) : Int) == 3) = false] := by kernel_rfl
theorem p74_e_9 (a0 : Exp) : rE I74 (xBA a0) [F, F, F, F] [] = dn (xA8 4) [(((Exp.kind a0) : Int) == 7) = false, (((Exp.kind a0) : Int) == 8) = false, (((Exp.kind a0) : Int) == 9) = false, (((Exp.kind a0) : Int) == 6) = false] := by kernel_rfl
theorem c74_e {N : Nat} : ∀ a0 r, xEO N a0 = some r → RE Tryz.f74 I74 (xBA a0) (xA8 r) := fun a0 r h =>
 cE h (fun h0 h => dE h fk74 (p74_e_0 a0) (oc h0 (oc h0 on))) fun h0 h =>
 cE h (fun h1 h => dE h fk74 (p74_e_1 a0) (oc h0 (oc h1 (oc h1 on)))) fun h1 h =>
 cE h (fun h2 h => dE h fk74 (p74_e_2 a0) (oc h0 (oc h1 (oc h2 on)))) fun h2 h =>
 cE h (fun h3 h => cE h (fun h4 h => dE h fk74 (p74_e_3 a0) (oc h0 (oc h1 (oc h2 (oc h3 (oc h4 (oc h4 on))))))) fun h4 h =>
 cE h (fun h5 h => dE h fk74 (p74_e_4 a0) (oc h0 (oc h1 (oc h2 (oc h3 (oc h4 (oc h5 on))))))) fun h5 h =>
 cE h (fun h6 h => dE h fk74 (p74_e_5 a0) (oc h0 (oc h1 (oc h2 (oc h3 (oc h4 (oc h5 (oc h6 (oc h6 on))))))))) fun h6 h =>
 cE h (fun h7 h => dE h fk74 (p74_e_6 a0) (oc h0 (oc h1 (oc h2 (oc h3 (oc h4 (oc h5 (oc h6 (oc h7 on))))))))) fun h7 h =>
 cE h (fun h8 h => dE h fk74 (p74_e_7 a0) (oc h0 (oc h1 (oc h2 (oc h3 (oc h4 (oc h5 (oc h6 (oc h7 (oc h8 on)))))))))) fun h8 h =>
 dE h fk74 (p74_e_8 a0) (oc h0 (oc h1 (oc h2 (oc h3 (oc h4 (oc h5 (oc h6 (oc h7 (oc h8 on)))))))))) fun h3 h =>
 dE h fk74 (p74_e_9 a0) (oc h0 (oc h1 (oc h2 (oc h3 on))))
theorem xFp {N : Nat} {a0 : Exp} {r : Int} (h : xEO N  a0 = some r) : AbC 74 (xBA a0) (xA8 r) :=
 AbsCalls.of_reach fk74 rfl rfl (Nat.le_of_ble_eq_true rfl) (c74_e a0 r h)
noncomputable def I76 : Info := { body := (Tryz.f76.body).getD .skip, nt := 10, results := [.tmp 2], keep := [0, 4, 10], live := [], modes := [] }
theorem fk76 : FnOk Tryz.prog 76 Tryz.f76 I76 := ⟨Tryz.func76, by kernel_rfl, by kernel_rfl, by kernel_rfl, by kernel_rfl⟩
theorem p76_e_0 (a0 : Int) (r1 : Bool) : rE I76 (xD5 a0) [Y] [xDo r1] = dn (xDm [63]) [AbC 105 (xEy a0 1 5) (xDo r1), (!r1) = true] := by kernel_rfl
theorem p76_e_1 (a0 : Int) (r1 : Bool) : rE I76 (xD5 a0) [F] [xDo r1] = dn (xDm (gD [[], [43], [45], [42], [60], [61, 61]] (tN a0) Ty.str.dflt)) [AbC 105 (xEy a0 1 5) (xDo r1), (!r1) = false, (0 : Int) ≤ a0 ∧ a0 < (Ln [[], [43], [45], [42], [60], [61, 61]])] := by kernel_rfl
theorem c76_e {N : Nat} : ∀ a0 r, xFq N a0 = some r → RE Tryz.f76 I76 (xD5 a0) (xDm r) := fun a0 r h =>
 bE h fun r1 h0 h => cE h (fun h1 h => dE h fk76 (p76_e_0 a0 r1) (oc (xGl h0) (oc h1 on))) fun h1 h =>
 iE h fun h2 h => dE h fk76 (p76_e_1 a0 r1) (oc (xGl h0) (oc h1 (oc h2 on)))
theorem xGP {N : Nat} {a0 : Int} {r : Str} (h : xFq N  a0 = some r) : AbC 76 (xD5 a0) (xDm r) :=
 AbsCalls.of_reach fk76 rfl rfl (Nat.le_of_ble_eq_true rfl) (c76_e a0 r h)
def G75 (q : Exp → Int → Option (Str)) : Prop := ∀ a0 a1 r, q a0 a1 = some r → AbC 75 (xDQ a0 a1) (xCP r)
def G73 (q : (List Exp) → Option (Str)) : Prop := ∀ a0 r, q a0 = some r → AbC 73 (xEv a0) (xDh r)
def G39 (q : Exp → Option (Str)) : Prop := ∀ a0 r, q a0 = some r → AbC 39 (xAS a0) (xAs r)
noncomputable def I75 : Info := { body := (Tryz.f75.body).getD .skip, nt := 16, results := [.tmp 4], keep := [0, 2, 4, 8, 10, 22, 5], live := [], modes := [] }
theorem fk75 : FnOk Tryz.prog 75 Tryz.f75 I75 := ⟨Tryz.func75, by kernel_rfl, by kernel_rfl, by kernel_rfl, by kernel_rfl⟩
theorem p75_e_0 (a0 : Exp) (a1 : Int) (r1 : Str) (r2 : Int) : rE I75 (xDQ a0 a1) [Y] [xAs r1, xA8 r2] = dn (xCP (([40] ++ r1) ++ [41])) [AbC 39 (xAS a0) (xAs r1), AbC 74 (xBA a0) (xA8 r2), (decide ((r2 : Int) < a1)) = true, Ln [40] + Ln r1 ≤ Lim, Ln ([40] ++ r1) + Ln [41] ≤ Lim] := by kernel_rfl
theorem p75_e_1 (a0 : Exp) (a1 : Int) (r1 : Str) (r2 : Int) : rE I75 (xDQ a0 a1) [F] [xAs r1, xA8 r2] = dn (xCP r1) [AbC 39 (xAS a0) (xAs r1), AbC 74 (xBA a0) (xA8 r2), (decide ((r2 : Int) < a1)) = false] := by kernel_rfl
theorem c75_e {N : Nat} {q0 : Exp → Int → Option (Str)} (g0 : G75 q0) {q1 : (List Exp) → Option (Str)} (g1 : G73 q1) {q2 : Exp → Option (Str)} (g2 : G39 q2) : ∀ a0 a1 r, xES N q0 q1 q2 a0 a1 = some r → RE Tryz.f75 I75 (xDQ a0 a1) (xCP r) := fun a0 a1 r h =>
 bE h fun r1 h0 h => bE h fun r2 h1 h => cE h (fun h2 h => iE h fun h3 h => iE h fun h4 h => dE h fk75 (p75_e_0 a0 a1 r1 r2) (oc (g2 _ _ h0) (oc (xFp h1) (oc h2 (oc h3 (oc h4 on)))))) fun h2 h =>
 dE h fk75 (p75_e_1 a0 a1 r1 r2) (oc (g2 _ _ h0) (oc (xFp h1) (oc h2 on)))
theorem spec_l12At_body_ok {N : Nat} {q0 : Exp → Int → Option (Str)} (g0 : G75 q0) {q1 : (List Exp) → Option (Str)} (g1 : G73 q1) {q2 : Exp → Option (Str)} (g2 : G39 q2) {a0 : Exp} {a1 : Int} {r : Str} (h : xES N q0 q1 q2 a0 a1 = some r) : AbC 75 (xDQ a0 a1) (xCP r) :=
 AbsCalls.of_reach fk75 rfl rfl (Nat.le_of_ble_eq_true rfl) (c75_e g0 g1 g2 a0 a1 r h)
noncomputable def I73 : Info := { body := (Tryz.f73.body).getD .skip, nt := 22, results := [.tmp 2], keep := [0, 4, 6, 8, 18], live := [(3, [0, 6, 8])], modes := [(5, [(0, .take, false)])] }
theorem fk73 : FnOk Tryz.prog 73 Tryz.f73 I73 := ⟨Tryz.func73, by kernel_rfl, by kernel_rfl, by kernel_rfl, by kernel_rfl⟩
def S73_3 (x0 : List Exp) (x3 : List Str) (x4 : Int) : St := [(0, .v false [.sl .ro .exp x0]), (6, .v false [.sl .own .str x3]), (8, .v false [.int .i64 x4])]
theorem p73_3_0 (x0 : List Exp) (x3 : List Str) (x4 : Int) (r1 : Str) : rS 3 I73 (S73_3 x0 x3 x4) [Y] [xAs r1] = st 3 I73 (S73_3 x0 (x3 ++ [r1]) (W (x4 + 1))) [(decide ((x4 : Int) < (Ln x0 : Int))) = true, (0 : Int) ≤ x4 ∧ x4 < (Ln x0), AbC 39 (xAS (gD x0 (tN x4) Ty.exp.dflt)) (xAs r1), Ln x3 + Ln [r1] ≤ Lim] := by kernel_rfl
theorem p73_3_1 (x0 : List Exp) (x3 : List Str) (x4 : Int) (r1 : Str) : rS 3 I73 (S73_3 x0 x3 x4) [F] [xFi r1] = dn (xDh r1) [(decide ((x4 : Int) < (Ln x0 : Int))) = false, AbC 104 (xGi x3 [44, 32]) (xFi r1)] := by kernel_rfl
theorem p73_e_2 (a0 : List Exp) : rE I73 (xEv a0) [] [] = st 3 I73 (S73_3 a0 [] 0) [] := by kernel_rfl
theorem c73_3 {N : Nat} {q0 : Exp → Int → Option (Str)} (g0 : G75 q0) {q1 : (List Exp) → Option (Str)} (g1 : G73 q1) {q2 : Exp → Option (Str)} (g2 : G39 q2) : ∀ n x0 x3 x4 r, xD2 N q0 q1 q2 n x0 x3 x4 = some r → RS Tryz.f73 I73 3 (S73_3 x0 x3 x4) (xDh r) := by
 intro n
 induction n with
 | zero => exact fun _ _ _ _ h => nE h
 | succ n ih =>
  exact fun x0 x3 x4 r h =>
   cE h (fun h0 h => iE h fun h1 h => bE h fun r1 h2 h => iE h fun h3 h => tS fk73 (p73_3_0 x0 x3 x4 r1) (oc h0 (oc h1 (oc (g2 _ _ h2) (oc h3 on)))) (ih _ _ _ _ h)) fun h0 h =>
   bE h fun r1 h1 h => dS h fk73 (p73_3_1 x0 x3 x4 r1) (oc h0 (oc (spec_Join_ok h1) on))
theorem c73_e {N : Nat} {q0 : Exp → Int → Option (Str)} (g0 : G75 q0) {q1 : (List Exp) → Option (Str)} (g1 : G73 q1) {q2 : Exp → Option (Str)} (g2 : G39 q2) : ∀ a0 r, xFA N q0 q1 q2 a0 = some r → RE Tryz.f73 I73 (xEv a0) (xDh r) := fun a0 r h =>
 tE fk73 (p73_e_2 a0) on (c73_3 g0 g1 g2 _ _ _ _ _ h)
theorem xHi {N : Nat} {q0 : Exp → Int → Option (Str)} (g0 : G75 q0) {q1 : (List Exp) → Option (Str)} (g1 : G73 q1) {q2 : Exp → Option (Str)} (g2 : G39 q2) {a0 : List Exp} {r : Str} (h : xFA N q0 q1 q2 a0 = some r) : AbC 73 (xEv a0) (xDh r) :=
 AbsCalls.of_reach fk73 rfl rfl (Nat.le_of_ble_eq_true rfl) (c73_e g0 g1 g2 a0 r h)
noncomputable def I39 : Info := { body := (Tryz.f39.body).getD .skip, nt := 124, results := [.tmp 2], keep := [0, 2, 4, 6, 8, 12, 14, 24, 36, 44, 58, 78, 116, 154, 206, 3], live := [], modes := [(22, [(4, .take, false)])] }
theorem fk39 : FnOk Tryz.prog 39 Tryz.f39 I39 := ⟨Tryz.func39, by kernel_rfl, by kernel_rfl, by kernel_rfl, by kernel_rfl⟩
theorem p39_e_0 (a0 : Exp) (r1 : Str) : rE I39 (xAS a0) [Y] [xBe r1] = dn (xAs r1) [(((Exp.kind a0) : Int) == 1) = true, AbC 72 (xCO (Exp.n a0)) (xBe r1)] := by kernel_rfl
theorem p39_e_1 (a0 : Exp) : rE I39 (xAS a0) [F, Y] [] = dn (xAs (([34] ++ (Exp.text a0)) ++ [34])) [(((Exp.kind a0) : Int) == 1) = false, (((Exp.kind a0) : Int) == 2) = true, Ln [34] + Ln (Exp.text a0) ≤ Lim, Ln ([34] ++ (Exp.text a0)) + Ln [34] ≤ Lim] := by kernel_rfl
theorem p39_e_2 (a0 : Exp) : rE I39 (xAS a0) [F, F, Y] [] = dn (xAs (Exp.text a0)) [(((Exp.kind a0) : Int) == 1) = false, (((Exp.kind a0) : Int) == 2) = false, (((Exp.kind a0) : Int) == 3) = true] := by kernel_rfl
theorem p39_e_3 (a0 : Exp) (r1 : Str) : rE I39 (xAS a0) [F, F, F, Y] [xDh r1] = dn (xAs (([91] ++ r1) ++ [93])) [(((Exp.kind a0) : Int) == 1) = false, (((Exp.kind a0) : Int) == 2) = false, (((Exp.kind a0) : Int) == 3) = false, (((Exp.kind a0) : Int) == 4) = true, AbC 73 (xEv (Exp.args a0)) (xDh r1), Ln [91] + Ln r1 ≤ Lim, Ln ([91] ++ r1) + Ln [93] ≤ Lim] := by kernel_rfl
theorem p39_e_4 (a0 : Exp) (r1 : Str) : rE I39 (xAS a0) [F, F, F, F, Y] [xDh r1] = dn (xAs ((((Exp.text a0) ++ [40]) ++ r1) ++ [41])) [(((Exp.kind a0) : Int) == 1) = false, (((Exp.kind a0) : Int) == 2) = false, (((Exp.kind a0) : Int) == 3) = false, (((Exp.kind a0) : Int) == 4) = false, (((Exp.kind a0) : Int) == 5) = true, Ln (Exp.text a0) + Ln [40] ≤ Lim, AbC 73 (xEv (Exp.args a0)) (xDh r1), Ln ((Exp.text a0) ++ [40]) + Ln r1 ≤ Lim, Ln (((Exp.text a0) ++ [40]) ++ r1) + Ln [41] ≤ Lim] := by kernel_rfl
theorem p39_e_5 (a0 : Exp) (r1 r2 : Str) : rE I39 (xAS a0) [F, F, F, F, F, Y] [xAs r1, xAs r2] = dn (xAs ((((([108, 101, 116, 32] ++ (Exp.text a0)) ++ [32, 61, 32]) ++ r1) ++ [32, 105, 110, 32]) ++ r2)) [(((Exp.kind a0) : Int) == 1) = false, (((Exp.kind a0) : Int) == 2) = false, (((Exp.kind a0) : Int) == 3) = false, (((Exp.kind a0) : Int) == 4) = false, (((Exp.kind a0) : Int) == 5) = false, (((Exp.kind a0) : Int) == 7) = true, Ln [108, 101, 116, 32] + Ln (Exp.text a0) ≤ Lim, Ln ([108, 101, 116, 32] ++ (Exp.text a0)) + Ln [32, 61, 32] ≤ Lim, (0 : Int) ≤ 0 ∧ (0 : Int) < (Ln (Exp.args a0)), AbC 39 (xAS (gD (Exp.args a0) (tN 0) Ty.exp.dflt)) (xAs r1), Ln (([108, 101, 116, 32] ++ (Exp.text a0)) ++ [32, 61, 32]) + Ln r1 ≤ Lim, Ln ((([108, 101, 116, 32] ++ (Exp.text a0)) ++ [32, 61, 32]) ++ r1) + Ln [32, 105, 110, 32] ≤ Lim, (0 : Int) ≤ 1 ∧ (1 : Int) < (Ln (Exp.args a0)), AbC 39 (xAS (gD (Exp.args a0) (tN 1) Ty.exp.dflt)) (xAs r2), Ln (((([108, 101, 116, 32] ++ (Exp.text a0)) ++ [32, 61, 32]) ++ r1) ++ [32, 105, 110, 32]) + Ln r2 ≤ Lim] := by kernel_rfl
theorem p39_e_6 (a0 : Exp) (r1 r2 : Str) : rE I39 (xAS a0) [F, F, F, F, F, F, Y] [xAs r1, xAs r2] = dn (xAs ((((([102, 111, 114, 32] ++ (Exp.text a0)) ++ [32, 105, 110, 32]) ++ r1) ++ [32, 100, 111, 32]) ++ r2)) [(((Exp.kind a0) : Int) == 1) = false, (((Exp.kind a0) : Int) == 2) = false, (((Exp.kind a0) : Int) == 3) = false, (((Exp.kind a0) : Int) == 4) = false, (((Exp.kind a0) : Int) == 5) = false, (((Exp.kind a0) : Int) == 7) = false, (((Exp.kind a0) : Int) == 9) = true, Ln [102, 111, 114, 32] + Ln (Exp.text a0) ≤ Lim, Ln ([102, 111, 114, 32] ++ (Exp.text a0)) + Ln [32, 105, 110, 32] ≤ Lim, (0 : Int) ≤ 0 ∧ (0 : Int) < (Ln (Exp.args a0)), AbC 39 (xAS (gD (Exp.args a0) (tN 0) Ty.exp.dflt)) (xAs r1), Ln (([102, 111, 114, 32] ++ (Exp.text a0)) ++ [32, 105, 110, 32]) + Ln r1 ≤ Lim, Ln ((([102, 111, 114, 32] ++ (Exp.text a0)) ++ [32, 105, 110, 32]) ++ r1) + Ln [32, 100, 111, 32] ≤ Lim, (0 : Int) ≤ 1 ∧ (1 : Int) < (Ln (Exp.args a0)), AbC 39 (xAS (gD (Exp.args a0) (tN 1) Ty.exp.dflt)) (xAs r2), Ln (((([102, 111, 114, 32] ++ (Exp.text a0)) ++ [32, 105, 110, 32]) ++ r1) ++ [32, 100, 111, 32]) + Ln r2 ≤ Lim] := by kernel_rfl
theorem p39_e_7 (a0 : Exp) (r1 r2 r3 : Str) : rE I39 (xAS a0) [F, F, F, F, F, F, F, Y] [xAs r1, xAs r2, xAs r3] = dn (xAs ((((([105, 102, 32] ++ r1) ++ [32, 116, 104, 101, 110, 32]) ++ r2) ++ [32, 101, 108, 115, 101, 32]) ++ r3)) [(((Exp.kind a0) : Int) == 1) = false, (((Exp.kind a0) : Int) == 2) = false, (((Exp.kind a0) : Int) == 3) = false, (((Exp.kind a0) : Int) == 4) = false, (((Exp.kind a0) : Int) == 5) = false, (((Exp.kind a0) : Int) == 7) = false, (((Exp.kind a0) : Int) == 9) = false, (((Exp.kind a0) : Int) == 8) = true, (0 : Int) ≤ 0 ∧ (0 : Int) < (Ln (Exp.args a0)), AbC 39 (xAS (gD (Exp.args a0) (tN 0) Ty.exp.dflt)) (xAs r1), Ln [105, 102, 32] + Ln r1 ≤ Lim, Ln ([105, 102, 32] ++ r1) + Ln [32, 116, 104, 101, 110, 32] ≤ Lim, (0 : Int) ≤ 1 ∧ (1 : Int) < (Ln (Exp.args a0)), AbC 39 (xAS (gD (Exp.args a0) (tN 1) Ty.exp.dflt)) (xAs r2), Ln (([105, 102, 32] ++ r1) ++ [32, 116, 104, 101, 110, 32]) + Ln r2 ≤ Lim, Ln ((([105, 102, 32] ++ r1) ++ [32, 116, 104, 101, 110, 32]) ++ r2) + Ln [32, 101, 108, 115, 101, 32] ≤ Lim, (0 : Int) ≤ 2 ∧ (2 : Int) < (Ln (Exp.args a0)), AbC 39 (xAS (gD (Exp.args a0) (tN 2) Ty.exp.dflt)) (xAs r3), Ln (((([105, 102, 32] ++ r1) ++ [32, 116, 104, 101, 110, 32]) ++ r2) ++ [32, 101, 108, 115, 101, 32]) + Ln r3 ≤ Lim] := by kernel_rfl
theorem p39_e_8 (a0 : Exp) (r1 : Int) (r2 r3 r4 : Str) : rE I39 (xAS a0) [F, F, F, F, F, F, F, F, Y] [xA8 r1, xCP r2, xDm r3, xCP r4] = dn (xAs ((((r2 ++ [32]) ++ r3) ++ [32]) ++ r4)) [(((Exp.kind a0) : Int) == 1) = false, (((Exp.kind a0) : Int) == 2) = false, (((Exp.kind a0) : Int) == 3) = false, (((Exp.kind a0) : Int) == 4) = false, (((Exp.kind a0) : Int) == 5) = false, (((Exp.kind a0) : Int) == 7) = false, (((Exp.kind a0) : Int) == 9) = false, (((Exp.kind a0) : Int) == 8) = false, AbC 74 (xBA a0) (xA8 r1), ((r1 : Int) == 1) = true, (0 : Int) ≤ 0 ∧ (0 : Int) < (Ln (Exp.args a0)), AbC 75 (xDQ (gD (Exp.args a0) (tN 0) Ty.exp.dflt) 2) (xCP r2), Ln r2 + Ln [32] ≤ Lim, AbC 76 (xD5 (Exp.n a0)) (xDm r3), Ln (r2 ++ [32]) + Ln r3 ≤ Lim, Ln ((r2 ++ [32]) ++ r3) + Ln [32] ≤ Lim, (0 : Int) ≤ 1 ∧ (1 : Int) < (Ln (Exp.args a0)), AbC 75 (xDQ (gD (Exp.args a0) (tN 1) Ty.exp.dflt) (W (r1 + 1))) (xCP r4), Ln (((r2 ++ [32]) ++ r3) ++ [32]) + Ln r4 ≤ Lim] := by kernel_rfl
theorem p39_e_9 (a0 : Exp) (r1 : Int) (r2 r3 r4 : Str) : rE I39 (xAS a0) [F, F, F, F, F, F, F, F, F] [xA8 r1, xCP r2, xDm r3, xCP r4] = dn (xAs ((((r2 ++ [32]) ++ r3) ++ [32]) ++ r4)) [(((Exp.kind a0) : Int) == 1) = false, (((Exp.kind a0) : Int) == 2) = false, (((Exp.kind a0) : Int) == 3) = false, (((Exp.kind a0) : Int) == 4) = false, (((Exp.kind a0) : Int) == 5) = false, (((Exp.kind a0) : Int) == 7) = false, (((Exp.kind a0) : Int) == 9) = false, (((Exp.kind a0) : Int) == 8) = false, AbC 74 (xBA a0) (xA8 r1), ((r1 : Int) == 1) = false, (0 : Int) ≤ 0 ∧ (0 : Int) < (Ln (Exp.args a0)), AbC 75 (xDQ (gD (Exp.args a0) (tN 0) Ty.exp.dflt) r1) (xCP r2), Ln r2 + Ln [32] ≤ Lim, AbC 76 (xD5 (Exp.n a0)) (xDm r3), Ln (r2 ++ [32]) + Ln r3 ≤ Lim, Ln ((r2 ++ [32]) ++ r3) + Ln [32] ≤ Lim, (0 : Int) ≤ 1 ∧ (1 : Int) < (Ln (Exp.args a0)), AbC 75 (xDQ (gD (Exp.args a0) (tN 1) Ty.exp.dflt) (W (r1 + 1))) (xCP r4), Ln (((r2 ++ [32]) ++ r3) ++ [32]) + Ln r4 ≤ Lim] := by kernel_rfl
theorem c39_e {N : Nat} {q0 : Exp → Int → Option (Str)} (g0 : G75 q0) {q1 : (List Exp) → Option (Str)} (g1 : G73 q1) {q2 : Exp → Option (Str)} (g2 : G39 q2) : ∀ a0 r, xBQ N q0 q1 q2 a0 = some r → RE Tryz.f39 I39 (xAS a0) (xAs r) := fun a0 r h =>
 cE h (fun h0 h => bE h fun r1 h1 h => dE h fk39 (p39_e_0 a0 r1) (oc h0 (oc (xEs h1) on))) fun h0 h =>
 cE h (fun h1 h => iE h fun h2 h => iE h fun h3 h => dE h fk39 (p39_e_1 a0) (oc h0 (oc h1 (oc h2 (oc h3 on))))) fun h1 h =>
 cE h (fun h2 h => dE h fk39 (p39_e_2 a0) (oc h0 (oc h1 (oc h2 on)))) fun h2 h =>
 cE h (fun h3 h => bE h fun r1 h4 h => iE h fun h5 h => iE h fun h6 h => dE h fk39 (p39_e_3 a0 r1) (oc h0 (oc h1 (oc h2 (oc h3 (oc (g1 _ _ h4) (oc h5 (oc h6 on)))))))) fun h3 h =>
 cE h (fun h4 h => iE h fun h5 h => bE h fun r1 h6 h => iE h fun h7 h => iE h fun h8 h => dE h fk39 (p39_e_4 a0 r1) (oc h0 (oc h1 (oc h2 (oc h3 (oc h4 (oc h5 (oc (g1 _ _ h6) (oc h7 (oc h8 on)))))))))) fun h4 h =>
 cE h (fun h5 h => iE h fun h6 h => iE h fun h7 h => iE h fun h8 h => bE h fun r1 h9 h => iE h fun h10 h => iE h fun h11 h => iE h fun h12 h => bE h fun r2 h13 h => iE h fun h14 h => dE h fk39 (p39_e_5 a0 r1 r2) (oc h0 (oc h1 (oc h2 (oc h3 (oc h4 (oc h5 (oc h6 (oc h7 (oc h8 (oc (g2 _ _ h9) (oc h10 (oc h11 (oc h12 (oc (g2 _ _ h13) (oc h14 on)))))))))))))))) fun h5 h =>
 cE h (fun h6 h => iE h fun h7 h => iE h fun h8 h => iE h fun h9 h => bE h fun r1 h10 h => iE h fun h11 h => iE h fun h12 h => iE h fun h13 h => bE h fun r2 h14 h => iE h fun h15 h => dE h fk39 (p39_e_6 a0 r1 r2) (oc h0 (oc h1 (oc h2 (oc h3 (oc h4 (oc h5 (oc h6 (oc h7 (oc h8 (oc h9 (oc (g2 _ _ h10) (oc h11 (oc h12 (oc h13 (oc (g2 _ _ h14) (oc h15 on))))))))))))))))) fun h6 h =>
 cE h (fun h7 h => iE h fun h8 h => bE h fun r1 h9 h => iE h fun h10 h => iE h fun h11 h => iE h fun h12 h => bE h fun r2 h13 h => iE h fun h14 h => iE h fun h15 h => iE h fun h16 h => bE h fun r3 h17 h => iE h fun h18 h => dE h fk39 (p39_e_7 a0 r1 r2 r3) (oc h0 (oc h1 (oc h2 (oc h3 (oc h4 (oc h5 (oc h6 (oc h7 (oc h8 (oc (g2 _ _ h9) (oc h10 (oc h11 (oc h12 (oc (g2 _ _ h13) (oc h14 (oc h15 (oc h16 (oc (g2 _ _ h17) (oc h18 on)))))))))))))))))))) fun h7 h =>
 bE h fun r1 h8 h => cE h (fun h9 h => iE h fun h10 h => bE h fun r2 h11 h => iE h fun h12 h => bE h fun r3 h13 h => iE h fun h14 h => iE h fun h15 h => iE h fun h16 h => bE h fun r4 h17 h => iE h fun h18 h => dE h fk39 (p39_e_8 a0 r1 r2 r3 r4) (oc h0 (oc h1 (oc h2 (oc h3 (oc h4 (oc h5 (oc h6 (oc h7 (oc (xFp h8) (oc h9 (oc h10 (oc (g0 _ _ _ h11) (oc h12 (oc (xGP h13) (oc h14 (oc h15 (oc h16 (oc (g0 _ _ _ h17) (oc h18 on)))))))))))))))))))) fun h9 h =>
 iE h fun h10 h => bE h fun r2 h11 h => iE h fun h12 h => bE h fun r3 h13 h => iE h fun h14 h => iE h fun h15 h => iE h fun h16 h => bE h fun r4 h17 h => iE h fun h18 h => dE h fk39 (p39_e_9 a0 r1 r2 r3 r4) (oc h0 (oc h1 (oc h2 (oc h3 (oc h4 (oc h5 (oc h6 (oc h7 (oc (xFp h8) (oc h9 (oc h10 (oc (g0 _ _ _ h11) (oc h12 (oc (xGP h13) (oc h14 (oc h15 (oc h16 (oc (g0 _ _ _ h17) (oc h18 on)))))))))))))))))))
theorem xHj {N : Nat} {q0 : Exp → Int → Option (Str)} (g0 : G75 q0) {q1 : (List Exp) → Option (Str)} (g1 : G73 q1) {q2 : Exp → Option (Str)} (g2 : G39 q2) {a0 : Exp} {r : Str} (h : xBQ N q0 q1 q2 a0 = some r) : AbC 39 (xAS a0) (xAs r) :=
 AbsCalls.of_reach fk39 rfl rfl (Nat.le_of_ble_eq_true rfl) (c39_e g0 g1 g2 a0 r h)
theorem spec_l12At_fix_ok {N : Nat} : ∀ d, G75 (xAC N d).c_spec_l12At ∧ G73 (xAC N d).c_spec_l12List ∧ G39 (xAC N d).c_spec_l12Text := by
 intro d
 induction d with
 | zero => exact ⟨fun _ _ _ h => nE h, fun _ _ h => nE h, fun _ _ h => nE h⟩
 | succ d ih =>
  obtain ⟨ih0, ih1, ih2⟩ := ih
  exact ⟨fun _ _ _ h => spec_l12At_body_ok (N := N) ih0 ih1 ih2 h, fun _ _ h => xHi (N := N) ih0 ih1 ih2 h, fun _ _ h => xHj (N := N) ih0 ih1 ih2 h⟩
theorem spec_l12Text_ok {N : Nat} {a0 : Exp} {r : Str} (h : xG5 N a0 = some r) : AbC 39 (xAS a0) (xAs r) := (spec_l12At_fix_ok N).2.2 _ r h
noncomputable def I21 : Info := { body := (Tryz.f21.body).getD .skip, nt := 8, results := [.tmp 2], keep := [0, 2, 4, 10, 3], live := [], modes := [] }
theorem fk21 : FnOk Tryz.prog 21 Tryz.f21 I21 := ⟨Tryz.func21, by kernel_rfl, by kernel_rfl, by kernel_rfl, by kernel_rfl⟩
theorem p21_e_0 (a0 : Exp) (r1 : Bool) : rE I21 (xEd a0) [Y] [xAK r1] = dn (xDK []) [AbC 22 (xBn a0) (xAK r1), (!r1) = true] := by kernel_rfl
theorem p21_e_1 (a0 : Exp) (r1 : Bool) (r2 : Str) : rE I21 (xEd a0) [F] [xAK r1, xAs r2] = dn (xDK r2) [AbC 22 (xBn a0) (xAK r1), (!r1) = false, AbC 39 (xAS a0) (xAs r2)] := by kernel_rfl
theorem c21_e {N : Nat} : ∀ a0 r, xEr N a0 = some r → RE Tryz.f21 I21 (xEd a0) (xDK r) := fun a0 r h =>
 bE h fun r1 h0 h => cE h (fun h1 h => dE h fk21 (p21_e_0 a0 r1) (oc (xCC h0) (oc h1 on))) fun h1 h =>
 bE h fun r2 h2 h => dE h fk21 (p21_e_1 a0 r1 r2) (oc (xCC h0) (oc h1 (oc (spec_l12Text_ok h2) on)))
theorem spec_FormatExpr_ok {N : Nat} {a0 : Exp} {r : Str} (h : xEr N  a0 = some r) : AbC 21 (xEd a0) (xDK r) :=
 AbsCalls.of_reach fk21 rfl rfl (Nat.le_of_ble_eq_true rfl) (c21_e a0 r h)
noncomputable def I16 : Info := { body := (Tryz.f16.body).getD .skip, nt := 15, results := [.tmp 2, .tmp 3], keep := [0, 4, 6, 8, 10, 24, 9], live := [], modes := [(1, [(2, .take, false)]), (2, [(0, .take, false)])] }
theorem fk16 : FnOk Tryz.prog 16 Tryz.f16 I16 := ⟨Tryz.func16, by kernel_rfl, by kernel_rfl, by kernel_rfl, by kernel_rfl⟩
theorem p16_e_0 (a0 : Str) (r1 : Exp × Int) : rE I16 (xCF a0) [Y] [xBf r1] = dn (xBC ([], false)) [AbC 11 (xBu a0) (xBf r1), (decide ((r1.2 : Int) ≥ 0)) = true] := by kernel_rfl
theorem p16_e_1 (a0 : Str) (r1 : Exp × Int) (r2 : Str) : rE I16 (xCF a0) [F] [xBf r1, xDK r2] = dn (xBC (r2, true)) [AbC 11 (xBu a0) (xBf r1), (decide ((r1.2 : Int) ≥ 0)) = false, AbC 21 (xEd r1.1) (xDK r2)] := by kernel_rfl
theorem c16_e {N : Nat} : ∀ a0 r, xEg N a0 = some r → RE Tryz.f16 I16 (xCF a0) (xBC r) := fun a0 r h =>
 bE h fun r1 h0 h => cE h (fun h1 h => dE h fk16 (p16_e_0 a0 r1) (oc (xGC h0) (oc h1 on))) fun h1 h =>
 bE h fun r2 h2 h => dE h fk16 (p16_e_1 a0 r1 r2) (oc (xGC h0) (oc h1 (oc (spec_FormatExpr_ok h2) on)))
theorem xEP {N : Nat} {a0 : Str} {r : Str × Bool} (h : xEg N  a0 = some r) : AbC 16 (xCF a0) (xBC r) :=
 AbsCalls.of_reach fk16 rfl rfl (Nat.le_of_ble_eq_true rfl) (c16_e a0 r h)
theorem strconv_Itoa_ok {N : Nat} {a0 : Int} {r : Str} (h : strconv_Itoa N a0 = some r) : AbC 102 (xG6 a0) (xGc r) :=
 lib_itoa (enter_Itoa Tryz.laysM171) (itoa_of (Any.strconv_Itoa Tryz.laysM171) tab10) h
noncomputable def I68 : Info := { body := (Tryz.f68.body).getD .skip, nt := 5, results := [.tmp 2], keep := [0, 4], live := [], modes := [] }
theorem fk68 : FnOk Tryz.prog 68 Tryz.f68 I68 := ⟨Tryz.func68, by kernel_rfl, by kernel_rfl, by kernel_rfl, by kernel_rfl⟩
theorem p68_e_0 (a0 : Int) (r1 : Str) : rE I68 (xEU a0) [] [xGc r1] = dn (xEo r1) [AbC 102 (xG6 a0) (xGc r1)] := by kernel_rfl
theorem c68_e {N : Nat} : ∀ a0 r, xE1 N a0 = some r → RE Tryz.f68 I68 (xEU a0) (xEo r) := fun a0 r h =>
 bE h fun r1 h0 h => dE h fk68 (p68_e_0 a0 r1) (oc (strconv_Itoa_ok h0) on)
theorem impl_FormatInt_ok {N : Nat} {a0 : Int} {r : Str} (h : xE1 N  a0 = some r) : AbC 68 (xEU a0) (xEo r) :=
 AbsCalls.of_reach fk68 rfl rfl (Nat.le_of_ble_eq_true rfl) (c68_e a0 r h)
theorem strings_Join_ok {N : Nat} {a0 : List Str} {a1 : Str} {r : Str} (h : strings_Join N a0 a1 = some r) : AbC 124 (xG7 a0 a1) (xGd r) :=
 lib_join (enter_Join Tryz.lays156) (fun a c s w => Any.strings_Join_none Tryz.lays156 Tryz.Builder_Extra_156 a c s w) (fun b o c xs s w h1 h2 h3 h4 h5 => Any.strings_Join Tryz.lays156 Tryz.Builder_Extra_156 b o c xs s w h1 h2 h3 h4 h5) h
noncomputable def I103 : Info := { body := (Tryz.f103.body).getD .skip, nt := 8, results := [.tmp 4], keep := [0, 2, 8], live := [], modes := [] }
theorem fk103 : FnOk Tryz.prog 103 Tryz.f103 I103 := ⟨Tryz.func103, by kernel_rfl, by kernel_rfl, by kernel_rfl, by kernel_rfl⟩
theorem p103_e_0 (a0 : List Str) (a1 r1 : Str) : rE I103 (xGf a0 a1) [] [xGd r1] = dn (xFF r1) [AbC 124 (xG7 a0 a1) (xGd r1)] := by kernel_rfl
theorem c103_e {N : Nat} : ∀ a0 a1 r, xGV N a0 a1 = some r → RE Tryz.f103 I103 (xGf a0 a1) (xFF r) := fun a0 a1 r h =>
 bE h fun r1 h0 h => dE h fk103 (p103_e_0 a0 a1 r1) (oc (strings_Join_ok h0) on)
theorem impl_Join_ok {N : Nat} {a0 : List Str} {a1 : Str} {r : Str} (h : xGV N  a0 a1 = some r) : AbC 103 (xGf a0 a1) (xFF r) :=
 AbsCalls.of_reach fk103 rfl rfl (Nat.le_of_ble_eq_true rfl) (c103_e a0 a1 r h)
noncomputable def I70 : Info := { body := (Tryz.f70.body).getD .skip, nt := 21, results := [.tmp 2], keep := [0, 2, 4, 8, 10, 18, 24, 26, 32, 38, 3], live := [], modes := [] }
theorem fk70 : FnOk Tryz.prog 70 Tryz.f70 I70 := ⟨Tryz.func70, by kernel_rfl, by kernel_rfl, by kernel_rfl, by kernel_rfl⟩
theorem p70_e_0 (a0 : Exp) : rE I70 (xBz a0) [Y, Y] [] = dn (xA6 0) [(((Exp.kind a0) : Int) == 7) = true, (((Exp.kind a0) : Int) == 7) = true] := by kernel_rfl
theorem p70_e_1 (a0 : Exp) : rE I70 (xBz a0) [F, Y, Y] [] = dn (xA6 0) [(((Exp.kind a0) : Int) == 7) = false, (((Exp.kind a0) : Int) == 8) = true, (((Exp.kind a0) : Int) == 8) = true] := by kernel_rfl
theorem p70_e_2 (a0 : Exp) : rE I70 (xBz a0) [F, F, Y] [] = dn (xA6 0) [(((Exp.kind a0) : Int) == 7) = false, (((Exp.kind a0) : Int) == 8) = false, (((Exp.kind a0) : Int) == 9) = true] := by kernel_rfl
theorem p70_e_3 (a0 : Exp) : rE I70 (xBz a0) [F, F, F, Y, Y, Y] [] = dn (xA6 1) [(((Exp.kind a0) : Int) == 7) = false, (((Exp.kind a0) : Int) == 8) = false, (((Exp.kind a0) : Int) == 9) = false, (((Exp.kind a0) : Int) == 6) = true, (((Exp.n a0) : Int) == 4) = true, (((Exp.n a0) : Int) == 4) = true] := by kernel_rfl
theorem p70_e_4 (a0 : Exp) : rE I70 (xBz a0) [F, F, F, Y, F, Y] [] = dn (xA6 1) [(((Exp.kind a0) : Int) == 7) = false, (((Exp.kind a0) : Int) == 8) = false, (((Exp.kind a0) : Int) == 9) = false, (((Exp.kind a0) : Int) == 6) = true, (((Exp.n a0) : Int) == 4) = false, (((Exp.n a0) : Int) == 5) = true] := by kernel_rfl
theorem p70_e_5 (a0 : Exp) : rE I70 (xBz a0) [F, F, F, Y, F, F, Y, Y] [] = dn (xA6 2) [(((Exp.kind a0) : Int) == 7) = false, (((Exp.kind a0) : Int) == 8) = false, (((Exp.kind a0) : Int) == 9) = false, (((Exp.kind a0) : Int) == 6) = true, (((Exp.n a0) : Int) == 4) = false, (((Exp.n a0) : Int) == 5) = false, (((Exp.n a0) : Int) == 1) = true, (((Exp.n a0) : Int) == 1) = true] := by kernel_rfl
theorem p70_e_6 (a0 : Exp) : rE I70 (xBz a0) [F, F, F, Y, F, F, F, Y] [] = dn (xA6 2) [(((Exp.kind a0) : Int) == 7) = false, (((Exp.kind a0) : Int) == 8) = false, (((Exp.kind a0) : Int) == 9) = false, (((Exp.kind a0) : Int) == 6) = true, (((Exp.n a0) : Int) == 4) = false, (((Exp.n a0) : Int) == 5) = false, (((Exp.n a0) : Int) == 1) = false, (((Exp.n a0) : Int) == 2) = true] := by kernel_rfl
theorem p70_e_7 (a0 : Exp) : rE I70 (xBz a0) [F, F, F, Y, F, F, F, F, Y] [] = dn (xA6 3) [(((Exp.kind a0) : Int) == 7) = false, (((Exp.kind a0) : Int) == 8) = false, (((Exp.kind a0) : Int) == 9) = false, (((Exp.kind a0) : Int) == 6) = true, (((Exp.n a0) : Int) == 4) = false, (((Exp.n a0) : Int) == 5) = false, (((Exp.n a0) : Int) == 1) = false, (((Exp.n a0) : Int) == 2) = false, (((Exp.n a0) : Int) == 3) = true] := by kernel_rfl
theorem p70_e_8 (a0 : Exp) : rE I70 (xBz a0) [F, F, F, Y, F, F, F, F, F] [] = dn (xA6 4) [(((Exp.kind a0) : Int) == 7) = false, (((Exp.kind a0) : Int) == 8) = false, (((Exp.kind a0) : Int) == 9) = false, (((Exp.kind a0) : Int) == 6) = true, (((Exp.n a0) : Int) == 4) = false, (((Exp.n a0) : Int) == 5) = false, (((Exp.n a0) : Int) == 1) = false, (((Exp.n a0) : Int) == 2) = false, (((Exp.n a0) : Int) == 3) = false] := by kernel_rfl
theorem p70_e_9 (a0 : Exp) : rE I70 (xBz a0) [F, F, F, F] [] = dn (xA6 4) [(((Exp.kind a0) : Int) == 7) = false, (((Exp.kind a0) : Int) == 8) = false, (((Exp.kind a0) : Int) == 9) = false, (((Exp.kind a0) : Int) == 6) = false] := by kernel_rfl
theorem c70_e {N : Nat} : ∀ a0 r, xFh N a0 = some r → RE Tryz.f70 I70 (xBz a0) (xA6 r) := fun a0 r h =>
 cE h (fun h0 h => dE h fk70 (p70_e_0 a0) (oc h0 (oc h0 on))) fun h0 h =>
 cE h (fun h1 h => dE h fk70 (p70_e_1 a0) (oc h0 (oc h1 (oc h1 on)))) fun h1 h =>
 cE h (fun h2 h => dE h fk70 (p70_e_2 a0) (oc h0 (oc h1 (oc h2 on)))) fun h2 h =>
 cE h (fun h3 h => cE h (fun h4 h => dE h fk70 (p70_e_3 a0) (oc h0 (oc h1 (oc h2 (oc h3 (oc h4 (oc h4 on))))))) fun h4 h =>
 cE h (fun h5 h => dE h fk70 (p70_e_4 a0) (oc h0 (oc h1 (oc h2 (oc h3 (oc h4 (oc h5 on))))))) fun h5 h =>
 cE h (fun h6 h => dE h fk70 (p70_e_5 a0) (oc h0 (oc h1 (oc h2 (oc h3 (oc h4 (oc h5 (oc h6 (oc h6 on))))))))) fun h6 h =>
 cE h (fun h7 h => dE h fk70 (p70_e_6 a0) (oc h0 (oc h1 (oc h2 (oc h3 (oc h4 (oc h5 (oc h6 (oc h7 on))))))))) fun h7 h =>
 cE h (fun h8 h => dE h fk70 (p70_e_7 a0) (oc h0 (oc h1 (oc h2 (oc h3 (oc h4 (oc h5 (oc h6 (oc h7 (oc h8 on)))))))))) fun h8 h =>
 dE h fk70 (p70_e_8 a0) (oc h0 (oc h1 (oc h2 (oc h3 (oc h4 (oc h5 (oc h6 (oc h7 (oc h8 on)))))))))) fun h3 h =>
 dE h fk70 (p70_e_9 a0) (oc h0 (oc h1 (oc h2 (oc h3 on))))
theorem xFm {N : Nat} {a0 : Exp} {r : Int} (h : xFh N  a0 = some r) : AbC 70 (xBz a0) (xA6 r) :=
 AbsCalls.of_reach fk70 rfl rfl (Nat.le_of_ble_eq_true rfl) (c70_e a0 r h)
def G71 (q : Exp → Int → Option (Str)) : Prop := ∀ a0 a1 r, q a0 a1 = some r → AbC 71 (xC3 a0 a1) (xBO r)
def G38 (q : Exp → Option (Str)) : Prop := ∀ a0 r, q a0 = some r → AbC 38 (xAZ a0) (xAA r)
def G69 (q : (List Exp) → Option (Str)) : Prop := ∀ a0 r, q a0 = some r → AbC 69 (xEq a0) (xDb r)
noncomputable def I71 : Info := { body := (Tryz.f71.body).getD .skip, nt := 16, results := [.tmp 4], keep := [0, 2, 4, 8, 10, 22, 5], live := [], modes := [] }
theorem fk71 : FnOk Tryz.prog 71 Tryz.f71 I71 := ⟨Tryz.func71, by kernel_rfl, by kernel_rfl, by kernel_rfl, by kernel_rfl⟩
theorem p71_e_0 (a0 : Exp) (a1 : Int) (r1 : Str) (r2 : Int) : rE I71 (xC3 a0 a1) [Y] [xAA r1, xA6 r2] = dn (xBO (([40] ++ r1) ++ [41])) [AbC 38 (xAZ a0) (xAA r1), AbC 70 (xBz a0) (xA6 r2), (decide ((r2 : Int) < a1)) = true, Ln [40] + Ln r1 ≤ Lim, Ln ([40] ++ r1) + Ln [41] ≤ Lim] := by kernel_rfl
theorem p71_e_1 (a0 : Exp) (a1 : Int) (r1 : Str) (r2 : Int) : rE I71 (xC3 a0 a1) [F] [xAA r1, xA6 r2] = dn (xBO r1) [AbC 38 (xAZ a0) (xAA r1), AbC 70 (xBz a0) (xA6 r2), (decide ((r2 : Int) < a1)) = false] := by kernel_rfl
theorem c71_e {N : Nat} {q0 : Exp → Int → Option (Str)} (g0 : G71 q0) {q1 : Exp → Option (Str)} (g1 : G38 q1) {q2 : (List Exp) → Option (Str)} (g2 : G69 q2) : ∀ a0 a1 r, xEc N q0 q1 q2 a0 a1 = some r → RE Tryz.f71 I71 (xC3 a0 a1) (xBO r) := fun a0 a1 r h =>
 bE h fun r1 h0 h => bE h fun r2 h1 h => cE h (fun h2 h => iE h fun h3 h => iE h fun h4 h => dE h fk71 (p71_e_0 a0 a1 r1 r2) (oc (g1 _ _ h0) (oc (xFm h1) (oc h2 (oc h3 (oc h4 on)))))) fun h2 h =>
 dE h fk71 (p71_e_1 a0 a1 r1 r2) (oc (g1 _ _ h0) (oc (xFm h1) (oc h2 on)))
theorem xGY {N : Nat} {q0 : Exp → Int → Option (Str)} (g0 : G71 q0) {q1 : Exp → Option (Str)} (g1 : G38 q1) {q2 : (List Exp) → Option (Str)} (g2 : G69 q2) {a0 : Exp} {a1 : Int} {r : Str} (h : xEc N q0 q1 q2 a0 a1 = some r) : AbC 71 (xC3 a0 a1) (xBO r) :=
 AbsCalls.of_reach fk71 rfl rfl (Nat.le_of_ble_eq_true rfl) (c71_e g0 g1 g2 a0 a1 r h)
noncomputable def I38 : Info := { body := (Tryz.f38.body).getD .skip, nt := 124, results := [.tmp 2], keep := [0, 2, 4, 6, 8, 12, 14, 24, 36, 44, 58, 78, 116, 160, 208, 3], live := [], modes := [(22, [(16, .take, false)])] }
theorem fk38 : FnOk Tryz.prog 38 Tryz.f38 I38 := ⟨Tryz.func38, by kernel_rfl, by kernel_rfl, by kernel_rfl, by kernel_rfl⟩
theorem p38_e_0 (a0 : Exp) (r1 : Str) : rE I38 (xAZ a0) [Y] [xEo r1] = dn (xAA r1) [(((Exp.kind a0) : Int) == 1) = true, AbC 68 (xEU (Exp.n a0)) (xEo r1)] := by kernel_rfl
theorem p38_e_1 (a0 : Exp) : rE I38 (xAZ a0) [F, Y] [] = dn (xAA (([34] ++ (Exp.text a0)) ++ [34])) [(((Exp.kind a0) : Int) == 1) = false, (((Exp.kind a0) : Int) == 2) = true, Ln [34] + Ln (Exp.text a0) ≤ Lim, Ln ([34] ++ (Exp.text a0)) + Ln [34] ≤ Lim] := by kernel_rfl
theorem p38_e_2 (a0 : Exp) : rE I38 (xAZ a0) [F, F, Y] [] = dn (xAA (Exp.text a0)) [(((Exp.kind a0) : Int) == 1) = false, (((Exp.kind a0) : Int) == 2) = false, (((Exp.kind a0) : Int) == 3) = true] := by kernel_rfl
theorem p38_e_3 (a0 : Exp) (r1 : Str) : rE I38 (xAZ a0) [F, F, F, Y] [xDb r1] = dn (xAA (([91] ++ r1) ++ [93])) [(((Exp.kind a0) : Int) == 1) = false, (((Exp.kind a0) : Int) == 2) = false, (((Exp.kind a0) : Int) == 3) = false, (((Exp.kind a0) : Int) == 4) = true, AbC 69 (xEq (Exp.args a0)) (xDb r1), Ln [91] + Ln r1 ≤ Lim, Ln ([91] ++ r1) + Ln [93] ≤ Lim] := by kernel_rfl
theorem p38_e_4 (a0 : Exp) (r1 : Str) : rE I38 (xAZ a0) [F, F, F, F, Y] [xDb r1] = dn (xAA ((((Exp.text a0) ++ [40]) ++ r1) ++ [41])) [(((Exp.kind a0) : Int) == 1) = false, (((Exp.kind a0) : Int) == 2) = false, (((Exp.kind a0) : Int) == 3) = false, (((Exp.kind a0) : Int) == 4) = false, (((Exp.kind a0) : Int) == 5) = true, Ln (Exp.text a0) + Ln [40] ≤ Lim, AbC 69 (xEq (Exp.args a0)) (xDb r1), Ln ((Exp.text a0) ++ [40]) + Ln r1 ≤ Lim, Ln (((Exp.text a0) ++ [40]) ++ r1) + Ln [41] ≤ Lim] := by kernel_rfl
theorem p38_e_5 (a0 : Exp) (r1 r2 : Str) : rE I38 (xAZ a0) [F, F, F, F, F, Y] [xAA r1, xAA r2] = dn (xAA ((((([108, 101, 116, 32] ++ (Exp.text a0)) ++ [32, 61, 32]) ++ r1) ++ [32, 105, 110, 32]) ++ r2)) [(((Exp.kind a0) : Int) == 1) = false, (((Exp.kind a0) : Int) == 2) = false, (((Exp.kind a0) : Int) == 3) = false, (((Exp.kind a0) : Int) == 4) = false, (((Exp.kind a0) : Int) == 5) = false, (((Exp.kind a0) : Int) == 7) = true, Ln [108, 101, 116, 32] + Ln (Exp.text a0) ≤ Lim, Ln ([108, 101, 116, 32] ++ (Exp.text a0)) + Ln [32, 61, 32] ≤ Lim, (0 : Int) ≤ 0 ∧ (0 : Int) < (Ln (Exp.args a0)), AbC 38 (xAZ (gD (Exp.args a0) (tN 0) Ty.exp.dflt)) (xAA r1), Ln (([108, 101, 116, 32] ++ (Exp.text a0)) ++ [32, 61, 32]) + Ln r1 ≤ Lim, Ln ((([108, 101, 116, 32] ++ (Exp.text a0)) ++ [32, 61, 32]) ++ r1) + Ln [32, 105, 110, 32] ≤ Lim, (0 : Int) ≤ 1 ∧ (1 : Int) < (Ln (Exp.args a0)), AbC 38 (xAZ (gD (Exp.args a0) (tN 1) Ty.exp.dflt)) (xAA r2), Ln (((([108, 101, 116, 32] ++ (Exp.text a0)) ++ [32, 61, 32]) ++ r1) ++ [32, 105, 110, 32]) + Ln r2 ≤ Lim] := by kernel_rfl
theorem p38_e_6 (a0 : Exp) (r1 r2 r3 : Str) : rE I38 (xAZ a0) [F, F, F, F, F, F, Y] [xAA r1, xAA r2, xAA r3] = dn (xAA ((((([105, 102, 32] ++ r1) ++ [32, 116, 104, 101, 110, 32]) ++ r2) ++ [32, 101, 108, 115, 101, 32]) ++ r3)) [(((Exp.kind a0) : Int) == 1) = false, (((Exp.kind a0) : Int) == 2) = false, (((Exp.kind a0) : Int) == 3) = false, (((Exp.kind a0) : Int) == 4) = false, (((Exp.kind a0) : Int) == 5) = false, (((Exp.kind a0) : Int) == 7) = false, (((Exp.kind a0) : Int) == 8) = true, (0 : Int) ≤ 0 ∧ (0 : Int) < (Ln (Exp.args a0)), AbC 38 (xAZ (gD (Exp.args a0) (tN 0) Ty.exp.dflt)) (xAA r1), Ln [105, 102, 32] + Ln r1 ≤ Lim, Ln ([105, 102, 32] ++ r1) + Ln [32, 116, 104, 101, 110, 32] ≤ Lim, (0 : Int) ≤ 1 ∧ (1 : Int) < (Ln (Exp.args a0)), AbC 38 (xAZ (gD (Exp.args a0) (tN 1) Ty.exp.dflt)) (xAA r2), Ln (([105, 102, 32] ++ r1) ++ [32, 116, 104, 101, 110, 32]) + Ln r2 ≤ Lim, Ln ((([105, 102, 32] ++ r1) ++ [32, 116, 104, 101, 110, 32]) ++ r2) + Ln [32, 101, 108, 115, 101, 32] ≤ Lim, (0 : Int) ≤ 2 ∧ (2 : Int) < (Ln (Exp.args a0)), AbC 38 (xAZ (gD (Exp.args a0) (tN 2) Ty.exp.dflt)) (xAA r3), Ln (((([105, 102, 32] ++ r1) ++ [32, 116, 104, 101, 110, 32]) ++ r2) ++ [32, 101, 108, 115, 101, 32]) + Ln r3 ≤ Lim] := by kernel_rfl
theorem p38_e_7 (a0 : Exp) (r1 r2 : Str) : rE I38 (xAZ a0) [F, F, F, F, F, F, F, Y] [xAA r1, xAA r2] = dn (xAA ((((([102, 111, 114, 32] ++ (Exp.text a0)) ++ [32, 105, 110, 32]) ++ r1) ++ [32, 100, 111, 32]) ++ r2)) [(((Exp.kind a0) : Int) == 1) = false, (((Exp.kind a0) : Int) == 2) = false, (((Exp.kind a0) : Int) == 3) = false, (((Exp.kind a0) : Int) == 4) = false, (((Exp.kind a0) : Int) == 5) = false, (((Exp.kind a0) : Int) == 7) = false, (((Exp.kind a0) : Int) == 8) = false, (((Exp.kind a0) : Int) == 9) = true, Ln [102, 111, 114, 32] + Ln (Exp.text a0) ≤ Lim, Ln ([102, 111, 114, 32] ++ (Exp.text a0)) + Ln [32, 105, 110, 32] ≤ Lim, (0 : Int) ≤ 0 ∧ (0 : Int) < (Ln (Exp.args a0)), AbC 38 (xAZ (gD (Exp.args a0) (tN 0) Ty.exp.dflt)) (xAA r1), Ln (([102, 111, 114, 32] ++ (Exp.text a0)) ++ [32, 105, 110, 32]) + Ln r1 ≤ Lim, Ln ((([102, 111, 114, 32] ++ (Exp.text a0)) ++ [32, 105, 110, 32]) ++ r1) + Ln [32, 100, 111, 32] ≤ Lim, (0 : Int) ≤ 1 ∧ (1 : Int) < (Ln (Exp.args a0)), AbC 38 (xAZ (gD (Exp.args a0) (tN 1) Ty.exp.dflt)) (xAA r2), Ln (((([102, 111, 114, 32] ++ (Exp.text a0)) ++ [32, 105, 110, 32]) ++ r1) ++ [32, 100, 111, 32]) + Ln r2 ≤ Lim] := by kernel_rfl
theorem p38_e_8 (a0 : Exp) (r1 : Int) (r2 r3 r4 : Str) : rE I38 (xAZ a0) [F, F, F, F, F, F, F, F, Y] [xA6 r1, xBO r2, xB4 r3, xBO r4] = dn (xAA ((((r2 ++ [32]) ++ r3) ++ [32]) ++ r4)) [(((Exp.kind a0) : Int) == 1) = false, (((Exp.kind a0) : Int) == 2) = false, (((Exp.kind a0) : Int) == 3) = false, (((Exp.kind a0) : Int) == 4) = false, (((Exp.kind a0) : Int) == 5) = false, (((Exp.kind a0) : Int) == 7) = false, (((Exp.kind a0) : Int) == 8) = false, (((Exp.kind a0) : Int) == 9) = false, AbC 70 (xBz a0) (xA6 r1), ((r1 : Int) == 1) = true, (0 : Int) ≤ 0 ∧ (0 : Int) < (Ln (Exp.args a0)), AbC 71 (xC3 (gD (Exp.args a0) (tN 0) Ty.exp.dflt) 2) (xBO r2), Ln r2 + Ln [32] ≤ Lim, AbC 56 (xDk (Exp.n a0)) (xB4 r3), Ln (r2 ++ [32]) + Ln r3 ≤ Lim, Ln ((r2 ++ [32]) ++ r3) + Ln [32] ≤ Lim, (0 : Int) ≤ 1 ∧ (1 : Int) < (Ln (Exp.args a0)), AbC 71 (xC3 (gD (Exp.args a0) (tN 1) Ty.exp.dflt) (W (r1 + 1))) (xBO r4), Ln (((r2 ++ [32]) ++ r3) ++ [32]) + Ln r4 ≤ Lim] := by kernel_rfl
theorem p38_e_9 (a0 : Exp) (r1 : Int) (r2 r3 r4 : Str) : rE I38 (xAZ a0) [F, F, F, F, F, F, F, F, F] [xA6 r1, xBO r2, xB4 r3, xBO r4] = dn (xAA ((((r2 ++ [32]) ++ r3) ++ [32]) ++ r4)) [(((Exp.kind a0) : Int) == 1) = false, (((Exp.kind a0) : Int) == 2) = false, (((Exp.kind a0) : Int) == 3) = false, (((Exp.kind a0) : Int) == 4) = false, (((Exp.kind a0) : Int) == 5) = false, (((Exp.kind a0) : Int) == 7) = false, (((Exp.kind a0) : Int) == 8) = false, (((Exp.kind a0) : Int) == 9) = false, AbC 70 (xBz a0) (xA6 r1), ((r1 : Int) == 1) = false, (0 : Int) ≤ 0 ∧ (0 : Int) < (Ln (Exp.args a0)), AbC 71 (xC3 (gD (Exp.args a0) (tN 0) Ty.exp.dflt) r1) (xBO r2), Ln r2 + Ln [32] ≤ Lim, AbC 56 (xDk (Exp.n a0)) (xB4 r3), Ln (r2 ++ [32]) + Ln r3 ≤ Lim, Ln ((r2 ++ [32]) ++ r3) + Ln [32] ≤ Lim, (0 : Int) ≤ 1 ∧ (1 : Int) < (Ln (Exp.args a0)), AbC 71 (xC3 (gD (Exp.args a0) (tN 1) Ty.exp.dflt) (W (r1 + 1))) (xBO r4), Ln (((r2 ++ [32]) ++ r3) ++ [32]) + Ln r4 ≤ Lim] := by kernel_rfl
theorem c38_e {N : Nat} {q0 : Exp → Int → Option (Str)} (g0 : G71 q0) {q1 : Exp → Option (Str)} (g1 : G38 q1) {q2 : (List Exp) → Option (Str)} (g2 : G69 q2) : ∀ a0 r, xB7 N q0 q1 q2 a0 = some r → RE Tryz.f38 I38 (xAZ a0) (xAA r) := fun a0 r h =>
 cE h (fun h0 h => bE h fun r1 h1 h => dE h fk38 (p38_e_0 a0 r1) (oc h0 (oc (impl_FormatInt_ok h1) on))) fun h0 h =>
 cE h (fun h1 h => iE h fun h2 h => iE h fun h3 h => dE h fk38 (p38_e_1 a0) (oc h0 (oc h1 (oc h2 (oc h3 on))))) fun h1 h =>
 cE h (fun h2 h => dE h fk38 (p38_e_2 a0) (oc h0 (oc h1 (oc h2 on)))) fun h2 h =>
 cE h (fun h3 h => bE h fun r1 h4 h => iE h fun h5 h => iE h fun h6 h => dE h fk38 (p38_e_3 a0 r1) (oc h0 (oc h1 (oc h2 (oc h3 (oc (g2 _ _ h4) (oc h5 (oc h6 on)))))))) fun h3 h =>
 cE h (fun h4 h => iE h fun h5 h => bE h fun r1 h6 h => iE h fun h7 h => iE h fun h8 h => dE h fk38 (p38_e_4 a0 r1) (oc h0 (oc h1 (oc h2 (oc h3 (oc h4 (oc h5 (oc (g2 _ _ h6) (oc h7 (oc h8 on)))))))))) fun h4 h =>
 cE h (fun h5 h => iE h fun h6 h => iE h fun h7 h => iE h fun h8 h => bE h fun r1 h9 h => iE h fun h10 h => iE h fun h11 h => iE h fun h12 h => bE h fun r2 h13 h => iE h fun h14 h => dE h fk38 (p38_e_5 a0 r1 r2) (oc h0 (oc h1 (oc h2 (oc h3 (oc h4 (oc h5 (oc h6 (oc h7 (oc h8 (oc (g1 _ _ h9) (oc h10 (oc h11 (oc h12 (oc (g1 _ _ h13) (oc h14 on)))))))))))))))) fun h5 h =>
 cE h (fun h6 h => iE h fun h7 h => bE h fun r1 h8 h => iE h fun h9 h => iE h fun h10 h => iE h fun h11 h => bE h fun r2 h12 h => iE h fun h13 h => iE h fun h14 h => iE h fun h15 h => bE h fun r3 h16 h => iE h fun h17 h => dE h fk38 (p38_e_6 a0 r1 r2 r3) (oc h0 (oc h1 (oc h2 (oc h3 (oc h4 (oc h5 (oc h6 (oc h7 (oc (g1 _ _ h8) (oc h9 (oc h10 (oc h11 (oc (g1 _ _ h12) (oc h13 (oc h14 (oc h15 (oc (g1 _ _ h16) (oc h17 on))))))))))))))))))) fun h6 h =>
 cE h (fun h7 h => iE h fun h8 h => iE h fun h9 h => iE h fun h10 h => bE h fun r1 h11 h => iE h fun h12 h => iE h fun h13 h => iE h fun h14 h => bE h fun r2 h15 h => iE h fun h16 h => dE h fk38 (p38_e_7 a0 r1 r2) (oc h0 (oc h1 (oc h2 (oc h3 (oc h4 (oc h5 (oc h6 (oc h7 (oc h8 (oc h9 (oc h10 (oc (g1 _ _ h11) (oc h12 (oc h13 (oc h14 (oc (g1 _ _ h15) (oc h16 on)))))))))))))))))) fun h7 h =>
 bE h fun r1 h8 h => cE h (fun h9 h => iE h fun h10 h => bE h fun r2 h11 h => iE h fun h12 h => bE h fun r3 h13 h => iE h fun h14 h => iE h fun h15 h => iE h fun h16 h => bE h fun r4 h17 h => iE h fun h18 h => dE h fk38 (p38_e_8 a0 r1 r2 r3 r4) (oc h0 (oc h1 (oc h2 (oc h3 (oc h4 (oc h5 (oc h6 (oc h7 (oc (xFm h8) (oc h9 (oc h10 (oc (g0 _ _ _ h11) (oc h12 (oc (xE6 h13) (oc h14 (oc h15 (oc h16 (oc (g0 _ _ _ h17) (oc h18 on)))))))))))))))))))) fun h9 h =>
 iE h fun h10 h => bE h fun r2 h11 h => iE h fun h12 h => bE h fun r3 h13 h => iE h fun h14 h => iE h fun h15 h => iE h fun h16 h => bE h fun r4 h17 h => iE h fun h18 h => dE h fk38 (p38_e_9 a0 r1 r2 r3 r4) (oc h0 (oc h1 (oc h2 (oc h3 (oc h4 (oc h5 (oc h6 (oc h7 (oc (xFm h8) (oc h9 (oc h10 (oc (g0 _ _ _ h11) (oc h12 (oc (xE6 h13) (oc h14 (oc h15 (oc h16 (oc (g0 _ _ _ h17) (oc h18 on)))))))))))))))))))
theorem xHq {N : Nat} {q0 : Exp → Int → Option (Str)} (g0 : G71 q0) {q1 : Exp → Option (Str)} (g1 : G38 q1) {q2 : (List Exp) → Option (Str)} (g2 : G69 q2) {a0 : Exp} {r : Str} (h : xB7 N q0 q1 q2 a0 = some r) : AbC 38 (xAZ a0) (xAA r) :=
 AbsCalls.of_reach fk38 rfl rfl (Nat.le_of_ble_eq_true rfl) (c38_e g0 g1 g2 a0 r h)
noncomputable def I69 : Info := { body := (Tryz.f69.body).getD .skip, nt := 21, results := [.tmp 2], keep := [0, 4, 6, 10, 14, 16, 18, 20, 11], live := [(3, [6, 14, 16, 18])], modes := [(5, [(0, .take, false)]), (6, [(1, .take, false)])] }
theorem fk69 : FnOk Tryz.prog 69 Tryz.f69 I69 := ⟨Tryz.func69, by kernel_rfl, by kernel_rfl, by kernel_rfl, by kernel_rfl⟩
def S69_3 (x3 : List Str) (x7 : List Exp) (x8 x9 : Int) : St := [(6, .v false [.sl .own .str x3]), (14, .v false [.sl .ro .exp x7]), (16, .v false [.int .i64 x8]), (18, .v false [.int .i64 x9])]
theorem p69_3_0 (x3 : List Str) (x7 : List Exp) (x8 x9 : Int) (r1 : Str) : rS 3 I69 (S69_3 x3 x7 x8 x9) [Y] [xAA r1] = st 3 I69 (S69_3 (x3 ++ [r1]) x7 x8 (W (x9 + 1))) [(decide ((x9 : Int) < x8)) = true, (0 : Int) ≤ x9 ∧ x9 < (Ln x7), AbC 38 (xAZ (gD x7 (tN x9) Ty.exp.dflt)) (xAA r1), Ln x3 + Ln [r1] ≤ Lim] := by kernel_rfl
theorem p69_3_1 (x3 : List Str) (x7 : List Exp) (x8 x9 : Int) (r1 : Str) : rS 3 I69 (S69_3 x3 x7 x8 x9) [F] [xFF r1] = dn (xDb r1) [(decide ((x9 : Int) < x8)) = false, AbC 103 (xGf x3 [44, 32]) (xFF r1)] := by kernel_rfl
theorem p69_e_2 (a0 : List Exp) : rE I69 (xEq a0) [] [] = st 3 I69 (S69_3 [] a0 (Ln a0 : Int) 0) [] := by kernel_rfl
theorem c69_3 {N : Nat} {q0 : Exp → Int → Option (Str)} (g0 : G71 q0) {q1 : Exp → Option (Str)} (g1 : G38 q1) {q2 : (List Exp) → Option (Str)} (g2 : G69 q2) : ∀ n x3 x7 x8 x9 r, xD0 N q0 q1 q2 n x3 x7 x8 x9 = some r → RS Tryz.f69 I69 3 (S69_3 x3 x7 x8 x9) (xDb r) := by
 intro n
 induction n with
 | zero => exact fun _ _ _ _ _ h => nE h
 | succ n ih =>
  exact fun x3 x7 x8 x9 r h =>
   cE h (fun h0 h => iE h fun h1 h => bE h fun r1 h2 h => iE h fun h3 h => tS fk69 (p69_3_0 x3 x7 x8 x9 r1) (oc h0 (oc h1 (oc (g1 _ _ h2) (oc h3 on)))) (ih _ _ _ _ _ h)) fun h0 h =>
   bE h fun r1 h1 h => dS h fk69 (p69_3_1 x3 x7 x8 x9 r1) (oc h0 (oc (impl_Join_ok h1) on))
theorem c69_e {N : Nat} {q0 : Exp → Int → Option (Str)} (g0 : G71 q0) {q1 : Exp → Option (Str)} (g1 : G38 q1) {q2 : (List Exp) → Option (Str)} (g2 : G69 q2) : ∀ a0 r, xFy N q0 q1 q2 a0 = some r → RE Tryz.f69 I69 (xEq a0) (xDb r) := fun a0 r h =>
 tE fk69 (p69_e_2 a0) on (c69_3 g0 g1 g2 _ _ _ _ _ _ h)
theorem xHd {N : Nat} {q0 : Exp → Int → Option (Str)} (g0 : G71 q0) {q1 : Exp → Option (Str)} (g1 : G38 q1) {q2 : (List Exp) → Option (Str)} (g2 : G69 q2) {a0 : List Exp} {r : Str} (h : xFy N q0 q1 q2 a0 = some r) : AbC 69 (xEq a0) (xDb r) :=
 AbsCalls.of_reach fk69 rfl rfl (Nat.le_of_ble_eq_true rfl) (c69_e g0 g1 g2 a0 r h)
theorem xHc {N : Nat} : ∀ d, G71 (xAl N d).c_impl_enclosed ∧ G38 (xAl N d).c_impl_source ∧ G69 (xAl N d).c_impl_sources := by
 intro d
 induction d with
 | zero => exact ⟨fun _ _ _ h => nE h, fun _ _ h => nE h, fun _ _ h => nE h⟩
 | succ d ih =>
  obtain ⟨ih0, ih1, ih2⟩ := ih
  exact ⟨fun _ _ _ h => xGY (N := N) ih0 ih1 ih2 h, fun _ _ h => xHq (N := N) ih0 ih1 ih2 h, fun _ _ h => xHd (N := N) ih0 ih1 ih2 h⟩
theorem impl_source_ok {N : Nat} {a0 : Exp} {r : Str} (h : xHp N a0 = some r) : AbC 38 (xAZ a0) (xAA r) := (xHc N).2.1 _ r h
noncomputable def I20 : Info := { body := (Tryz.f20.body).getD .skip, nt := 8, results := [.tmp 2], keep := [0, 2, 4, 10, 3], live := [], modes := [] }
theorem fk20 : FnOk Tryz.prog 20 Tryz.f20 I20 := ⟨Tryz.func20, by kernel_rfl, by kernel_rfl, by kernel_rfl, by kernel_rfl⟩
theorem p20_e_0 (a0 : Exp) (r1 : Bool) : rE I20 (xD8 a0) [Y] [xAI r1] = dn (xDH []) [AbC 32 (xBl a0) (xAI r1), (!r1) = true] := by kernel_rfl
theorem p20_e_1 (a0 : Exp) (r1 : Bool) (r2 : Str) : rE I20 (xD8 a0) [F] [xAI r1, xAA r2] = dn (xDH r2) [AbC 32 (xBl a0) (xAI r1), (!r1) = false, AbC 38 (xAZ a0) (xAA r2)] := by kernel_rfl
theorem c20_e {N : Nat} : ∀ a0 r, xEn N a0 = some r → RE Tryz.f20 I20 (xD8 a0) (xDH r) := fun a0 r h =>
 bE h fun r1 h0 h => cE h (fun h1 h => dE h fk20 (p20_e_0 a0 r1) (oc (xCx h0) (oc h1 on))) fun h1 h =>
 bE h fun r2 h2 h => dE h fk20 (p20_e_1 a0 r1 r2) (oc (xCx h0) (oc h1 (oc (impl_source_ok h2) on)))
theorem impl_FormatExpr_ok {N : Nat} {a0 : Exp} {r : Str} (h : xEn N  a0 = some r) : AbC 20 (xD8 a0) (xDH r) :=
 AbsCalls.of_reach fk20 rfl rfl (Nat.le_of_ble_eq_true rfl) (c20_e a0 r h)
noncomputable def I17 : Info := { body := (Tryz.f17.body).getD .skip, nt := 15, results := [.tmp 2, .tmp 3], keep := [0, 4, 6, 8, 10, 24, 9], live := [], modes := [(1, [(2, .take, false)]), (2, [(0, .take, false)])] }
theorem fk17 : FnOk Tryz.prog 17 Tryz.f17 I17 := ⟨Tryz.func17, by kernel_rfl, by kernel_rfl, by kernel_rfl, by kernel_rfl⟩
theorem p17_e_0 (a0 : Str) (r1 : Exp × Int) : rE I17 (xCy a0) [Y] [xA0 r1] = dn (xBB ([], false)) [AbC 12 (xA7 a0) (xA0 r1), (decide ((r1.2 : Int) ≥ 0)) = true] := by kernel_rfl
theorem p17_e_1 (a0 : Str) (r1 : Exp × Int) (r2 : Str) : rE I17 (xCy a0) [F] [xA0 r1, xDH r2] = dn (xBB (r2, true)) [AbC 12 (xA7 a0) (xA0 r1), (decide ((r1.2 : Int) ≥ 0)) = false, AbC 20 (xD8 r1.1) (xDH r2)] := by kernel_rfl
theorem c17_e {N : Nat} : ∀ a0 r, xEa N a0 = some r → RE Tryz.f17 I17 (xCy a0) (xBB r) := fun a0 r h =>
 bE h fun r1 h0 h => cE h (fun h1 h => dE h fk17 (p17_e_0 a0 r1) (oc (xGv h0) (oc h1 on))) fun h1 h =>
 bE h fun r2 h2 h => dE h fk17 (p17_e_1 a0 r1 r2) (oc (xGv h0) (oc h1 (oc (impl_FormatExpr_ok h2) on)))
theorem xEJ {N : Nat} {a0 : Str} {r : Str × Bool} (h : xEa N  a0 = some r) : AbC 17 (xCy a0) (xBB r) :=
 AbsCalls.of_reach fk17 rfl rfl (Nat.le_of_ble_eq_true rfl) (c17_e a0 r h)
noncomputable def I5 : Info := { body := (Tryz.f5.body).getD .skip, nt := 28, results := [.tmp 2], keep := [0, 4, 6, 8, 10, 12, 18, 54], live := [], modes := [(3, [(2, .take, false)]), (4, [(2, .take, false)]), (5, [(0, .take, false), (1, .take, false), (3, .take, false), (4, .take, false), (5, .take, false)])] }
theorem fk5 : FnOk Tryz.prog 5 Tryz.f5 I5 := ⟨Tryz.func5, by kernel_rfl, by kernel_rfl, by kernel_rfl, by kernel_rfl⟩
theorem p5_e_0 (a0 : Str) : rE I5 (xBZ a0) [Y] [] = dn (xB0 true) [(decide (((Ln a0 : Int) : Int) > 1048576)) = true] := by kernel_rfl
theorem p5_e_1 (a0 : Str) (r1 : Str × Bool) (r2 : Str × Bool) : rE I5 (xBZ a0) [F, Y, Y] [xBC r1, xBB r2] = dn (xB0 false) [(decide (((Ln a0 : Int) : Int) > 1048576)) = false, AbC 16 (xCF a0) (xBC r1), AbC 17 (xCy a0) (xBB r2), (!((r2.1 : Str) == r1.1)) = true, true = true] := by kernel_rfl
theorem p5_e_2 (a0 : Str) (r1 : Str × Bool) (r2 : Str × Bool) : rE I5 (xBZ a0) [F, F, Y] [xBC r1, xBB r2] = dn (xB0 false) [(decide (((Ln a0 : Int) : Int) > 1048576)) = false, AbC 16 (xCF a0) (xBC r1), AbC 17 (xCy a0) (xBB r2), (!((r2.1 : Str) == r1.1)) = false, (!((r2.2 : Bool) == r1.2)) = true] := by kernel_rfl
theorem p5_e_3 (a0 : Str) (r1 : Str × Bool) (r2 : Str × Bool) : rE I5 (xBZ a0) [F, F, F] [xBC r1, xBB r2] = dn (xB0 true) [(decide (((Ln a0 : Int) : Int) > 1048576)) = false, AbC 16 (xCF a0) (xBC r1), AbC 17 (xCy a0) (xBB r2), (!((r2.1 : Str) == r1.1)) = false, (!((r2.2 : Bool) == r1.2)) = false] := by kernel_rfl
theorem c5_e {N : Nat} : ∀ a0 r, xDz N a0 = some r → RE Tryz.f5 I5 (xBZ a0) (xB0 r) := fun a0 r h =>
 cE h (fun h0 h => dE h fk5 (p5_e_0 a0) (oc h0 on)) fun h0 h =>
 bE h fun r1 h1 h => bE h fun r2 h2 h => cE h (fun h3 h => dE h fk5 (p5_e_1 a0 r1 r2) (oc h0 (oc (xEP h1) (oc (xEJ h2) (oc h3 (oc rfl on)))))) fun h3 h =>
 cE h (fun h4 h => dE h fk5 (p5_e_2 a0 r1 r2) (oc h0 (oc (xEP h1) (oc (xEJ h2) (oc h3 (oc h4 on)))))) fun h4 h =>
 dE h fk5 (p5_e_3 a0 r1 r2) (oc h0 (oc (xEP h1) (oc (xEJ h2) (oc h3 (oc h4 on)))))
theorem laws_FnExactNormalizeCode_ok {N : Nat} {a0 : Str} {r : Bool} (h : xDz N  a0 = some r) : AbC 5 (xBZ a0) (xB0 r) :=
 AbsCalls.of_reach fk5 rfl rfl (Nat.le_of_ble_eq_true rfl) (c5_e a0 r h)
noncomputable def I64 : Info := { body := (Tryz.f64.body).getD .skip, nt := 12, results := [.tmp 4], keep := [0, 2, 8, 1], live := [], modes := [], ext := [0] }
end Go.Ab.T
end
section
namespace Go.Ab
set_option linter.unusedVariables false
def Big (p : Nat → Prop) : Prop := ∃ k, ∀ N, k ≤ N → p N
def Big2 (p : Nat → Nat → Prop) : Prop := ∃ k, ∀ N n, k ≤ N → k ≤ n → p N n
theorem Big.imp {p q : Nat → Prop} (h : Big p) (f : ∀ N, p N → q N) : Big q := h.elim fun k hk => ⟨k, fun N hN => f N (hk N hN)⟩
theorem Big2.imp {p q : Nat → Nat → Prop} (h : Big2 p) (f : ∀ N n, p N n → q N n) : Big2 q := h.elim fun k hk => ⟨k, fun N n h1 h2 => f N n (hk N n h1 h2)⟩
theorem Big.of {p : Nat → Prop} (h : ∀ N, p N) : Big p := ⟨0, fun N _ => h N⟩
theorem Big2.of {p : Nat → Nat → Prop} (h : ∀ N n, p N n) : Big2 p := ⟨0, fun N n _ _ => h N n⟩
theorem Big.and {p q : Nat → Prop} (h : Big p) (h' : Big q) : Big fun N => p N ∧ q N := by
  obtain ⟨a, ha⟩ := h; obtain ⟨b, hb⟩ := h'
  exact ⟨max a b, fun N hN => ⟨ha N (by omega), hb N (by omega)⟩⟩
theorem Big2.and {p q : Nat → Nat → Prop} (h : Big2 p) (h' : Big2 q) : Big2 fun N n => p N n ∧ q N n := by
  obtain ⟨a, ha⟩ := h; obtain ⟨b, hb⟩ := h'
  exact ⟨max a b, fun N n h1 h2 => ⟨ha N n (by omega) (by omega), hb N n (by omega) (by omega)⟩⟩
theorem Big.two {p : Nat → Prop} (h : Big p) : Big2 fun N _ => p N := h.elim fun k hk => ⟨k, fun N _ h _ => hk N h⟩
theorem Big2.diag {p : Nat → Nat → Prop} (h : Big2 p) : Big fun N => p N N := h.elim fun k hk => ⟨k, fun N h => hk N N h h⟩
theorem Big2.succ {p : Nat → Nat → Prop} (h : Big2 fun N n => p N (n + 1)) : Big2 p := by
  obtain ⟨k, hk⟩ := h
  refine ⟨k + 1, fun N n h1 h2 => ?_⟩
  obtain ⟨m, rfl⟩ : ∃ m, n = m + 1 := ⟨n - 1, by omega⟩
  exact hk N m (by omega) (by omega)
theorem Big2.list {α : Type} {p : α → Nat → Nat → Prop} {l : List α} (h : ∀ x ∈ l, Big2 (p x)) : Big2 fun N n => ∀ x ∈ l, p x N n := by
  induction l with
  | nil => exact .of fun N n x hx => by cases hx
  | cons a l ih =>
    refine ((h a List.mem_cons_self).and (ih fun x hx => h x (List.mem_cons_of_mem _ hx))).imp fun N n ⟨h1, h2⟩ x hx => ?_
    rcases List.mem_cons.1 hx with rfl | hx
    · exact h1
    · exact h2 x hx
theorem Big.get {p : Nat → Prop} (h : Big p) : ∃ N, p N := h.elim fun k hk => ⟨k, hk k (Nat.le_refl k)⟩
def I64 (x : Int) : Prop := -9223372036854775808 ≤ x ∧ x ≤ 9223372036854775807
theorem wrap_i64_def (x : Int) : IntKind.i64.wrap x = if x % 18446744073709551616 ≥ 9223372036854775808 then x % 18446744073709551616 - 18446744073709551616 else x % 18446744073709551616 := by
  show (if (true && decide (x % 18446744073709551616 ≥ 9223372036854775808)) = true then x % 18446744073709551616 - 18446744073709551616 else x % 18446744073709551616) = _
  simp only [Bool.true_and, decide_eq_true_eq]
theorem wrap_u8_def (x : Int) : IntKind.u8.wrap x = x % 256 := by
  show (if (false && decide (x % 256 ≥ 128)) = true then x % 256 - 256 else x % 256) = _
  simp
theorem xCk {x : Int} (h1 : -9223372036854775808 ≤ x) (h2 : x ≤ 9223372036854775807) : IntKind.i64.wrap x = x := by
  rw [wrap_i64_def]
  split <;> omega
theorem wrap_u8 {x : Int} (h1 : 0 ≤ x) (h2 : x ≤ 255) : IntKind.u8.wrap x = x := by
  rw [wrap_u8_def]
  omega
theorem xDq {α : Type} {xs : List α} {i : Nat} {x : α} {l : List α} (h : xs.drop i = x :: l) : i < xs.length ∧ xs[i]? = some x ∧ xs.drop (i + 1) = l := by
  have h1 : i < xs.length := by
    rcases Nat.lt_or_ge i xs.length with h1 | h1
    · exact h1
    · rw [List.drop_eq_nil_of_le h1] at h; cases h
  rw [List.drop_eq_getElem_cons h1] at h
  cases h
  exact ⟨h1, by simp [h1], rfl⟩
theorem xGe {α : Type} {xs : List α} {i : Nat} (h : xs.drop i = []) : xs.length ≤ i := by simpa using h
end Go.Ab
end
section
namespace Go.Ab
set_option linter.unusedVariables false
inductive DK (K : Nat) : D → Prop where
  | int {k n} (h : (Lit.int k n).wf = true) : DK K (.int k n)
  | bool (b) : DK K (.bool b)
  | str {s : Str} (h : s.length ≤ K) : DK K (.str s)
  | sl {sz rows} (h : rows.length ≤ K) (hr : ∀ r ∈ rows, ∀ x ∈ r, DK K x) : DK K (.sl sz rows)
theorem wf_i64 {n : Int} : (Lit.int .i64 n).wf = true ↔ I64 n := by
  show (decide (_ ≤ n) && decide (n ≤ _)) = true ↔ _
  rw [Bool.and_eq_true, decide_eq_true_eq, decide_eq_true_eq]
  exact Iff.rfl
theorem DK.i64 {K : Nat} {n : Int} : DK K (.int .i64 n) ↔ I64 n := ⟨fun h => by cases h with | int h => exact wf_i64.1 h, fun h => .int (wf_i64.2 h)⟩
theorem DK.str_iff {K : Nat} {s : Str} : DK K (.str s) ↔ s.length ≤ K := ⟨fun h => by cases h; assumption, .str⟩
theorem DK.sl_iff {K sz : Nat} {α : Type} {f : α → List D} {xs : List α} : DK K (.sl sz (xs.map f)) ↔ xs.length ≤ K ∧ ∀ x ∈ xs, ∀ d ∈ f x, DK K d := by
  constructor
  · intro h
    cases h with
    | sl h hr => exact ⟨by simpa using h, fun x hx => hr _ (List.mem_map_of_mem hx)⟩
  · rintro ⟨h, hr⟩
    refine .sl (by simpa using h) fun r hr' => ?_
    obtain ⟨x, hx, rfl⟩ := List.mem_map.1 hr'
    exact hr x hx
def LFit {α : Type} (K : Nat) (p : α → Prop) (l : List α) : Prop := l.length ≤ K ∧ ∀ x ∈ l, p x
def Ty.Fit (K : Nat) (T : Ty) (x : T.den) : Prop := ∀ d ∈ T.toD x, DK K d
def Org.Fit (o : Org) : Prop := I64 o.cell ∧ I64 o.row
def Rowd.Fit (K : Nat) (r : Rowd) : Prop := LFit K I64 r.cells ∧ LFit K Org.Fit r.frm
def Str.Fit (K : Nat) (s : Str) : Prop := s.length ≤ K
def Exp.Fit (K : Nat) (v : Exp) : Prop := ∀ d ∈ Exp.toD v, DK K d
def Fil.Fit (K : Nat) (v : Fil) : Prop := Str.Fit K v.name ∧ I64 v.n
def Tok.Fit (K : Nat) (v : Tok) : Prop := I64 v.kind ∧ I64 v.n ∧ I64 v.pos ∧ Str.Fit K v.text
theorem rowd_fit {K : Nat} {r : Rowd} : (∀ d ∈ Rowd.toD r, DK K d) ↔ r.Fit K := by
  simp only [Rowd.toD, List.mem_cons, List.not_mem_nil, or_false, forall_eq_or_imp, forall_eq, DK.sl_iff, DK.i64, Rowd.Fit, LFit, Org.Fit]
theorem fil_fit {K : Nat} {r : Fil} : Ty.Fit K .fil r ↔ r.Fit K := by
  simp only [Ty.Fit, Ty.toD, List.mem_cons, List.not_mem_nil, or_false, forall_eq_or_imp, forall_eq, DK.str_iff, DK.i64, Fil.Fit, Str.Fit]
theorem Exp.fit_iff {K : Nat} {v : Exp} : v.Fit K ↔ I64 v.kind ∧ I64 v.n ∧ Str.Fit K v.text ∧ LFit K (Exp.Fit K) v.args := by
  cases v
  simp only [Exp.Fit, Exp.toD, Exp.toDs_eq, List.mem_cons, List.not_mem_nil, or_false, forall_eq_or_imp, forall_eq, DK.sl_iff, DK.i64, DK.str_iff, Str.Fit, LFit, Exp.kind, Exp.n, Exp.text, Exp.args]
theorem sizeOf_mem_args {l : List Exp} {x : Exp} (h : x ∈ l) (k n : Int) (t : Str) : SizeOf.sizeOf x < SizeOf.sizeOf (Exp.mk k n t l) := by
  have := List.sizeOf_lt_of_mem h
  simp only [Exp.mk.sizeOf_spec]
  omega
theorem Exp.ind {p : Exp → Prop} (h : ∀ k n t l, (∀ x ∈ l, p x) → p (.mk k n t l)) : ∀ v, p v
  | .mk k n t l => h k n t l fun x hx => Exp.ind h x
termination_by v => SizeOf.sizeOf v
decreasing_by exact sizeOf_mem_args hx k n t
end Go.Ab
end
section
namespace Go.Ab
set_option linter.unusedVariables false
theorem xFl {α σ ρ : Type} {L : Nat → Int → σ → Option ρ} (x0 : List α) (g : List α → σ → ρ) (Inv : Nat → σ → Prop)
    (hnil : ∀ n s, Inv x0.length s → L (n + 1) (x0.length : Nat) s = some (g [] s))
    (hcons : ∀ i x l s, x0.drop i = x :: l → i < x0.length → x0[i]? = some x → Inv i s →
      (∃ s', Inv (i + 1) s' ∧ g (x :: l) s = g l s' ∧ ∀ n, L (n + 1) (i : Nat) s = L n ((i + 1 : Nat) : Int) s') ∨ (∀ n, L (n + 1) (i : Nat) s = some (g (x :: l) s))) :
    ∀ n i s, Inv i s → i ≤ x0.length → x0.length < n + i → L n (i : Nat) s = some (g (x0.drop i) s) := by
  intro n
  induction n with
  | zero => intro i s _ h1 h2; omega
  | succ n ih =>
    intro i s hs hi hn
    cases hd : x0.drop i with
    | nil =>
      have := xGe hd
      obtain rfl : i = x0.length := by omega
      exact hnil n s hs
    | cons x l =>
      obtain ⟨h1, h2, h3⟩ := xDq hd
      rcases hcons i x l s hd h1 h2 hs with ⟨s', h4, h5, h6⟩ | h
      · rw [h6, ih (i + 1) s' h4 (by omega) (by omega), h3, h5]
      · exact h n
theorem xCw {α : Type} {xs : List α} {i : Nat} {x : α} (h : xs[i]? = some x) (d : α) : xs.getD i d = x := by simp [List.getD, h]
theorem xBV {i : Nat} {len : Nat} (h : i < len) (hl : len ≤ 9223372036854775807) : IntKind.i64.wrap ((i : Int) + 1) = ((i + 1 : Nat) : Int) := by
  rw [xCk (by omega) (by omega)]; omega
def left (s : Nat) (l : Int) : Int := if (s : Int) ≤ l then l - s else -1
theorem left_of {s : Nat} {l : Int} (h : (s : Int) ≤ l) : left s l = l - s := by unfold left; rw [if_pos h]
theorem left_not {s : Nat} {l : Int} (h : ¬ (s : Int) ≤ l) : left s l = -1 := by unfold left; rw [if_neg h]
section
variable {α : Type} {d : α}
end
end Go.Ab
end
section
namespace Go.Ab
set_option linter.unusedVariables false
theorem vk (a b c : Int) (t : Str) (l : List Val) (k : List Str) (r : List Rowd) : (Val.mk a b c t l k r).kind = a := rfl
theorem vs (a b c : Int) (t : Str) (l : List Val) (k : List Str) (r : List Rowd) : (Val.mk a b c t l k r).step = c := rfl
theorem vl (a b c : Int) (t : Str) (l : List Val) (k : List Str) (r : List Rowd) : (Val.mk a b c t l k r).list = l := rfl
theorem ek (a b : Int) (t : Str) (l : List Exp) : (Exp.mk a b t l).kind = a := rfl
theorem en (a b : Int) (t : Str) (l : List Exp) : (Exp.mk a b t l).n = b := rfl
theorem et (a b : Int) (t : Str) (l : List Exp) : (Exp.mk a b t l).text = t := rfl
theorem ea (a b : Int) (t : Str) (l : List Exp) : (Exp.mk a b t l).args = l := rfl
mutual
def Exp.size : Exp → Nat
  | .mk _ _ t a => t.length + (a.length + Exp.sizes a)
def Exp.sizes : List Exp → Nat
  | [] => 0
  | x :: r => Exp.size x + Exp.sizes r
end
theorem Exp.sizes_eq (l : List Exp) : Exp.sizes l = (l.map Exp.size).sum := by
  induction l with
  | nil => rfl
  | cons x l ih => simp [Exp.sizes, ih]
theorem size_mem {α : Type} {f : α → Nat} {l : List α} {x : α} (h : x ∈ l) : f x ≤ (l.map f).sum := by
  induction l with
  | nil => cases h
  | cons a l ih =>
    simp only [List.map_cons, List.sum_cons]
    rcases List.mem_cons.1 h with rfl | h
    · omega
    · have := ih h; omega
theorem Exp.size_eq (e : Exp) : e.size = e.text.length + (e.args.length + (e.args.map Exp.size).sum) := by
  cases e; simp [Exp.size, Exp.sizes_eq, Exp.text, Exp.args]
theorem big_lt (n : Nat) : Big fun N => n < N := ⟨n + 1, fun N h => by omega⟩
end Go.Ab
end
section
namespace Go.Ab
set_option linter.unusedVariables false
set_option linter.unusedSimpArgs false
def xHr (c : UInt8) : Bool := decide ((c.toNat : Int) ≥ 97) && decide ((c.toNat : Int) ≤ 122)
def digitC (c : UInt8) : Bool := decide ((c.toNat : Int) ≥ 48) && decide ((c.toNat : Int) ≤ 57)
def xGh : List UInt8 → Bool → Bool
  | [], _ => true
  | x :: r, f => (xHr x || (!f && digitC x)) && xGh r false
theorem spec_l2Shape_eq {N : Nat} {s : Str} (hl : s.length ≤ 9223372036854775807) (hn : s.length < N) : xGm N s = some (xGh s true && decide ((s.length : Int) > 0)) :=
  xFl (L := fun n i _ => xCZ N n s i) s (fun l f => xGh l f && decide ((s.length : Int) > 0)) (fun i f => f = (i == 0)) (fun n _ _ => by simp [xCZ, xGh])
    (fun i x l f hd hi hx hf => by
      have hi' : (i : Int) < (s.length : Int) := by omega
      have hi0 : ((i : Int) == 0) = f := by rw [hf]; cases i <;> simp <;> omega
      by_cases h1 : (xHr x || (!f && digitC x)) = true
      · refine .inl ⟨false, by simp, by simp [xGh, h1], fun n => ?_⟩
        simp only [xCZ, decide_eq_true hi', cond_true, Int.toNat_natCast, xCw hx, xBV hi hl, hi0]
        rw [if_pos (by omega)]
        unfold xHr digitC at h1
        by_cases c1 : (x.toNat : Int) ≥ 97 <;> by_cases c2 : (x.toNat : Int) ≤ 122 <;> by_cases c3 : (x.toNat : Int) ≥ 48 <;> by_cases c4 : (x.toNat : Int) ≤ 57 <;> cases f <;>
          simp only [c1, c2, c3, c4, decide_true, decide_false, cond_true, cond_false, Bool.not_true, Bool.not_false, Bool.and_true, Bool.and_false, Bool.or_true, Bool.or_false, Bool.false_and, Bool.true_and, Bool.false_or, Bool.false_eq_true] at h1 ⊢
      · refine .inr fun n => ?_
        have h1 := Bool.eq_false_iff.2 h1
        simp only [xCZ, decide_eq_true hi', cond_true, Int.toNat_natCast, xCw hx, xBV hi hl, hi0, xGh, h1, Bool.false_and]
        rw [if_pos (by omega)]
        unfold xHr digitC at h1
        by_cases c1 : (x.toNat : Int) ≥ 97 <;> by_cases c2 : (x.toNat : Int) ≤ 122 <;> by_cases c3 : (x.toNat : Int) ≥ 48 <;> by_cases c4 : (x.toNat : Int) ≤ 57 <;> cases f <;>
          simp only [c1, c2, c3, c4, decide_true, decide_false, cond_true, cond_false, Bool.not_true, Bool.not_false, Bool.and_true, Bool.and_false, Bool.or_true, Bool.or_false, Bool.false_and, Bool.true_and, Bool.false_or, Bool.true_eq_false] at h1 ⊢) N 0 true rfl (by omega) (by omega)
theorem xHn (N : Nat) (a b c : Int) : xEK N a b c = some (decide (b ≤ a) && decide (a ≤ c)) := by
  unfold xEK
  cases h : decide (b ≤ a) <;> simp
theorem spec_l1In_eq (N : Nat) (a b c : Int) : xF8 N a b c = some (decide (b ≤ a) && decide (a ≤ c)) := by
  unfold xF8
  cases h : decide (b ≤ a)
  · rfl
  · rfl
theorem impl_isWord_eq {N : Nat} {s : Str} (hl : s.length ≤ 9223372036854775807) (hn : s.length < N) : xGH N s = some (xGh s true && (decide ((1 : Int) ≤ s.length) && decide ((s.length : Int) ≤ 8))) :=
  xFl (L := fun n i _ => xDx N n s i) s (fun l f => xGh l f && (decide ((1 : Int) ≤ s.length) && decide ((s.length : Int) ≤ 8))) (fun i f => f = (i == 0)) (fun n _ _ => by simp [xDx, xGh, xHn])
    (fun i x l f hd hi hx hf => by
      have hi' : (i : Int) < (s.length : Int) := by omega
      have hi0 : ((i : Int) == 0) = f := by rw [hf]; cases i <;> simp <;> omega
      have e1 : decide ((x.toNat : Int) < 48) = !decide ((x.toNat : Int) ≥ 48) := by by_cases c : (x.toNat : Int) ≥ 48 <;> simp [c] <;> omega
      have e2 : decide ((x.toNat : Int) > 57) = !decide ((x.toNat : Int) ≤ 57) := by by_cases c : (x.toNat : Int) ≤ 57 <;> simp [c] <;> omega
      by_cases h1 : (xHr x || (!f && digitC x)) = true
      · refine .inl ⟨false, by simp, by simp [xGh, h1], fun n => ?_⟩
        simp only [xDx, decide_eq_true hi', cond_true, Int.toNat_natCast, xCw hx, xBV hi hl, hi0, e1, e2]
        rw [if_pos (by omega)]
        unfold xHr digitC at h1
        by_cases c1 : (x.toNat : Int) ≥ 97 <;> by_cases c2 : (x.toNat : Int) ≤ 122 <;> by_cases c3 : (x.toNat : Int) ≥ 48 <;> by_cases c4 : (x.toNat : Int) ≤ 57 <;> cases f <;>
          simp only [c1, c2, c3, c4, decide_true, decide_false, cond_true, cond_false, Bool.not_true, Bool.not_false, Bool.and_true, Bool.and_false, Bool.or_true, Bool.or_false, Bool.false_and, Bool.true_and, Bool.false_or, Bool.false_eq_true] at h1 ⊢
      · refine .inr fun n => ?_
        have h1 := Bool.eq_false_iff.2 h1
        simp only [xDx, decide_eq_true hi', cond_true, Int.toNat_natCast, xCw hx, xBV hi hl, hi0, e1, e2, xGh, h1, Bool.false_and]
        rw [if_pos (by omega)]
        unfold xHr digitC at h1
        by_cases c1 : (x.toNat : Int) ≥ 97 <;> by_cases c2 : (x.toNat : Int) ≤ 122 <;> by_cases c3 : (x.toNat : Int) ≥ 48 <;> by_cases c4 : (x.toNat : Int) ≤ 57 <;> cases f <;>
          simp only [c1, c2, c3, c4, decide_true, decide_false, cond_true, cond_false, Bool.not_true, Bool.not_false, Bool.and_true, Bool.and_false, Bool.or_true, Bool.or_false, Bool.false_and, Bool.true_and, Bool.false_or, Bool.true_eq_false] at h1 ⊢) N 0 true rfl (by omega) (by omega)
def xGz : List Str := [[108, 101, 116], [105, 110], [105, 102], [116, 104, 101, 110], [101, 108, 115, 101], [102, 111, 114], [100, 111], [108, 101, 110], [115, 117, 109], [116, 97, 107, 101], [115, 107, 105, 112], [114, 97, 110, 103, 101], [110, 116, 104], [119, 104, 101, 114, 101], [107, 101, 101, 112], [97, 100, 100], [103, 114, 111, 117, 112], [106, 111, 105, 110], [99, 111, 108, 117, 109, 110], [114, 111, 119, 115], [99, 108, 111, 99, 107], [99, 104, 97, 110, 99, 101], [102, 105, 108, 101], [116, 97, 98, 108, 101]]
theorem spec_l1Has_eq {N : Nat} {xs : List Str} {s : Str} (hl : xs.length ≤ 9223372036854775807) (hn : xs.length < N) : xHb N xs s = some (xs.any (· == s)) :=
  xFl (σ := Unit) (L := fun n i _ => xED N n xs s i) xs (fun l _ => l.any (· == s)) (fun _ _ => True) (fun n _ _ => by simp [xED])
    (fun i x l _ hd hi hx _ => by
      have hi' : (i : Int) < (xs.length : Int) := by omega
      cases h1 : x == s
      · refine .inl ⟨(), trivial, by simp [h1], fun n => ?_⟩
        simp only [xED, decide_eq_true hi', cond_true, Int.toNat_natCast, xCw hx, h1, cond_false, xBV hi hl]
        rw [if_pos (by omega)]
      · refine .inr fun n => ?_
        simp only [xED, decide_eq_true hi', cond_true, Int.toNat_natCast, xCw hx, h1]
        rw [if_pos (by omega)]
        simp [h1]) N 0 () trivial (by omega) (by omega)
def xHa (s : Str) : Bool := xGz.any (· == s)
theorem spec_IsReserved_eq {N : Nat} {s : Str} (hn : 24 < N) : xEN N s = some (xHa s) := by
  unfold xEN xFt
  rw [Option.bind_some, show ([[108, 101, 116], [105, 110], [105, 102], [116, 104, 101, 110], [101, 108, 115, 101], [102, 111, 114], [100, 111], [108, 101, 110], [115, 117, 109], [116, 97, 107, 101], [115, 107, 105, 112], [114, 97, 110, 103, 101], [110, 116, 104], [119, 104, 101, 114, 101], [107, 101, 101, 112], [97, 100, 100], [103, 114, 111, 117, 112], [106, 111, 105, 110], [99, 111, 108, 117, 109, 110], [114, 111, 119, 115], [99, 108, 111, 99, 107], [99, 104, 97, 110, 99, 101], [102, 105, 108, 101], [116, 97, 98, 108, 101]] : List Str) = xGz from rfl, spec_l1Has_eq (by decide) hn]
  rfl
theorem impl_IsReserved_eq (N : Nat) (s : Str) : xEI N s = some (xHa s) := by
  by_cases h : s ∈ xGz
  · have h' : xHa s = true := List.any_eq_true.2 ⟨s, h, by simp⟩
    rw [h']
    simp only [xGz, List.mem_cons, List.not_mem_nil, or_false] at h
    rcases h with h | h | h | h | h | h | h | h | h | h | h | h | h | h | h | h | h | h | h | h | h | h | h | h <;> subst h <;> rfl
  · have h' : xHa s = false := by
      unfold xHa
      rw [List.any_eq_false]
      intro x hx hxs
      exact h (by rw [← eq_of_beq hxs]; exact hx)
    rw [h']
    have hne : ∀ x ∈ xGz, (s == x) = false := by
      intro x hx
      cases hb : s == x
      · rfl
      · exact absurd (by rw [eq_of_beq hb]; exact hx) h
    simp only [xGz, List.mem_cons, List.not_mem_nil, or_false, forall_eq_or_imp, forall_eq] at hne
    simp only [xEI, xCV, hne, cond_false, Option.bind_some]
    rfl
def xDr (s : Str) : Bool := xGh s true && (decide ((1 : Int) ≤ s.length) && decide ((s.length : Int) ≤ 8)) && !xHa s
theorem xFb {N : Nat} {s : Str} (hl : s.length ≤ 9223372036854775807) (hn : s.length < N) : xC1 N s = some (xDr s) := by
  unfold xC1 xDr
  rw [impl_isWord_eq hl hn, Option.bind_some]
  cases (xGh s true && (decide ((1 : Int) ≤ s.length) && decide ((s.length : Int) ≤ 8)))
  · rfl
  · rw [impl_IsReserved_eq]; rfl
theorem xFe {N : Nat} {s : Str} (hl : s.length ≤ 9223372036854775807) (hn : s.length < N) (hn2 : 24 < N) : xC4 N s = some (xDr s) := by
  unfold xC4 xDr
  rw [spec_l2Shape_eq hl hn, Option.bind_some, spec_IsReserved_eq hn2]
  have : decide ((s.length : Int) > 0) = decide ((1 : Int) ≤ s.length) := by by_cases c : (s.length : Int) > 0 <;> simp [c] <;> omega
  rw [this]
  cases xGh s true <;> cases decide ((1 : Int) ≤ s.length) <;> cases decide ((s.length : Int) ≤ 8) <;> rfl
end Go.Ab
end
section
namespace Go.Ab
set_option linter.unusedVariables false
set_option linter.unusedSimpArgs false
theorem level_same (N : Nat) (e : Exp) : xFh N e = xEO N e := rfl
end Go.Ab
end
