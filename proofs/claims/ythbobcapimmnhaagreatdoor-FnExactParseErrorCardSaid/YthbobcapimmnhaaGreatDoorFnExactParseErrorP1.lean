/- The statement FnExactParseError holds: plain functions, certificates, laws. Conditions: none. -/
import Derived.Test.YthbobcapimmnhaaGreatDoorL2
import Derived.Test.YthbobcapimmnhaaGreatDoorFnExactParseErrorP0
set_option linter.all false
section
open Go.Proofs
namespace Go.Ab.T
set_option linter.unusedVariables false
set_option maxRecDepth 100000
variable [Inhabited Lb]
variable [Nonempty Tab10]
variable [Nonempty ErrVars]
def G137 (q : Rdr → Str → Option ((List Exp) × Rdr)) : Prop := ∀ a0 a1 r, q a0 a1 = some r → AbC 137 (xDi a0 a1) (xBS r)
def G127 (q : Rdr → Option (Exp × Rdr)) : Prop := ∀ a0 r, q a0 = some r → AbC 127 (xBf a0) (xA1 r)
def G48 (q : Rdr → Option (Exp × Rdr)) : Prop := ∀ a0 r, q a0 = some r → AbC 48 (xCT a0) (xCv r)
def G28 (q : Rdr → Option (Exp × Rdr)) : Prop := ∀ a0 r, q a0 = some r → AbC 28 (xAF a0) (xAh r)
def G110 (q : Rdr → Option (Exp × Rdr)) : Prop := ∀ a0 r, q a0 = some r → AbC 110 (xCa a0) (xA2 r)
def G88 (q : Rdr → Option (Exp × Rdr)) : Prop := ∀ a0 r, q a0 = some r → AbC 88 (xDc a0) (xBJ r)
noncomputable def I137 : Info := { body := (Tryz.f137.body).getD .skip, nt := 44, results := [.tmp 4], keep := [0, 2, 8, 10, 18, 46, 62, 1], live := [(5, [0, 2, 10, 1])], modes := [(4, [(0, .take, false)]), (6, [(0, .take, false), (4, .take, false)]), (10, [(0, .take, false)])], ext := [0], casts := [(5, [(10, 0, false)])], fcast := [(8, 0, false)] }
theorem fk137 : FnOk Tryz.prog 137 Tryz.f137 I137 := ⟨Tryz.func137, by kernel_rfl, by kernel_rfl, by kernel_rfl, by kernel_rfl⟩
def S137_5 (x1 : Str) (x5 : List Exp) (b0 : Rdr) : St := [(0, .v false [.ptr 0 0]), (2, .v false [.str x1]), (10, .v false [.sl .tip .exp x5]), (1, .v true [.sl .ro .tok (Rdr.toks b0), .int .i64 (Rdr.i b0), .int .i64 (Rdr.fin b0), .int .i64 (Rdr.bad b0)])]
theorem p137_5_0 (x1 : Str) (x5 : List Exp) (b0 : Rdr) (r1 : Exp × Rdr) (r2 : Bool × Rdr) (r3 : Rdr) : rS 5 I137 (S137_5 x1 x5 b0) [Y, Y] [xAh r1, xAf r2, xAI r3] = dn (xBS ((x5 ++ [(Exp.re r1.1)]), r3)) [(decide (((Rdr.bad b0) : Int) < 0)) = true, AbC 28 (xAF b0) (xAh r1), Ln x5 + Ln [(Exp.re r1.1)] ≤ Lim, AbC 45 (xAn r1.2 [44]) (xAf r2), (!r2.1) = true, AbC 47 (xBx r2.2 x1) (xAI r3)] := by kernel_rfl
theorem p137_5_1 (x1 : Str) (x5 : List Exp) (b0 : Rdr) (r1 : Exp × Rdr) (r2 : Bool × Rdr) : rS 5 I137 (S137_5 x1 x5 b0) [Y, F] [xAh r1, xAf r2] = st 5 I137 (S137_5 x1 (x5 ++ [(Exp.re r1.1)]) (Rdr.mk (Rdr.toks r2.2) (W ((Rdr.i r2.2) + 1)) (Rdr.fin r2.2) (Rdr.bad r2.2))) [(decide (((Rdr.bad b0) : Int) < 0)) = true, AbC 28 (xAF b0) (xAh r1), Ln x5 + Ln [(Exp.re r1.1)] ≤ Lim, AbC 45 (xAn r1.2 [44]) (xAf r2), (!r2.1) = false] := by kernel_rfl
theorem p137_5_2 (x1 : Str) (x5 : List Exp) (b0 r1 : Rdr) : rS 5 I137 (S137_5 x1 x5 b0) [F] [xAI r1] = dn (xBS (x5, r1)) [(decide (((Rdr.bad b0) : Int) < 0)) = false, AbC 47 (xBx b0 x1) (xAI r1)] := by kernel_rfl
theorem p137_e_3 (a0 : Rdr) (a1 : Str) (r1 : Bool × Rdr) : rE I137 (xDi a0 a1) [Y] [xAf r1] = dn (xBS ([], (Rdr.mk (Rdr.toks r1.2) (W ((Rdr.i r1.2) + 1)) (Rdr.fin r1.2) (Rdr.bad r1.2)))) [AbC 45 (xAn a0 a1) (xAf r1), r1.1 = true] := by kernel_rfl
theorem p137_e_4 (a0 : Rdr) (a1 : Str) (r1 : Bool × Rdr) : rE I137 (xDi a0 a1) [F] [xAf r1] = st 5 I137 (S137_5 a1 [] r1.2) [AbC 45 (xAn a0 a1) (xAf r1), r1.1 = false] := by kernel_rfl
theorem c137_5 {N : Nat} {q0 : Rdr → Str → Option ((List Exp) × Rdr)} (g0 : G137 q0) {q1 : Rdr → Option (Exp × Rdr)} (g1 : G127 q1) {q2 : Rdr → Option (Exp × Rdr)} (g2 : G48 q2) {q3 : Rdr → Option (Exp × Rdr)} (g3 : G28 q3) {q4 : Rdr → Option (Exp × Rdr)} (g4 : G110 q4) {q5 : Rdr → Option (Exp × Rdr)} (g5 : G88 q5) : ∀ n x1 x5 b0 r, xDS N q0 q1 q2 q3 q4 q5 n x1 x5 b0 = some r → RS Tryz.f137 I137 5 (S137_5 x1 x5 b0) (xBS r) := by
 intro n
 induction n with
 | zero => exact fun _ _ _ _ h => nE h
 | succ n ih =>
  exact fun x1 x5 b0 r h =>
   cE h (fun h0 h => bE h fun r1 h1 h => iE h fun h2 h => bE h fun r2 h3 h => cE h (fun h4 h => bE h fun r3 h5 h => dS h fk137 (p137_5_0 x1 x5 b0 r1 r2 r3) (oc h0 (oc (g3 _ _ h1) (oc h2 (oc (xAv h3) (oc h4 (oc (xCk h5) on))))))) fun h4 h =>
   tS fk137 (p137_5_1 x1 x5 b0 r1 r2) (oc h0 (oc (g3 _ _ h1) (oc h2 (oc (xAv h3) (oc h4 on))))) (ih _ _ _ _ h)) fun h0 h =>
   bE h fun r1 h1 h => dS h fk137 (p137_5_2 x1 x5 b0 r1) (oc h0 (oc (xCk h1) on))
theorem c137_e {N : Nat} {q0 : Rdr → Str → Option ((List Exp) × Rdr)} (g0 : G137 q0) {q1 : Rdr → Option (Exp × Rdr)} (g1 : G127 q1) {q2 : Rdr → Option (Exp × Rdr)} (g2 : G48 q2) {q3 : Rdr → Option (Exp × Rdr)} (g3 : G28 q3) {q4 : Rdr → Option (Exp × Rdr)} (g4 : G110 q4) {q5 : Rdr → Option (Exp × Rdr)} (g5 : G88 q5) : ∀ a0 a1 r, xC6 N q0 q1 q2 q3 q4 q5 a0 a1 = some r → RE Tryz.f137 I137 (xDi a0 a1) (xBS r) := fun a0 a1 r h =>
 bE h fun r1 h0 h => cE h (fun h1 h => dE h fk137 (p137_e_3 a0 a1 r1) (oc (xAv h0) (oc h1 on))) fun h1 h =>
 tE fk137 (p137_e_4 a0 a1 r1) (oc (xAv h0) (oc h1 on)) (c137_5 g0 g1 g2 g3 g4 g5 _ _ _ _ _ h)
theorem xGb {N : Nat} {q0 : Rdr → Str → Option ((List Exp) × Rdr)} (g0 : G137 q0) {q1 : Rdr → Option (Exp × Rdr)} (g1 : G127 q1) {q2 : Rdr → Option (Exp × Rdr)} (g2 : G48 q2) {q3 : Rdr → Option (Exp × Rdr)} (g3 : G28 q3) {q4 : Rdr → Option (Exp × Rdr)} (g4 : G110 q4) {q5 : Rdr → Option (Exp × Rdr)} (g5 : G88 q5) {a0 : Rdr} {a1 : Str} {r : (List Exp) × Rdr} (h : xC6 N q0 q1 q2 q3 q4 q5 a0 a1 = some r) : AbC 137 (xDi a0 a1) (xBS r) :=
 AbsCalls.of_reach fk137 rfl rfl (Nat.le_of_ble_eq_true rfl) (c137_e g0 g1 g2 g3 g4 g5 a0 a1 r h)
noncomputable def I127 : Info := { body := (Tryz.f127.body).getD .skip, nt := 141, results := [.cell 2 25], keep := [0, 4, 6, 8, 42, 68, 98, 128, 168, 218, 246, 1, 5, 7, 9], live := [], modes := [(1, [(5, .take, false)]), (10, [(3, .take, false)]), (13, [(3, .take, false)])], ext := [0], fcast := [(5, 3, true)] }
theorem fk127 : FnOk Tryz.prog 127 Tryz.f127 I127 := ⟨Tryz.func127, by kernel_rfl, by kernel_rfl, by kernel_rfl, by kernel_rfl⟩
theorem p127_e_0 (a0 : Rdr) (r1 : Exp × Rdr) : rE I127 (xBf a0) [Y, Y] [xAD r1] = dn (xA1 (r1.1, r1.2)) [(decide (((Rdr.bad a0) : Int) ≥ 0)) = true, true = true, AbC 29 (xBg a0) (xAD r1)] := by kernel_rfl
theorem p127_e_1 (a0 : Rdr) (r1 : Exp × Rdr) : rE I127 (xBf a0) [F, Y] [xAD r1] = dn (xA1 (r1.1, r1.2)) [(decide (((Rdr.bad a0) : Int) ≥ 0)) = false, (decide (((Rdr.i a0) : Int) ≥ (Ln (Rdr.toks a0) : Int))) = true, AbC 29 (xBg a0) (xAD r1)] := by kernel_rfl
theorem p127_e_2 (a0 : Rdr) (r1 : Exp) : rE I127 (xBf a0) [F, F, Y] [xEp r1] = dn (xA1 (r1, (Rdr.mk (Rdr.toks a0) (W ((Rdr.i a0) + 1)) (Rdr.fin a0) (Rdr.bad a0)))) [(decide (((Rdr.bad a0) : Int) ≥ 0)) = false, (decide (((Rdr.i a0) : Int) ≥ (Ln (Rdr.toks a0) : Int))) = false, (0 : Int) ≤ (Rdr.i a0) ∧ (Rdr.i a0) < (Ln (Rdr.toks a0)), (((Tok.kind (gD (Rdr.toks a0) (tN (Rdr.i a0)) Ty.tok.dflt)) : Int) == 2) = true, AbC 67 (xEP (Tok.n (gD (Rdr.toks a0) (tN (Rdr.i a0)) Ty.tok.dflt))) (xEp r1)] := by kernel_rfl
theorem p127_e_3 (a0 : Rdr) : rE I127 (xBf a0) [F, F, F, Y] [] = dn (xA1 ((Exp.mk 2 0 (Tok.text (gD (Rdr.toks a0) (tN (Rdr.i a0)) Ty.tok.dflt)) []), (Rdr.mk (Rdr.toks a0) (W ((Rdr.i a0) + 1)) (Rdr.fin a0) (Rdr.bad a0)))) [(decide (((Rdr.bad a0) : Int) ≥ 0)) = false, (decide (((Rdr.i a0) : Int) ≥ (Ln (Rdr.toks a0) : Int))) = false, (0 : Int) ≤ (Rdr.i a0) ∧ (Rdr.i a0) < (Ln (Rdr.toks a0)), (((Tok.kind (gD (Rdr.toks a0) (tN (Rdr.i a0)) Ty.tok.dflt)) : Int) == 2) = false, (((Tok.kind (gD (Rdr.toks a0) (tN (Rdr.i a0)) Ty.tok.dflt)) : Int) == 3) = true] := by kernel_rfl
theorem p127_e_4 (a0 : Rdr) (r1 : Bool) (r2 : Exp) : rE I127 (xBf a0) [F, F, F, F, Y, Y] [xAx r1, xEe r2] = dn (xA1 (r2, (Rdr.mk (Rdr.toks a0) (W ((Rdr.i a0) + 1)) (Rdr.fin a0) (Rdr.bad a0)))) [(decide (((Rdr.bad a0) : Int) ≥ 0)) = false, (decide (((Rdr.i a0) : Int) ≥ (Ln (Rdr.toks a0) : Int))) = false, (0 : Int) ≤ (Rdr.i a0) ∧ (Rdr.i a0) < (Ln (Rdr.toks a0)), (((Tok.kind (gD (Rdr.toks a0) (tN (Rdr.i a0)) Ty.tok.dflt)) : Int) == 2) = false, (((Tok.kind (gD (Rdr.toks a0) (tN (Rdr.i a0)) Ty.tok.dflt)) : Int) == 3) = false, (((Tok.kind (gD (Rdr.toks a0) (tN (Rdr.i a0)) Ty.tok.dflt)) : Int) == 1) = true, AbC 87 (xAX (Tok.text (gD (Rdr.toks a0) (tN (Rdr.i a0)) Ty.tok.dflt))) (xAx r1), r1 = true, AbC 101 (xEG (Tok.text (gD (Rdr.toks a0) (tN (Rdr.i a0)) Ty.tok.dflt))) (xEe r2)] := by kernel_rfl
theorem p127_e_5 (a0 : Rdr) (r1 : Bool) (r2 : Int) (r3 : Rdr) (r4 : (List Exp) × Rdr) : rE I127 (xBf a0) [F, F, F, F, Y, F, Y, Y] [xAx r1, xAj r2, xAI r3, xBS r4] = dn (xA1 ((Exp.mk 5 0 (Tok.text (gD (Rdr.toks a0) (tN (Rdr.i a0)) Ty.tok.dflt)) r4.1), r4.2)) [(decide (((Rdr.bad a0) : Int) ≥ 0)) = false, (decide (((Rdr.i a0) : Int) ≥ (Ln (Rdr.toks a0) : Int))) = false, (0 : Int) ≤ (Rdr.i a0) ∧ (Rdr.i a0) < (Ln (Rdr.toks a0)), (((Tok.kind (gD (Rdr.toks a0) (tN (Rdr.i a0)) Ty.tok.dflt)) : Int) == 2) = false, (((Tok.kind (gD (Rdr.toks a0) (tN (Rdr.i a0)) Ty.tok.dflt)) : Int) == 3) = false, (((Tok.kind (gD (Rdr.toks a0) (tN (Rdr.i a0)) Ty.tok.dflt)) : Int) == 1) = true, AbC 87 (xAX (Tok.text (gD (Rdr.toks a0) (tN (Rdr.i a0)) Ty.tok.dflt))) (xAx r1), r1 = false, (((Tok.kind (gD (Rdr.toks a0) (tN (Rdr.i a0)) Ty.tok.dflt)) : Int) == 1) = true, AbC 106 (xAq (Tok.text (gD (Rdr.toks a0) (tN (Rdr.i a0)) Ty.tok.dflt))) (xAj r2), (decide ((r2 : Int) ≥ 0)) = true, AbC 47 (xBx (Rdr.mk (Rdr.toks a0) (W ((Rdr.i a0) + 1)) (Rdr.fin a0) (Rdr.bad a0)) [40]) (xAI r3), AbC 137 (xDi r3 [41]) (xBS r4)] := by kernel_rfl
theorem p127_e_6 (a0 : Rdr) (r1 : Bool) (r2 : Int) (r3 : Bool) (r4 : (List Exp) × Rdr) : rE I127 (xBf a0) [F, F, F, F, Y, F, Y, F, Y] [xAx r1, xAj r2, xAA r3, xBS r4] = dn (xA1 ((Exp.mk 4 0 [] r4.1), r4.2)) [(decide (((Rdr.bad a0) : Int) ≥ 0)) = false, (decide (((Rdr.i a0) : Int) ≥ (Ln (Rdr.toks a0) : Int))) = false, (0 : Int) ≤ (Rdr.i a0) ∧ (Rdr.i a0) < (Ln (Rdr.toks a0)), (((Tok.kind (gD (Rdr.toks a0) (tN (Rdr.i a0)) Ty.tok.dflt)) : Int) == 2) = false, (((Tok.kind (gD (Rdr.toks a0) (tN (Rdr.i a0)) Ty.tok.dflt)) : Int) == 3) = false, (((Tok.kind (gD (Rdr.toks a0) (tN (Rdr.i a0)) Ty.tok.dflt)) : Int) == 1) = true, AbC 87 (xAX (Tok.text (gD (Rdr.toks a0) (tN (Rdr.i a0)) Ty.tok.dflt))) (xAx r1), r1 = false, (((Tok.kind (gD (Rdr.toks a0) (tN (Rdr.i a0)) Ty.tok.dflt)) : Int) == 1) = true, AbC 106 (xAq (Tok.text (gD (Rdr.toks a0) (tN (Rdr.i a0)) Ty.tok.dflt))) (xAj r2), (decide ((r2 : Int) ≥ 0)) = false, AbC 85 (xBc (gD (Rdr.toks a0) (tN (Rdr.i a0)) Ty.tok.dflt) [91]) (xAA r3), r3 = true, AbC 137 (xDi (Rdr.mk (Rdr.toks a0) (W ((Rdr.i a0) + 1)) (Rdr.fin a0) (Rdr.bad a0)) [93]) (xBS r4)] := by kernel_rfl
theorem p127_e_7 (a0 : Rdr) (r1 : Bool) (r2 : Int) (r3 r4 : Bool) (r5 : Exp × Rdr) (r6 : Rdr) : rE I127 (xBf a0) [F, F, F, F, Y, F, Y, F, F, Y] [xAx r1, xAj r2, xAA r3, xAA r4, xAh r5, xAI r6] = dn (xA1 (r5.1, r6)) [(decide (((Rdr.bad a0) : Int) ≥ 0)) = false, (decide (((Rdr.i a0) : Int) ≥ (Ln (Rdr.toks a0) : Int))) = false, (0 : Int) ≤ (Rdr.i a0) ∧ (Rdr.i a0) < (Ln (Rdr.toks a0)), (((Tok.kind (gD (Rdr.toks a0) (tN (Rdr.i a0)) Ty.tok.dflt)) : Int) == 2) = false, (((Tok.kind (gD (Rdr.toks a0) (tN (Rdr.i a0)) Ty.tok.dflt)) : Int) == 3) = false, (((Tok.kind (gD (Rdr.toks a0) (tN (Rdr.i a0)) Ty.tok.dflt)) : Int) == 1) = true, AbC 87 (xAX (Tok.text (gD (Rdr.toks a0) (tN (Rdr.i a0)) Ty.tok.dflt))) (xAx r1), r1 = false, (((Tok.kind (gD (Rdr.toks a0) (tN (Rdr.i a0)) Ty.tok.dflt)) : Int) == 1) = true, AbC 106 (xAq (Tok.text (gD (Rdr.toks a0) (tN (Rdr.i a0)) Ty.tok.dflt))) (xAj r2), (decide ((r2 : Int) ≥ 0)) = false, AbC 85 (xBc (gD (Rdr.toks a0) (tN (Rdr.i a0)) Ty.tok.dflt) [91]) (xAA r3), r3 = false, AbC 85 (xBc (gD (Rdr.toks a0) (tN (Rdr.i a0)) Ty.tok.dflt) [40]) (xAA r4), r4 = true, AbC 28 (xAF (Rdr.mk (Rdr.toks a0) (W ((Rdr.i a0) + 1)) (Rdr.fin a0) (Rdr.bad a0))) (xAh r5), AbC 47 (xBx r5.2 [41]) (xAI r6)] := by kernel_rfl
theorem p127_e_8 (a0 : Rdr) (r1 : Bool) (r2 : Int) (r3 r4 : Bool) (r5 : Exp × Rdr) : rE I127 (xBf a0) [F, F, F, F, Y, F, Y, F, F, F] [xAx r1, xAj r2, xAA r3, xAA r4, xAD r5] = dn (xA1 (r5.1, r5.2)) [(decide (((Rdr.bad a0) : Int) ≥ 0)) = false, (decide (((Rdr.i a0) : Int) ≥ (Ln (Rdr.toks a0) : Int))) = false, (0 : Int) ≤ (Rdr.i a0) ∧ (Rdr.i a0) < (Ln (Rdr.toks a0)), (((Tok.kind (gD (Rdr.toks a0) (tN (Rdr.i a0)) Ty.tok.dflt)) : Int) == 2) = false, (((Tok.kind (gD (Rdr.toks a0) (tN (Rdr.i a0)) Ty.tok.dflt)) : Int) == 3) = false, (((Tok.kind (gD (Rdr.toks a0) (tN (Rdr.i a0)) Ty.tok.dflt)) : Int) == 1) = true, AbC 87 (xAX (Tok.text (gD (Rdr.toks a0) (tN (Rdr.i a0)) Ty.tok.dflt))) (xAx r1), r1 = false, (((Tok.kind (gD (Rdr.toks a0) (tN (Rdr.i a0)) Ty.tok.dflt)) : Int) == 1) = true, AbC 106 (xAq (Tok.text (gD (Rdr.toks a0) (tN (Rdr.i a0)) Ty.tok.dflt))) (xAj r2), (decide ((r2 : Int) ≥ 0)) = false, AbC 85 (xBc (gD (Rdr.toks a0) (tN (Rdr.i a0)) Ty.tok.dflt) [91]) (xAA r3), r3 = false, AbC 85 (xBc (gD (Rdr.toks a0) (tN (Rdr.i a0)) Ty.tok.dflt) [40]) (xAA r4), r4 = false, AbC 29 (xBg a0) (xAD r5)] := by kernel_rfl
theorem p127_e_9 (a0 : Rdr) (r1 : Bool) (r2 : (List Exp) × Rdr) : rE I127 (xBf a0) [F, F, F, F, F, F, F, F, Y] [xAA r1, xBS r2] = dn (xA1 ((Exp.mk 4 0 [] r2.1), r2.2)) [(decide (((Rdr.bad a0) : Int) ≥ 0)) = false, (decide (((Rdr.i a0) : Int) ≥ (Ln (Rdr.toks a0) : Int))) = false, (0 : Int) ≤ (Rdr.i a0) ∧ (Rdr.i a0) < (Ln (Rdr.toks a0)), (((Tok.kind (gD (Rdr.toks a0) (tN (Rdr.i a0)) Ty.tok.dflt)) : Int) == 2) = false, (((Tok.kind (gD (Rdr.toks a0) (tN (Rdr.i a0)) Ty.tok.dflt)) : Int) == 3) = false, (((Tok.kind (gD (Rdr.toks a0) (tN (Rdr.i a0)) Ty.tok.dflt)) : Int) == 1) = false, false = false, (((Tok.kind (gD (Rdr.toks a0) (tN (Rdr.i a0)) Ty.tok.dflt)) : Int) == 1) = false, false = false, AbC 85 (xBc (gD (Rdr.toks a0) (tN (Rdr.i a0)) Ty.tok.dflt) [91]) (xAA r1), r1 = true, AbC 137 (xDi (Rdr.mk (Rdr.toks a0) (W ((Rdr.i a0) + 1)) (Rdr.fin a0) (Rdr.bad a0)) [93]) (xBS r2)] := by kernel_rfl
theorem p127_e_10 (a0 : Rdr) (r1 r2 : Bool) (r3 : Exp × Rdr) (r4 : Rdr) : rE I127 (xBf a0) [F, F, F, F, F, F, F, F, F, Y] [xAA r1, xAA r2, xAh r3, xAI r4] = dn (xA1 (r3.1, r4)) [(decide (((Rdr.bad a0) : Int) ≥ 0)) = false, (decide (((Rdr.i a0) : Int) ≥ (Ln (Rdr.toks a0) : Int))) = false, (0 : Int) ≤ (Rdr.i a0) ∧ (Rdr.i a0) < (Ln (Rdr.toks a0)), (((Tok.kind (gD (Rdr.toks a0) (tN (Rdr.i a0)) Ty.tok.dflt)) : Int) == 2) = false, (((Tok.kind (gD (Rdr.toks a0) (tN (Rdr.i a0)) Ty.tok.dflt)) : Int) == 3) = false, (((Tok.kind (gD (Rdr.toks a0) (tN (Rdr.i a0)) Ty.tok.dflt)) : Int) == 1) = false, false = false, (((Tok.kind (gD (Rdr.toks a0) (tN (Rdr.i a0)) Ty.tok.dflt)) : Int) == 1) = false, false = false, AbC 85 (xBc (gD (Rdr.toks a0) (tN (Rdr.i a0)) Ty.tok.dflt) [91]) (xAA r1), r1 = false, AbC 85 (xBc (gD (Rdr.toks a0) (tN (Rdr.i a0)) Ty.tok.dflt) [40]) (xAA r2), r2 = true, AbC 28 (xAF (Rdr.mk (Rdr.toks a0) (W ((Rdr.i a0) + 1)) (Rdr.fin a0) (Rdr.bad a0))) (xAh r3), AbC 47 (xBx r3.2 [41]) (xAI r4)] := by kernel_rfl
theorem p127_e_11 (a0 : Rdr) (r1 r2 : Bool) (r3 : Exp × Rdr) : rE I127 (xBf a0) [F, F, F, F, F, F, F, F, F, F] [xAA r1, xAA r2, xAD r3] = dn (xA1 (r3.1, r3.2)) [(decide (((Rdr.bad a0) : Int) ≥ 0)) = false, (decide (((Rdr.i a0) : Int) ≥ (Ln (Rdr.toks a0) : Int))) = false, (0 : Int) ≤ (Rdr.i a0) ∧ (Rdr.i a0) < (Ln (Rdr.toks a0)), (((Tok.kind (gD (Rdr.toks a0) (tN (Rdr.i a0)) Ty.tok.dflt)) : Int) == 2) = false, (((Tok.kind (gD (Rdr.toks a0) (tN (Rdr.i a0)) Ty.tok.dflt)) : Int) == 3) = false, (((Tok.kind (gD (Rdr.toks a0) (tN (Rdr.i a0)) Ty.tok.dflt)) : Int) == 1) = false, false = false, (((Tok.kind (gD (Rdr.toks a0) (tN (Rdr.i a0)) Ty.tok.dflt)) : Int) == 1) = false, false = false, AbC 85 (xBc (gD (Rdr.toks a0) (tN (Rdr.i a0)) Ty.tok.dflt) [91]) (xAA r1), r1 = false, AbC 85 (xBc (gD (Rdr.toks a0) (tN (Rdr.i a0)) Ty.tok.dflt) [40]) (xAA r2), r2 = false, AbC 29 (xBg a0) (xAD r3)] := by kernel_rfl
theorem c127_e {N : Nat} {q0 : Rdr → Str → Option ((List Exp) × Rdr)} (g0 : G137 q0) {q1 : Rdr → Option (Exp × Rdr)} (g1 : G127 q1) {q2 : Rdr → Option (Exp × Rdr)} (g2 : G48 q2) {q3 : Rdr → Option (Exp × Rdr)} (g3 : G28 q3) {q4 : Rdr → Option (Exp × Rdr)} (g4 : G110 q4) {q5 : Rdr → Option (Exp × Rdr)} (g5 : G88 q5) : ∀ a0 r, xC7 N q0 q1 q2 q3 q4 q5 a0 = some r → RE Tryz.f127 I127 (xBf a0) (xA1 r) := fun a0 r h =>
 cE h (fun h0 h => bE h fun r1 h2 h => dE h fk127 (p127_e_0 a0 r1) (oc h0 (oc rfl (oc (xB0 h2) on)))) fun h0 h =>
 cE h (fun h1 h => bE h fun r1 h2 h => dE h fk127 (p127_e_1 a0 r1) (oc h0 (oc h1 (oc (xB0 h2) on)))) fun h1 h =>
 iE h fun h2 h => cE h (fun h3 h => bE h fun r1 h4 h => dE h fk127 (p127_e_2 a0 r1) (oc h0 (oc h1 (oc h2 (oc h3 (oc (spec_l10Num_ok h4) on)))))) fun h3 h =>
 cE h (fun h4 h => dE h fk127 (p127_e_3 a0) (oc h0 (oc h1 (oc h2 (oc h3 (oc h4 on)))))) fun h4 h =>
 cE h (fun h5 h => bE h fun r1 h6 h => cE h (fun h7 h => bE h fun r2 h8 h => dE h fk127 (p127_e_4 a0 r1 r2) (oc h0 (oc h1 (oc h2 (oc h3 (oc h4 (oc h5 (oc (xBI h6) (oc h7 (oc (spec_l10Name_ok h8) on)))))))))) fun h7 h =>
 bE h fun r2 h9 h => cE h (fun h10 h => bE h fun r3 h11 h => bE h fun r4 h12 h => dE h fk127 (p127_e_5 a0 r1 r2 r3 r4) (oc h0 (oc h1 (oc h2 (oc h3 (oc h4 (oc h5 (oc (xBI h6) (oc h7 (oc h5 (oc (xDg h9) (oc h10 (oc (xCk h11) (oc (g0 _ _ _ h12) on)))))))))))))) fun h10 h =>
 bE h fun r3 h11 h => cE h (fun h12 h => bE h fun r4 h13 h => dE h fk127 (p127_e_6 a0 r1 r2 r3 r4) (oc h0 (oc h1 (oc h2 (oc h3 (oc h4 (oc h5 (oc (xBI h6) (oc h7 (oc h5 (oc (xDg h9) (oc h10 (oc (xBP h11) (oc h12 (oc (g0 _ _ _ h13) on))))))))))))))) fun h12 h =>
 bE h fun r4 h13 h => cE h (fun h14 h => bE h fun r5 h15 h => bE h fun r6 h16 h => dE h fk127 (p127_e_7 a0 r1 r2 r3 r4 r5 r6) (oc h0 (oc h1 (oc h2 (oc h3 (oc h4 (oc h5 (oc (xBI h6) (oc h7 (oc h5 (oc (xDg h9) (oc h10 (oc (xBP h11) (oc h12 (oc (xBP h13) (oc h14 (oc (g3 _ _ h15) (oc (xCk h16) on)))))))))))))))))) fun h14 h =>
 bE h fun r5 h15 h => dE h fk127 (p127_e_8 a0 r1 r2 r3 r4 r5) (oc h0 (oc h1 (oc h2 (oc h3 (oc h4 (oc h5 (oc (xBI h6) (oc h7 (oc h5 (oc (xDg h9) (oc h10 (oc (xBP h11) (oc h12 (oc (xBP h13) (oc h14 (oc (xB0 h15) on))))))))))))))))) fun h5 h =>
 bE h fun r1 h9 h => cE h (fun h10 h => bE h fun r2 h11 h => dE h fk127 (p127_e_9 a0 r1 r2) (oc h0 (oc h1 (oc h2 (oc h3 (oc h4 (oc h5 (oc rfl (oc h5 (oc rfl (oc (xBP h9) (oc h10 (oc (g0 _ _ _ h11) on))))))))))))) fun h10 h =>
 bE h fun r2 h11 h => cE h (fun h12 h => bE h fun r3 h13 h => bE h fun r4 h14 h => dE h fk127 (p127_e_10 a0 r1 r2 r3 r4) (oc h0 (oc h1 (oc h2 (oc h3 (oc h4 (oc h5 (oc rfl (oc h5 (oc rfl (oc (xBP h9) (oc h10 (oc (xBP h11) (oc h12 (oc (g3 _ _ h13) (oc (xCk h14) on)))))))))))))))) fun h12 h =>
 bE h fun r3 h13 h => dE h fk127 (p127_e_11 a0 r1 r2 r3) (oc h0 (oc h1 (oc h2 (oc h3 (oc h4 (oc h5 (oc rfl (oc h5 (oc rfl (oc (xBP h9) (oc h10 (oc (xBP h11) (oc h12 (oc (xB0 h13) on))))))))))))))
theorem xGc {N : Nat} {q0 : Rdr → Str → Option ((List Exp) × Rdr)} (g0 : G137 q0) {q1 : Rdr → Option (Exp × Rdr)} (g1 : G127 q1) {q2 : Rdr → Option (Exp × Rdr)} (g2 : G48 q2) {q3 : Rdr → Option (Exp × Rdr)} (g3 : G28 q3) {q4 : Rdr → Option (Exp × Rdr)} (g4 : G110 q4) {q5 : Rdr → Option (Exp × Rdr)} (g5 : G88 q5) {a0 : Rdr} {r : Exp × Rdr} (h : xC7 N q0 q1 q2 q3 q4 q5 a0 = some r) : AbC 127 (xBf a0) (xA1 r) :=
 AbsCalls.of_reach fk127 rfl rfl (Nat.le_of_ble_eq_true rfl) (c127_e g0 g1 g2 g3 g4 g5 a0 r h)
noncomputable def I48 : Info := { body := (Tryz.f48.body).getD .skip, nt := 37, results := [.cell 2 25], keep := [0, 4, 6, 12, 42, 1, 5, 7], live := [], modes := [], ext := [0], fcast := [(5, 3, true)] }
theorem fk48 : FnOk Tryz.prog 48 Tryz.f48 I48 := ⟨Tryz.func48, by kernel_rfl, by kernel_rfl, by kernel_rfl, by kernel_rfl⟩
theorem p48_e_0 (a0 : Rdr) (r1 : Exp × Rdr) (r2 : Bool × Rdr) (r3 : Exp × Rdr) (r4 : Exp) : rE I48 (xCT a0) [Y] [xBJ r1, xAf r2, xBJ r3, xBE r4] = dn (xCv (r4, r3.2)) [AbC 88 (xDc a0) (xBJ r1), AbC 45 (xAn r1.2 [60]) (xAf r2), r2.1 = true, AbC 88 (xDc (Rdr.mk (Rdr.toks r2.2) (W ((Rdr.i r2.2) + 1)) (Rdr.fin r2.2) (Rdr.bad r2.2))) (xBJ r3), AbC 66 (xDb 4 r1.1 r3.1) (xBE r4)] := by kernel_rfl
theorem p48_e_1 (a0 : Rdr) (r1 : Exp × Rdr) (r2 : Bool × Rdr) (r3 : Bool × Rdr) (r4 : Exp × Rdr) (r5 : Exp) : rE I48 (xCT a0) [F, Y] [xBJ r1, xAf r2, xAf r3, xBJ r4, xBE r5] = dn (xCv (r5, r4.2)) [AbC 88 (xDc a0) (xBJ r1), AbC 45 (xAn r1.2 [60]) (xAf r2), r2.1 = false, AbC 45 (xAn r2.2 [61, 61]) (xAf r3), r3.1 = true, AbC 88 (xDc (Rdr.mk (Rdr.toks r3.2) (W ((Rdr.i r3.2) + 1)) (Rdr.fin r3.2) (Rdr.bad r3.2))) (xBJ r4), AbC 66 (xDb 5 r1.1 r4.1) (xBE r5)] := by kernel_rfl
theorem p48_e_2 (a0 : Rdr) (r1 : Exp × Rdr) (r2 : Bool × Rdr) (r3 : Bool × Rdr) : rE I48 (xCT a0) [F, F] [xBJ r1, xAf r2, xAf r3] = dn (xCv (r1.1, r3.2)) [AbC 88 (xDc a0) (xBJ r1), AbC 45 (xAn r1.2 [60]) (xAf r2), r2.1 = false, AbC 45 (xAn r2.2 [61, 61]) (xAf r3), r3.1 = false] := by kernel_rfl
theorem c48_e {N : Nat} {q0 : Rdr → Str → Option ((List Exp) × Rdr)} (g0 : G137 q0) {q1 : Rdr → Option (Exp × Rdr)} (g1 : G127 q1) {q2 : Rdr → Option (Exp × Rdr)} (g2 : G48 q2) {q3 : Rdr → Option (Exp × Rdr)} (g3 : G28 q3) {q4 : Rdr → Option (Exp × Rdr)} (g4 : G110 q4) {q5 : Rdr → Option (Exp × Rdr)} (g5 : G88 q5) : ∀ a0 r, xCs N q0 q1 q2 q3 q4 q5 a0 = some r → RE Tryz.f48 I48 (xCT a0) (xCv r) := fun a0 r h =>
 bE h fun r1 h0 h => bE h fun r2 h1 h => cE h (fun h2 h => bE h fun r3 h3 h => bE h fun r4 h4 h => dE h fk48 (p48_e_0 a0 r1 r2 r3 r4) (oc (g5 _ _ h0) (oc (xAv h1) (oc h2 (oc (g5 _ _ h3) (oc (xDZ h4) on)))))) fun h2 h =>
 bE h fun r3 h3 h => cE h (fun h4 h => bE h fun r4 h5 h => bE h fun r5 h6 h => dE h fk48 (p48_e_1 a0 r1 r2 r3 r4 r5) (oc (g5 _ _ h0) (oc (xAv h1) (oc h2 (oc (xAv h3) (oc h4 (oc (g5 _ _ h5) (oc (xDZ h6) on)))))))) fun h4 h =>
 dE h fk48 (p48_e_2 a0 r1 r2 r3) (oc (g5 _ _ h0) (oc (xAv h1) (oc h2 (oc (xAv h3) (oc h4 on)))))
theorem xFS {N : Nat} {q0 : Rdr → Str → Option ((List Exp) × Rdr)} (g0 : G137 q0) {q1 : Rdr → Option (Exp × Rdr)} (g1 : G127 q1) {q2 : Rdr → Option (Exp × Rdr)} (g2 : G48 q2) {q3 : Rdr → Option (Exp × Rdr)} (g3 : G28 q3) {q4 : Rdr → Option (Exp × Rdr)} (g4 : G110 q4) {q5 : Rdr → Option (Exp × Rdr)} (g5 : G88 q5) {a0 : Rdr} {r : Exp × Rdr} (h : xCs N q0 q1 q2 q3 q4 q5 a0 = some r) : AbC 48 (xCT a0) (xCv r) :=
 AbsCalls.of_reach fk48 rfl rfl (Nat.le_of_ble_eq_true rfl) (c48_e g0 g1 g2 g3 g4 g5 a0 r h)
noncomputable def I28 : Info := { body := (Tryz.f28.body).getD .skip, nt := 86, results := [.cell 2 25], keep := [0, 4, 6, 8, 10, 12, 14, 16, 18, 68, 118, 1, 5, 9, 11, 13, 17], live := [], modes := [(7, [(0, .take, false)]), (21, [(0, .take, false)])], ext := [0], fcast := [(5, 3, true)] }
theorem fk28 : FnOk Tryz.prog 28 Tryz.f28 I28 := ⟨Tryz.func28, by kernel_rfl, by kernel_rfl, by kernel_rfl, by kernel_rfl⟩
theorem p28_e_0 (a0 : Rdr) (r1 : Bool × Rdr) (r2 : Str × Rdr) (r3 : Rdr) (r4 : Exp × Rdr) (r5 : Rdr) (r6 : Exp × Rdr) : rE I28 (xAF a0) [Y] [xAf r1, xCj r2, xAI r3, xAh r4, xAI r5, xAh r6] = dn (xAh ((Exp.mk 7 0 r2.1 [(Exp.re r4.1), (Exp.re r6.1)]), r6.2)) [AbC 45 (xAn a0 [108, 101, 116]) (xAf r1), r1.1 = true, AbC 46 (xCV (Rdr.mk (Rdr.toks r1.2) (W ((Rdr.i r1.2) + 1)) (Rdr.fin r1.2) (Rdr.bad r1.2))) (xCj r2), AbC 47 (xBx r2.2 [61]) (xAI r3), AbC 28 (xAF r3) (xAh r4), AbC 47 (xBx r4.2 [105, 110]) (xAI r5), AbC 28 (xAF r5) (xAh r6)] := by kernel_rfl
theorem p28_e_1 (a0 : Rdr) (r1 : Bool × Rdr) (r2 : Bool × Rdr) (r3 : Exp × Rdr) (r4 : Rdr) (r5 : Exp × Rdr) (r6 : Rdr) (r7 : Exp × Rdr) : rE I28 (xAF a0) [F, Y] [xAf r1, xAf r2, xAh r3, xAI r4, xAh r5, xAI r6, xAh r7] = dn (xAh ((Exp.mk 8 0 [] [(Exp.re r3.1), (Exp.re r5.1), (Exp.re r7.1)]), r7.2)) [AbC 45 (xAn a0 [108, 101, 116]) (xAf r1), r1.1 = false, AbC 45 (xAn r1.2 [105, 102]) (xAf r2), r2.1 = true, AbC 28 (xAF (Rdr.mk (Rdr.toks r2.2) (W ((Rdr.i r2.2) + 1)) (Rdr.fin r2.2) (Rdr.bad r2.2))) (xAh r3), AbC 47 (xBx r3.2 [116, 104, 101, 110]) (xAI r4), AbC 28 (xAF r4) (xAh r5), AbC 47 (xBx r5.2 [101, 108, 115, 101]) (xAI r6), AbC 28 (xAF r6) (xAh r7)] := by kernel_rfl
theorem p28_e_2 (a0 : Rdr) (r1 : Bool × Rdr) (r2 : Bool × Rdr) (r3 : Bool × Rdr) (r4 : Str × Rdr) (r5 : Rdr) (r6 : Exp × Rdr) (r7 : Rdr) (r8 : Exp × Rdr) : rE I28 (xAF a0) [F, F, Y] [xAf r1, xAf r2, xAf r3, xCj r4, xAI r5, xAh r6, xAI r7, xAh r8] = dn (xAh ((Exp.mk 9 0 r4.1 [(Exp.re r6.1), (Exp.re r8.1)]), r8.2)) [AbC 45 (xAn a0 [108, 101, 116]) (xAf r1), r1.1 = false, AbC 45 (xAn r1.2 [105, 102]) (xAf r2), r2.1 = false, AbC 45 (xAn r2.2 [102, 111, 114]) (xAf r3), r3.1 = true, AbC 46 (xCV (Rdr.mk (Rdr.toks r3.2) (W ((Rdr.i r3.2) + 1)) (Rdr.fin r3.2) (Rdr.bad r3.2))) (xCj r4), AbC 47 (xBx r4.2 [105, 110]) (xAI r5), AbC 28 (xAF r5) (xAh r6), AbC 47 (xBx r6.2 [100, 111]) (xAI r7), AbC 28 (xAF r7) (xAh r8)] := by kernel_rfl
theorem p28_e_3 (a0 : Rdr) (r1 : Bool × Rdr) (r2 : Bool × Rdr) (r3 : Bool × Rdr) (r4 : Exp × Rdr) : rE I28 (xAF a0) [F, F, F] [xAf r1, xAf r2, xAf r3, xCv r4] = dn (xAh (r4.1, r4.2)) [AbC 45 (xAn a0 [108, 101, 116]) (xAf r1), r1.1 = false, AbC 45 (xAn r1.2 [105, 102]) (xAf r2), r2.1 = false, AbC 45 (xAn r2.2 [102, 111, 114]) (xAf r3), r3.1 = false, AbC 48 (xCT r3.2) (xCv r4)] := by kernel_rfl
theorem c28_e {N : Nat} {q0 : Rdr → Str → Option ((List Exp) × Rdr)} (g0 : G137 q0) {q1 : Rdr → Option (Exp × Rdr)} (g1 : G127 q1) {q2 : Rdr → Option (Exp × Rdr)} (g2 : G48 q2) {q3 : Rdr → Option (Exp × Rdr)} (g3 : G28 q3) {q4 : Rdr → Option (Exp × Rdr)} (g4 : G110 q4) {q5 : Rdr → Option (Exp × Rdr)} (g5 : G88 q5) : ∀ a0 r, xC8 N q0 q1 q2 q3 q4 q5 a0 = some r → RE Tryz.f28 I28 (xAF a0) (xAh r) := fun a0 r h =>
 bE h fun r1 h0 h => cE h (fun h1 h => bE h fun r2 h2 h => bE h fun r3 h3 h => bE h fun r4 h4 h => bE h fun r5 h5 h => bE h fun r6 h6 h => dE h fk28 (p28_e_0 a0 r1 r2 r3 r4 r5 r6) (oc (xAv h0) (oc h1 (oc (xF6 h2) (oc (xCk h3) (oc (g3 _ _ h4) (oc (xCk h5) (oc (g3 _ _ h6) on)))))))) fun h1 h =>
 bE h fun r2 h2 h => cE h (fun h3 h => bE h fun r3 h4 h => bE h fun r4 h5 h => bE h fun r5 h6 h => bE h fun r6 h7 h => bE h fun r7 h8 h => dE h fk28 (p28_e_1 a0 r1 r2 r3 r4 r5 r6 r7) (oc (xAv h0) (oc h1 (oc (xAv h2) (oc h3 (oc (g3 _ _ h4) (oc (xCk h5) (oc (g3 _ _ h6) (oc (xCk h7) (oc (g3 _ _ h8) on)))))))))) fun h3 h =>
 bE h fun r3 h4 h => cE h (fun h5 h => bE h fun r4 h6 h => bE h fun r5 h7 h => bE h fun r6 h8 h => bE h fun r7 h9 h => bE h fun r8 h10 h => dE h fk28 (p28_e_2 a0 r1 r2 r3 r4 r5 r6 r7 r8) (oc (xAv h0) (oc h1 (oc (xAv h2) (oc h3 (oc (xAv h4) (oc h5 (oc (xF6 h6) (oc (xCk h7) (oc (g3 _ _ h8) (oc (xCk h9) (oc (g3 _ _ h10) on)))))))))))) fun h5 h =>
 bE h fun r4 h6 h => dE h fk28 (p28_e_3 a0 r1 r2 r3 r4) (oc (xAv h0) (oc h1 (oc (xAv h2) (oc h3 (oc (xAv h4) (oc h5 (oc (g2 _ _ h6) on)))))))
theorem xGd {N : Nat} {q0 : Rdr → Str → Option ((List Exp) × Rdr)} (g0 : G137 q0) {q1 : Rdr → Option (Exp × Rdr)} (g1 : G127 q1) {q2 : Rdr → Option (Exp × Rdr)} (g2 : G48 q2) {q3 : Rdr → Option (Exp × Rdr)} (g3 : G28 q3) {q4 : Rdr → Option (Exp × Rdr)} (g4 : G110 q4) {q5 : Rdr → Option (Exp × Rdr)} (g5 : G88 q5) {a0 : Rdr} {r : Exp × Rdr} (h : xC8 N q0 q1 q2 q3 q4 q5 a0 = some r) : AbC 28 (xAF a0) (xAh r) :=
 AbsCalls.of_reach fk28 rfl rfl (Nat.le_of_ble_eq_true rfl) (c28_e g0 g1 g2 g3 g4 g5 a0 r h)
noncomputable def I110 : Info := { body := (Tryz.f110.body).getD .skip, nt := 21, results := [.cell 2 25], keep := [0, 4, 6, 14, 1, 5, 7], live := [(2, [0, 4, 6, 1, 5, 7])], modes := [], ext := [0], casts := [(2, [(7, 3, true)])] }
theorem fk110 : FnOk Tryz.prog 110 Tryz.f110 I110 := ⟨Tryz.func110, by kernel_rfl, by kernel_rfl, by kernel_rfl, by kernel_rfl⟩
def S110_2 (b0 : Rdr) (b2 b3 : Exp) : St := [(0, .v false [.ptr 0 0]), (4, .v false [.ptr 2 0]), (6, .v false [.ptr 3 0]), (1, .v true [.sl .ro .tok (Rdr.toks b0), .int .i64 (Rdr.i b0), .int .i64 (Rdr.fin b0), .int .i64 (Rdr.bad b0)]), (5, .v true [.int .i64 (Exp.kind b2), .int .i64 (Exp.n b2), .str (Exp.text b2), .sl .own .exp (Exp.args b2)]), (7, .v true [.int .i64 (Exp.kind b3), .int .i64 (Exp.n b3), .str (Exp.text b3), .sl .ro .exp (Exp.args b3)])]
theorem p110_2_0 (b0 : Rdr) (b2 b3 : Exp) (r1 : Bool × Rdr) (r2 : Exp × Rdr) (r3 : Exp) : rS 2 I110 (S110_2 b0 b2 b3) [Y] [xAf r1, xA1 r2, xBE r3] = st 2 I110 (S110_2 r2.2 b2 r3) [AbC 45 (xAn b0 [42]) (xAf r1), r1.1 = true, AbC 127 (xBf (Rdr.mk (Rdr.toks r1.2) (W ((Rdr.i r1.2) + 1)) (Rdr.fin r1.2) (Rdr.bad r1.2))) (xA1 r2), AbC 66 (xDb 3 b3 r2.1) (xBE r3)] := by kernel_rfl
theorem p110_2_1 (b0 : Rdr) (b2 b3 : Exp) (r1 : Bool × Rdr) : rS 2 I110 (S110_2 b0 b2 b3) [F] [xAf r1] = dn (xA2 (b3, r1.2)) [AbC 45 (xAn b0 [42]) (xAf r1), r1.1 = false] := by kernel_rfl
theorem p110_e_2 (a0 : Rdr) (r1 : Exp × Rdr) : rE I110 (xCa a0) [] [xA1 r1] = st 2 I110 (S110_2 r1.2 (Exp.mk 0 0 [] []) r1.1) [AbC 127 (xBf a0) (xA1 r1)] := by kernel_rfl
theorem c110_2 {N : Nat} {q0 : Rdr → Str → Option ((List Exp) × Rdr)} (g0 : G137 q0) {q1 : Rdr → Option (Exp × Rdr)} (g1 : G127 q1) {q2 : Rdr → Option (Exp × Rdr)} (g2 : G48 q2) {q3 : Rdr → Option (Exp × Rdr)} (g3 : G28 q3) {q4 : Rdr → Option (Exp × Rdr)} (g4 : G110 q4) {q5 : Rdr → Option (Exp × Rdr)} (g5 : G88 q5) : ∀ n b0 b2 b3 r, xCw N q0 q1 q2 q3 q4 q5 n b0 b2 b3 = some r → RS Tryz.f110 I110 2 (S110_2 b0 b2 b3) (xA2 r) := by
 intro n
 induction n with
 | zero => exact fun _ _ _ _ h => nE h
 | succ n ih =>
  exact fun b0 b2 b3 r h =>
   bE h fun r1 h0 h => cE h (fun h1 h => bE h fun r2 h2 h => bE h fun r3 h3 h => tS fk110 (p110_2_0 b0 b2 b3 r1 r2 r3) (oc (xAv h0) (oc h1 (oc (g1 _ _ h2) (oc (xDZ h3) on)))) (ih _ _ _ _ h)) fun h1 h =>
   dS h fk110 (p110_2_1 b0 b2 b3 r1) (oc (xAv h0) (oc h1 on))
theorem c110_e {N : Nat} {q0 : Rdr → Str → Option ((List Exp) × Rdr)} (g0 : G137 q0) {q1 : Rdr → Option (Exp × Rdr)} (g1 : G127 q1) {q2 : Rdr → Option (Exp × Rdr)} (g2 : G48 q2) {q3 : Rdr → Option (Exp × Rdr)} (g3 : G28 q3) {q4 : Rdr → Option (Exp × Rdr)} (g4 : G110 q4) {q5 : Rdr → Option (Exp × Rdr)} (g5 : G88 q5) : ∀ a0 r, xCt N q0 q1 q2 q3 q4 q5 a0 = some r → RE Tryz.f110 I110 (xCa a0) (xA2 r) := fun a0 r h =>
 bE h fun r1 h0 h => tE fk110 (p110_e_2 a0 r1) (oc (g1 _ _ h0) on) (c110_2 g0 g1 g2 g3 g4 g5 _ _ _ _ _ h)
theorem xFT {N : Nat} {q0 : Rdr → Str → Option ((List Exp) × Rdr)} (g0 : G137 q0) {q1 : Rdr → Option (Exp × Rdr)} (g1 : G127 q1) {q2 : Rdr → Option (Exp × Rdr)} (g2 : G48 q2) {q3 : Rdr → Option (Exp × Rdr)} (g3 : G28 q3) {q4 : Rdr → Option (Exp × Rdr)} (g4 : G110 q4) {q5 : Rdr → Option (Exp × Rdr)} (g5 : G88 q5) {a0 : Rdr} {r : Exp × Rdr} (h : xCt N q0 q1 q2 q3 q4 q5 a0 = some r) : AbC 110 (xCa a0) (xA2 r) :=
 AbsCalls.of_reach fk110 rfl rfl (Nat.le_of_ble_eq_true rfl) (c110_e g0 g1 g2 g3 g4 g5 a0 r h)
noncomputable def I88 : Info := { body := (Tryz.f88.body).getD .skip, nt := 29, results := [.cell 2 25], keep := [0, 4, 6, 8, 24, 28, 1, 5, 7], live := [(2, [0, 4, 6, 1, 5, 7])], modes := [(2, [(2, .take, false)]), (7, [(0, .take, false)])], ext := [0], casts := [(2, [(7, 3, true)])] }
theorem fk88 : FnOk Tryz.prog 88 Tryz.f88 I88 := ⟨Tryz.func88, by kernel_rfl, by kernel_rfl, by kernel_rfl, by kernel_rfl⟩
def S88_2 (b0 : Rdr) (b2 b3 : Exp) : St := [(0, .v false [.ptr 0 0]), (4, .v false [.ptr 2 0]), (6, .v false [.ptr 3 0]), (1, .v true [.sl .ro .tok (Rdr.toks b0), .int .i64 (Rdr.i b0), .int .i64 (Rdr.fin b0), .int .i64 (Rdr.bad b0)]), (5, .v true [.int .i64 (Exp.kind b2), .int .i64 (Exp.n b2), .str (Exp.text b2), .sl .own .exp (Exp.args b2)]), (7, .v true [.int .i64 (Exp.kind b3), .int .i64 (Exp.n b3), .str (Exp.text b3), .sl .ro .exp (Exp.args b3)])]
theorem p88_2_0 (b0 : Rdr) (b2 b3 : Exp) (r1 : Bool × Rdr) (r2 : Bool × Rdr) (r3 : Exp × Rdr) (r4 : Exp) : rS 2 I88 (S88_2 b0 b2 b3) [Y, Y, Y] [xAf r1, xAf r2, xA2 r3, xBE r4] = st 2 I88 (S88_2 r3.2 b2 r4) [AbC 45 (xAn b0 [43]) (xAf r1), r1.1 = true, true = true, AbC 45 (xAn r1.2 [45]) (xAf r2), r2.1 = true, AbC 110 (xCa (Rdr.mk (Rdr.toks r2.2) (W ((Rdr.i r2.2) + 1)) (Rdr.fin r2.2) (Rdr.bad r2.2))) (xA2 r3), AbC 66 (xDb 2 b3 r3.1) (xBE r4)] := by kernel_rfl
theorem p88_2_1 (b0 : Rdr) (b2 b3 : Exp) (r1 : Bool × Rdr) (r2 : Bool × Rdr) (r3 : Exp × Rdr) (r4 : Exp) : rS 2 I88 (S88_2 b0 b2 b3) [Y, Y, F] [xAf r1, xAf r2, xA2 r3, xBE r4] = st 2 I88 (S88_2 r3.2 b2 r4) [AbC 45 (xAn b0 [43]) (xAf r1), r1.1 = true, true = true, AbC 45 (xAn r1.2 [45]) (xAf r2), r2.1 = false, AbC 110 (xCa (Rdr.mk (Rdr.toks r2.2) (W ((Rdr.i r2.2) + 1)) (Rdr.fin r2.2) (Rdr.bad r2.2))) (xA2 r3), AbC 66 (xDb 1 b3 r3.1) (xBE r4)] := by kernel_rfl
theorem p88_2_2 (b0 : Rdr) (b2 b3 : Exp) (r1 : Bool × Rdr) (r2 : Bool × Rdr) (r3 : Bool × Rdr) (r4 : Exp × Rdr) (r5 : Exp) : rS 2 I88 (S88_2 b0 b2 b3) [F, Y, Y] [xAf r1, xAf r2, xAf r3, xA2 r4, xBE r5] = st 2 I88 (S88_2 r4.2 b2 r5) [AbC 45 (xAn b0 [43]) (xAf r1), r1.1 = false, AbC 45 (xAn r1.2 [45]) (xAf r2), r2.1 = true, AbC 45 (xAn r2.2 [45]) (xAf r3), r3.1 = true, AbC 110 (xCa (Rdr.mk (Rdr.toks r3.2) (W ((Rdr.i r3.2) + 1)) (Rdr.fin r3.2) (Rdr.bad r3.2))) (xA2 r4), AbC 66 (xDb 2 b3 r4.1) (xBE r5)] := by kernel_rfl
theorem p88_2_3 (b0 : Rdr) (b2 b3 : Exp) (r1 : Bool × Rdr) (r2 : Bool × Rdr) (r3 : Bool × Rdr) (r4 : Exp × Rdr) (r5 : Exp) : rS 2 I88 (S88_2 b0 b2 b3) [F, Y, F] [xAf r1, xAf r2, xAf r3, xA2 r4, xBE r5] = st 2 I88 (S88_2 r4.2 b2 r5) [AbC 45 (xAn b0 [43]) (xAf r1), r1.1 = false, AbC 45 (xAn r1.2 [45]) (xAf r2), r2.1 = true, AbC 45 (xAn r2.2 [45]) (xAf r3), r3.1 = false, AbC 110 (xCa (Rdr.mk (Rdr.toks r3.2) (W ((Rdr.i r3.2) + 1)) (Rdr.fin r3.2) (Rdr.bad r3.2))) (xA2 r4), AbC 66 (xDb 1 b3 r4.1) (xBE r5)] := by kernel_rfl
theorem p88_2_4 (b0 : Rdr) (b2 b3 : Exp) (r1 : Bool × Rdr) (r2 : Bool × Rdr) : rS 2 I88 (S88_2 b0 b2 b3) [F, F] [xAf r1, xAf r2] = dn (xBJ (b3, r2.2)) [AbC 45 (xAn b0 [43]) (xAf r1), r1.1 = false, AbC 45 (xAn r1.2 [45]) (xAf r2), r2.1 = false] := by kernel_rfl
theorem p88_e_5 (a0 : Rdr) (r1 : Exp × Rdr) : rE I88 (xDc a0) [] [xA2 r1] = st 2 I88 (S88_2 r1.2 (Exp.mk 0 0 [] []) r1.1) [AbC 110 (xCa a0) (xA2 r1)] := by kernel_rfl
theorem c88_2 {N : Nat} {q0 : Rdr → Str → Option ((List Exp) × Rdr)} (g0 : G137 q0) {q1 : Rdr → Option (Exp × Rdr)} (g1 : G127 q1) {q2 : Rdr → Option (Exp × Rdr)} (g2 : G48 q2) {q3 : Rdr → Option (Exp × Rdr)} (g3 : G28 q3) {q4 : Rdr → Option (Exp × Rdr)} (g4 : G110 q4) {q5 : Rdr → Option (Exp × Rdr)} (g5 : G88 q5) : ∀ n b0 b2 b3 r, xCm N q0 q1 q2 q3 q4 q5 n b0 b2 b3 = some r → RS Tryz.f88 I88 2 (S88_2 b0 b2 b3) (xBJ r) := by
 intro n
 induction n with
 | zero => exact fun _ _ _ _ h => nE h
 | succ n ih =>
  exact fun b0 b2 b3 r h =>
   bE h fun r1 h0 h => cE h (fun h1 h => bE h fun r2 h3 h => cE h (fun h4 h => bE h fun r3 h5 h => bE h fun r4 h6 h => tS fk88 (p88_2_0 b0 b2 b3 r1 r2 r3 r4) (oc (xAv h0) (oc h1 (oc rfl (oc (xAv h3) (oc h4 (oc (g4 _ _ h5) (oc (xDZ h6) on))))))) (ih _ _ _ _ h)) fun h4 h =>
   bE h fun r3 h5 h => bE h fun r4 h6 h => tS fk88 (p88_2_1 b0 b2 b3 r1 r2 r3 r4) (oc (xAv h0) (oc h1 (oc rfl (oc (xAv h3) (oc h4 (oc (g4 _ _ h5) (oc (xDZ h6) on))))))) (ih _ _ _ _ h)) fun h1 h =>
   bE h fun r2 h2 h => cE h (fun h3 h => bE h fun r3 h4 h => cE h (fun h5 h => bE h fun r4 h6 h => bE h fun r5 h7 h => tS fk88 (p88_2_2 b0 b2 b3 r1 r2 r3 r4 r5) (oc (xAv h0) (oc h1 (oc (xAv h2) (oc h3 (oc (xAv h4) (oc h5 (oc (g4 _ _ h6) (oc (xDZ h7) on)))))))) (ih _ _ _ _ h)) fun h5 h =>
   bE h fun r4 h6 h => bE h fun r5 h7 h => tS fk88 (p88_2_3 b0 b2 b3 r1 r2 r3 r4 r5) (oc (xAv h0) (oc h1 (oc (xAv h2) (oc h3 (oc (xAv h4) (oc h5 (oc (g4 _ _ h6) (oc (xDZ h7) on)))))))) (ih _ _ _ _ h)) fun h3 h =>
   dS h fk88 (p88_2_4 b0 b2 b3 r1 r2) (oc (xAv h0) (oc h1 (oc (xAv h2) (oc h3 on))))
theorem c88_e {N : Nat} {q0 : Rdr → Str → Option ((List Exp) × Rdr)} (g0 : G137 q0) {q1 : Rdr → Option (Exp × Rdr)} (g1 : G127 q1) {q2 : Rdr → Option (Exp × Rdr)} (g2 : G48 q2) {q3 : Rdr → Option (Exp × Rdr)} (g3 : G28 q3) {q4 : Rdr → Option (Exp × Rdr)} (g4 : G110 q4) {q5 : Rdr → Option (Exp × Rdr)} (g5 : G88 q5) : ∀ a0 r, xDp N q0 q1 q2 q3 q4 q5 a0 = some r → RE Tryz.f88 I88 (xDc a0) (xBJ r) := fun a0 r h =>
 bE h fun r1 h0 h => tE fk88 (p88_e_5 a0 r1) (oc (g4 _ _ h0) on) (c88_2 g0 g1 g2 g3 g4 g5 _ _ _ _ _ h)
theorem xGt {N : Nat} {q0 : Rdr → Str → Option ((List Exp) × Rdr)} (g0 : G137 q0) {q1 : Rdr → Option (Exp × Rdr)} (g1 : G127 q1) {q2 : Rdr → Option (Exp × Rdr)} (g2 : G48 q2) {q3 : Rdr → Option (Exp × Rdr)} (g3 : G28 q3) {q4 : Rdr → Option (Exp × Rdr)} (g4 : G110 q4) {q5 : Rdr → Option (Exp × Rdr)} (g5 : G88 q5) {a0 : Rdr} {r : Exp × Rdr} (h : xDp N q0 q1 q2 q3 q4 q5 a0 = some r) : AbC 88 (xDc a0) (xBJ r) :=
 AbsCalls.of_reach fk88 rfl rfl (Nat.le_of_ble_eq_true rfl) (c88_e g0 g1 g2 g3 g4 g5 a0 r h)
theorem xGs {N : Nat} : ∀ d, G137 (xAa N d).c_spec_l11Args ∧ G127 (xAa N d).c_spec_l11Atom ∧ G48 (xAa N d).c_spec_l11Compare ∧ G28 (xAa N d).c_spec_l11Expr ∧ G110 (xAa N d).c_spec_l11Product ∧ G88 (xAa N d).c_spec_l11Sum := by
 intro d
 induction d with
 | zero => exact ⟨fun _ _ _ h => nE h, fun _ _ h => nE h, fun _ _ h => nE h, fun _ _ h => nE h, fun _ _ h => nE h, fun _ _ h => nE h⟩
 | succ d ih =>
  obtain ⟨ih0, ih1, ih2, ih3, ih4, ih5⟩ := ih
  exact ⟨fun _ _ _ h => xGb (N := N) ih0 ih1 ih2 ih3 ih4 ih5 h, fun _ _ h => xGc (N := N) ih0 ih1 ih2 ih3 ih4 ih5 h, fun _ _ h => xFS (N := N) ih0 ih1 ih2 ih3 ih4 ih5 h, fun _ _ h => xGd (N := N) ih0 ih1 ih2 ih3 ih4 ih5 h, fun _ _ h => xFT (N := N) ih0 ih1 ih2 ih3 ih4 ih5 h, fun _ _ h => xGt (N := N) ih0 ih1 ih2 ih3 ih4 ih5 h⟩
theorem xCU {N : Nat} {a0 : Rdr} {r : Exp × Rdr} (h : xFs N a0 = some r) : AbC 28 (xAF a0) (xAh r) := (xGs N).2.2.2.1 _ r h
def G40 (q : Exp → Int → Option (Int)) : Prop := ∀ a0 a1 r, q a0 a1 = some r → AbC 40 (xCS a0 a1) (xBw r)
noncomputable def I40 : Info := { body := (Tryz.f40.body).getD .skip, nt := 27, results := [.tmp 4], keep := [0, 2, 4, 8, 10, 32, 5], live := [(3, [2, 4, 10, 5])], modes := [(3, [(5, .take, false)])] }
theorem fk40 : FnOk Tryz.prog 40 Tryz.f40 I40 := ⟨Tryz.func40, by kernel_rfl, by kernel_rfl, by kernel_rfl, by kernel_rfl⟩
def S40_3 (x1 x5 : Int) (b2 : Exp) : St := [(2, .v false [.int .i64 x1]), (4, .v false [.ptr 2 0]), (10, .v false [.int .i64 x5]), (5, .v true [.int .i64 (Exp.kind b2), .int .i64 (Exp.n b2), .str (Exp.text b2), .sl .ro .exp (Exp.args b2)])]
theorem p40_3_0 (x1 x5 : Int) (b2 : Exp) (r1 : Int) : rS 3 I40 (S40_3 x1 x5 b2) [Y, Y] [xBw r1] = st 3 I40 (S40_3 r1 (W (x5 + 1)) b2) [(decide ((x5 : Int) < (Ln (Exp.args b2) : Int))) = true, (decide ((x1 : Int) ≥ 0)) = true, (0 : Int) ≤ x5 ∧ x5 < (Ln (Exp.args b2)), AbC 40 (xCS (gD (Exp.args b2) (tN x5) Ty.exp.dflt) x1) (xBw r1)] := by kernel_rfl
theorem p40_3_1 (x1 x5 : Int) (b2 : Exp) : rS 3 I40 (S40_3 x1 x5 b2) [Y, F] [] = dn (xBw x1) [(decide ((x5 : Int) < (Ln (Exp.args b2) : Int))) = true, (decide ((x1 : Int) ≥ 0)) = false] := by kernel_rfl
theorem p40_3_2 (x1 x5 : Int) (b2 : Exp) : rS 3 I40 (S40_3 x1 x5 b2) [F, F] [] = dn (xBw x1) [(decide ((x5 : Int) < (Ln (Exp.args b2) : Int))) = false, false = false] := by kernel_rfl
theorem p40_e_3 (a0 : Exp) (a1 : Int) : rE I40 (xCS a0 a1) [] [] = st 3 I40 (S40_3 (W (a1 - 1)) 0 a0) [] := by kernel_rfl
theorem c40_3 {N : Nat} {q0 : Exp → Int → Option (Int)} (g0 : G40 q0) : ∀ n x1 x5 b2 r, xDh N q0 n x1 x5 b2 = some r → RS Tryz.f40 I40 3 (S40_3 x1 x5 b2) (xBw r) := by
 intro n
 induction n with
 | zero => exact fun _ _ _ _ h => nE h
 | succ n ih =>
  exact fun x1 x5 b2 r h =>
   cE h (fun h0 h => cE h (fun h1 h => iE h fun h2 h => bE h fun r1 h3 h => tS fk40 (p40_3_0 x1 x5 b2 r1) (oc h0 (oc h1 (oc h2 (oc (g0 _ _ _ h3) on)))) (ih _ _ _ _ h)) fun h1 h =>
   dS h fk40 (p40_3_1 x1 x5 b2) (oc h0 (oc h1 on))) fun h0 h =>
   dS h fk40 (p40_3_2 x1 x5 b2) (oc h0 (oc rfl on))
theorem c40_e {N : Nat} {q0 : Exp → Int → Option (Int)} (g0 : G40 q0) : ∀ a0 a1 r, xEM N q0 a0 a1 = some r → RE Tryz.f40 I40 (xCS a0 a1) (xBw r) := fun a0 a1 r h =>
 tE fk40 (p40_e_3 a0 a1) on (c40_3 g0 _ _ _ _ _ h)
theorem xGa {N : Nat} {q0 : Exp → Int → Option (Int)} (g0 : G40 q0) {a0 : Exp} {a1 : Int} {r : Int} (h : xEM N q0 a0 a1 = some r) : AbC 40 (xCS a0 a1) (xBw r) :=
 AbsCalls.of_reach fk40 rfl rfl (Nat.le_of_ble_eq_true rfl) (c40_e g0 a0 a1 r h)
theorem xFh {N : Nat} : ∀ d, G40 (xDH N d)
 | 0 => fun _ _ _ h => nE h
 | d + 1 => fun _ _ _ h => xGa (N := N) (xFh d) h
theorem xFi {N : Nat} {a0 : Exp} {a1 : Int} {r : Int} (h : xF4 N a0 a1 = some r) : AbC 40 (xCS a0 a1) (xBw r) := xFh N _ _ r h
noncomputable def I77 : Info := { body := (Tryz.f77.body).getD .skip, nt := 10, results := [.tmp 4], keep := [0, 2, 8, 14], live := [], modes := [] }
theorem fk77 : FnOk Tryz.prog 77 Tryz.f77 I77 := ⟨Tryz.func77, by kernel_rfl, by kernel_rfl, by kernel_rfl, by kernel_rfl⟩
theorem p77_e_0 (a0 a1 : Int) : rE I77 (xEH a0 a1) [Y] [] = dn (xEk a0) [(decide ((a0 : Int) > a1)) = true] := by kernel_rfl
theorem p77_e_1 (a0 a1 : Int) : rE I77 (xEH a0 a1) [F] [] = dn (xEk a1) [(decide ((a0 : Int) > a1)) = false] := by kernel_rfl
theorem c77_e {N : Nat} : ∀ a0 a1 r, xFH N a0 a1 = some r → RE Tryz.f77 I77 (xEH a0 a1) (xEk r) := fun a0 a1 r h =>
 cE h (fun h0 h => dE h fk77 (p77_e_0 a0 a1) (oc h0 on)) fun h0 h =>
 dE h fk77 (p77_e_1 a0 a1) (oc h0 on)
theorem spec_l1Max_ok {N : Nat} {a0 : Int} {a1 : Int} {r : Int} (h : xFH N  a0 a1 = some r) : AbC 77 (xEH a0 a1) (xEk r) :=
 AbsCalls.of_reach fk77 rfl rfl (Nat.le_of_ble_eq_true rfl) (c77_e a0 a1 r h)
def G41 (q : Exp → Option (Int)) : Prop := ∀ a0 r, q a0 = some r → AbC 41 (xCN a0) (xBC r)
noncomputable def I41 : Info := { body := (Tryz.f41.body).getD .skip, nt := 22, results := [.tmp 2], keep := [0, 2, 4, 6, 8, 18, 3], live := [(3, [2, 6, 8, 3])], modes := [] }
theorem fk41 : FnOk Tryz.prog 41 Tryz.f41 I41 := ⟨Tryz.func41, by kernel_rfl, by kernel_rfl, by kernel_rfl, by kernel_rfl⟩
def S41_3 (x3 x4 : Int) (b1 : Exp) : St := [(2, .v false [.ptr 1 0]), (6, .v false [.int .i64 x3]), (8, .v false [.int .i64 x4]), (3, .v true [.int .i64 (Exp.kind b1), .int .i64 (Exp.n b1), .str (Exp.text b1), .sl .ro .exp (Exp.args b1)])]
theorem p41_3_0 (x3 x4 : Int) (b1 : Exp) (r1 r2 : Int) : rS 3 I41 (S41_3 x3 x4 b1) [Y] [xBC r1, xEk r2] = st 3 I41 (S41_3 r2 (W (x4 + 1)) b1) [(decide ((x4 : Int) < (Ln (Exp.args b1) : Int))) = true, (0 : Int) ≤ x4 ∧ x4 < (Ln (Exp.args b1)), AbC 41 (xCN (gD (Exp.args b1) (tN x4) Ty.exp.dflt)) (xBC r1), AbC 77 (xEH x3 r1) (xEk r2)] := by kernel_rfl
theorem p41_3_1 (x3 x4 : Int) (b1 : Exp) : rS 3 I41 (S41_3 x3 x4 b1) [F] [] = dn (xBC (W (x3 + 1))) [(decide ((x4 : Int) < (Ln (Exp.args b1) : Int))) = false] := by kernel_rfl
theorem p41_e_2 (a0 : Exp) : rE I41 (xCN a0) [] [] = st 3 I41 (S41_3 0 0 a0) [] := by kernel_rfl
theorem c41_3 {N : Nat} {q0 : Exp → Option (Int)} (g0 : G41 q0) : ∀ n x3 x4 b1 r, xDw N q0 n x3 x4 b1 = some r → RS Tryz.f41 I41 3 (S41_3 x3 x4 b1) (xBC r) := by
 intro n
 induction n with
 | zero => exact fun _ _ _ _ h => nE h
 | succ n ih =>
  exact fun x3 x4 b1 r h =>
   cE h (fun h0 h => iE h fun h1 h => bE h fun r1 h2 h => bE h fun r2 h3 h => tS fk41 (p41_3_0 x3 x4 b1 r1 r2) (oc h0 (oc h1 (oc (g0 _ _ h2) (oc (spec_l1Max_ok h3) on)))) (ih _ _ _ _ h)) fun h0 h =>
   dS h fk41 (p41_3_1 x3 x4 b1) (oc h0 on)
theorem c41_e {N : Nat} {q0 : Exp → Option (Int)} (g0 : G41 q0) : ∀ a0 r, xEA N q0 a0 = some r → RE Tryz.f41 I41 (xCN a0) (xBC r) := fun a0 r h =>
 tE fk41 (p41_e_2 a0) on (c41_3 g0 _ _ _ _ _ h)
theorem xF0 {N : Nat} {q0 : Exp → Option (Int)} (g0 : G41 q0) {a0 : Exp} {r : Int} (h : xEA N q0 a0 = some r) : AbC 41 (xCN a0) (xBC r) :=
 AbsCalls.of_reach fk41 rfl rfl (Nat.le_of_ble_eq_true rfl) (c41_e g0 a0 r h)
theorem xEV {N : Nat} : ∀ d, G41 (xDL N d)
 | 0 => fun _ _ h => nE h
 | d + 1 => fun _ _ h => xF0 (N := N) (xEV d) h
theorem xFF {N : Nat} {a0 : Exp} {r : Int} (h : xFx N a0 = some r) : AbC 41 (xCN a0) (xBC r) := xEV N _ r h
noncomputable def I105 : Info := { body := (Tryz.f105.body).getD .skip, nt := 15, results := [.tmp 6], keep := [0, 2, 4, 12], live := [], modes := [(1, [(3, .take, false)])] }
theorem fk105 : FnOk Tryz.prog 105 Tryz.f105 I105 := ⟨Tryz.func105, by kernel_rfl, by kernel_rfl, by kernel_rfl, by kernel_rfl⟩
theorem p105_e_0 (a0 a1 a2 : Int) : rE I105 (xEB a0 a1 a2) [Y] [] = dn (xDV (decide ((a0 : Int) ≤ a2))) [(decide ((a0 : Int) ≥ a1)) = true] := by kernel_rfl
theorem p105_e_1 (a0 a1 a2 : Int) : rE I105 (xEB a0 a1 a2) [F] [] = dn (xDV false) [(decide ((a0 : Int) ≥ a1)) = false] := by kernel_rfl
theorem c105_e {N : Nat} : ∀ a0 a1 a2 r, xFG N a0 a1 a2 = some r → RE Tryz.f105 I105 (xEB a0 a1 a2) (xDV r) := fun a0 a1 a2 r h =>
 cE h (fun h0 h => dE h fk105 (p105_e_0 a0 a1 a2) (oc h0 on)) fun h0 h =>
 dE h fk105 (p105_e_1 a0 a1 a2) (oc h0 on)
theorem spec_l1In_ok {N : Nat} {a0 : Int} {a1 : Int} {a2 : Int} {r : Bool} (h : xFG N  a0 a1 a2 = some r) : AbC 105 (xEB a0 a1 a2) (xDV r) :=
 AbsCalls.of_reach fk105 rfl rfl (Nat.le_of_ble_eq_true rfl) (c105_e a0 a1 a2 r h)
noncomputable def I78 : Info := { body := (Tryz.f78.body).getD .skip, nt := 120, results := [.tmp 2], keep := [0, 2, 4, 6, 16, 18, 46, 74, 102, 130, 154, 182, 212, 3], live := [], modes := [(4, [(2, .take, false), (7, .take, false)]), (6, [(2, .take, false), (7, .take, false)]), (8, [(2, .take, false), (7, .take, false)]), (10, [(3, .take, false), (8, .take, false)]), (12, [(3, .take, false)]), (14, [(3, .take, false), (7, .take, false)]), (17, [(3, .take, false), (7, .take, false)]), (19, [(3, .take, false), (8, .take, false)])] }
theorem fk78 : FnOk Tryz.prog 78 Tryz.f78 I78 := ⟨Tryz.func78, by kernel_rfl, by kernel_rfl, by kernel_rfl, by kernel_rfl⟩
theorem p78_e_0 (a0 : Exp) (r1 : Bool) : rE I78 (xAB a0) [Y, Y, Y] [xDV r1] = dn (xAz r1) [(((Exp.kind a0) : Int) == 1) = true, (((Ln (Exp.args a0) : Int) : Int) == 0) = true, (((Exp.text a0) : Str) == []) = true, AbC 105 (xEB (Exp.n a0) 0 1000000000) (xDV r1)] := by kernel_rfl
theorem p78_e_1 (a0 : Exp) : rE I78 (xAB a0) [Y, Y, F] [] = dn (xAz false) [(((Exp.kind a0) : Int) == 1) = true, (((Ln (Exp.args a0) : Int) : Int) == 0) = true, (((Exp.text a0) : Str) == []) = false] := by kernel_rfl
theorem p78_e_2 (a0 : Exp) : rE I78 (xAB a0) [Y, F, F] [] = dn (xAz false) [(((Exp.kind a0) : Int) == 1) = true, (((Ln (Exp.args a0) : Int) : Int) == 0) = false, false = false] := by kernel_rfl
theorem p78_e_3 (a0 : Exp) (r1 : Bool) : rE I78 (xAB a0) [F, Y, Y, Y] [xAT r1] = dn (xAz r1) [(((Exp.kind a0) : Int) == 1) = false, (((Exp.kind a0) : Int) == 2) = true, (((Ln (Exp.args a0) : Int) : Int) == 0) = true, (((Exp.n a0) : Int) == 0) = true, AbC 82 (xCh (Exp.text a0)) (xAT r1)] := by kernel_rfl
theorem p78_e_4 (a0 : Exp) : rE I78 (xAB a0) [F, Y, Y, F] [] = dn (xAz false) [(((Exp.kind a0) : Int) == 1) = false, (((Exp.kind a0) : Int) == 2) = true, (((Ln (Exp.args a0) : Int) : Int) == 0) = true, (((Exp.n a0) : Int) == 0) = false] := by kernel_rfl
theorem p78_e_5 (a0 : Exp) : rE I78 (xAB a0) [F, Y, F, F] [] = dn (xAz false) [(((Exp.kind a0) : Int) == 1) = false, (((Exp.kind a0) : Int) == 2) = true, (((Ln (Exp.args a0) : Int) : Int) == 0) = false, false = false] := by kernel_rfl
theorem p78_e_6 (a0 : Exp) (r1 : Bool) : rE I78 (xAB a0) [F, F, Y, Y, Y] [xAx r1] = dn (xAz r1) [(((Exp.kind a0) : Int) == 1) = false, (((Exp.kind a0) : Int) == 2) = false, (((Exp.kind a0) : Int) == 3) = true, (((Ln (Exp.args a0) : Int) : Int) == 0) = true, (((Exp.n a0) : Int) == 0) = true, AbC 87 (xAX (Exp.text a0)) (xAx r1)] := by kernel_rfl
theorem p78_e_7 (a0 : Exp) : rE I78 (xAB a0) [F, F, Y, Y, F] [] = dn (xAz false) [(((Exp.kind a0) : Int) == 1) = false, (((Exp.kind a0) : Int) == 2) = false, (((Exp.kind a0) : Int) == 3) = true, (((Ln (Exp.args a0) : Int) : Int) == 0) = true, (((Exp.n a0) : Int) == 0) = false] := by kernel_rfl
theorem p78_e_8 (a0 : Exp) : rE I78 (xAB a0) [F, F, Y, F, F] [] = dn (xAz false) [(((Exp.kind a0) : Int) == 1) = false, (((Exp.kind a0) : Int) == 2) = false, (((Exp.kind a0) : Int) == 3) = true, (((Ln (Exp.args a0) : Int) : Int) == 0) = false, false = false] := by kernel_rfl
theorem p78_e_9 (a0 : Exp) : rE I78 (xAB a0) [F, F, F, Y, Y, Y] [] = dn (xAz (decide (((Ln (Exp.args a0) : Int) : Int) ≤ 8))) [(((Exp.kind a0) : Int) == 1) = false, (((Exp.kind a0) : Int) == 2) = false, (((Exp.kind a0) : Int) == 3) = false, (((Exp.kind a0) : Int) == 4) = true, (((Exp.n a0) : Int) == 0) = true, (((Exp.text a0) : Str) == []) = true] := by kernel_rfl
theorem p78_e_10 (a0 : Exp) : rE I78 (xAB a0) [F, F, F, Y, Y, F] [] = dn (xAz false) [(((Exp.kind a0) : Int) == 1) = false, (((Exp.kind a0) : Int) == 2) = false, (((Exp.kind a0) : Int) == 3) = false, (((Exp.kind a0) : Int) == 4) = true, (((Exp.n a0) : Int) == 0) = true, (((Exp.text a0) : Str) == []) = false] := by kernel_rfl
theorem p78_e_11 (a0 : Exp) : rE I78 (xAB a0) [F, F, F, Y, F, F] [] = dn (xAz false) [(((Exp.kind a0) : Int) == 1) = false, (((Exp.kind a0) : Int) == 2) = false, (((Exp.kind a0) : Int) == 3) = false, (((Exp.kind a0) : Int) == 4) = true, (((Exp.n a0) : Int) == 0) = false, false = false] := by kernel_rfl
theorem p78_e_12 (a0 : Exp) (r1 : Int) : rE I78 (xAB a0) [F, F, F, F, Y, Y] [xAj r1] = dn (xAz (((Ln (Exp.args a0) : Int) : Int) == r1)) [(((Exp.kind a0) : Int) == 1) = false, (((Exp.kind a0) : Int) == 2) = false, (((Exp.kind a0) : Int) == 3) = false, (((Exp.kind a0) : Int) == 4) = false, (((Exp.kind a0) : Int) == 5) = true, (((Exp.n a0) : Int) == 0) = true, AbC 106 (xAq (Exp.text a0)) (xAj r1)] := by kernel_rfl
theorem p78_e_13 (a0 : Exp) : rE I78 (xAB a0) [F, F, F, F, Y, F] [] = dn (xAz false) [(((Exp.kind a0) : Int) == 1) = false, (((Exp.kind a0) : Int) == 2) = false, (((Exp.kind a0) : Int) == 3) = false, (((Exp.kind a0) : Int) == 4) = false, (((Exp.kind a0) : Int) == 5) = true, (((Exp.n a0) : Int) == 0) = false] := by kernel_rfl
theorem p78_e_14 (a0 : Exp) (r1 : Bool) : rE I78 (xAB a0) [F, F, F, F, F, Y, Y, Y] [xDV r1] = dn (xAz r1) [(((Exp.kind a0) : Int) == 1) = false, (((Exp.kind a0) : Int) == 2) = false, (((Exp.kind a0) : Int) == 3) = false, (((Exp.kind a0) : Int) == 4) = false, (((Exp.kind a0) : Int) == 5) = false, (((Exp.kind a0) : Int) == 6) = true, (((Exp.text a0) : Str) == []) = true, (((Ln (Exp.args a0) : Int) : Int) == 2) = true, AbC 105 (xEB (Exp.n a0) 1 5) (xDV r1)] := by kernel_rfl
theorem p78_e_15 (a0 : Exp) : rE I78 (xAB a0) [F, F, F, F, F, Y, Y, F] [] = dn (xAz false) [(((Exp.kind a0) : Int) == 1) = false, (((Exp.kind a0) : Int) == 2) = false, (((Exp.kind a0) : Int) == 3) = false, (((Exp.kind a0) : Int) == 4) = false, (((Exp.kind a0) : Int) == 5) = false, (((Exp.kind a0) : Int) == 6) = true, (((Exp.text a0) : Str) == []) = true, (((Ln (Exp.args a0) : Int) : Int) == 2) = false] := by kernel_rfl
theorem p78_e_16 (a0 : Exp) : rE I78 (xAB a0) [F, F, F, F, F, Y, F, F] [] = dn (xAz false) [(((Exp.kind a0) : Int) == 1) = false, (((Exp.kind a0) : Int) == 2) = false, (((Exp.kind a0) : Int) == 3) = false, (((Exp.kind a0) : Int) == 4) = false, (((Exp.kind a0) : Int) == 5) = false, (((Exp.kind a0) : Int) == 6) = true, (((Exp.text a0) : Str) == []) = false, false = false] := by kernel_rfl
theorem p78_e_17 (a0 : Exp) (r1 : Bool) : rE I78 (xAB a0) [F, F, F, F, F, F, Y, Y, Y, Y] [xAx r1] = dn (xAz r1) [(((Exp.kind a0) : Int) == 1) = false, (((Exp.kind a0) : Int) == 2) = false, (((Exp.kind a0) : Int) == 3) = false, (((Exp.kind a0) : Int) == 4) = false, (((Exp.kind a0) : Int) == 5) = false, (((Exp.kind a0) : Int) == 6) = false, (((Exp.kind a0) : Int) == 7) = true, (((Exp.kind a0) : Int) == 7) = true, (((Exp.n a0) : Int) == 0) = true, (((Ln (Exp.args a0) : Int) : Int) == 2) = true, AbC 87 (xAX (Exp.text a0)) (xAx r1)] := by kernel_rfl
theorem p78_e_18 (a0 : Exp) : rE I78 (xAB a0) [F, F, F, F, F, F, Y, Y, Y, F] [] = dn (xAz false) [(((Exp.kind a0) : Int) == 1) = false, (((Exp.kind a0) : Int) == 2) = false, (((Exp.kind a0) : Int) == 3) = false, (((Exp.kind a0) : Int) == 4) = false, (((Exp.kind a0) : Int) == 5) = false, (((Exp.kind a0) : Int) == 6) = false, (((Exp.kind a0) : Int) == 7) = true, (((Exp.kind a0) : Int) == 7) = true, (((Exp.n a0) : Int) == 0) = true, (((Ln (Exp.args a0) : Int) : Int) == 2) = false] := by kernel_rfl
theorem p78_e_19 (a0 : Exp) : rE I78 (xAB a0) [F, F, F, F, F, F, Y, Y, F, F] [] = dn (xAz false) [(((Exp.kind a0) : Int) == 1) = false, (((Exp.kind a0) : Int) == 2) = false, (((Exp.kind a0) : Int) == 3) = false, (((Exp.kind a0) : Int) == 4) = false, (((Exp.kind a0) : Int) == 5) = false, (((Exp.kind a0) : Int) == 6) = false, (((Exp.kind a0) : Int) == 7) = true, (((Exp.kind a0) : Int) == 7) = true, (((Exp.n a0) : Int) == 0) = false, false = false] := by kernel_rfl
theorem p78_e_20 (a0 : Exp) (r1 : Bool) : rE I78 (xAB a0) [F, F, F, F, F, F, F, Y, Y, Y] [xAx r1] = dn (xAz r1) [(((Exp.kind a0) : Int) == 1) = false, (((Exp.kind a0) : Int) == 2) = false, (((Exp.kind a0) : Int) == 3) = false, (((Exp.kind a0) : Int) == 4) = false, (((Exp.kind a0) : Int) == 5) = false, (((Exp.kind a0) : Int) == 6) = false, (((Exp.kind a0) : Int) == 7) = false, (((Exp.kind a0) : Int) == 9) = true, (((Exp.n a0) : Int) == 0) = true, (((Ln (Exp.args a0) : Int) : Int) == 2) = true, AbC 87 (xAX (Exp.text a0)) (xAx r1)] := by kernel_rfl
theorem p78_e_21 (a0 : Exp) : rE I78 (xAB a0) [F, F, F, F, F, F, F, Y, Y, F] [] = dn (xAz false) [(((Exp.kind a0) : Int) == 1) = false, (((Exp.kind a0) : Int) == 2) = false, (((Exp.kind a0) : Int) == 3) = false, (((Exp.kind a0) : Int) == 4) = false, (((Exp.kind a0) : Int) == 5) = false, (((Exp.kind a0) : Int) == 6) = false, (((Exp.kind a0) : Int) == 7) = false, (((Exp.kind a0) : Int) == 9) = true, (((Exp.n a0) : Int) == 0) = true, (((Ln (Exp.args a0) : Int) : Int) == 2) = false] := by kernel_rfl
theorem p78_e_22 (a0 : Exp) : rE I78 (xAB a0) [F, F, F, F, F, F, F, Y, F, F] [] = dn (xAz false) [(((Exp.kind a0) : Int) == 1) = false, (((Exp.kind a0) : Int) == 2) = false, (((Exp.kind a0) : Int) == 3) = false, (((Exp.kind a0) : Int) == 4) = false, (((Exp.kind a0) : Int) == 5) = false, (((Exp.kind a0) : Int) == 6) = false, (((Exp.kind a0) : Int) == 7) = false, (((Exp.kind a0) : Int) == 9) = true, (((Exp.n a0) : Int) == 0) = false, false = false] := by kernel_rfl
theorem p78_e_23 (a0 : Exp) : rE I78 (xAB a0) [F, F, F, F, F, F, F, F, Y, Y, Y] [] = dn (xAz (((Ln (Exp.args a0) : Int) : Int) == 3)) [(((Exp.kind a0) : Int) == 1) = false, (((Exp.kind a0) : Int) == 2) = false, (((Exp.kind a0) : Int) == 3) = false, (((Exp.kind a0) : Int) == 4) = false, (((Exp.kind a0) : Int) == 5) = false, (((Exp.kind a0) : Int) == 6) = false, (((Exp.kind a0) : Int) == 7) = false, (((Exp.kind a0) : Int) == 9) = false, (((Exp.kind a0) : Int) == 8) = true, (((Exp.n a0) : Int) == 0) = true, (((Exp.text a0) : Str) == []) = true] := by kernel_rfl
theorem p78_e_24 (a0 : Exp) : rE I78 (xAB a0) [F, F, F, F, F, F, F, F, Y, Y, F] [] = dn (xAz false) [(((Exp.kind a0) : Int) == 1) = false, (((Exp.kind a0) : Int) == 2) = false, (((Exp.kind a0) : Int) == 3) = false, (((Exp.kind a0) : Int) == 4) = false, (((Exp.kind a0) : Int) == 5) = false, (((Exp.kind a0) : Int) == 6) = false, (((Exp.kind a0) : Int) == 7) = false, (((Exp.kind a0) : Int) == 9) = false, (((Exp.kind a0) : Int) == 8) = true, (((Exp.n a0) : Int) == 0) = true, (((Exp.text a0) : Str) == []) = false] := by kernel_rfl
theorem p78_e_25 (a0 : Exp) : rE I78 (xAB a0) [F, F, F, F, F, F, F, F, Y, F, F] [] = dn (xAz false) [(((Exp.kind a0) : Int) == 1) = false, (((Exp.kind a0) : Int) == 2) = false, (((Exp.kind a0) : Int) == 3) = false, (((Exp.kind a0) : Int) == 4) = false, (((Exp.kind a0) : Int) == 5) = false, (((Exp.kind a0) : Int) == 6) = false, (((Exp.kind a0) : Int) == 7) = false, (((Exp.kind a0) : Int) == 9) = false, (((Exp.kind a0) : Int) == 8) = true, (((Exp.n a0) : Int) == 0) = false, false = false] := by kernel_rfl
theorem p78_e_26 (a0 : Exp) : rE I78 (xAB a0) [F, F, F, F, F, F, F, F, F] [] = dn (xAz false) [(((Exp.kind a0) : Int) == 1) = false, (((Exp.kind a0) : Int) == 2) = false, (((Exp.kind a0) : Int) == 3) = false, (((Exp.kind a0) : Int) == 4) = false, (((Exp.kind a0) : Int) == 5) = false, (((Exp.kind a0) : Int) == 6) = false, (((Exp.kind a0) : Int) == 7) = false, (((Exp.kind a0) : Int) == 9) = false, (((Exp.kind a0) : Int) == 8) = false] := by kernel_rfl
theorem c78_e {N : Nat} : ∀ a0 r, xEW N a0 = some r → RE Tryz.f78 I78 (xAB a0) (xAz r) := fun a0 r h =>
 cE h (fun h0 h => cE h (fun h1 h => cE h (fun h2 h => bE h fun r1 h3 h => dE h fk78 (p78_e_0 a0 r1) (oc h0 (oc h1 (oc h2 (oc (spec_l1In_ok h3) on))))) fun h2 h =>
 dE h fk78 (p78_e_1 a0) (oc h0 (oc h1 (oc h2 on)))) fun h1 h =>
 dE h fk78 (p78_e_2 a0) (oc h0 (oc h1 (oc rfl on)))) fun h0 h =>
 cE h (fun h1 h => cE h (fun h2 h => cE h (fun h3 h => bE h fun r1 h4 h => dE h fk78 (p78_e_3 a0 r1) (oc h0 (oc h1 (oc h2 (oc h3 (oc (xDA h4) on)))))) fun h3 h =>
 dE h fk78 (p78_e_4 a0) (oc h0 (oc h1 (oc h2 (oc h3 on))))) fun h2 h =>
 dE h fk78 (p78_e_5 a0) (oc h0 (oc h1 (oc h2 (oc rfl on))))) fun h1 h =>
 cE h (fun h2 h => cE h (fun h3 h => cE h (fun h4 h => bE h fun r1 h5 h => dE h fk78 (p78_e_6 a0 r1) (oc h0 (oc h1 (oc h2 (oc h3 (oc h4 (oc (xBI h5) on))))))) fun h4 h =>
 dE h fk78 (p78_e_7 a0) (oc h0 (oc h1 (oc h2 (oc h3 (oc h4 on)))))) fun h3 h =>
 dE h fk78 (p78_e_8 a0) (oc h0 (oc h1 (oc h2 (oc h3 (oc rfl on)))))) fun h2 h =>
 cE h (fun h3 h => cE h (fun h4 h => cE h (fun h5 h => dE h fk78 (p78_e_9 a0) (oc h0 (oc h1 (oc h2 (oc h3 (oc h4 (oc h5 on))))))) fun h5 h =>
 dE h fk78 (p78_e_10 a0) (oc h0 (oc h1 (oc h2 (oc h3 (oc h4 (oc h5 on))))))) fun h4 h =>
 dE h fk78 (p78_e_11 a0) (oc h0 (oc h1 (oc h2 (oc h3 (oc h4 (oc rfl on))))))) fun h3 h =>
 cE h (fun h4 h => cE h (fun h5 h => bE h fun r1 h6 h => dE h fk78 (p78_e_12 a0 r1) (oc h0 (oc h1 (oc h2 (oc h3 (oc h4 (oc h5 (oc (xDg h6) on)))))))) fun h5 h =>
 dE h fk78 (p78_e_13 a0) (oc h0 (oc h1 (oc h2 (oc h3 (oc h4 (oc h5 on))))))) fun h4 h =>
 cE h (fun h5 h => cE h (fun h6 h => cE h (fun h7 h => bE h fun r1 h8 h => dE h fk78 (p78_e_14 a0 r1) (oc h0 (oc h1 (oc h2 (oc h3 (oc h4 (oc h5 (oc h6 (oc h7 (oc (spec_l1In_ok h8) on)))))))))) fun h7 h =>
 dE h fk78 (p78_e_15 a0) (oc h0 (oc h1 (oc h2 (oc h3 (oc h4 (oc h5 (oc h6 (oc h7 on))))))))) fun h6 h =>
 dE h fk78 (p78_e_16 a0) (oc h0 (oc h1 (oc h2 (oc h3 (oc h4 (oc h5 (oc h6 (oc rfl on))))))))) fun h5 h =>
 cE h (fun h6 h => cE h (fun h8 h => cE h (fun h9 h => bE h fun r1 h10 h => dE h fk78 (p78_e_17 a0 r1) (oc h0 (oc h1 (oc h2 (oc h3 (oc h4 (oc h5 (oc h6 (oc h6 (oc h8 (oc h9 (oc (xBI h10) on)))))))))))) fun h9 h =>
 dE h fk78 (p78_e_18 a0) (oc h0 (oc h1 (oc h2 (oc h3 (oc h4 (oc h5 (oc h6 (oc h6 (oc h8 (oc h9 on))))))))))) fun h8 h =>
 dE h fk78 (p78_e_19 a0) (oc h0 (oc h1 (oc h2 (oc h3 (oc h4 (oc h5 (oc h6 (oc h6 (oc h8 (oc rfl on))))))))))) fun h6 h =>
 cE h (fun h7 h => cE h (fun h8 h => cE h (fun h9 h => bE h fun r1 h10 h => dE h fk78 (p78_e_20 a0 r1) (oc h0 (oc h1 (oc h2 (oc h3 (oc h4 (oc h5 (oc h6 (oc h7 (oc h8 (oc h9 (oc (xBI h10) on)))))))))))) fun h9 h =>
 dE h fk78 (p78_e_21 a0) (oc h0 (oc h1 (oc h2 (oc h3 (oc h4 (oc h5 (oc h6 (oc h7 (oc h8 (oc h9 on))))))))))) fun h8 h =>
 dE h fk78 (p78_e_22 a0) (oc h0 (oc h1 (oc h2 (oc h3 (oc h4 (oc h5 (oc h6 (oc h7 (oc h8 (oc rfl on))))))))))) fun h7 h =>
 cE h (fun h8 h => cE h (fun h9 h => cE h (fun h10 h => dE h fk78 (p78_e_23 a0) (oc h0 (oc h1 (oc h2 (oc h3 (oc h4 (oc h5 (oc h6 (oc h7 (oc h8 (oc h9 (oc h10 on)))))))))))) fun h10 h =>
 dE h fk78 (p78_e_24 a0) (oc h0 (oc h1 (oc h2 (oc h3 (oc h4 (oc h5 (oc h6 (oc h7 (oc h8 (oc h9 (oc h10 on)))))))))))) fun h9 h =>
 dE h fk78 (p78_e_25 a0) (oc h0 (oc h1 (oc h2 (oc h3 (oc h4 (oc h5 (oc h6 (oc h7 (oc h8 (oc h9 (oc rfl on)))))))))))) fun h8 h =>
 dE h fk78 (p78_e_26 a0) (oc h0 (oc h1 (oc h2 (oc h3 (oc h4 (oc h5 (oc h6 (oc h7 (oc h8 on)))))))))
theorem spec_l10Node_ok {N : Nat} {a0 : Exp} {r : Bool} (h : xEW N  a0 = some r) : AbC 78 (xAB a0) (xAz r) :=
 AbsCalls.of_reach fk78 rfl rfl (Nat.le_of_ble_eq_true rfl) (c78_e a0 r h)
def G42 (q : Exp → Option (Bool)) : Prop := ∀ a0 r, q a0 = some r → AbC 42 (xDt a0) (xB4 r)
noncomputable def I42 : Info := { body := (Tryz.f42.body).getD .skip, nt := 20, results := [.tmp 2], keep := [0, 2, 4, 6, 16, 34, 3], live := [(2, [2, 6, 3])], modes := [] }
theorem fk42 : FnOk Tryz.prog 42 Tryz.f42 I42 := ⟨Tryz.func42, by kernel_rfl, by kernel_rfl, by kernel_rfl, by kernel_rfl⟩
def S42_2 (x3 : Int) (b1 : Exp) : St := [(2, .v false [.ptr 1 0]), (6, .v false [.int .i64 x3]), (3, .v true [.int .i64 (Exp.kind b1), .int .i64 (Exp.n b1), .str (Exp.text b1), .sl .ro .exp (Exp.args b1)])]
theorem p42_2_0 (x3 : Int) (b1 : Exp) (r1 : Bool) : rS 2 I42 (S42_2 x3 b1) [Y, Y] [xB4 r1] = dn (xB4 false) [(decide ((x3 : Int) < (Ln (Exp.args b1) : Int))) = true, (0 : Int) ≤ x3 ∧ x3 < (Ln (Exp.args b1)), AbC 42 (xDt (gD (Exp.args b1) (tN x3) Ty.exp.dflt)) (xB4 r1), (!r1) = true] := by kernel_rfl
theorem p42_2_1 (x3 : Int) (b1 : Exp) (r1 : Bool) : rS 2 I42 (S42_2 x3 b1) [Y, F] [xB4 r1] = st 2 I42 (S42_2 (W (x3 + 1)) b1) [(decide ((x3 : Int) < (Ln (Exp.args b1) : Int))) = true, (0 : Int) ≤ x3 ∧ x3 < (Ln (Exp.args b1)), AbC 42 (xDt (gD (Exp.args b1) (tN x3) Ty.exp.dflt)) (xB4 r1), (!r1) = false] := by kernel_rfl
theorem p42_2_2 (x3 : Int) (b1 : Exp) (r1 : Bool) : rS 2 I42 (S42_2 x3 b1) [F] [xAz r1] = dn (xB4 r1) [(decide ((x3 : Int) < (Ln (Exp.args b1) : Int))) = false, AbC 78 (xAB b1) (xAz r1)] := by kernel_rfl
theorem p42_e_3 (a0 : Exp) : rE I42 (xDt a0) [] [] = st 2 I42 (S42_2 0 a0) [] := by kernel_rfl
theorem c42_2 {N : Nat} {q0 : Exp → Option (Bool)} (g0 : G42 q0) : ∀ n x3 b1 r, xDO N q0 n x3 b1 = some r → RS Tryz.f42 I42 2 (S42_2 x3 b1) (xB4 r) := by
 intro n
 induction n with
 | zero => exact fun _ _ _ h => nE h
 | succ n ih =>
  exact fun x3 b1 r h =>
   cE h (fun h0 h => iE h fun h1 h => bE h fun r1 h2 h => cE h (fun h3 h => dS h fk42 (p42_2_0 x3 b1 r1) (oc h0 (oc h1 (oc (g0 _ _ h2) (oc h3 on))))) fun h3 h =>
   tS fk42 (p42_2_1 x3 b1 r1) (oc h0 (oc h1 (oc (g0 _ _ h2) (oc h3 on)))) (ih _ _ _ h)) fun h0 h =>
   bE h fun r1 h1 h => dS h fk42 (p42_2_2 x3 b1 r1) (oc h0 (oc (spec_l10Node_ok h1) on))
theorem c42_e {N : Nat} {q0 : Exp → Option (Bool)} (g0 : G42 q0) : ∀ a0 r, xEY N q0 a0 = some r → RE Tryz.f42 I42 (xDt a0) (xB4 r) := fun a0 r h =>
 tE fk42 (p42_e_3 a0) on (c42_2 g0 _ _ _ _ h)
theorem xGq {N : Nat} {q0 : Exp → Option (Bool)} (g0 : G42 q0) {a0 : Exp} {r : Bool} (h : xEY N q0 a0 = some r) : AbC 42 (xDt a0) (xB4 r) :=
 AbsCalls.of_reach fk42 rfl rfl (Nat.le_of_ble_eq_true rfl) (c42_e g0 a0 r h)
theorem xFr {N : Nat} : ∀ d, G42 (xEd N d)
 | 0 => fun _ _ h => nE h
 | d + 1 => fun _ _ h => xGq (N := N) (xFr d) h
theorem spec_l10All_ok {N : Nat} {a0 : Exp} {r : Bool} (h : xGp N a0 = some r) : AbC 42 (xDt a0) (xB4 r) := xFr N _ r h
noncomputable def I22 : Info := { body := (Tryz.f22.body).getD .skip, nt := 15, results := [.tmp 2], keep := [0, 2, 4, 3], live := [], modes := [(1, [(3, .take, false), (8, .take, false)])] }
theorem fk22 : FnOk Tryz.prog 22 Tryz.f22 I22 := ⟨Tryz.func22, by kernel_rfl, by kernel_rfl, by kernel_rfl, by kernel_rfl⟩
theorem p22_e_0 (a0 : Exp) (r1 r2 : Int) (r3 : Bool) : rE I22 (xBv a0) [Y, Y] [xBw r1, xBC r2, xB4 r3] = dn (xAS r3) [AbC 40 (xCS a0 40) (xBw r1), (decide ((r1 : Int) ≥ 0)) = true, AbC 41 (xCN a0) (xBC r2), (decide ((r2 : Int) ≤ 8)) = true, AbC 42 (xDt a0) (xB4 r3)] := by kernel_rfl
theorem p22_e_1 (a0 : Exp) (r1 r2 : Int) : rE I22 (xBv a0) [Y, F] [xBw r1, xBC r2] = dn (xAS false) [AbC 40 (xCS a0 40) (xBw r1), (decide ((r1 : Int) ≥ 0)) = true, AbC 41 (xCN a0) (xBC r2), (decide ((r2 : Int) ≤ 8)) = false] := by kernel_rfl
theorem p22_e_2 (a0 : Exp) (r1 : Int) : rE I22 (xBv a0) [F, F] [xBw r1] = dn (xAS false) [AbC 40 (xCS a0 40) (xBw r1), (decide ((r1 : Int) ≥ 0)) = false, false = false] := by kernel_rfl
theorem c22_e {N : Nat} : ∀ a0 r, xCG N a0 = some r → RE Tryz.f22 I22 (xBv a0) (xAS r) := fun a0 r h =>
 bE h fun r1 h0 h => cE h (fun h1 h => bE h fun r2 h2 h => cE h (fun h3 h => bE h fun r3 h4 h => dE h fk22 (p22_e_0 a0 r1 r2 r3) (oc (xFi h0) (oc h1 (oc (xFF h2) (oc h3 (oc (spec_l10All_ok h4) on)))))) fun h3 h =>
 dE h fk22 (p22_e_1 a0 r1 r2) (oc (xFi h0) (oc h1 (oc (xFF h2) (oc h3 on))))) fun h1 h =>
 dE h fk22 (p22_e_2 a0 r1) (oc (xFi h0) (oc h1 (oc rfl on)))
theorem xC5 {N : Nat} {a0 : Exp} {r : Bool} (h : xCG N  a0 = some r) : AbC 22 (xBv a0) (xAS r) :=
 AbsCalls.of_reach fk22 rfl rfl (Nat.le_of_ble_eq_true rfl) (c22_e a0 r h)
noncomputable def I11 : Info := { body := (Tryz.f11.body).getD .skip, nt := 55, results := [.cell 2 25, .tmp 3], keep := [0, 4, 6, 8, 10, 12, 14, 28, 74, 88, 104, 5, 15, 43], live := [], modes := [(1, [(1, .cp, true), (2, .take, false)]), (4, [(0, .take, false)]), (6, [(5, .take, false)])], fcast := [(5, 3, true)] }
theorem fk11 : FnOk Tryz.prog 11 Tryz.f11 I11 := ⟨Tryz.func11, by kernel_rfl, by kernel_rfl, by kernel_rfl, by kernel_rfl⟩
theorem p11_e_0 (a0 : Str) (r1 : (List Tok) × Int) : rE I11 (xBp a0) [Y] [xAC r1] = dn (xBj ((Exp.mk 0 0 [] []), r1.2)) [AbC 23 (xBs a0) (xAC r1), (decide ((r1.2 : Int) ≥ 0)) = true] := by kernel_rfl
theorem p11_e_1 (a0 : Str) (r1 : (List Tok) × Int) (r2 : Exp × Rdr) (r3 : Exp × Rdr) : rE I11 (xBp a0) [F, Y, Y, Y] [xAC r1, xAh r2, xAD r3] = dn (xBj ((Exp.mk 0 0 [] []), (Rdr.bad r3.2))) [AbC 23 (xBs a0) (xAC r1), (decide ((r1.2 : Int) ≥ 0)) = false, AbC 28 (xAF (Rdr.mk r1.1 0 (Ln a0 : Int) (-1))) (xAh r2), (decide (((Rdr.bad r2.2) : Int) < 0)) = true, (decide (((Rdr.i r2.2) : Int) < (Ln r1.1 : Int))) = true, AbC 29 (xBg r2.2) (xAD r3), (decide (((Rdr.bad r3.2) : Int) ≥ 0)) = true] := by kernel_rfl
theorem p11_e_2 (a0 : Str) (r1 : (List Tok) × Int) (r2 : Exp × Rdr) (r3 : Exp × Rdr) (r4 : Bool) : rE I11 (xBp a0) [F, Y, Y, F, Y] [xAC r1, xAh r2, xAD r3, xAS r4] = dn (xBj ((Exp.mk 0 0 [] []), 0)) [AbC 23 (xBs a0) (xAC r1), (decide ((r1.2 : Int) ≥ 0)) = false, AbC 28 (xAF (Rdr.mk r1.1 0 (Ln a0 : Int) (-1))) (xAh r2), (decide (((Rdr.bad r2.2) : Int) < 0)) = true, (decide (((Rdr.i r2.2) : Int) < (Ln r1.1 : Int))) = true, AbC 29 (xBg r2.2) (xAD r3), (decide (((Rdr.bad r3.2) : Int) ≥ 0)) = false, AbC 22 (xBv r2.1) (xAS r4), (!r4) = true] := by kernel_rfl
theorem p11_e_3 (a0 : Str) (r1 : (List Tok) × Int) (r2 : Exp × Rdr) (r3 : Exp × Rdr) (r4 : Bool) : rE I11 (xBp a0) [F, Y, Y, F, F] [xAC r1, xAh r2, xAD r3, xAS r4] = dn (xBj (r2.1, (-1))) [AbC 23 (xBs a0) (xAC r1), (decide ((r1.2 : Int) ≥ 0)) = false, AbC 28 (xAF (Rdr.mk r1.1 0 (Ln a0 : Int) (-1))) (xAh r2), (decide (((Rdr.bad r2.2) : Int) < 0)) = true, (decide (((Rdr.i r2.2) : Int) < (Ln r1.1 : Int))) = true, AbC 29 (xBg r2.2) (xAD r3), (decide (((Rdr.bad r3.2) : Int) ≥ 0)) = false, AbC 22 (xBv r2.1) (xAS r4), (!r4) = false] := by kernel_rfl
theorem p11_e_4 (a0 : Str) (r1 : (List Tok) × Int) (r2 : Exp × Rdr) : rE I11 (xBp a0) [F, Y, F, Y] [xAC r1, xAh r2] = dn (xBj ((Exp.mk 0 0 [] []), (Rdr.bad r2.2))) [AbC 23 (xBs a0) (xAC r1), (decide ((r1.2 : Int) ≥ 0)) = false, AbC 28 (xAF (Rdr.mk r1.1 0 (Ln a0 : Int) (-1))) (xAh r2), (decide (((Rdr.bad r2.2) : Int) < 0)) = true, (decide (((Rdr.i r2.2) : Int) < (Ln r1.1 : Int))) = false, (decide (((Rdr.bad r2.2) : Int) ≥ 0)) = true] := by kernel_rfl
theorem p11_e_5 (a0 : Str) (r1 : (List Tok) × Int) (r2 : Exp × Rdr) (r3 : Bool) : rE I11 (xBp a0) [F, Y, F, F, Y] [xAC r1, xAh r2, xAS r3] = dn (xBj ((Exp.mk 0 0 [] []), 0)) [AbC 23 (xBs a0) (xAC r1), (decide ((r1.2 : Int) ≥ 0)) = false, AbC 28 (xAF (Rdr.mk r1.1 0 (Ln a0 : Int) (-1))) (xAh r2), (decide (((Rdr.bad r2.2) : Int) < 0)) = true, (decide (((Rdr.i r2.2) : Int) < (Ln r1.1 : Int))) = false, (decide (((Rdr.bad r2.2) : Int) ≥ 0)) = false, AbC 22 (xBv r2.1) (xAS r3), (!r3) = true] := by kernel_rfl
theorem p11_e_6 (a0 : Str) (r1 : (List Tok) × Int) (r2 : Exp × Rdr) (r3 : Bool) : rE I11 (xBp a0) [F, Y, F, F, F] [xAC r1, xAh r2, xAS r3] = dn (xBj (r2.1, (-1))) [AbC 23 (xBs a0) (xAC r1), (decide ((r1.2 : Int) ≥ 0)) = false, AbC 28 (xAF (Rdr.mk r1.1 0 (Ln a0 : Int) (-1))) (xAh r2), (decide (((Rdr.bad r2.2) : Int) < 0)) = true, (decide (((Rdr.i r2.2) : Int) < (Ln r1.1 : Int))) = false, (decide (((Rdr.bad r2.2) : Int) ≥ 0)) = false, AbC 22 (xBv r2.1) (xAS r3), (!r3) = false] := by kernel_rfl
theorem p11_e_7 (a0 : Str) (r1 : (List Tok) × Int) (r2 : Exp × Rdr) : rE I11 (xBp a0) [F, F, F, Y] [xAC r1, xAh r2] = dn (xBj ((Exp.mk 0 0 [] []), (Rdr.bad r2.2))) [AbC 23 (xBs a0) (xAC r1), (decide ((r1.2 : Int) ≥ 0)) = false, AbC 28 (xAF (Rdr.mk r1.1 0 (Ln a0 : Int) (-1))) (xAh r2), (decide (((Rdr.bad r2.2) : Int) < 0)) = false, false = false, (decide (((Rdr.bad r2.2) : Int) ≥ 0)) = true] := by kernel_rfl
theorem p11_e_8 (a0 : Str) (r1 : (List Tok) × Int) (r2 : Exp × Rdr) (r3 : Bool) : rE I11 (xBp a0) [F, F, F, F, Y] [xAC r1, xAh r2, xAS r3] = dn (xBj ((Exp.mk 0 0 [] []), 0)) [AbC 23 (xBs a0) (xAC r1), (decide ((r1.2 : Int) ≥ 0)) = false, AbC 28 (xAF (Rdr.mk r1.1 0 (Ln a0 : Int) (-1))) (xAh r2), (decide (((Rdr.bad r2.2) : Int) < 0)) = false, false = false, (decide (((Rdr.bad r2.2) : Int) ≥ 0)) = false, AbC 22 (xBv r2.1) (xAS r3), (!r3) = true] := by kernel_rfl
theorem p11_e_9 (a0 : Str) (r1 : (List Tok) × Int) (r2 : Exp × Rdr) (r3 : Bool) : rE I11 (xBp a0) [F, F, F, F, F] [xAC r1, xAh r2, xAS r3] = dn (xBj (r2.1, (-1))) [AbC 23 (xBs a0) (xAC r1), (decide ((r1.2 : Int) ≥ 0)) = false, AbC 28 (xAF (Rdr.mk r1.1 0 (Ln a0 : Int) (-1))) (xAh r2), (decide (((Rdr.bad r2.2) : Int) < 0)) = false, false = false, (decide (((Rdr.bad r2.2) : Int) ≥ 0)) = false, AbC 22 (xBv r2.1) (xAS r3), (!r3) = false] := by kernel_rfl
theorem c11_e {N : Nat} : ∀ a0 r, xDs N a0 = some r → RE Tryz.f11 I11 (xBp a0) (xBj r) := fun a0 r h =>
 bE h fun r1 h0 h => cE h (fun h1 h => dE h fk11 (p11_e_0 a0 r1) (oc (xCl h0) (oc h1 on))) fun h1 h =>
 bE h fun r2 h2 h => cE h (fun h3 h => cE h (fun h4 h => bE h fun r3 h5 h => cE h (fun h6 h => dE h fk11 (p11_e_1 a0 r1 r2 r3) (oc (xCl h0) (oc h1 (oc (xCU h2) (oc h3 (oc h4 (oc (xB0 h5) (oc h6 on)))))))) fun h6 h =>
 bE h fun r4 h7 h => cE h (fun h8 h => dE h fk11 (p11_e_2 a0 r1 r2 r3 r4) (oc (xCl h0) (oc h1 (oc (xCU h2) (oc h3 (oc h4 (oc (xB0 h5) (oc h6 (oc (xC5 h7) (oc h8 on)))))))))) fun h8 h =>
 dE h fk11 (p11_e_3 a0 r1 r2 r3 r4) (oc (xCl h0) (oc h1 (oc (xCU h2) (oc h3 (oc h4 (oc (xB0 h5) (oc h6 (oc (xC5 h7) (oc h8 on)))))))))) fun h4 h =>
 cE h (fun h5 h => dE h fk11 (p11_e_4 a0 r1 r2) (oc (xCl h0) (oc h1 (oc (xCU h2) (oc h3 (oc h4 (oc h5 on))))))) fun h5 h =>
 bE h fun r3 h6 h => cE h (fun h7 h => dE h fk11 (p11_e_5 a0 r1 r2 r3) (oc (xCl h0) (oc h1 (oc (xCU h2) (oc h3 (oc h4 (oc h5 (oc (xC5 h6) (oc h7 on))))))))) fun h7 h =>
 dE h fk11 (p11_e_6 a0 r1 r2 r3) (oc (xCl h0) (oc h1 (oc (xCU h2) (oc h3 (oc h4 (oc h5 (oc (xC5 h6) (oc h7 on))))))))) fun h3 h =>
 cE h (fun h5 h => dE h fk11 (p11_e_7 a0 r1 r2) (oc (xCl h0) (oc h1 (oc (xCU h2) (oc h3 (oc rfl (oc h5 on))))))) fun h5 h =>
 bE h fun r3 h6 h => cE h (fun h7 h => dE h fk11 (p11_e_8 a0 r1 r2 r3) (oc (xCl h0) (oc h1 (oc (xCU h2) (oc h3 (oc rfl (oc h5 (oc (xC5 h6) (oc h7 on))))))))) fun h7 h =>
 dE h fk11 (p11_e_9 a0 r1 r2 r3) (oc (xCl h0) (oc h1 (oc (xCU h2) (oc h3 (oc rfl (oc h5 (oc (xC5 h6) (oc h7 on))))))))
theorem spec_ParseExpr_ok {N : Nat} {a0 : Str} {r : Exp × Int} (h : xDs N  a0 = some r) : AbC 11 (xBp a0) (xBj r) :=
 AbsCalls.of_reach fk11 rfl rfl (Nat.le_of_ble_eq_true rfl) (c11_e a0 r h)
noncomputable def I9 : Info := { body := (Tryz.f9.body).getD .skip, nt := 12, results := [.tmp 2], keep := [0, 4, 8, 7], live := [], modes := [(1, [(2, .take, false)]), (2, [(0, .take, false)])] }
theorem fk9 : FnOk Tryz.prog 9 Tryz.f9 I9 := ⟨Tryz.func9, by kernel_rfl, by kernel_rfl, by kernel_rfl, by kernel_rfl⟩
theorem p9_e_0 (a0 : Str) (r1 : Exp × Int) : rE I9 (xDM a0) [] [xBj r1] = dn (xCR (decide ((r1.2 : Int) ≥ 0))) [AbC 11 (xBp a0) (xBj r1)] := by kernel_rfl
theorem c9_e {N : Nat} : ∀ a0 r, xEc N a0 = some r → RE Tryz.f9 I9 (xDM a0) (xCR r) := fun a0 r h =>
 bE h fun r1 h0 h => dE h fk9 (p9_e_0 a0 r1) (oc (spec_ParseExpr_ok h0) on)
theorem xFq {N : Nat} {a0 : Str} {r : Bool} (h : xEc N  a0 = some r) : AbC 9 (xDM a0) (xCR r) :=
 AbsCalls.of_reach fk9 rfl rfl (Nat.le_of_ble_eq_true rfl) (c9_e a0 r h)
theorem xFO {N : Nat} {a0 : Str} {a1 a2 : Int} {r : Int × Bool} (h : xE5 N a0 a1 a2 = some r) : AbC 89 (xE0 a0 a1 a2) (xDW r) :=
 lib_num enter_parse (fun s lo hi w hs hw => parse_calls s lo hi hs laid_below tab10 errVars w hw) h
theorem xBe {N : Nat} {a0 : Str} {a1 r : Int} (h : strings_IndexByte N a0 a1 = some r) : AbC 90 (xA6 a0 a1) (xAs r) :=
 lib_indexByte (enter_IndexByte Tryz.lays137) (Any.strings_IndexByte Tryz.lays137) h
noncomputable def I91 : Info := { body := (Tryz.f91.body).getD .skip, nt := 29, results := [.tmp 2], keep := [0, 4, 6, 14, 50], live := [(2, [0, 6])], modes := [(4, [(4, .take, false), (10, .take, false)])] }
theorem fk91 : FnOk Tryz.prog 91 Tryz.f91 I91 := ⟨Tryz.func91, by kernel_rfl, by kernel_rfl, by kernel_rfl, by kernel_rfl⟩
def S91_2 (x0 : Str) (x3 : Int) : St := [(0, .v false [.str x0]), (6, .v false [.int .i64 x3])]
theorem p91_2_0 (x0 : Str) (x3 : Int) : rS 2 I91 (S91_2 x0 x3) [Y, Y, Y, Y] [] = dn (xAJ false) [(decide ((x3 : Int) < (Ln x0 : Int))) = true, (0 : Int) ≤ x3 ∧ x3 < (Ln x0), (decide ((((gD x0 (tN x3) 0).toNat : Int) : Int) < 32)) = true, true = true, true = true] := by kernel_rfl
theorem p91_2_1 (x0 : Str) (x3 : Int) : rS 2 I91 (S91_2 x0 x3) [Y, F, Y, Y] [] = dn (xAJ false) [(decide ((x3 : Int) < (Ln x0 : Int))) = true, (0 : Int) ≤ x3 ∧ x3 < (Ln x0), (decide ((((gD x0 (tN x3) 0).toNat : Int) : Int) < 32)) = false, (0 : Int) ≤ x3 ∧ x3 < (Ln x0), (decide ((((gD x0 (tN x3) 0).toNat : Int) : Int) > 126)) = true, true = true] := by kernel_rfl
theorem p91_2_2 (x0 : Str) (x3 : Int) : rS 2 I91 (S91_2 x0 x3) [Y, F, F, Y] [] = dn (xAJ false) [(decide ((x3 : Int) < (Ln x0 : Int))) = true, (0 : Int) ≤ x3 ∧ x3 < (Ln x0), (decide ((((gD x0 (tN x3) 0).toNat : Int) : Int) < 32)) = false, (0 : Int) ≤ x3 ∧ x3 < (Ln x0), (decide ((((gD x0 (tN x3) 0).toNat : Int) : Int) > 126)) = false, (0 : Int) ≤ x3 ∧ x3 < (Ln x0), ((((gD x0 (tN x3) 0).toNat : Int) : Int) == 34) = true] := by kernel_rfl
theorem p91_2_3 (x0 : Str) (x3 : Int) : rS 2 I91 (S91_2 x0 x3) [Y, F, F, F] [] = st 2 I91 (S91_2 x0 (W (x3 + 1))) [(decide ((x3 : Int) < (Ln x0 : Int))) = true, (0 : Int) ≤ x3 ∧ x3 < (Ln x0), (decide ((((gD x0 (tN x3) 0).toNat : Int) : Int) < 32)) = false, (0 : Int) ≤ x3 ∧ x3 < (Ln x0), (decide ((((gD x0 (tN x3) 0).toNat : Int) : Int) > 126)) = false, (0 : Int) ≤ x3 ∧ x3 < (Ln x0), ((((gD x0 (tN x3) 0).toNat : Int) : Int) == 34) = false] := by kernel_rfl
theorem p91_2_4 (x0 : Str) (x3 : Int) : rS 2 I91 (S91_2 x0 x3) [F] [] = dn (xAJ (decide (((Ln x0 : Int) : Int) ≤ 20))) [(decide ((x3 : Int) < (Ln x0 : Int))) = false] := by kernel_rfl
theorem p91_e_5 (a0 : Str) : rE I91 (xBX a0) [] [] = st 2 I91 (S91_2 a0 0) [] := by kernel_rfl
theorem c91_2 {N : Nat} : ∀ n x0 x3 r, xDy N n x0 x3 = some r → RS Tryz.f91 I91 2 (S91_2 x0 x3) (xAJ r) := by
 intro n
 induction n with
 | zero => exact fun _ _ _ h => nE h
 | succ n ih =>
  exact fun x0 x3 r h =>
   cE h (fun h0 h => iE h fun h1 h => cE h (fun h2 h => dS h fk91 (p91_2_0 x0 x3) (oc h0 (oc h1 (oc h2 (oc rfl (oc rfl on)))))) fun h2 h =>
   cE h (fun h4 h => dS h fk91 (p91_2_1 x0 x3) (oc h0 (oc h1 (oc h2 (oc h1 (oc h4 (oc rfl on))))))) fun h4 h =>
   cE h (fun h6 h => dS h fk91 (p91_2_2 x0 x3) (oc h0 (oc h1 (oc h2 (oc h1 (oc h4 (oc h1 (oc h6 on)))))))) fun h6 h =>
   tS fk91 (p91_2_3 x0 x3) (oc h0 (oc h1 (oc h2 (oc h1 (oc h4 (oc h1 (oc h6 on))))))) (ih _ _ _ h)) fun h0 h =>
   dS h fk91 (p91_2_4 x0 x3) (oc h0 on)
theorem c91_e {N : Nat} : ∀ a0 r, xCF N a0 = some r → RE Tryz.f91 I91 (xBX a0) (xAJ r) := fun a0 r h =>
 tE fk91 (p91_e_5 a0) on (c91_2 _ _ _ _ h)
theorem xC3 {N : Nat} {a0 : Str} {r : Bool} (h : xCF N  a0 = some r) : AbC 91 (xBX a0) (xAJ r) :=
 AbsCalls.of_reach fk91 rfl rfl (Nat.le_of_ble_eq_true rfl) (c91_e a0 r h)
theorem xB7 {N : Nat} {a0 a1 : Str} {r : Bool} (h : strings_HasPrefix N a0 a1 = some r) : AbC 92 (xBL a0 a1) (xAM r) :=
 lib_hasPrefix (enter_HasPrefix Tryz.lays99) (Any.strings_HasPrefix Tryz.lays99) h
noncomputable def I49 : Info := { body := (Tryz.f49.body).getD .skip, nt := 152, results := [.cell 4 50, .tmp 5, .tmp 6], keep := [0, 2, 8, 10, 12, 14, 16, 18, 20, 22, 24, 34, 102, 130, 174, 206, 224, 262, 9], live := [(4, [0, 2, 8, 14, 9]), (8, [0, 2, 8, 14, 9])], modes := [(3, [(2, .take, false)]), (4, [(4, .take, false), (9, .take, false), (15, .take, false), (20, .take, false)]), (7, [(2, .take, false)]), (8, [(4, .take, false), (10, .take, false)]), (10, [(5, .take, false)]), (11, [(0, .take, false), (4, .take, false)])] }
theorem fk49 : FnOk Tryz.prog 49 Tryz.f49 I49 := ⟨Tryz.func49, by kernel_rfl, by kernel_rfl, by kernel_rfl, by kernel_rfl⟩
def S49_4 (x0 : Str) (x1 x7 : Int) (b4 : Tok) : St := [(0, .v false [.str x0]), (2, .v false [.int .i64 x1]), (8, .v false [.ptr 4 0]), (14, .v false [.int .i64 x7]), (9, .v true [.int .i64 (Tok.kind b4), .int .i64 (Tok.n b4), .int .i64 (Tok.pos b4), .str (Tok.text b4)])]
def S49_8 (x0 : Str) (x1 x7 : Int) (b4 : Tok) : St := [(0, .v false [.str x0]), (2, .v false [.int .i64 x1]), (8, .v false [.ptr 4 0]), (14, .v false [.int .i64 x7]), (9, .v true [.int .i64 (Tok.kind b4), .int .i64 (Tok.n b4), .int .i64 (Tok.pos b4), .str (Tok.text b4)])]
theorem p49_4_0 (x0 : Str) (x1 x7 : Int) (b4 : Tok) : rS 4 I49 (S49_4 x0 x1 x7 b4) [Y, Y, Y, Y] [] = st 4 I49 (S49_4 x0 x1 (W (x7 + 1)) b4) [(decide ((x7 : Int) < (Ln x0 : Int))) = true, (0 : Int) ≤ x7 ∧ x7 < (Ln x0), (decide ((((gD x0 (tN x7) 0).toNat : Int) : Int) ≥ 97)) = true, (0 : Int) ≤ x7 ∧ x7 < (Ln x0), (decide ((((gD x0 (tN x7) 0).toNat : Int) : Int) ≤ 122)) = true, true = true] := by kernel_rfl
theorem p49_4_1 (x0 : Str) (x1 x7 : Int) (b4 : Tok) : rS 4 I49 (S49_4 x0 x1 x7 b4) [Y, Y, F, Y, Y] [] = st 4 I49 (S49_4 x0 x1 (W (x7 + 1)) b4) [(decide ((x7 : Int) < (Ln x0 : Int))) = true, (0 : Int) ≤ x7 ∧ x7 < (Ln x0), (decide ((((gD x0 (tN x7) 0).toNat : Int) : Int) ≥ 97)) = true, (0 : Int) ≤ x7 ∧ x7 < (Ln x0), (decide ((((gD x0 (tN x7) 0).toNat : Int) : Int) ≤ 122)) = false, (0 : Int) ≤ x7 ∧ x7 < (Ln x0), (decide ((((gD x0 (tN x7) 0).toNat : Int) : Int) ≥ 48)) = true, (0 : Int) ≤ x7 ∧ x7 < (Ln x0), (decide ((((gD x0 (tN x7) 0).toNat : Int) : Int) ≤ 57)) = true] := by kernel_rfl
theorem p49_4_2 (x0 : Str) (x1 x7 : Int) (b4 : Tok) : rS 4 I49 (S49_4 x0 x1 x7 b4) [Y, Y, F, Y, F] [] = dn (xAu ((Tok.mk 1 0 x1 (List.drop (tN x1) (List.take (tN x7) x0))), x7, (decide (((W (x7 - x1)) : Int) ≤ 8)))) [(decide ((x7 : Int) < (Ln x0 : Int))) = true, (0 : Int) ≤ x7 ∧ x7 < (Ln x0), (decide ((((gD x0 (tN x7) 0).toNat : Int) : Int) ≥ 97)) = true, (0 : Int) ≤ x7 ∧ x7 < (Ln x0), (decide ((((gD x0 (tN x7) 0).toNat : Int) : Int) ≤ 122)) = false, (0 : Int) ≤ x7 ∧ x7 < (Ln x0), (decide ((((gD x0 (tN x7) 0).toNat : Int) : Int) ≥ 48)) = true, (0 : Int) ≤ x7 ∧ x7 < (Ln x0), (decide ((((gD x0 (tN x7) 0).toNat : Int) : Int) ≤ 57)) = false, (0 : Int) ≤ x1 ∧ x1 ≤ x7 ∧ x7 ≤ (Ln x0)] := by kernel_rfl
theorem p49_4_3 (x0 : Str) (x1 x7 : Int) (b4 : Tok) : rS 4 I49 (S49_4 x0 x1 x7 b4) [Y, Y, F, F, F] [] = dn (xAu ((Tok.mk 1 0 x1 (List.drop (tN x1) (List.take (tN x7) x0))), x7, (decide (((W (x7 - x1)) : Int) ≤ 8)))) [(decide ((x7 : Int) < (Ln x0 : Int))) = true, (0 : Int) ≤ x7 ∧ x7 < (Ln x0), (decide ((((gD x0 (tN x7) 0).toNat : Int) : Int) ≥ 97)) = true, (0 : Int) ≤ x7 ∧ x7 < (Ln x0), (decide ((((gD x0 (tN x7) 0).toNat : Int) : Int) ≤ 122)) = false, (0 : Int) ≤ x7 ∧ x7 < (Ln x0), (decide ((((gD x0 (tN x7) 0).toNat : Int) : Int) ≥ 48)) = false, false = false, (0 : Int) ≤ x1 ∧ x1 ≤ x7 ∧ x7 ≤ (Ln x0)] := by kernel_rfl
theorem p49_4_4 (x0 : Str) (x1 x7 : Int) (b4 : Tok) : rS 4 I49 (S49_4 x0 x1 x7 b4) [Y, F, F, Y, Y] [] = st 4 I49 (S49_4 x0 x1 (W (x7 + 1)) b4) [(decide ((x7 : Int) < (Ln x0 : Int))) = true, (0 : Int) ≤ x7 ∧ x7 < (Ln x0), (decide ((((gD x0 (tN x7) 0).toNat : Int) : Int) ≥ 97)) = false, false = false, (0 : Int) ≤ x7 ∧ x7 < (Ln x0), (decide ((((gD x0 (tN x7) 0).toNat : Int) : Int) ≥ 48)) = true, (0 : Int) ≤ x7 ∧ x7 < (Ln x0), (decide ((((gD x0 (tN x7) 0).toNat : Int) : Int) ≤ 57)) = true] := by kernel_rfl
theorem p49_4_5 (x0 : Str) (x1 x7 : Int) (b4 : Tok) : rS 4 I49 (S49_4 x0 x1 x7 b4) [Y, F, F, Y, F] [] = dn (xAu ((Tok.mk 1 0 x1 (List.drop (tN x1) (List.take (tN x7) x0))), x7, (decide (((W (x7 - x1)) : Int) ≤ 8)))) [(decide ((x7 : Int) < (Ln x0 : Int))) = true, (0 : Int) ≤ x7 ∧ x7 < (Ln x0), (decide ((((gD x0 (tN x7) 0).toNat : Int) : Int) ≥ 97)) = false, false = false, (0 : Int) ≤ x7 ∧ x7 < (Ln x0), (decide ((((gD x0 (tN x7) 0).toNat : Int) : Int) ≥ 48)) = true, (0 : Int) ≤ x7 ∧ x7 < (Ln x0), (decide ((((gD x0 (tN x7) 0).toNat : Int) : Int) ≤ 57)) = false, (0 : Int) ≤ x1 ∧ x1 ≤ x7 ∧ x7 ≤ (Ln x0)] := by kernel_rfl
theorem p49_4_6 (x0 : Str) (x1 x7 : Int) (b4 : Tok) : rS 4 I49 (S49_4 x0 x1 x7 b4) [Y, F, F, F, F] [] = dn (xAu ((Tok.mk 1 0 x1 (List.drop (tN x1) (List.take (tN x7) x0))), x7, (decide (((W (x7 - x1)) : Int) ≤ 8)))) [(decide ((x7 : Int) < (Ln x0 : Int))) = true, (0 : Int) ≤ x7 ∧ x7 < (Ln x0), (decide ((((gD x0 (tN x7) 0).toNat : Int) : Int) ≥ 97)) = false, false = false, (0 : Int) ≤ x7 ∧ x7 < (Ln x0), (decide ((((gD x0 (tN x7) 0).toNat : Int) : Int) ≥ 48)) = false, false = false, (0 : Int) ≤ x1 ∧ x1 ≤ x7 ∧ x7 ≤ (Ln x0)] := by kernel_rfl
theorem p49_4_7 (x0 : Str) (x1 x7 : Int) (b4 : Tok) : rS 4 I49 (S49_4 x0 x1 x7 b4) [F, F] [] = dn (xAu ((Tok.mk 1 0 x1 (List.drop (tN x1) (List.take (tN x7) x0))), x7, (decide (((W (x7 - x1)) : Int) ≤ 8)))) [(decide ((x7 : Int) < (Ln x0 : Int))) = false, false = false, (0 : Int) ≤ x1 ∧ x1 ≤ x7 ∧ x7 ≤ (Ln x0)] := by kernel_rfl
theorem p49_8_8 (x0 : Str) (x1 x7 : Int) (b4 : Tok) : rS 8 I49 (S49_8 x0 x1 x7 b4) [Y, Y, Y] [] = st 8 I49 (S49_8 x0 x1 (W (x7 + 1)) b4) [(decide ((x7 : Int) < (Ln x0 : Int))) = true, (0 : Int) ≤ x7 ∧ x7 < (Ln x0), (decide ((((gD x0 (tN x7) 0).toNat : Int) : Int) ≥ 48)) = true, (0 : Int) ≤ x7 ∧ x7 < (Ln x0), (decide ((((gD x0 (tN x7) 0).toNat : Int) : Int) ≤ 57)) = true] := by kernel_rfl
theorem p49_8_9 (x0 : Str) (x1 x7 : Int) (b4 : Tok) (r1 : Int × Bool) : rS 8 I49 (S49_8 x0 x1 x7 b4) [Y, Y, F] [xDW r1] = dn (xAu ((Tok.mk 2 r1.1 x1 []), x7, r1.2)) [(decide ((x7 : Int) < (Ln x0 : Int))) = true, (0 : Int) ≤ x7 ∧ x7 < (Ln x0), (decide ((((gD x0 (tN x7) 0).toNat : Int) : Int) ≥ 48)) = true, (0 : Int) ≤ x7 ∧ x7 < (Ln x0), (decide ((((gD x0 (tN x7) 0).toNat : Int) : Int) ≤ 57)) = false, (0 : Int) ≤ x1 ∧ x1 ≤ x7 ∧ x7 ≤ (Ln x0), AbC 89 (xE0 (List.drop (tN x1) (List.take (tN x7) x0)) 0 1000000000) (xDW r1)] := by kernel_rfl
theorem p49_8_10 (x0 : Str) (x1 x7 : Int) (b4 : Tok) (r1 : Int × Bool) : rS 8 I49 (S49_8 x0 x1 x7 b4) [Y, F, F] [xDW r1] = dn (xAu ((Tok.mk 2 r1.1 x1 []), x7, r1.2)) [(decide ((x7 : Int) < (Ln x0 : Int))) = true, (0 : Int) ≤ x7 ∧ x7 < (Ln x0), (decide ((((gD x0 (tN x7) 0).toNat : Int) : Int) ≥ 48)) = false, false = false, (0 : Int) ≤ x1 ∧ x1 ≤ x7 ∧ x7 ≤ (Ln x0), AbC 89 (xE0 (List.drop (tN x1) (List.take (tN x7) x0)) 0 1000000000) (xDW r1)] := by kernel_rfl
theorem p49_8_11 (x0 : Str) (x1 x7 : Int) (b4 : Tok) (r1 : Int × Bool) : rS 8 I49 (S49_8 x0 x1 x7 b4) [F, F, F] [xDW r1] = dn (xAu ((Tok.mk 2 r1.1 x1 []), x7, r1.2)) [(decide ((x7 : Int) < (Ln x0 : Int))) = false, false = false, false = false, (0 : Int) ≤ x1 ∧ x1 ≤ x7 ∧ x7 ≤ (Ln x0), AbC 89 (xE0 (List.drop (tN x1) (List.take (tN x7) x0)) 0 1000000000) (xDW r1)] := by kernel_rfl
theorem p49_e_12 (a0 : Str) (a1 : Int) : rE I49 (xAN a0 a1) [Y, Y] [] = st 4 I49 (S49_4 a0 a1 a1 (Tok.mk 0 0 0 [])) [(0 : Int) ≤ a1 ∧ a1 < (Ln a0), (decide ((((gD a0 (tN a1) 0).toNat : Int) : Int) ≥ 97)) = true, (decide ((((gD a0 (tN a1) 0).toNat : Int) : Int) ≤ 122)) = true] := by kernel_rfl
theorem p49_e_13 (a0 : Str) (a1 : Int) : rE I49 (xAN a0 a1) [Y, F, Y, Y] [] = st 8 I49 (S49_8 a0 a1 a1 (Tok.mk 0 0 0 [])) [(0 : Int) ≤ a1 ∧ a1 < (Ln a0), (decide ((((gD a0 (tN a1) 0).toNat : Int) : Int) ≥ 97)) = true, (decide ((((gD a0 (tN a1) 0).toNat : Int) : Int) ≤ 122)) = false, (decide ((((gD a0 (tN a1) 0).toNat : Int) : Int) ≥ 48)) = true, (decide ((((gD a0 (tN a1) 0).toNat : Int) : Int) ≤ 57)) = true] := by kernel_rfl
theorem p49_e_14 (a0 : Str) (a1 r1 : Int) : rE I49 (xAN a0 a1) [Y, F, Y, F, Y, Y] [xAs r1] = dn (xAu ((Tok.mk 0 0 0 []), 0, false)) [(0 : Int) ≤ a1 ∧ a1 < (Ln a0), (decide ((((gD a0 (tN a1) 0).toNat : Int) : Int) ≥ 97)) = true, (decide ((((gD a0 (tN a1) 0).toNat : Int) : Int) ≤ 122)) = false, (decide ((((gD a0 (tN a1) 0).toNat : Int) : Int) ≥ 48)) = true, (decide ((((gD a0 (tN a1) 0).toNat : Int) : Int) ≤ 57)) = false, ((((gD a0 (tN a1) 0).toNat : Int) : Int) == 34) = true, (0 : Int) ≤ (W (a1 + 1)) ∧ (W (a1 + 1)) ≤ (Ln a0), AbC 90 (xA6 (List.drop (tN (W (a1 + 1))) a0) 34) (xAs r1), (decide ((r1 : Int) < 0)) = true] := by kernel_rfl
theorem p49_e_15 (a0 : Str) (a1 r1 : Int) (r2 : Bool) : rE I49 (xAN a0 a1) [Y, F, Y, F, Y, F] [xAs r1, xAJ r2] = dn (xAu ((Tok.mk 3 0 a1 (List.drop (tN (W (a1 + 1))) (List.take (tN (W ((W (a1 + 1)) + r1))) a0))), (W ((W (a1 + r1)) + 2)), r2)) [(0 : Int) ≤ a1 ∧ a1 < (Ln a0), (decide ((((gD a0 (tN a1) 0).toNat : Int) : Int) ≥ 97)) = true, (decide ((((gD a0 (tN a1) 0).toNat : Int) : Int) ≤ 122)) = false, (decide ((((gD a0 (tN a1) 0).toNat : Int) : Int) ≥ 48)) = true, (decide ((((gD a0 (tN a1) 0).toNat : Int) : Int) ≤ 57)) = false, ((((gD a0 (tN a1) 0).toNat : Int) : Int) == 34) = true, (0 : Int) ≤ (W (a1 + 1)) ∧ (W (a1 + 1)) ≤ (Ln a0), AbC 90 (xA6 (List.drop (tN (W (a1 + 1))) a0) 34) (xAs r1), (decide ((r1 : Int) < 0)) = false, (0 : Int) ≤ (W (a1 + 1)) ∧ (W (a1 + 1)) ≤ (W ((W (a1 + 1)) + r1)) ∧ (W ((W (a1 + 1)) + r1)) ≤ (Ln a0), AbC 91 (xBX (List.drop (tN (W (a1 + 1))) (List.take (tN (W ((W (a1 + 1)) + r1))) a0))) (xAJ r2)] := by kernel_rfl
theorem p49_e_16 (a0 : Str) (a1 : Int) (r1 : Bool) : rE I49 (xAN a0 a1) [Y, F, Y, F, F, Y] [xAM r1] = dn (xAu ((Tok.mk 4 0 a1 [61, 61]), (W (a1 + 2)), true)) [(0 : Int) ≤ a1 ∧ a1 < (Ln a0), (decide ((((gD a0 (tN a1) 0).toNat : Int) : Int) ≥ 97)) = true, (decide ((((gD a0 (tN a1) 0).toNat : Int) : Int) ≤ 122)) = false, (decide ((((gD a0 (tN a1) 0).toNat : Int) : Int) ≥ 48)) = true, (decide ((((gD a0 (tN a1) 0).toNat : Int) : Int) ≤ 57)) = false, ((((gD a0 (tN a1) 0).toNat : Int) : Int) == 34) = false, (0 : Int) ≤ a1 ∧ a1 ≤ (Ln a0), AbC 92 (xBL (List.drop (tN a1) a0) [61, 61]) (xAM r1), r1 = true] := by kernel_rfl
theorem p49_e_17 (a0 : Str) (a1 : Int) (r1 : Bool) (r2 : Int) : rE I49 (xAN a0 a1) [Y, F, Y, F, F, F] [xAM r1, xAs r2] = dn (xAu ((Tok.mk 4 0 a1 (List.drop (tN a1) (List.take (tN (W (a1 + 1))) a0))), (W (a1 + 1)), (decide ((r2 : Int) ≥ 0)))) [(0 : Int) ≤ a1 ∧ a1 < (Ln a0), (decide ((((gD a0 (tN a1) 0).toNat : Int) : Int) ≥ 97)) = true, (decide ((((gD a0 (tN a1) 0).toNat : Int) : Int) ≤ 122)) = false, (decide ((((gD a0 (tN a1) 0).toNat : Int) : Int) ≥ 48)) = true, (decide ((((gD a0 (tN a1) 0).toNat : Int) : Int) ≤ 57)) = false, ((((gD a0 (tN a1) 0).toNat : Int) : Int) == 34) = false, (0 : Int) ≤ a1 ∧ a1 ≤ (Ln a0), AbC 92 (xBL (List.drop (tN a1) a0) [61, 61]) (xAM r1), r1 = false, (0 : Int) ≤ a1 ∧ a1 ≤ (W (a1 + 1)) ∧ (W (a1 + 1)) ≤ (Ln a0), AbC 90 (xA6 [40, 41, 91, 93, 44, 43, 45, 42, 60, 61] ((gD a0 (tN a1) 0).toNat : Int)) (xAs r2)] := by kernel_rfl
theorem p49_e_18 (a0 : Str) (a1 r1 : Int) : rE I49 (xAN a0 a1) [Y, F, F, F, Y, Y] [xAs r1] = dn (xAu ((Tok.mk 0 0 0 []), 0, false)) [(0 : Int) ≤ a1 ∧ a1 < (Ln a0), (decide ((((gD a0 (tN a1) 0).toNat : Int) : Int) ≥ 97)) = true, (decide ((((gD a0 (tN a1) 0).toNat : Int) : Int) ≤ 122)) = false, (decide ((((gD a0 (tN a1) 0).toNat : Int) : Int) ≥ 48)) = false, false = false, ((((gD a0 (tN a1) 0).toNat : Int) : Int) == 34) = true, (0 : Int) ≤ (W (a1 + 1)) ∧ (W (a1 + 1)) ≤ (Ln a0), AbC 90 (xA6 (List.drop (tN (W (a1 + 1))) a0) 34) (xAs r1), (decide ((r1 : Int) < 0)) = true] := by kernel_rfl
theorem p49_e_19 (a0 : Str) (a1 r1 : Int) (r2 : Bool) : rE I49 (xAN a0 a1) [Y, F, F, F, Y, F] [xAs r1, xAJ r2] = dn (xAu ((Tok.mk 3 0 a1 (List.drop (tN (W (a1 + 1))) (List.take (tN (W ((W (a1 + 1)) + r1))) a0))), (W ((W (a1 + r1)) + 2)), r2)) [(0 : Int) ≤ a1 ∧ a1 < (Ln a0), (decide ((((gD a0 (tN a1) 0).toNat : Int) : Int) ≥ 97)) = true, (decide ((((gD a0 (tN a1) 0).toNat : Int) : Int) ≤ 122)) = false, (decide ((((gD a0 (tN a1) 0).toNat : Int) : Int) ≥ 48)) = false, false = false, ((((gD a0 (tN a1) 0).toNat : Int) : Int) == 34) = true, (0 : Int) ≤ (W (a1 + 1)) ∧ (W (a1 + 1)) ≤ (Ln a0), AbC 90 (xA6 (List.drop (tN (W (a1 + 1))) a0) 34) (xAs r1), (decide ((r1 : Int) < 0)) = false, (0 : Int) ≤ (W (a1 + 1)) ∧ (W (a1 + 1)) ≤ (W ((W (a1 + 1)) + r1)) ∧ (W ((W (a1 + 1)) + r1)) ≤ (Ln a0), AbC 91 (xBX (List.drop (tN (W (a1 + 1))) (List.take (tN (W ((W (a1 + 1)) + r1))) a0))) (xAJ r2)] := by kernel_rfl
theorem p49_e_20 (a0 : Str) (a1 : Int) (r1 : Bool) : rE I49 (xAN a0 a1) [Y, F, F, F, F, Y] [xAM r1] = dn (xAu ((Tok.mk 4 0 a1 [61, 61]), (W (a1 + 2)), true)) [(0 : Int) ≤ a1 ∧ a1 < (Ln a0), (decide ((((gD a0 (tN a1) 0).toNat : Int) : Int) ≥ 97)) = true, (decide ((((gD a0 (tN a1) 0).toNat : Int) : Int) ≤ 122)) = false, (decide ((((gD a0 (tN a1) 0).toNat : Int) : Int) ≥ 48)) = false, false = false, ((((gD a0 (tN a1) 0).toNat : Int) : Int) == 34) = false, (0 : Int) ≤ a1 ∧ a1 ≤ (Ln a0), AbC 92 (xBL (List.drop (tN a1) a0) [61, 61]) (xAM r1), r1 = true] := by kernel_rfl
theorem p49_e_21 (a0 : Str) (a1 : Int) (r1 : Bool) (r2 : Int) : rE I49 (xAN a0 a1) [Y, F, F, F, F, F] [xAM r1, xAs r2] = dn (xAu ((Tok.mk 4 0 a1 (List.drop (tN a1) (List.take (tN (W (a1 + 1))) a0))), (W (a1 + 1)), (decide ((r2 : Int) ≥ 0)))) [(0 : Int) ≤ a1 ∧ a1 < (Ln a0), (decide ((((gD a0 (tN a1) 0).toNat : Int) : Int) ≥ 97)) = true, (decide ((((gD a0 (tN a1) 0).toNat : Int) : Int) ≤ 122)) = false, (decide ((((gD a0 (tN a1) 0).toNat : Int) : Int) ≥ 48)) = false, false = false, ((((gD a0 (tN a1) 0).toNat : Int) : Int) == 34) = false, (0 : Int) ≤ a1 ∧ a1 ≤ (Ln a0), AbC 92 (xBL (List.drop (tN a1) a0) [61, 61]) (xAM r1), r1 = false, (0 : Int) ≤ a1 ∧ a1 ≤ (W (a1 + 1)) ∧ (W (a1 + 1)) ≤ (Ln a0), AbC 90 (xA6 [40, 41, 91, 93, 44, 43, 45, 42, 60, 61] ((gD a0 (tN a1) 0).toNat : Int)) (xAs r2)] := by kernel_rfl
theorem p49_e_22 (a0 : Str) (a1 : Int) : rE I49 (xAN a0 a1) [F, F, Y, Y] [] = st 8 I49 (S49_8 a0 a1 a1 (Tok.mk 0 0 0 [])) [(0 : Int) ≤ a1 ∧ a1 < (Ln a0), (decide ((((gD a0 (tN a1) 0).toNat : Int) : Int) ≥ 97)) = false, false = false, (decide ((((gD a0 (tN a1) 0).toNat : Int) : Int) ≥ 48)) = true, (decide ((((gD a0 (tN a1) 0).toNat : Int) : Int) ≤ 57)) = true] := by kernel_rfl
theorem p49_e_23 (a0 : Str) (a1 r1 : Int) : rE I49 (xAN a0 a1) [F, F, Y, F, Y, Y] [xAs r1] = dn (xAu ((Tok.mk 0 0 0 []), 0, false)) [(0 : Int) ≤ a1 ∧ a1 < (Ln a0), (decide ((((gD a0 (tN a1) 0).toNat : Int) : Int) ≥ 97)) = false, false = false, (decide ((((gD a0 (tN a1) 0).toNat : Int) : Int) ≥ 48)) = true, (decide ((((gD a0 (tN a1) 0).toNat : Int) : Int) ≤ 57)) = false, ((((gD a0 (tN a1) 0).toNat : Int) : Int) == 34) = true, (0 : Int) ≤ (W (a1 + 1)) ∧ (W (a1 + 1)) ≤ (Ln a0), AbC 90 (xA6 (List.drop (tN (W (a1 + 1))) a0) 34) (xAs r1), (decide ((r1 : Int) < 0)) = true] := by kernel_rfl
theorem p49_e_24 (a0 : Str) (a1 r1 : Int) (r2 : Bool) : rE I49 (xAN a0 a1) [F, F, Y, F, Y, F] [xAs r1, xAJ r2] = dn (xAu ((Tok.mk 3 0 a1 (List.drop (tN (W (a1 + 1))) (List.take (tN (W ((W (a1 + 1)) + r1))) a0))), (W ((W (a1 + r1)) + 2)), r2)) [(0 : Int) ≤ a1 ∧ a1 < (Ln a0), (decide ((((gD a0 (tN a1) 0).toNat : Int) : Int) ≥ 97)) = false, false = false, (decide ((((gD a0 (tN a1) 0).toNat : Int) : Int) ≥ 48)) = true, (decide ((((gD a0 (tN a1) 0).toNat : Int) : Int) ≤ 57)) = false, ((((gD a0 (tN a1) 0).toNat : Int) : Int) == 34) = true, (0 : Int) ≤ (W (a1 + 1)) ∧ (W (a1 + 1)) ≤ (Ln a0), AbC 90 (xA6 (List.drop (tN (W (a1 + 1))) a0) 34) (xAs r1), (decide ((r1 : Int) < 0)) = false, (0 : Int) ≤ (W (a1 + 1)) ∧ (W (a1 + 1)) ≤ (W ((W (a1 + 1)) + r1)) ∧ (W ((W (a1 + 1)) + r1)) ≤ (Ln a0), AbC 91 (xBX (List.drop (tN (W (a1 + 1))) (List.take (tN (W ((W (a1 + 1)) + r1))) a0))) (xAJ r2)] := by kernel_rfl
theorem p49_e_25 (a0 : Str) (a1 : Int) (r1 : Bool) : rE I49 (xAN a0 a1) [F, F, Y, F, F, Y] [xAM r1] = dn (xAu ((Tok.mk 4 0 a1 [61, 61]), (W (a1 + 2)), true)) [(0 : Int) ≤ a1 ∧ a1 < (Ln a0), (decide ((((gD a0 (tN a1) 0).toNat : Int) : Int) ≥ 97)) = false, false = false, (decide ((((gD a0 (tN a1) 0).toNat : Int) : Int) ≥ 48)) = true, (decide ((((gD a0 (tN a1) 0).toNat : Int) : Int) ≤ 57)) = false, ((((gD a0 (tN a1) 0).toNat : Int) : Int) == 34) = false, (0 : Int) ≤ a1 ∧ a1 ≤ (Ln a0), AbC 92 (xBL (List.drop (tN a1) a0) [61, 61]) (xAM r1), r1 = true] := by kernel_rfl
theorem p49_e_26 (a0 : Str) (a1 : Int) (r1 : Bool) (r2 : Int) : rE I49 (xAN a0 a1) [F, F, Y, F, F, F] [xAM r1, xAs r2] = dn (xAu ((Tok.mk 4 0 a1 (List.drop (tN a1) (List.take (tN (W (a1 + 1))) a0))), (W (a1 + 1)), (decide ((r2 : Int) ≥ 0)))) [(0 : Int) ≤ a1 ∧ a1 < (Ln a0), (decide ((((gD a0 (tN a1) 0).toNat : Int) : Int) ≥ 97)) = false, false = false, (decide ((((gD a0 (tN a1) 0).toNat : Int) : Int) ≥ 48)) = true, (decide ((((gD a0 (tN a1) 0).toNat : Int) : Int) ≤ 57)) = false, ((((gD a0 (tN a1) 0).toNat : Int) : Int) == 34) = false, (0 : Int) ≤ a1 ∧ a1 ≤ (Ln a0), AbC 92 (xBL (List.drop (tN a1) a0) [61, 61]) (xAM r1), r1 = false, (0 : Int) ≤ a1 ∧ a1 ≤ (W (a1 + 1)) ∧ (W (a1 + 1)) ≤ (Ln a0), AbC 90 (xA6 [40, 41, 91, 93, 44, 43, 45, 42, 60, 61] ((gD a0 (tN a1) 0).toNat : Int)) (xAs r2)] := by kernel_rfl
theorem p49_e_27 (a0 : Str) (a1 r1 : Int) : rE I49 (xAN a0 a1) [F, F, F, F, Y, Y] [xAs r1] = dn (xAu ((Tok.mk 0 0 0 []), 0, false)) [(0 : Int) ≤ a1 ∧ a1 < (Ln a0), (decide ((((gD a0 (tN a1) 0).toNat : Int) : Int) ≥ 97)) = false, false = false, (decide ((((gD a0 (tN a1) 0).toNat : Int) : Int) ≥ 48)) = false, false = false, ((((gD a0 (tN a1) 0).toNat : Int) : Int) == 34) = true, (0 : Int) ≤ (W (a1 + 1)) ∧ (W (a1 + 1)) ≤ (Ln a0), AbC 90 (xA6 (List.drop (tN (W (a1 + 1))) a0) 34) (xAs r1), (decide ((r1 : Int) < 0)) = true] := by kernel_rfl
theorem p49_e_28 (a0 : Str) (a1 r1 : Int) (r2 : Bool) : rE I49 (xAN a0 a1) [F, F, F, F, Y, F] [xAs r1, xAJ r2] = dn (xAu ((Tok.mk 3 0 a1 (List.drop (tN (W (a1 + 1))) (List.take (tN (W ((W (a1 + 1)) + r1))) a0))), (W ((W (a1 + r1)) + 2)), r2)) [(0 : Int) ≤ a1 ∧ a1 < (Ln a0), (decide ((((gD a0 (tN a1) 0).toNat : Int) : Int) ≥ 97)) = false, false = false, (decide ((((gD a0 (tN a1) 0).toNat : Int) : Int) ≥ 48)) = false, false = false, ((((gD a0 (tN a1) 0).toNat : Int) : Int) == 34) = true, (0 : Int) ≤ (W (a1 + 1)) ∧ (W (a1 + 1)) ≤ (Ln a0), AbC 90 (xA6 (List.drop (tN (W (a1 + 1))) a0) 34) (xAs r1), (decide ((r1 : Int) < 0)) = false, (0 : Int) ≤ (W (a1 + 1)) ∧ (W (a1 + 1)) ≤ (W ((W (a1 + 1)) + r1)) ∧ (W ((W (a1 + 1)) + r1)) ≤ (Ln a0), AbC 91 (xBX (List.drop (tN (W (a1 + 1))) (List.take (tN (W ((W (a1 + 1)) + r1))) a0))) (xAJ r2)] := by kernel_rfl
theorem p49_e_29 (a0 : Str) (a1 : Int) (r1 : Bool) : rE I49 (xAN a0 a1) [F, F, F, F, F, Y] [xAM r1] = dn (xAu ((Tok.mk 4 0 a1 [61, 61]), (W (a1 + 2)), true)) [(0 : Int) ≤ a1 ∧ a1 < (Ln a0), (decide ((((gD a0 (tN a1) 0).toNat : Int) : Int) ≥ 97)) = false, false = false, (decide ((((gD a0 (tN a1) 0).toNat : Int) : Int) ≥ 48)) = false, false = false, ((((gD a0 (tN a1) 0).toNat : Int) : Int) == 34) = false, (0 : Int) ≤ a1 ∧ a1 ≤ (Ln a0), AbC 92 (xBL (List.drop (tN a1) a0) [61, 61]) (xAM r1), r1 = true] := by kernel_rfl
theorem p49_e_30 (a0 : Str) (a1 : Int) (r1 : Bool) (r2 : Int) : rE I49 (xAN a0 a1) [F, F, F, F, F, F] [xAM r1, xAs r2] = dn (xAu ((Tok.mk 4 0 a1 (List.drop (tN a1) (List.take (tN (W (a1 + 1))) a0))), (W (a1 + 1)), (decide ((r2 : Int) ≥ 0)))) [(0 : Int) ≤ a1 ∧ a1 < (Ln a0), (decide ((((gD a0 (tN a1) 0).toNat : Int) : Int) ≥ 97)) = false, false = false, (decide ((((gD a0 (tN a1) 0).toNat : Int) : Int) ≥ 48)) = false, false = false, ((((gD a0 (tN a1) 0).toNat : Int) : Int) == 34) = false, (0 : Int) ≤ a1 ∧ a1 ≤ (Ln a0), AbC 92 (xBL (List.drop (tN a1) a0) [61, 61]) (xAM r1), r1 = false, (0 : Int) ≤ a1 ∧ a1 ≤ (W (a1 + 1)) ∧ (W (a1 + 1)) ≤ (Ln a0), AbC 90 (xA6 [40, 41, 91, 93, 44, 43, 45, 42, 60, 61] ((gD a0 (tN a1) 0).toNat : Int)) (xAs r2)] := by kernel_rfl
theorem c49_4 {N : Nat} : ∀ n x0 x1 x7 b4 r, xCg N n x0 x1 x7 b4 = some r → RS Tryz.f49 I49 4 (S49_4 x0 x1 x7 b4) (xAu r) := by
 intro n
 induction n with
 | zero => exact fun _ _ _ _ _ h => nE h
 | succ n ih =>
  exact fun x0 x1 x7 b4 r h =>
   cE h (fun h0 h => iE h fun h1 h => cE h (fun h2 h => cE h (fun h4 h => tS fk49 (p49_4_0 x0 x1 x7 b4) (oc h0 (oc h1 (oc h2 (oc h1 (oc h4 (oc rfl on)))))) (ih _ _ _ _ _ h)) fun h4 h =>
   cE h (fun h6 h => cE h (fun h8 h => tS fk49 (p49_4_1 x0 x1 x7 b4) (oc h0 (oc h1 (oc h2 (oc h1 (oc h4 (oc h1 (oc h6 (oc h1 (oc h8 on))))))))) (ih _ _ _ _ _ h)) fun h8 h =>
   iE h fun h9 h => dS h fk49 (p49_4_2 x0 x1 x7 b4) (oc h0 (oc h1 (oc h2 (oc h1 (oc h4 (oc h1 (oc h6 (oc h1 (oc h8 (oc h9 on))))))))))) fun h6 h =>
   iE h fun h8 h => dS h fk49 (p49_4_3 x0 x1 x7 b4) (oc h0 (oc h1 (oc h2 (oc h1 (oc h4 (oc h1 (oc h6 (oc rfl (oc h8 on)))))))))) fun h2 h =>
   cE h (fun h5 h => cE h (fun h7 h => tS fk49 (p49_4_4 x0 x1 x7 b4) (oc h0 (oc h1 (oc h2 (oc rfl (oc h1 (oc h5 (oc h1 (oc h7 on)))))))) (ih _ _ _ _ _ h)) fun h7 h =>
   iE h fun h8 h => dS h fk49 (p49_4_5 x0 x1 x7 b4) (oc h0 (oc h1 (oc h2 (oc rfl (oc h1 (oc h5 (oc h1 (oc h7 (oc h8 on)))))))))) fun h5 h =>
   iE h fun h7 h => dS h fk49 (p49_4_6 x0 x1 x7 b4) (oc h0 (oc h1 (oc h2 (oc rfl (oc h1 (oc h5 (oc rfl (oc h7 on))))))))) fun h0 h =>
   iE h fun h2 h => dS h fk49 (p49_4_7 x0 x1 x7 b4) (oc h0 (oc rfl (oc h2 on)))
theorem c49_8 {N : Nat} : ∀ n x0 x1 x7 b4 r, xCy N n x0 x1 x7 b4 = some r → RS Tryz.f49 I49 8 (S49_8 x0 x1 x7 b4) (xAu r) := by
 intro n
 induction n with
 | zero => exact fun _ _ _ _ _ h => nE h
 | succ n ih =>
  exact fun x0 x1 x7 b4 r h =>
   cE h (fun h0 h => iE h fun h1 h => cE h (fun h2 h => cE h (fun h4 h => tS fk49 (p49_8_8 x0 x1 x7 b4) (oc h0 (oc h1 (oc h2 (oc h1 (oc h4 on))))) (ih _ _ _ _ _ h)) fun h4 h =>
   iE h fun h5 h => bE h fun r1 h6 h => dS h fk49 (p49_8_9 x0 x1 x7 b4 r1) (oc h0 (oc h1 (oc h2 (oc h1 (oc h4 (oc h5 (oc (xFO h6) on)))))))) fun h2 h =>
   iE h fun h4 h => bE h fun r1 h5 h => dS h fk49 (p49_8_10 x0 x1 x7 b4 r1) (oc h0 (oc h1 (oc h2 (oc rfl (oc h4 (oc (xFO h5) on))))))) fun h0 h =>
   iE h fun h3 h => bE h fun r1 h4 h => dS h fk49 (p49_8_11 x0 x1 x7 b4 r1) (oc h0 (oc rfl (oc rfl (oc h3 (oc (xFO h4) on)))))
theorem c49_e {N : Nat} : ∀ a0 a1 r, xET N a0 a1 = some r → RE Tryz.f49 I49 (xAN a0 a1) (xAu r) := fun a0 a1 r h =>
 iE h fun h0 h => cE h (fun h1 h => cE h (fun h2 h => tE fk49 (p49_e_12 a0 a1) (oc h0 (oc h1 (oc h2 on))) (c49_4 _ _ _ _ _ _ h)) fun h2 h =>
 cE h (fun h3 h => cE h (fun h4 h => tE fk49 (p49_e_13 a0 a1) (oc h0 (oc h1 (oc h2 (oc h3 (oc h4 on))))) (c49_8 _ _ _ _ _ _ h)) fun h4 h =>
 cE h (fun h5 h => iE h fun h6 h => bE h fun r1 h7 h => cE h (fun h8 h => dE h fk49 (p49_e_14 a0 a1 r1) (oc h0 (oc h1 (oc h2 (oc h3 (oc h4 (oc h5 (oc h6 (oc (xBe h7) (oc h8 on)))))))))) fun h8 h =>
 iE h fun h9 h => bE h fun r2 h10 h => dE h fk49 (p49_e_15 a0 a1 r1 r2) (oc h0 (oc h1 (oc h2 (oc h3 (oc h4 (oc h5 (oc h6 (oc (xBe h7) (oc h8 (oc h9 (oc (xC3 h10) on)))))))))))) fun h5 h =>
 iE h fun h6 h => bE h fun r1 h7 h => cE h (fun h8 h => dE h fk49 (p49_e_16 a0 a1 r1) (oc h0 (oc h1 (oc h2 (oc h3 (oc h4 (oc h5 (oc h6 (oc (xB7 h7) (oc h8 on)))))))))) fun h8 h =>
 iE h fun h9 h => bE h fun r2 h10 h => dE h fk49 (p49_e_17 a0 a1 r1 r2) (oc h0 (oc h1 (oc h2 (oc h3 (oc h4 (oc h5 (oc h6 (oc (xB7 h7) (oc h8 (oc h9 (oc (xBe h10) on)))))))))))) fun h3 h =>
 cE h (fun h5 h => iE h fun h6 h => bE h fun r1 h7 h => cE h (fun h8 h => dE h fk49 (p49_e_18 a0 a1 r1) (oc h0 (oc h1 (oc h2 (oc h3 (oc rfl (oc h5 (oc h6 (oc (xBe h7) (oc h8 on)))))))))) fun h8 h =>
 iE h fun h9 h => bE h fun r2 h10 h => dE h fk49 (p49_e_19 a0 a1 r1 r2) (oc h0 (oc h1 (oc h2 (oc h3 (oc rfl (oc h5 (oc h6 (oc (xBe h7) (oc h8 (oc h9 (oc (xC3 h10) on)))))))))))) fun h5 h =>
 iE h fun h6 h => bE h fun r1 h7 h => cE h (fun h8 h => dE h fk49 (p49_e_20 a0 a1 r1) (oc h0 (oc h1 (oc h2 (oc h3 (oc rfl (oc h5 (oc h6 (oc (xB7 h7) (oc h8 on)))))))))) fun h8 h =>
 iE h fun h9 h => bE h fun r2 h10 h => dE h fk49 (p49_e_21 a0 a1 r1 r2) (oc h0 (oc h1 (oc h2 (oc h3 (oc rfl (oc h5 (oc h6 (oc (xB7 h7) (oc h8 (oc h9 (oc (xBe h10) on)))))))))))) fun h1 h =>
 cE h (fun h3 h => cE h (fun h4 h => tE fk49 (p49_e_22 a0 a1) (oc h0 (oc h1 (oc rfl (oc h3 (oc h4 on))))) (c49_8 _ _ _ _ _ _ h)) fun h4 h =>
 cE h (fun h5 h => iE h fun h6 h => bE h fun r1 h7 h => cE h (fun h8 h => dE h fk49 (p49_e_23 a0 a1 r1) (oc h0 (oc h1 (oc rfl (oc h3 (oc h4 (oc h5 (oc h6 (oc (xBe h7) (oc h8 on)))))))))) fun h8 h =>
 iE h fun h9 h => bE h fun r2 h10 h => dE h fk49 (p49_e_24 a0 a1 r1 r2) (oc h0 (oc h1 (oc rfl (oc h3 (oc h4 (oc h5 (oc h6 (oc (xBe h7) (oc h8 (oc h9 (oc (xC3 h10) on)))))))))))) fun h5 h =>
 iE h fun h6 h => bE h fun r1 h7 h => cE h (fun h8 h => dE h fk49 (p49_e_25 a0 a1 r1) (oc h0 (oc h1 (oc rfl (oc h3 (oc h4 (oc h5 (oc h6 (oc (xB7 h7) (oc h8 on)))))))))) fun h8 h =>
 iE h fun h9 h => bE h fun r2 h10 h => dE h fk49 (p49_e_26 a0 a1 r1 r2) (oc h0 (oc h1 (oc rfl (oc h3 (oc h4 (oc h5 (oc h6 (oc (xB7 h7) (oc h8 (oc h9 (oc (xBe h10) on)))))))))))) fun h3 h =>
 cE h (fun h5 h => iE h fun h6 h => bE h fun r1 h7 h => cE h (fun h8 h => dE h fk49 (p49_e_27 a0 a1 r1) (oc h0 (oc h1 (oc rfl (oc h3 (oc rfl (oc h5 (oc h6 (oc (xBe h7) (oc h8 on)))))))))) fun h8 h =>
 iE h fun h9 h => bE h fun r2 h10 h => dE h fk49 (p49_e_28 a0 a1 r1 r2) (oc h0 (oc h1 (oc rfl (oc h3 (oc rfl (oc h5 (oc h6 (oc (xBe h7) (oc h8 (oc h9 (oc (xC3 h10) on)))))))))))) fun h5 h =>
 iE h fun h6 h => bE h fun r1 h7 h => cE h (fun h8 h => dE h fk49 (p49_e_29 a0 a1 r1) (oc h0 (oc h1 (oc rfl (oc h3 (oc rfl (oc h5 (oc h6 (oc (xB7 h7) (oc h8 on)))))))))) fun h8 h =>
 iE h fun h9 h => bE h fun r2 h10 h => dE h fk49 (p49_e_30 a0 a1 r1 r2) (oc h0 (oc h1 (oc rfl (oc h3 (oc rfl (oc h5 (oc h6 (oc (xB7 h7) (oc h8 (oc h9 (oc (xBe h10) on)))))))))))
theorem xFc {N : Nat} {a0 : Str} {a1 : Int} {r : Tok × Int × Bool} (h : xET N  a0 a1 = some r) : AbC 49 (xAN a0 a1) (xAu r) :=
 AbsCalls.of_reach fk49 rfl rfl (Nat.le_of_ble_eq_true rfl) (c49_e a0 a1 r h)
noncomputable def I30 : Info := { body := (Tryz.f30.body).getD .skip, nt := 44, results := [.tmp 2, .tmp 3], keep := [0, 4, 6, 8, 10, 12, 14, 16, 22, 32, 40, 72, 13], live := [(5, [0, 8, 10])], modes := [(8, [(3, .take, false)]), (9, [(0, .take, false), (2, .take, false)]), (11, [(0, .take, false)]), (12, [(0, .take, false)]), (13, [(0, .take, false)])] }
theorem fk30 : FnOk Tryz.prog 30 Tryz.f30 I30 := ⟨Tryz.func30, by kernel_rfl, by kernel_rfl, by kernel_rfl, by kernel_rfl⟩
def S30_5 (x0 : Str) (x4 : List Tok) (x5 : Int) : St := [(0, .v false [.str x0]), (8, .v false [.sl .own .tok x4]), (10, .v false [.int .i64 x5])]
theorem p30_5_0 (x0 : Str) (x4 : List Tok) (x5 : Int) : rS 5 I30 (S30_5 x0 x4 x5) [Y, Y] [] = st 5 I30 (S30_5 x0 x4 (W (x5 + 1))) [(decide ((x5 : Int) < (Ln x0 : Int))) = true, (0 : Int) ≤ x5 ∧ x5 < (Ln x0), ((((gD x0 (tN x5) 0).toNat : Int) : Int) == 32) = true] := by kernel_rfl
theorem p30_5_1 (x0 : Str) (x4 : List Tok) (x5 : Int) (r1 : Tok × Int × Bool) : rS 5 I30 (S30_5 x0 x4 x5) [Y, F, Y, Y] [xAu r1] = dn (xAr ([], x5)) [(decide ((x5 : Int) < (Ln x0 : Int))) = true, (0 : Int) ≤ x5 ∧ x5 < (Ln x0), ((((gD x0 (tN x5) 0).toNat : Int) : Int) == 32) = false, AbC 49 (xAN x0 x5) (xAu r1), (!r1.2.2) = true, true = true] := by kernel_rfl
theorem p30_5_2 (x0 : Str) (x4 : List Tok) (x5 : Int) (r1 : Tok × Int × Bool) : rS 5 I30 (S30_5 x0 x4 x5) [Y, F, F, Y] [xAu r1] = dn (xAr ([], x5)) [(decide ((x5 : Int) < (Ln x0 : Int))) = true, (0 : Int) ≤ x5 ∧ x5 < (Ln x0), ((((gD x0 (tN x5) 0).toNat : Int) : Int) == 32) = false, AbC 49 (xAN x0 x5) (xAu r1), (!r1.2.2) = false, (((Ln x4 : Int) : Int) == 60) = true] := by kernel_rfl
theorem p30_5_3 (x0 : Str) (x4 : List Tok) (x5 : Int) (r1 : Tok × Int × Bool) : rS 5 I30 (S30_5 x0 x4 x5) [Y, F, F, F] [xAu r1] = st 5 I30 (S30_5 x0 (x4 ++ [r1.1]) r1.2.1) [(decide ((x5 : Int) < (Ln x0 : Int))) = true, (0 : Int) ≤ x5 ∧ x5 < (Ln x0), ((((gD x0 (tN x5) 0).toNat : Int) : Int) == 32) = false, AbC 49 (xAN x0 x5) (xAu r1), (!r1.2.2) = false, (((Ln x4 : Int) : Int) == 60) = false, Ln x4 + Ln [r1.1] ≤ Lim] := by kernel_rfl
theorem p30_5_4 (x0 : Str) (x4 : List Tok) (x5 : Int) : rS 5 I30 (S30_5 x0 x4 x5) [F] [] = dn (xAr (x4, (-1))) [(decide ((x5 : Int) < (Ln x0 : Int))) = false] := by kernel_rfl
theorem p30_e_5 (a0 : Str) : rE I30 (xA7 a0) [Y] [] = dn (xAr ([], 120)) [(decide (((Ln a0 : Int) : Int) > 120)) = true] := by kernel_rfl
theorem p30_e_6 (a0 : Str) : rE I30 (xA7 a0) [F] [] = st 5 I30 (S30_5 a0 [] 0) [(decide (((Ln a0 : Int) : Int) > 120)) = false] := by kernel_rfl
theorem c30_5 {N : Nat} : ∀ n x0 x4 x5 r, xDm N n x0 x4 x5 = some r → RS Tryz.f30 I30 5 (S30_5 x0 x4 x5) (xAr r) := by
 intro n
 induction n with
 | zero => exact fun _ _ _ _ h => nE h
 | succ n ih =>
  exact fun x0 x4 x5 r h =>
   cE h (fun h0 h => iE h fun h1 h => cE h (fun h2 h => tS fk30 (p30_5_0 x0 x4 x5) (oc h0 (oc h1 (oc h2 on))) (ih _ _ _ _ h)) fun h2 h =>
   bE h fun r1 h3 h => cE h (fun h4 h => dS h fk30 (p30_5_1 x0 x4 x5 r1) (oc h0 (oc h1 (oc h2 (oc (xFc h3) (oc h4 (oc rfl on))))))) fun h4 h =>
   cE h (fun h5 h => dS h fk30 (p30_5_2 x0 x4 x5 r1) (oc h0 (oc h1 (oc h2 (oc (xFc h3) (oc h4 (oc h5 on))))))) fun h5 h =>
   iE h fun h6 h => tS fk30 (p30_5_3 x0 x4 x5 r1) (oc h0 (oc h1 (oc h2 (oc (xFc h3) (oc h4 (oc h5 (oc h6 on))))))) (ih _ _ _ _ h)) fun h0 h =>
   dS h fk30 (p30_5_4 x0 x4 x5) (oc h0 on)
theorem c30_e {N : Nat} : ∀ a0 r, xEh N a0 = some r → RE Tryz.f30 I30 (xA7 a0) (xAr r) := fun a0 r h =>
 cE h (fun h0 h => dE h fk30 (p30_e_5 a0) (oc h0 on)) fun h0 h =>
 tE fk30 (p30_e_6 a0) (oc h0 on) (c30_5 _ _ _ _ _ h)
theorem xBA {N : Nat} {a0 : Str} {r : (List Tok) × Int} (h : xEh N  a0 = some r) : AbC 30 (xA7 a0) (xAr r) :=
 AbsCalls.of_reach fk30 rfl rfl (Nat.le_of_ble_eq_true rfl) (c30_e a0 r h)
noncomputable def I51 : Info := { body := (Tryz.f51.body).getD .skip, nt := 31, results := [.cell 2 50], keep := [0, 4, 38, 1, 5], live := [], modes := [(1, [(5, .take, false)])], ext := [0] }
theorem fk51 : FnOk Tryz.prog 51 Tryz.f51 I51 := ⟨Tryz.func51, by kernel_rfl, by kernel_rfl, by kernel_rfl, by kernel_rfl⟩
theorem p51_e_0 (a0 : Psr) : rE I51 (xAi a0) [Y, Y] [] = dn (xAc ((gD (Psr.list a0) (tN (Psr.pos a0)) Ty.tok.dflt), a0)) [(decide (((Psr.bad a0) : Int) < 0)) = true, (decide (((Psr.pos a0) : Int) < (Ln (Psr.list a0) : Int))) = true, (0 : Int) ≤ (Psr.pos a0) ∧ (Psr.pos a0) < (Ln (Psr.list a0))] := by kernel_rfl
theorem p51_e_1 (a0 : Psr) : rE I51 (xAi a0) [Y, F] [] = dn (xAc ((Tok.mk 0 0 0 []), a0)) [(decide (((Psr.bad a0) : Int) < 0)) = true, (decide (((Psr.pos a0) : Int) < (Ln (Psr.list a0) : Int))) = false] := by kernel_rfl
theorem p51_e_2 (a0 : Psr) : rE I51 (xAi a0) [F, F] [] = dn (xAc ((Tok.mk 0 0 0 []), a0)) [(decide (((Psr.bad a0) : Int) < 0)) = false, false = false] := by kernel_rfl
theorem c51_e {N : Nat} : ∀ a0 r, xBr N a0 = some r → RE Tryz.f51 I51 (xAi a0) (xAc r) := fun a0 r h =>
 cE h (fun h0 h => cE h (fun h1 h => iE h fun h2 h => dE h fk51 (p51_e_0 a0) (oc h0 (oc h1 (oc h2 on)))) fun h1 h =>
 dE h fk51 (p51_e_1 a0) (oc h0 (oc h1 on))) fun h0 h =>
 dE h fk51 (p51_e_2 a0) (oc h0 (oc rfl on))
theorem xAp {N : Nat} {a0 : Psr} {r : Tok × Psr} (h : xBr N  a0 = some r) : AbC 51 (xAi a0) (xAc r) :=
 AbsCalls.of_reach fk51 rfl rfl (Nat.le_of_ble_eq_true rfl) (c51_e a0 r h)
noncomputable def I50 : Info := { body := (Tryz.f50.body).getD .skip, nt := 14, results := [.tmp 4], keep := [0, 2, 4, 8, 5], live := [], modes := [(1, [(3, .take, false)])] }
theorem fk50 : FnOk Tryz.prog 50 Tryz.f50 I50 := ⟨Tryz.func50, by kernel_rfl, by kernel_rfl, by kernel_rfl, by kernel_rfl⟩
theorem p50_e_0 (a0 : Tok) (a1 : Str) : rE I50 (xA3 a0 a1) [Y] [] = dn (xAy (((Tok.text a0) : Str) == a1)) [(((Tok.kind a0) : Int) == 1) = true] := by kernel_rfl
theorem p50_e_1 (a0 : Tok) (a1 : Str) : rE I50 (xA3 a0 a1) [F] [] = dn (xAy false) [(((Tok.kind a0) : Int) == 1) = false] := by kernel_rfl
theorem c50_e {N : Nat} : ∀ a0 a1 r, xDq N a0 a1 = some r → RE Tryz.f50 I50 (xA3 a0 a1) (xAy r) := fun a0 a1 r h =>
 cE h (fun h0 h => dE h fk50 (p50_e_0 a0 a1) (oc h0 on)) fun h0 h =>
 dE h fk50 (p50_e_1 a0 a1) (oc h0 on)
theorem xBy {N : Nat} {a0 : Tok} {a1 : Str} {r : Bool} (h : xDq N  a0 a1 = some r) : AbC 50 (xA3 a0 a1) (xAy r) :=
 AbsCalls.of_reach fk50 rfl rfl (Nat.le_of_ble_eq_true rfl) (c50_e a0 a1 r h)
noncomputable def I97 : Info := { body := (Tryz.f97.body).getD .skip, nt := 15, results := [.tmp 6], keep := [0, 2, 4, 12], live := [], modes := [(1, [(3, .take, false)])] }
theorem fk97 : FnOk Tryz.prog 97 Tryz.f97 I97 := ⟨Tryz.func97, by kernel_rfl, by kernel_rfl, by kernel_rfl, by kernel_rfl⟩
theorem p97_e_0 (a0 a1 a2 : Int) : rE I97 (xB2 a0 a1 a2) [Y] [] = dn (xAY (decide ((a0 : Int) ≤ a2))) [(decide ((a1 : Int) ≤ a0)) = true] := by kernel_rfl
theorem p97_e_1 (a0 a1 a2 : Int) : rE I97 (xB2 a0 a1 a2) [F] [] = dn (xAY false) [(decide ((a1 : Int) ≤ a0)) = false] := by kernel_rfl
theorem c97_e {N : Nat} : ∀ a0 a1 a2 r, xD8 N a0 a1 a2 = some r → RE Tryz.f97 I97 (xB2 a0 a1 a2) (xAY r) := fun a0 a1 a2 r h =>
 cE h (fun h0 h => dE h fk97 (p97_e_0 a0 a1 a2) (oc h0 on)) fun h0 h =>
 dE h fk97 (p97_e_1 a0 a1 a2) (oc h0 on)
theorem xDa {N : Nat} {a0 : Int} {a1 : Int} {a2 : Int} {r : Bool} (h : xD8 N  a0 a1 a2 = some r) : AbC 97 (xB2 a0 a1 a2) (xAY r) :=
 AbsCalls.of_reach fk97 rfl rfl (Nat.le_of_ble_eq_true rfl) (c97_e a0 a1 a2 r h)
noncomputable def I114 : Info := { body := (Tryz.f114.body).getD .skip, nt := 42, results := [.tmp 2], keep := [0, 4, 6, 8, 16, 76], live := [(2, [0, 6])], modes := [(4, [(4, .take, false)]), (5, [(0, .take, false), (2, .take, false), (5, .take, false), (11, .take, false)])] }
theorem fk114 : FnOk Tryz.prog 114 Tryz.f114 I114 := ⟨Tryz.func114, by kernel_rfl, by kernel_rfl, by kernel_rfl, by kernel_rfl⟩
def xE7 (x0 : Str) (x3 : Int) : St := [(0, .v false [.str x0]), (6, .v false [.int .i64 x3])]
theorem p114_2_0 (x0 : Str) (x3 : Int) : rS 2 I114 (xE7 x0 x3) [Y, Y, Y, Y, Y, Y] [] = dn (xBT false) [(decide ((x3 : Int) < (Ln x0 : Int))) = true, (0 : Int) ≤ x3 ∧ x3 < (Ln x0), (decide ((((gD x0 (tN x3) 0).toNat : Int) : Int) ≥ 97)) = true, (0 : Int) ≤ x3 ∧ x3 < (Ln x0), (!(decide ((((gD x0 (tN x3) 0).toNat : Int) : Int) ≤ 122))) = true, ((x3 : Int) == 0) = true, true = true, true = true] := by kernel_rfl
theorem p114_2_1 (x0 : Str) (x3 : Int) : rS 2 I114 (xE7 x0 x3) [Y, Y, Y, F, Y, Y] [] = dn (xBT false) [(decide ((x3 : Int) < (Ln x0 : Int))) = true, (0 : Int) ≤ x3 ∧ x3 < (Ln x0), (decide ((((gD x0 (tN x3) 0).toNat : Int) : Int) ≥ 97)) = true, (0 : Int) ≤ x3 ∧ x3 < (Ln x0), (!(decide ((((gD x0 (tN x3) 0).toNat : Int) : Int) ≤ 122))) = true, ((x3 : Int) == 0) = false, (0 : Int) ≤ x3 ∧ x3 < (Ln x0), (decide ((((gD x0 (tN x3) 0).toNat : Int) : Int) < 48)) = true, true = true] := by kernel_rfl
theorem p114_2_2 (x0 : Str) (x3 : Int) : rS 2 I114 (xE7 x0 x3) [Y, Y, Y, F, F, Y] [] = dn (xBT false) [(decide ((x3 : Int) < (Ln x0 : Int))) = true, (0 : Int) ≤ x3 ∧ x3 < (Ln x0), (decide ((((gD x0 (tN x3) 0).toNat : Int) : Int) ≥ 97)) = true, (0 : Int) ≤ x3 ∧ x3 < (Ln x0), (!(decide ((((gD x0 (tN x3) 0).toNat : Int) : Int) ≤ 122))) = true, ((x3 : Int) == 0) = false, (0 : Int) ≤ x3 ∧ x3 < (Ln x0), (decide ((((gD x0 (tN x3) 0).toNat : Int) : Int) < 48)) = false, (0 : Int) ≤ x3 ∧ x3 < (Ln x0), (decide ((((gD x0 (tN x3) 0).toNat : Int) : Int) > 57)) = true] := by kernel_rfl
theorem p114_2_3 (x0 : Str) (x3 : Int) : rS 2 I114 (xE7 x0 x3) [Y, Y, Y, F, F, F] [] = st 2 I114 (xE7 x0 (W (x3 + 1))) [(decide ((x3 : Int) < (Ln x0 : Int))) = true, (0 : Int) ≤ x3 ∧ x3 < (Ln x0), (decide ((((gD x0 (tN x3) 0).toNat : Int) : Int) ≥ 97)) = true, (0 : Int) ≤ x3 ∧ x3 < (Ln x0), (!(decide ((((gD x0 (tN x3) 0).toNat : Int) : Int) ≤ 122))) = true, ((x3 : Int) == 0) = false, (0 : Int) ≤ x3 ∧ x3 < (Ln x0), (decide ((((gD x0 (tN x3) 0).toNat : Int) : Int) < 48)) = false, (0 : Int) ≤ x3 ∧ x3 < (Ln x0), (decide ((((gD x0 (tN x3) 0).toNat : Int) : Int) > 57)) = false] := by kernel_rfl
theorem p114_2_4 (x0 : Str) (x3 : Int) : rS 2 I114 (xE7 x0 x3) [Y, Y, F, F] [] = st 2 I114 (xE7 x0 (W (x3 + 1))) [(decide ((x3 : Int) < (Ln x0 : Int))) = true, (0 : Int) ≤ x3 ∧ x3 < (Ln x0), (decide ((((gD x0 (tN x3) 0).toNat : Int) : Int) ≥ 97)) = true, (0 : Int) ≤ x3 ∧ x3 < (Ln x0), (!(decide ((((gD x0 (tN x3) 0).toNat : Int) : Int) ≤ 122))) = false, false = false] := by kernel_rfl
theorem p114_2_5 (x0 : Str) (x3 : Int) : rS 2 I114 (xE7 x0 x3) [Y, F, Y, Y, Y, Y] [] = dn (xBT false) [(decide ((x3 : Int) < (Ln x0 : Int))) = true, (0 : Int) ≤ x3 ∧ x3 < (Ln x0), (decide ((((gD x0 (tN x3) 0).toNat : Int) : Int) ≥ 97)) = false, (!false) = true, ((x3 : Int) == 0) = true, true = true, true = true] := by kernel_rfl
theorem p114_2_6 (x0 : Str) (x3 : Int) : rS 2 I114 (xE7 x0 x3) [Y, F, Y, F, Y, Y] [] = dn (xBT false) [(decide ((x3 : Int) < (Ln x0 : Int))) = true, (0 : Int) ≤ x3 ∧ x3 < (Ln x0), (decide ((((gD x0 (tN x3) 0).toNat : Int) : Int) ≥ 97)) = false, (!false) = true, ((x3 : Int) == 0) = false, (0 : Int) ≤ x3 ∧ x3 < (Ln x0), (decide ((((gD x0 (tN x3) 0).toNat : Int) : Int) < 48)) = true, true = true] := by kernel_rfl
theorem p114_2_7 (x0 : Str) (x3 : Int) : rS 2 I114 (xE7 x0 x3) [Y, F, Y, F, F, Y] [] = dn (xBT false) [(decide ((x3 : Int) < (Ln x0 : Int))) = true, (0 : Int) ≤ x3 ∧ x3 < (Ln x0), (decide ((((gD x0 (tN x3) 0).toNat : Int) : Int) ≥ 97)) = false, (!false) = true, ((x3 : Int) == 0) = false, (0 : Int) ≤ x3 ∧ x3 < (Ln x0), (decide ((((gD x0 (tN x3) 0).toNat : Int) : Int) < 48)) = false, (0 : Int) ≤ x3 ∧ x3 < (Ln x0), (decide ((((gD x0 (tN x3) 0).toNat : Int) : Int) > 57)) = true] := by kernel_rfl
theorem p114_2_8 (x0 : Str) (x3 : Int) : rS 2 I114 (xE7 x0 x3) [Y, F, Y, F, F, F] [] = st 2 I114 (xE7 x0 (W (x3 + 1))) [(decide ((x3 : Int) < (Ln x0 : Int))) = true, (0 : Int) ≤ x3 ∧ x3 < (Ln x0), (decide ((((gD x0 (tN x3) 0).toNat : Int) : Int) ≥ 97)) = false, (!false) = true, ((x3 : Int) == 0) = false, (0 : Int) ≤ x3 ∧ x3 < (Ln x0), (decide ((((gD x0 (tN x3) 0).toNat : Int) : Int) < 48)) = false, (0 : Int) ≤ x3 ∧ x3 < (Ln x0), (decide ((((gD x0 (tN x3) 0).toNat : Int) : Int) > 57)) = false] := by kernel_rfl
theorem p114_2_9 (x0 : Str) (x3 : Int) (r1 : Bool) : rS 2 I114 (xE7 x0 x3) [F] [xAY r1] = dn (xBT r1) [(decide ((x3 : Int) < (Ln x0 : Int))) = false, AbC 97 (xB2 (Ln x0 : Int) 1 8) (xAY r1)] := by kernel_rfl
theorem p114_e_10 (a0 : Str) : rE I114 (xEn a0) [] [] = st 2 I114 (xE7 a0 0) [] := by kernel_rfl
theorem c114_2 {N : Nat} : ∀ n x0 x3 r, xC9 N n x0 x3 = some r → RS Tryz.f114 I114 2 (xE7 x0 x3) (xBT r) := by
 intro n
 induction n with
 | zero => exact fun _ _ _ h => nE h
 | succ n ih =>
  exact fun x0 x3 r h =>
   cE h (fun h0 h => iE h fun h1 h => cE h (fun h2 h => cE h (fun h4 h => cE h (fun h5 h => dS h fk114 (p114_2_0 x0 x3) (oc h0 (oc h1 (oc h2 (oc h1 (oc h4 (oc h5 (oc rfl (oc rfl on))))))))) fun h5 h =>
   cE h (fun h7 h => dS h fk114 (p114_2_1 x0 x3) (oc h0 (oc h1 (oc h2 (oc h1 (oc h4 (oc h5 (oc h1 (oc h7 (oc rfl on)))))))))) fun h7 h =>
   cE h (fun h9 h => dS h fk114 (p114_2_2 x0 x3) (oc h0 (oc h1 (oc h2 (oc h1 (oc h4 (oc h5 (oc h1 (oc h7 (oc h1 (oc h9 on))))))))))) fun h9 h =>
   tS fk114 (p114_2_3 x0 x3) (oc h0 (oc h1 (oc h2 (oc h1 (oc h4 (oc h5 (oc h1 (oc h7 (oc h1 (oc h9 on)))))))))) (ih _ _ _ h)) fun h4 h =>
   tS fk114 (p114_2_4 x0 x3) (oc h0 (oc h1 (oc h2 (oc h1 (oc h4 (oc rfl on)))))) (ih _ _ _ h)) fun h2 h =>
   cE h (fun h4 h => dS h fk114 (p114_2_5 x0 x3) (oc h0 (oc h1 (oc h2 (oc rfl (oc h4 (oc rfl (oc rfl on)))))))) fun h4 h =>
   cE h (fun h6 h => dS h fk114 (p114_2_6 x0 x3) (oc h0 (oc h1 (oc h2 (oc rfl (oc h4 (oc h1 (oc h6 (oc rfl on))))))))) fun h6 h =>
   cE h (fun h8 h => dS h fk114 (p114_2_7 x0 x3) (oc h0 (oc h1 (oc h2 (oc rfl (oc h4 (oc h1 (oc h6 (oc h1 (oc h8 on)))))))))) fun h8 h =>
   tS fk114 (p114_2_8 x0 x3) (oc h0 (oc h1 (oc h2 (oc rfl (oc h4 (oc h1 (oc h6 (oc h1 (oc h8 on))))))))) (ih _ _ _ h)) fun h0 h =>
   bE h fun r1 h1 h => dS h fk114 (p114_2_9 x0 x3 r1) (oc h0 (oc (xDa h1) on))
theorem c114_e {N : Nat} : ∀ a0 r, xFN N a0 = some r → RE Tryz.f114 I114 (xEn a0) (xBT r) := fun a0 r h =>
 tE fk114 (p114_e_10 a0) on (c114_2 _ _ _ _ h)
theorem xGg {N : Nat} {a0 : Str} {r : Bool} (h : xFN N  a0 = some r) : AbC 114 (xEn a0) (xBT r) :=
 AbsCalls.of_reach fk114 rfl rfl (Nat.le_of_ble_eq_true rfl) (c114_e a0 r h)
end Go.Ab.T
end
section
open Go.Proofs
namespace Go.Ab.T
set_option linter.unusedVariables false
set_option maxRecDepth 100000
variable [Inhabited Lb]
variable [Nonempty Tab10]
variable [Nonempty ErrVars]
noncomputable def I117 : Info := { body := (Tryz.f117.body).getD .skip, nt := 26, results := [.tmp 2], keep := [0, 4, 6, 8, 12, 24, 40, 48], live := [], modes := [] }
theorem xFL : FnOk Tryz.prog 117 Tryz.f117 I117 := ⟨Tryz.func117, by kernel_rfl, by kernel_rfl, by kernel_rfl, by kernel_rfl⟩
theorem p117_e_0 (a0 : Str) : rE I117 (xAo a0) [Y] [] = dn (xAg 0) [((a0 : Str) == [99, 108, 111, 99, 107]) = true] := by kernel_rfl
theorem p117_e_1 (a0 : Str) : rE I117 (xAo a0) [F, Y, Y] [] = dn (xAg 1) [((a0 : Str) == [99, 108, 111, 99, 107]) = false, ((a0 : Str) == [108, 101, 110]) = true, ((a0 : Str) == [108, 101, 110]) = true] := by kernel_rfl
theorem p117_e_2 (a0 : Str) : rE I117 (xAo a0) [F, F, Y, Y] [] = dn (xAg 1) [((a0 : Str) == [99, 108, 111, 99, 107]) = false, ((a0 : Str) == [108, 101, 110]) = false, ((a0 : Str) == [115, 117, 109]) = true, ((a0 : Str) == [115, 117, 109]) = true] := by kernel_rfl
theorem p117_e_3 (a0 : Str) : rE I117 (xAo a0) [F, F, F, Y, Y] [] = dn (xAg 1) [((a0 : Str) == [99, 108, 111, 99, 107]) = false, ((a0 : Str) == [108, 101, 110]) = false, ((a0 : Str) == [115, 117, 109]) = false, ((a0 : Str) == [114, 111, 119, 115]) = true, ((a0 : Str) == [114, 111, 119, 115]) = true] := by kernel_rfl
theorem p117_e_4 (a0 : Str) : rE I117 (xAo a0) [F, F, F, F, Y, Y] [] = dn (xAg 1) [((a0 : Str) == [99, 108, 111, 99, 107]) = false, ((a0 : Str) == [108, 101, 110]) = false, ((a0 : Str) == [115, 117, 109]) = false, ((a0 : Str) == [114, 111, 119, 115]) = false, ((a0 : Str) == [99, 104, 97, 110, 99, 101]) = true, ((a0 : Str) == [99, 104, 97, 110, 99, 101]) = true] := by kernel_rfl
theorem p117_e_5 (a0 : Str) : rE I117 (xAo a0) [F, F, F, F, F, Y] [] = dn (xAg 1) [((a0 : Str) == [99, 108, 111, 99, 107]) = false, ((a0 : Str) == [108, 101, 110]) = false, ((a0 : Str) == [115, 117, 109]) = false, ((a0 : Str) == [114, 111, 119, 115]) = false, ((a0 : Str) == [99, 104, 97, 110, 99, 101]) = false, ((a0 : Str) == [102, 105, 108, 101]) = true] := by kernel_rfl
theorem p117_e_6 (a0 : Str) : rE I117 (xAo a0) [F, F, F, F, F, F, Y, Y] [] = dn (xAg 2) [((a0 : Str) == [99, 108, 111, 99, 107]) = false, ((a0 : Str) == [108, 101, 110]) = false, ((a0 : Str) == [115, 117, 109]) = false, ((a0 : Str) == [114, 111, 119, 115]) = false, ((a0 : Str) == [99, 104, 97, 110, 99, 101]) = false, ((a0 : Str) == [102, 105, 108, 101]) = false, ((a0 : Str) == [116, 97, 107, 101]) = true, ((a0 : Str) == [116, 97, 107, 101]) = true] := by kernel_rfl
theorem p117_e_7 (a0 : Str) : rE I117 (xAo a0) [F, F, F, F, F, F, F, Y, Y] [] = dn (xAg 2) [((a0 : Str) == [99, 108, 111, 99, 107]) = false, ((a0 : Str) == [108, 101, 110]) = false, ((a0 : Str) == [115, 117, 109]) = false, ((a0 : Str) == [114, 111, 119, 115]) = false, ((a0 : Str) == [99, 104, 97, 110, 99, 101]) = false, ((a0 : Str) == [102, 105, 108, 101]) = false, ((a0 : Str) == [116, 97, 107, 101]) = false, ((a0 : Str) == [115, 107, 105, 112]) = true, ((a0 : Str) == [115, 107, 105, 112]) = true] := by kernel_rfl
theorem p117_e_8 (a0 : Str) : rE I117 (xAo a0) [F, F, F, F, F, F, F, F, Y, Y] [] = dn (xAg 2) [((a0 : Str) == [99, 108, 111, 99, 107]) = false, ((a0 : Str) == [108, 101, 110]) = false, ((a0 : Str) == [115, 117, 109]) = false, ((a0 : Str) == [114, 111, 119, 115]) = false, ((a0 : Str) == [99, 104, 97, 110, 99, 101]) = false, ((a0 : Str) == [102, 105, 108, 101]) = false, ((a0 : Str) == [116, 97, 107, 101]) = false, ((a0 : Str) == [115, 107, 105, 112]) = false, ((a0 : Str) == [114, 97, 110, 103, 101]) = true, ((a0 : Str) == [114, 97, 110, 103, 101]) = true] := by kernel_rfl
theorem p117_e_9 (a0 : Str) : rE I117 (xAo a0) [F, F, F, F, F, F, F, F, F, Y, Y] [] = dn (xAg 2) [((a0 : Str) == [99, 108, 111, 99, 107]) = false, ((a0 : Str) == [108, 101, 110]) = false, ((a0 : Str) == [115, 117, 109]) = false, ((a0 : Str) == [114, 111, 119, 115]) = false, ((a0 : Str) == [99, 104, 97, 110, 99, 101]) = false, ((a0 : Str) == [102, 105, 108, 101]) = false, ((a0 : Str) == [116, 97, 107, 101]) = false, ((a0 : Str) == [115, 107, 105, 112]) = false, ((a0 : Str) == [114, 97, 110, 103, 101]) = false, ((a0 : Str) == [110, 116, 104]) = true, ((a0 : Str) == [110, 116, 104]) = true] := by kernel_rfl
theorem p117_e_10 (a0 : Str) : rE I117 (xAo a0) [F, F, F, F, F, F, F, F, F, F, Y, Y] [] = dn (xAg 2) [((a0 : Str) == [99, 108, 111, 99, 107]) = false, ((a0 : Str) == [108, 101, 110]) = false, ((a0 : Str) == [115, 117, 109]) = false, ((a0 : Str) == [114, 111, 119, 115]) = false, ((a0 : Str) == [99, 104, 97, 110, 99, 101]) = false, ((a0 : Str) == [102, 105, 108, 101]) = false, ((a0 : Str) == [116, 97, 107, 101]) = false, ((a0 : Str) == [115, 107, 105, 112]) = false, ((a0 : Str) == [114, 97, 110, 103, 101]) = false, ((a0 : Str) == [110, 116, 104]) = false, ((a0 : Str) == [107, 101, 101, 112]) = true, ((a0 : Str) == [107, 101, 101, 112]) = true] := by kernel_rfl
theorem p117_e_11 (a0 : Str) : rE I117 (xAo a0) [F, F, F, F, F, F, F, F, F, F, F, Y, Y] [] = dn (xAg 2) [((a0 : Str) == [99, 108, 111, 99, 107]) = false, ((a0 : Str) == [108, 101, 110]) = false, ((a0 : Str) == [115, 117, 109]) = false, ((a0 : Str) == [114, 111, 119, 115]) = false, ((a0 : Str) == [99, 104, 97, 110, 99, 101]) = false, ((a0 : Str) == [102, 105, 108, 101]) = false, ((a0 : Str) == [116, 97, 107, 101]) = false, ((a0 : Str) == [115, 107, 105, 112]) = false, ((a0 : Str) == [114, 97, 110, 103, 101]) = false, ((a0 : Str) == [110, 116, 104]) = false, ((a0 : Str) == [107, 101, 101, 112]) = false, ((a0 : Str) == [99, 111, 108, 117, 109, 110]) = true, ((a0 : Str) == [99, 111, 108, 117, 109, 110]) = true] := by kernel_rfl
theorem p117_e_12 (a0 : Str) : rE I117 (xAo a0) [F, F, F, F, F, F, F, F, F, F, F, F, Y] [] = dn (xAg 2) [((a0 : Str) == [99, 108, 111, 99, 107]) = false, ((a0 : Str) == [108, 101, 110]) = false, ((a0 : Str) == [115, 117, 109]) = false, ((a0 : Str) == [114, 111, 119, 115]) = false, ((a0 : Str) == [99, 104, 97, 110, 99, 101]) = false, ((a0 : Str) == [102, 105, 108, 101]) = false, ((a0 : Str) == [116, 97, 107, 101]) = false, ((a0 : Str) == [115, 107, 105, 112]) = false, ((a0 : Str) == [114, 97, 110, 103, 101]) = false, ((a0 : Str) == [110, 116, 104]) = false, ((a0 : Str) == [107, 101, 101, 112]) = false, ((a0 : Str) == [99, 111, 108, 117, 109, 110]) = false, ((a0 : Str) == [116, 97, 98, 108, 101]) = true] := by kernel_rfl
theorem p117_e_13 (a0 : Str) : rE I117 (xAo a0) [F, F, F, F, F, F, F, F, F, F, F, F, F, Y, Y] [] = dn (xAg 3) [((a0 : Str) == [99, 108, 111, 99, 107]) = false, ((a0 : Str) == [108, 101, 110]) = false, ((a0 : Str) == [115, 117, 109]) = false, ((a0 : Str) == [114, 111, 119, 115]) = false, ((a0 : Str) == [99, 104, 97, 110, 99, 101]) = false, ((a0 : Str) == [102, 105, 108, 101]) = false, ((a0 : Str) == [116, 97, 107, 101]) = false, ((a0 : Str) == [115, 107, 105, 112]) = false, ((a0 : Str) == [114, 97, 110, 103, 101]) = false, ((a0 : Str) == [110, 116, 104]) = false, ((a0 : Str) == [107, 101, 101, 112]) = false, ((a0 : Str) == [99, 111, 108, 117, 109, 110]) = false, ((a0 : Str) == [116, 97, 98, 108, 101]) = false, ((a0 : Str) == [119, 104, 101, 114, 101]) = true, ((a0 : Str) == [119, 104, 101, 114, 101]) = true] := by kernel_rfl
theorem p117_e_14 (a0 : Str) : rE I117 (xAo a0) [F, F, F, F, F, F, F, F, F, F, F, F, F, F, Y, Y] [] = dn (xAg 3) [((a0 : Str) == [99, 108, 111, 99, 107]) = false, ((a0 : Str) == [108, 101, 110]) = false, ((a0 : Str) == [115, 117, 109]) = false, ((a0 : Str) == [114, 111, 119, 115]) = false, ((a0 : Str) == [99, 104, 97, 110, 99, 101]) = false, ((a0 : Str) == [102, 105, 108, 101]) = false, ((a0 : Str) == [116, 97, 107, 101]) = false, ((a0 : Str) == [115, 107, 105, 112]) = false, ((a0 : Str) == [114, 97, 110, 103, 101]) = false, ((a0 : Str) == [110, 116, 104]) = false, ((a0 : Str) == [107, 101, 101, 112]) = false, ((a0 : Str) == [99, 111, 108, 117, 109, 110]) = false, ((a0 : Str) == [116, 97, 98, 108, 101]) = false, ((a0 : Str) == [119, 104, 101, 114, 101]) = false, ((a0 : Str) == [103, 114, 111, 117, 112]) = true, ((a0 : Str) == [103, 114, 111, 117, 112]) = true] := by kernel_rfl
theorem p117_e_15 (a0 : Str) : rE I117 (xAo a0) [F, F, F, F, F, F, F, F, F, F, F, F, F, F, F, Y] [] = dn (xAg 3) [((a0 : Str) == [99, 108, 111, 99, 107]) = false, ((a0 : Str) == [108, 101, 110]) = false, ((a0 : Str) == [115, 117, 109]) = false, ((a0 : Str) == [114, 111, 119, 115]) = false, ((a0 : Str) == [99, 104, 97, 110, 99, 101]) = false, ((a0 : Str) == [102, 105, 108, 101]) = false, ((a0 : Str) == [116, 97, 107, 101]) = false, ((a0 : Str) == [115, 107, 105, 112]) = false, ((a0 : Str) == [114, 97, 110, 103, 101]) = false, ((a0 : Str) == [110, 116, 104]) = false, ((a0 : Str) == [107, 101, 101, 112]) = false, ((a0 : Str) == [99, 111, 108, 117, 109, 110]) = false, ((a0 : Str) == [116, 97, 98, 108, 101]) = false, ((a0 : Str) == [119, 104, 101, 114, 101]) = false, ((a0 : Str) == [103, 114, 111, 117, 112]) = false, ((a0 : Str) == [106, 111, 105, 110]) = true] := by kernel_rfl
theorem p117_e_16 (a0 : Str) : rE I117 (xAo a0) [F, F, F, F, F, F, F, F, F, F, F, F, F, F, F, F, Y] [] = dn (xAg 4) [((a0 : Str) == [99, 108, 111, 99, 107]) = false, ((a0 : Str) == [108, 101, 110]) = false, ((a0 : Str) == [115, 117, 109]) = false, ((a0 : Str) == [114, 111, 119, 115]) = false, ((a0 : Str) == [99, 104, 97, 110, 99, 101]) = false, ((a0 : Str) == [102, 105, 108, 101]) = false, ((a0 : Str) == [116, 97, 107, 101]) = false, ((a0 : Str) == [115, 107, 105, 112]) = false, ((a0 : Str) == [114, 97, 110, 103, 101]) = false, ((a0 : Str) == [110, 116, 104]) = false, ((a0 : Str) == [107, 101, 101, 112]) = false, ((a0 : Str) == [99, 111, 108, 117, 109, 110]) = false, ((a0 : Str) == [116, 97, 98, 108, 101]) = false, ((a0 : Str) == [119, 104, 101, 114, 101]) = false, ((a0 : Str) == [103, 114, 111, 117, 112]) = false, ((a0 : Str) == [106, 111, 105, 110]) = false, ((a0 : Str) == [97, 100, 100]) = true] := by kernel_rfl
theorem p117_e_17 (a0 : Str) : rE I117 (xAo a0) [F, F, F, F, F, F, F, F, F, F, F, F, F, F, F, F, F] [] = dn (xAg (-1)) [((a0 : Str) == [99, 108, 111, 99, 107]) = false, ((a0 : Str) == [108, 101, 110]) = false, ((a0 : Str) == [115, 117, 109]) = false, ((a0 : Str) == [114, 111, 119, 115]) = false, ((a0 : Str) == [99, 104, 97, 110, 99, 101]) = false, ((a0 : Str) == [102, 105, 108, 101]) = false, ((a0 : Str) == [116, 97, 107, 101]) = false, ((a0 : Str) == [115, 107, 105, 112]) = false, ((a0 : Str) == [114, 97, 110, 103, 101]) = false, ((a0 : Str) == [110, 116, 104]) = false, ((a0 : Str) == [107, 101, 101, 112]) = false, ((a0 : Str) == [99, 111, 108, 117, 109, 110]) = false, ((a0 : Str) == [116, 97, 98, 108, 101]) = false, ((a0 : Str) == [119, 104, 101, 114, 101]) = false, ((a0 : Str) == [103, 114, 111, 117, 112]) = false, ((a0 : Str) == [106, 111, 105, 110]) = false, ((a0 : Str) == [97, 100, 100]) = false] := by kernel_rfl
theorem c117_e {N : Nat} : ∀ a0 r, xCu N a0 = some r → RE Tryz.f117 I117 (xAo a0) (xAg r) := fun a0 r h =>
 cE h (fun h0 h => dE h xFL (p117_e_0 a0) (oc h0 on)) fun h0 h =>
 cE h (fun h1 h => dE h xFL (p117_e_1 a0) (oc h0 (oc h1 (oc h1 on)))) fun h1 h =>
 cE h (fun h2 h => dE h xFL (p117_e_2 a0) (oc h0 (oc h1 (oc h2 (oc h2 on))))) fun h2 h =>
 cE h (fun h3 h => dE h xFL (p117_e_3 a0) (oc h0 (oc h1 (oc h2 (oc h3 (oc h3 on)))))) fun h3 h =>
 cE h (fun h4 h => dE h xFL (p117_e_4 a0) (oc h0 (oc h1 (oc h2 (oc h3 (oc h4 (oc h4 on))))))) fun h4 h =>
 cE h (fun h5 h => dE h xFL (p117_e_5 a0) (oc h0 (oc h1 (oc h2 (oc h3 (oc h4 (oc h5 on))))))) fun h5 h =>
 cE h (fun h6 h => dE h xFL (p117_e_6 a0) (oc h0 (oc h1 (oc h2 (oc h3 (oc h4 (oc h5 (oc h6 (oc h6 on))))))))) fun h6 h =>
 cE h (fun h7 h => dE h xFL (p117_e_7 a0) (oc h0 (oc h1 (oc h2 (oc h3 (oc h4 (oc h5 (oc h6 (oc h7 (oc h7 on)))))))))) fun h7 h =>
 cE h (fun h8 h => dE h xFL (p117_e_8 a0) (oc h0 (oc h1 (oc h2 (oc h3 (oc h4 (oc h5 (oc h6 (oc h7 (oc h8 (oc h8 on))))))))))) fun h8 h =>
 cE h (fun h9 h => dE h xFL (p117_e_9 a0) (oc h0 (oc h1 (oc h2 (oc h3 (oc h4 (oc h5 (oc h6 (oc h7 (oc h8 (oc h9 (oc h9 on)))))))))))) fun h9 h =>
 cE h (fun h10 h => dE h xFL (p117_e_10 a0) (oc h0 (oc h1 (oc h2 (oc h3 (oc h4 (oc h5 (oc h6 (oc h7 (oc h8 (oc h9 (oc h10 (oc h10 on))))))))))))) fun h10 h =>
 cE h (fun h11 h => dE h xFL (p117_e_11 a0) (oc h0 (oc h1 (oc h2 (oc h3 (oc h4 (oc h5 (oc h6 (oc h7 (oc h8 (oc h9 (oc h10 (oc h11 (oc h11 on)))))))))))))) fun h11 h =>
 cE h (fun h12 h => dE h xFL (p117_e_12 a0) (oc h0 (oc h1 (oc h2 (oc h3 (oc h4 (oc h5 (oc h6 (oc h7 (oc h8 (oc h9 (oc h10 (oc h11 (oc h12 on)))))))))))))) fun h12 h =>
 cE h (fun h13 h => dE h xFL (p117_e_13 a0) (oc h0 (oc h1 (oc h2 (oc h3 (oc h4 (oc h5 (oc h6 (oc h7 (oc h8 (oc h9 (oc h10 (oc h11 (oc h12 (oc h13 (oc h13 on)))))))))))))))) fun h13 h =>
 cE h (fun h14 h => dE h xFL (p117_e_14 a0) (oc h0 (oc h1 (oc h2 (oc h3 (oc h4 (oc h5 (oc h6 (oc h7 (oc h8 (oc h9 (oc h10 (oc h11 (oc h12 (oc h13 (oc h14 (oc h14 on))))))))))))))))) fun h14 h =>
 cE h (fun h15 h => dE h xFL (p117_e_15 a0) (oc h0 (oc h1 (oc h2 (oc h3 (oc h4 (oc h5 (oc h6 (oc h7 (oc h8 (oc h9 (oc h10 (oc h11 (oc h12 (oc h13 (oc h14 (oc h15 on))))))))))))))))) fun h15 h =>
 cE h (fun h16 h => dE h xFL (p117_e_16 a0) (oc h0 (oc h1 (oc h2 (oc h3 (oc h4 (oc h5 (oc h6 (oc h7 (oc h8 (oc h9 (oc h10 (oc h11 (oc h12 (oc h13 (oc h14 (oc h15 (oc h16 on)))))))))))))))))) fun h16 h =>
 dE h xFL (p117_e_17 a0) (oc h0 (oc h1 (oc h2 (oc h3 (oc h4 (oc h5 (oc h6 (oc h7 (oc h8 (oc h9 (oc h10 (oc h11 (oc h12 (oc h13 (oc h14 (oc h15 (oc h16 on)))))))))))))))))
theorem xCK {N : Nat} {a0 : Str} {r : Int} (h : xCu N  a0 = some r) : AbC 117 (xAo a0) (xAg r) :=
 AbsCalls.of_reach xFL rfl rfl (Nat.le_of_ble_eq_true rfl) (c117_e a0 r h)
noncomputable def I115 : Info := { body := (Tryz.f115.body).getD .skip, nt := 15, results := [.tmp 2], keep := [0, 4, 6, 8], live := [], modes := [] }
theorem fk115 : FnOk Tryz.prog 115 Tryz.f115 I115 := ⟨Tryz.func115, by kernel_rfl, by kernel_rfl, by kernel_rfl, by kernel_rfl⟩
theorem p115_e_0 (a0 : Str) : rE I115 (xBD a0) [Y, Y] [] = dn (xBq true) [((a0 : Str) == [108, 101, 116]) = true, ((a0 : Str) == [108, 101, 116]) = true] := by kernel_rfl
theorem p115_e_1 (a0 : Str) : rE I115 (xBD a0) [F, Y, Y] [] = dn (xBq true) [((a0 : Str) == [108, 101, 116]) = false, ((a0 : Str) == [105, 110]) = true, ((a0 : Str) == [105, 110]) = true] := by kernel_rfl
theorem p115_e_2 (a0 : Str) : rE I115 (xBD a0) [F, F, Y, Y] [] = dn (xBq true) [((a0 : Str) == [108, 101, 116]) = false, ((a0 : Str) == [105, 110]) = false, ((a0 : Str) == [105, 102]) = true, ((a0 : Str) == [105, 102]) = true] := by kernel_rfl
theorem p115_e_3 (a0 : Str) : rE I115 (xBD a0) [F, F, F, Y, Y] [] = dn (xBq true) [((a0 : Str) == [108, 101, 116]) = false, ((a0 : Str) == [105, 110]) = false, ((a0 : Str) == [105, 102]) = false, ((a0 : Str) == [116, 104, 101, 110]) = true, ((a0 : Str) == [116, 104, 101, 110]) = true] := by kernel_rfl
theorem p115_e_4 (a0 : Str) : rE I115 (xBD a0) [F, F, F, F, Y, Y] [] = dn (xBq true) [((a0 : Str) == [108, 101, 116]) = false, ((a0 : Str) == [105, 110]) = false, ((a0 : Str) == [105, 102]) = false, ((a0 : Str) == [116, 104, 101, 110]) = false, ((a0 : Str) == [101, 108, 115, 101]) = true, ((a0 : Str) == [101, 108, 115, 101]) = true] := by kernel_rfl
theorem p115_e_5 (a0 : Str) : rE I115 (xBD a0) [F, F, F, F, F, Y, Y] [] = dn (xBq true) [((a0 : Str) == [108, 101, 116]) = false, ((a0 : Str) == [105, 110]) = false, ((a0 : Str) == [105, 102]) = false, ((a0 : Str) == [116, 104, 101, 110]) = false, ((a0 : Str) == [101, 108, 115, 101]) = false, ((a0 : Str) == [102, 111, 114]) = true, ((a0 : Str) == [102, 111, 114]) = true] := by kernel_rfl
theorem p115_e_6 (a0 : Str) : rE I115 (xBD a0) [F, F, F, F, F, F, Y] [] = dn (xBq true) [((a0 : Str) == [108, 101, 116]) = false, ((a0 : Str) == [105, 110]) = false, ((a0 : Str) == [105, 102]) = false, ((a0 : Str) == [116, 104, 101, 110]) = false, ((a0 : Str) == [101, 108, 115, 101]) = false, ((a0 : Str) == [102, 111, 114]) = false, ((a0 : Str) == [100, 111]) = true] := by kernel_rfl
theorem p115_e_7 (a0 : Str) (r1 : Int) : rE I115 (xBD a0) [F, F, F, F, F, F, F] [xAg r1] = dn (xBq (decide ((r1 : Int) ≥ 0))) [((a0 : Str) == [108, 101, 116]) = false, ((a0 : Str) == [105, 110]) = false, ((a0 : Str) == [105, 102]) = false, ((a0 : Str) == [116, 104, 101, 110]) = false, ((a0 : Str) == [101, 108, 115, 101]) = false, ((a0 : Str) == [102, 111, 114]) = false, ((a0 : Str) == [100, 111]) = false, AbC 117 (xAo a0) (xAg r1)] := by kernel_rfl
theorem c115_e {N : Nat} : ∀ a0 r, xD6 N a0 = some r → RE Tryz.f115 I115 (xBD a0) (xBq r) := fun a0 r h =>
 cE h (fun h0 h => dE h fk115 (p115_e_0 a0) (oc h0 (oc h0 on))) fun h0 h =>
 cE h (fun h1 h => dE h fk115 (p115_e_1 a0) (oc h0 (oc h1 (oc h1 on)))) fun h1 h =>
 cE h (fun h2 h => dE h fk115 (p115_e_2 a0) (oc h0 (oc h1 (oc h2 (oc h2 on))))) fun h2 h =>
 cE h (fun h3 h => dE h fk115 (p115_e_3 a0) (oc h0 (oc h1 (oc h2 (oc h3 (oc h3 on)))))) fun h3 h =>
 cE h (fun h4 h => dE h fk115 (p115_e_4 a0) (oc h0 (oc h1 (oc h2 (oc h3 (oc h4 (oc h4 on))))))) fun h4 h =>
 cE h (fun h5 h => dE h fk115 (p115_e_5 a0) (oc h0 (oc h1 (oc h2 (oc h3 (oc h4 (oc h5 (oc h5 on)))))))) fun h5 h =>
 cE h (fun h6 h => dE h fk115 (p115_e_6 a0) (oc h0 (oc h1 (oc h2 (oc h3 (oc h4 (oc h5 (oc h6 on)))))))) fun h6 h =>
 bE h fun r1 h7 h => dE h fk115 (p115_e_7 a0 r1) (oc h0 (oc h1 (oc h2 (oc h3 (oc h4 (oc h5 (oc h6 (oc (xCK h7) on))))))))
theorem impl_IsReserved_ok {N : Nat} {a0 : Str} {r : Bool} (h : xD6 N  a0 = some r) : AbC 115 (xBD a0) (xBq r) :=
 AbsCalls.of_reach fk115 rfl rfl (Nat.le_of_ble_eq_true rfl) (c115_e a0 r h)
noncomputable def I93 : Info := { body := (Tryz.f93.body).getD .skip, nt := 10, results := [.tmp 2], keep := [0, 4], live := [], modes := [(1, [(2, .take, false)])] }
theorem fk93 : FnOk Tryz.prog 93 Tryz.f93 I93 := ⟨Tryz.func93, by kernel_rfl, by kernel_rfl, by kernel_rfl, by kernel_rfl⟩
theorem p93_e_0 (a0 : Str) (r1 r2 : Bool) : rE I93 (xAQ a0) [Y] [xBT r1, xBq r2] = dn (xAm (!r2)) [AbC 114 (xEn a0) (xBT r1), r1 = true, AbC 115 (xBD a0) (xBq r2)] := by kernel_rfl
theorem p93_e_1 (a0 : Str) (r1 : Bool) : rE I93 (xAQ a0) [F] [xBT r1] = dn (xAm false) [AbC 114 (xEn a0) (xBT r1), r1 = false] := by kernel_rfl
theorem c93_e {N : Nat} : ∀ a0 r, xCE N a0 = some r → RE Tryz.f93 I93 (xAQ a0) (xAm r) := fun a0 r h =>
 bE h fun r1 h0 h => cE h (fun h1 h => bE h fun r2 h2 h => dE h fk93 (p93_e_0 a0 r1 r2) (oc (xGg h0) (oc h1 (oc (impl_IsReserved_ok h2) on)))) fun h1 h =>
 dE h fk93 (p93_e_1 a0 r1) (oc (xGg h0) (oc h1 on))
theorem xBb {N : Nat} {a0 : Str} {r : Bool} (h : xCE N  a0 = some r) : AbC 93 (xAQ a0) (xAm r) :=
 AbsCalls.of_reach fk93 rfl rfl (Nat.le_of_ble_eq_true rfl) (c93_e a0 r h)
noncomputable def I94 : Info := { body := (Tryz.f94.body).getD .skip, nt := 16, results := [.cell 2 25], keep := [0, 4, 14, 1, 5], live := [], modes := [], ext := [0] }
theorem fk94 : FnOk Tryz.prog 94 Tryz.f94 I94 := ⟨Tryz.func94, by kernel_rfl, by kernel_rfl, by kernel_rfl, by kernel_rfl⟩
theorem p94_e_0 (a0 : Psr) : rE I94 (xBY a0) [Y] [] = dn (xA0 ((Exp.mk 0 0 [] []), (Psr.mk (Psr.list a0) (Psr.pos a0) (Psr.pos a0)))) [(decide (((Psr.bad a0) : Int) < 0)) = true] := by kernel_rfl
theorem p94_e_1 (a0 : Psr) : rE I94 (xBY a0) [F] [] = dn (xA0 ((Exp.mk 0 0 [] []), a0)) [(decide (((Psr.bad a0) : Int) < 0)) = false] := by kernel_rfl
theorem c94_e {N : Nat} : ∀ a0 r, xBN N a0 = some r → RE Tryz.f94 I94 (xBY a0) (xA0 r) := fun a0 r h =>
 cE h (fun h0 h => dE h fk94 (p94_e_0 a0) (oc h0 on)) fun h0 h =>
 dE h fk94 (p94_e_1 a0) (oc h0 on)
theorem xDz {N : Nat} {a0 : Psr} {r : Exp × Psr} (h : xBN N  a0 = some r) : AbC 94 (xBY a0) (xA0 r) :=
 AbsCalls.of_reach fk94 rfl rfl (Nat.le_of_ble_eq_true rfl) (c94_e a0 r h)
noncomputable def I52 : Info := { body := (Tryz.f52.body).getD .skip, nt := 26, results := [.tmp 2], keep := [0, 4, 6, 28, 1, 7], live := [], modes := [(2, [(3, .take, false)])], ext := [0] }
theorem fk52 : FnOk Tryz.prog 52 Tryz.f52 I52 := ⟨Tryz.func52, by kernel_rfl, by kernel_rfl, by kernel_rfl, by kernel_rfl⟩
theorem p52_e_0 (a0 : Psr) (r1 : Tok × Psr) (r2 : Exp × Psr) : rE I52 (xCJ a0) [Y, Y] [xAc r1, xA0 r2] = dn (xBZ ([], r2.2)) [AbC 51 (xAi a0) (xAc r1), (((Tok.kind r1.1) : Int) != 1) = true, true = true, AbC 94 (xBY r1.2) (xA0 r2)] := by kernel_rfl
theorem p52_e_1 (a0 : Psr) (r1 : Tok × Psr) (r2 : Bool) (r3 : Exp × Psr) : rE I52 (xCJ a0) [F, Y] [xAc r1, xAm r2, xA0 r3] = dn (xBZ ([], r3.2)) [AbC 51 (xAi a0) (xAc r1), (((Tok.kind r1.1) : Int) != 1) = false, AbC 93 (xAQ (Tok.text r1.1)) (xAm r2), (!r2) = true, AbC 94 (xBY r1.2) (xA0 r3)] := by kernel_rfl
theorem p52_e_2 (a0 : Psr) (r1 : Tok × Psr) (r2 : Bool) : rE I52 (xCJ a0) [F, F] [xAc r1, xAm r2] = dn (xBZ ((Tok.text r1.1), (Psr.mk (Psr.list r1.2) (W ((Psr.pos r1.2) + 1)) (Psr.bad r1.2)))) [AbC 51 (xAi a0) (xAc r1), (((Tok.kind r1.1) : Int) != 1) = false, AbC 93 (xAQ (Tok.text r1.1)) (xAm r2), (!r2) = false] := by kernel_rfl
theorem c52_e {N : Nat} : ∀ a0 r, xBO N a0 = some r → RE Tryz.f52 I52 (xCJ a0) (xBZ r) := fun a0 r h =>
 bE h fun r1 h0 h => cE h (fun h1 h => bE h fun r2 h3 h => dE h fk52 (p52_e_0 a0 r1 r2) (oc (xAp h0) (oc h1 (oc rfl (oc (xDz h3) on))))) fun h1 h =>
 bE h fun r2 h2 h => cE h (fun h3 h => bE h fun r3 h4 h => dE h fk52 (p52_e_1 a0 r1 r2 r3) (oc (xAp h0) (oc h1 (oc (xBb h2) (oc h3 (oc (xDz h4) on)))))) fun h3 h =>
 dE h fk52 (p52_e_2 a0 r1 r2) (oc (xAp h0) (oc h1 (oc (xBb h2) (oc h3 on))))
theorem xFa {N : Nat} {a0 : Psr} {r : Str × Psr} (h : xBO N  a0 = some r) : AbC 52 (xCJ a0) (xBZ r) :=
 AbsCalls.of_reach fk52 rfl rfl (Nat.le_of_ble_eq_true rfl) (c52_e a0 r h)
noncomputable def I95 : Info := { body := (Tryz.f95.body).getD .skip, nt := 14, results := [.tmp 4], keep := [0, 2, 4, 8, 5], live := [], modes := [(1, [(3, .take, false)])] }
theorem fk95 : FnOk Tryz.prog 95 Tryz.f95 I95 := ⟨Tryz.func95, by kernel_rfl, by kernel_rfl, by kernel_rfl, by kernel_rfl⟩
theorem p95_e_0 (a0 : Tok) (a1 : Str) : rE I95 (xCX a0 a1) [Y] [] = dn (xBM (((Tok.text a0) : Str) == a1)) [(((Tok.kind a0) : Int) == 4) = true] := by kernel_rfl
theorem p95_e_1 (a0 : Tok) (a1 : Str) : rE I95 (xCX a0 a1) [F] [] = dn (xBM false) [(((Tok.kind a0) : Int) == 4) = false] := by kernel_rfl
theorem c95_e {N : Nat} : ∀ a0 a1 r, xEg N a0 a1 = some r → RE Tryz.f95 I95 (xCX a0 a1) (xBM r) := fun a0 a1 r h =>
 cE h (fun h0 h => dE h fk95 (p95_e_0 a0 a1) (oc h0 on)) fun h0 h =>
 dE h fk95 (p95_e_1 a0 a1) (oc h0 on)
theorem xEq {N : Nat} {a0 : Tok} {a1 : Str} {r : Bool} (h : xEg N  a0 a1 = some r) : AbC 95 (xCX a0 a1) (xBM r) :=
 AbsCalls.of_reach fk95 rfl rfl (Nat.le_of_ble_eq_true rfl) (c95_e a0 a1 r h)
noncomputable def I53 : Info := { body := (Tryz.f53.body).getD .skip, nt := 23, results := [], keep := [0, 2, 26, 1], live := [], modes := [(0, [(4, .take, false)])], ext := [0] }
theorem fk53 : FnOk Tryz.prog 53 Tryz.f53 I53 := ⟨Tryz.func53, by kernel_rfl, by kernel_rfl, by kernel_rfl, by kernel_rfl⟩
theorem p53_e_0 (a0 : Psr) (a1 : Str) (r1 : Tok × Psr) (r2 : Bool) : rE I53 (xAW a0 a1) [Y, Y] [xAc r1, xAy r2] = dn (xAw (Psr.mk (Psr.list r1.2) (W ((Psr.pos r1.2) + 1)) (Psr.bad r1.2))) [AbC 51 (xAi a0) (xAc r1), AbC 50 (xA3 r1.1 a1) (xAy r2), r2 = true, true = true] := by kernel_rfl
theorem p53_e_1 (a0 : Psr) (a1 : Str) (r1 : Tok × Psr) (r2 : Bool) (r3 : Tok × Psr) (r4 : Bool) : rE I53 (xAW a0 a1) [F, Y] [xAc r1, xAy r2, xAc r3, xBM r4] = dn (xAw (Psr.mk (Psr.list r3.2) (W ((Psr.pos r3.2) + 1)) (Psr.bad r3.2))) [AbC 51 (xAi a0) (xAc r1), AbC 50 (xA3 r1.1 a1) (xAy r2), r2 = false, AbC 51 (xAi r1.2) (xAc r3), AbC 95 (xCX r3.1 a1) (xBM r4), r4 = true] := by kernel_rfl
theorem p53_e_2 (a0 : Psr) (a1 : Str) (r1 : Tok × Psr) (r2 : Bool) (r3 : Tok × Psr) (r4 : Bool) (r5 : Exp × Psr) : rE I53 (xAW a0 a1) [F, F] [xAc r1, xAy r2, xAc r3, xBM r4, xA0 r5] = dn (xAw r5.2) [AbC 51 (xAi a0) (xAc r1), AbC 50 (xA3 r1.1 a1) (xAy r2), r2 = false, AbC 51 (xAi r1.2) (xAc r3), AbC 95 (xCX r3.1 a1) (xBM r4), r4 = false, AbC 94 (xBY r3.2) (xA0 r5)] := by kernel_rfl
theorem c53_e {N : Nat} : ∀ a0 a1 r, xAH N a0 a1 = some r → RE Tryz.f53 I53 (xAW a0 a1) (xAw r) := fun a0 a1 r h =>
 bE h fun r1 h0 h => bE h fun r2 h1 h => cE h (fun h2 h => dE h fk53 (p53_e_0 a0 a1 r1 r2) (oc (xAp h0) (oc (xBy h1) (oc h2 (oc rfl on))))) fun h2 h =>
 bE h fun r3 h3 h => bE h fun r4 h4 h => cE h (fun h5 h => dE h fk53 (p53_e_1 a0 a1 r1 r2 r3 r4) (oc (xAp h0) (oc (xBy h1) (oc h2 (oc (xAp h3) (oc (xEq h4) (oc h5 on))))))) fun h5 h =>
 bE h fun r5 h6 h => dE h fk53 (p53_e_2 a0 a1 r1 r2 r3 r4 r5) (oc (xAp h0) (oc (xBy h1) (oc h2 (oc (xAp h3) (oc (xEq h4) (oc h5 (oc (xDz h6) on)))))))
theorem xBH {N : Nat} {a0 : Psr} {a1 : Str} {r : Psr} (h : xAH N  a0 a1 = some r) : AbC 53 (xAW a0 a1) (xAw r) :=
 AbsCalls.of_reach fk53 rfl rfl (Nat.le_of_ble_eq_true rfl) (c53_e a0 a1 r h)
noncomputable def I55 : Info := { body := (Tryz.f55.body).getD .skip, nt := 16, results := [.tmp 4], keep := [0, 2, 8, 16, 1], live := [], modes := [], ext := [0] }
theorem fk55 : FnOk Tryz.prog 55 Tryz.f55 I55 := ⟨Tryz.func55, by kernel_rfl, by kernel_rfl, by kernel_rfl, by kernel_rfl⟩
theorem p55_e_0 (a0 : Psr) (a1 : Str) (r1 : Tok × Psr) (r2 : Bool) : rE I55 (xAl a0 a1) [Y] [xAc r1, xBM r2] = dn (xAd (true, (Psr.mk (Psr.list r1.2) (W ((Psr.pos r1.2) + 1)) (Psr.bad r1.2)))) [AbC 51 (xAi a0) (xAc r1), AbC 95 (xCX r1.1 a1) (xBM r2), r2 = true] := by kernel_rfl
theorem p55_e_1 (a0 : Psr) (a1 : Str) (r1 : Tok × Psr) (r2 : Bool) : rE I55 (xAl a0 a1) [F] [xAc r1, xBM r2] = dn (xAd (false, r1.2)) [AbC 51 (xAi a0) (xAc r1), AbC 95 (xCX r1.1 a1) (xBM r2), r2 = false] := by kernel_rfl
theorem c55_e {N : Nat} : ∀ a0 a1 r, xAL N a0 a1 = some r → RE Tryz.f55 I55 (xAl a0 a1) (xAd r) := fun a0 a1 r h =>
 bE h fun r1 h0 h => bE h fun r2 h1 h => cE h (fun h2 h => dE h fk55 (p55_e_0 a0 a1 r1 r2) (oc (xAp h0) (oc (xEq h1) (oc h2 on)))) fun h2 h =>
 dE h fk55 (p55_e_1 a0 a1 r1 r2) (oc (xAp h0) (oc (xEq h1) (oc h2 on)))
theorem xAt {N : Nat} {a0 : Psr} {a1 : Str} {r : Bool × Psr} (h : xAL N  a0 a1 = some r) : AbC 55 (xAl a0 a1) (xAd r) :=
 AbsCalls.of_reach fk55 rfl rfl (Nat.le_of_ble_eq_true rfl) (c55_e a0 a1 r h)
noncomputable def I56 : Info := { body := (Tryz.f56.body).getD .skip, nt := 11, results := [.tmp 2], keep := [0, 4, 10], live := [], modes := [] }
theorem fk56 : FnOk Tryz.prog 56 Tryz.f56 I56 := ⟨Tryz.func56, by kernel_rfl, by kernel_rfl, by kernel_rfl, by kernel_rfl⟩
theorem p56_e_0 (a0 : Int) (r1 : Bool) : rE I56 (xDD a0) [Y] [xAY r1] = dn (xCY [63]) [AbC 97 (xB2 a0 1 5) (xAY r1), (!r1) = true] := by kernel_rfl
theorem p56_e_1 (a0 : Int) (r1 : Bool) : rE I56 (xDD a0) [F] [xAY r1] = dn (xCY (gD [[43], [45], [42], [60], [61, 61]] (tN (W (a0 - 1))) Ty.str.dflt)) [AbC 97 (xB2 a0 1 5) (xAY r1), (!r1) = false, (0 : Int) ≤ (W (a0 - 1)) ∧ (W (a0 - 1)) < (Ln [[43], [45], [42], [60], [61, 61]])] := by kernel_rfl
theorem c56_e {N : Nat} : ∀ a0 r, xEE N a0 = some r → RE Tryz.f56 I56 (xDD a0) (xCY r) := fun a0 r h =>
 bE h fun r1 h0 h => cE h (fun h1 h => dE h fk56 (p56_e_0 a0 r1) (oc (xDa h0) (oc h1 on))) fun h1 h =>
 iE h fun h2 h => dE h fk56 (p56_e_1 a0 r1) (oc (xDa h0) (oc h1 (oc h2 on)))
theorem xFV {N : Nat} {a0 : Int} {r : Str} (h : xEE N  a0 = some r) : AbC 56 (xDD a0) (xCY r) :=
 AbsCalls.of_reach fk56 rfl rfl (Nat.le_of_ble_eq_true rfl) (c56_e a0 r h)
def G116 (q : Psr → Option (Exp × Psr)) : Prop := ∀ a0 r, q a0 = some r → AbC 116 (xAV a0) (xAR r)
def G31 (q : Psr → Option (Exp × Psr)) : Prop := ∀ a0 r, q a0 = some r → AbC 31 (xAk a0) (xAe r)
def G131 (q : Psr → Str → Option ((List Exp) × Psr)) : Prop := ∀ a0 a1 r, q a0 a1 = some r → AbC 131 (xB5 a0 a1) (xA5 r)
def G96 (q : Psr → Option (Exp × Psr)) : Prop := ∀ a0 r, q a0 = some r → AbC 96 (xB9 a0) (xA9 r)
def G54 (q : Psr → Option (Exp × Psr)) : Prop := ∀ a0 r, q a0 = some r → AbC 54 (xDl a0) (xBV r)
noncomputable def I116 : Info := { body := (Tryz.f116.body).getD .skip, nt := 94, results := [.cell 2 25], keep := [0, 4, 6, 8, 14, 42, 70, 108, 156, 168, 1, 5, 7, 9], live := [], modes := [(8, [(3, .take, false)]), (11, [(3, .take, false)]), (20, [(0, .take, false)])], ext := [0] }
theorem fk116 : FnOk Tryz.prog 116 Tryz.f116 I116 := ⟨Tryz.func116, by kernel_rfl, by kernel_rfl, by kernel_rfl, by kernel_rfl⟩
theorem p116_e_0 (a0 : Psr) (r1 : Tok × Psr) : rE I116 (xAV a0) [Y] [xAc r1] = dn (xAR ((Exp.mk 1 (Tok.n r1.1) [] []), (Psr.mk (Psr.list r1.2) (W ((Psr.pos r1.2) + 1)) (Psr.bad r1.2)))) [AbC 51 (xAi a0) (xAc r1), (((Tok.kind r1.1) : Int) == 2) = true] := by kernel_rfl
theorem p116_e_1 (a0 : Psr) (r1 : Tok × Psr) : rE I116 (xAV a0) [F, Y] [xAc r1] = dn (xAR ((Exp.mk 2 0 (Tok.text r1.1) []), (Psr.mk (Psr.list r1.2) (W ((Psr.pos r1.2) + 1)) (Psr.bad r1.2)))) [AbC 51 (xAi a0) (xAc r1), (((Tok.kind r1.1) : Int) == 2) = false, (((Tok.kind r1.1) : Int) == 3) = true] := by kernel_rfl
theorem p116_e_2 (a0 : Psr) (r1 : Tok × Psr) (r2 : Bool) : rE I116 (xAV a0) [F, F, Y, Y] [xAc r1, xAm r2] = dn (xAR ((Exp.mk 3 0 (Tok.text r1.1) []), (Psr.mk (Psr.list r1.2) (W ((Psr.pos r1.2) + 1)) (Psr.bad r1.2)))) [AbC 51 (xAi a0) (xAc r1), (((Tok.kind r1.1) : Int) == 2) = false, (((Tok.kind r1.1) : Int) == 3) = false, (((Tok.kind r1.1) : Int) == 1) = true, AbC 93 (xAQ (Tok.text r1.1)) (xAm r2), r2 = true] := by kernel_rfl
theorem p116_e_3 (a0 : Psr) (r1 : Tok × Psr) (r2 : Bool) (r3 : Int) (r4 : Psr) (r5 : (List Exp) × Psr) : rE I116 (xAV a0) [F, F, Y, F, Y, Y] [xAc r1, xAm r2, xAg r3, xAw r4, xA5 r5] = dn (xAR ((Exp.mk 5 0 (Tok.text r1.1) r5.1), r5.2)) [AbC 51 (xAi a0) (xAc r1), (((Tok.kind r1.1) : Int) == 2) = false, (((Tok.kind r1.1) : Int) == 3) = false, (((Tok.kind r1.1) : Int) == 1) = true, AbC 93 (xAQ (Tok.text r1.1)) (xAm r2), r2 = false, (((Tok.kind r1.1) : Int) == 1) = true, AbC 117 (xAo (Tok.text r1.1)) (xAg r3), (decide ((r3 : Int) ≥ 0)) = true, AbC 53 (xAW (Psr.mk (Psr.list r1.2) (W ((Psr.pos r1.2) + 1)) (Psr.bad r1.2)) [40]) (xAw r4), AbC 131 (xB5 r4 [41]) (xA5 r5)] := by kernel_rfl
theorem p116_e_4 (a0 : Psr) (r1 : Tok × Psr) (r2 : Bool) (r3 : Int) (r4 : Bool × Psr) (r5 : (List Exp) × Psr) : rE I116 (xAV a0) [F, F, Y, F, Y, F, Y] [xAc r1, xAm r2, xAg r3, xAd r4, xA5 r5] = dn (xAR ((Exp.mk 4 0 [] r5.1), r5.2)) [AbC 51 (xAi a0) (xAc r1), (((Tok.kind r1.1) : Int) == 2) = false, (((Tok.kind r1.1) : Int) == 3) = false, (((Tok.kind r1.1) : Int) == 1) = true, AbC 93 (xAQ (Tok.text r1.1)) (xAm r2), r2 = false, (((Tok.kind r1.1) : Int) == 1) = true, AbC 117 (xAo (Tok.text r1.1)) (xAg r3), (decide ((r3 : Int) ≥ 0)) = false, AbC 55 (xAl r1.2 [91]) (xAd r4), r4.1 = true, AbC 131 (xB5 r4.2 [93]) (xA5 r5)] := by kernel_rfl
theorem p116_e_5 (a0 : Psr) (r1 : Tok × Psr) (r2 : Bool) (r3 : Int) (r4 : Bool × Psr) (r5 : Bool × Psr) (r6 : Exp × Psr) (r7 : Psr) : rE I116 (xAV a0) [F, F, Y, F, Y, F, F, Y] [xAc r1, xAm r2, xAg r3, xAd r4, xAd r5, xAe r6, xAw r7] = dn (xAR (r6.1, r7)) [AbC 51 (xAi a0) (xAc r1), (((Tok.kind r1.1) : Int) == 2) = false, (((Tok.kind r1.1) : Int) == 3) = false, (((Tok.kind r1.1) : Int) == 1) = true, AbC 93 (xAQ (Tok.text r1.1)) (xAm r2), r2 = false, (((Tok.kind r1.1) : Int) == 1) = true, AbC 117 (xAo (Tok.text r1.1)) (xAg r3), (decide ((r3 : Int) ≥ 0)) = false, AbC 55 (xAl r1.2 [91]) (xAd r4), r4.1 = false, AbC 55 (xAl r4.2 [40]) (xAd r5), r5.1 = true, AbC 31 (xAk r5.2) (xAe r6), AbC 53 (xAW r6.2 [41]) (xAw r7)] := by kernel_rfl
theorem p116_e_6 (a0 : Psr) (r1 : Tok × Psr) (r2 : Bool) (r3 : Int) (r4 : Bool × Psr) (r5 : Bool × Psr) (r6 : Exp × Psr) : rE I116 (xAV a0) [F, F, Y, F, Y, F, F, F] [xAc r1, xAm r2, xAg r3, xAd r4, xAd r5, xA0 r6] = dn (xAR (r6.1, r6.2)) [AbC 51 (xAi a0) (xAc r1), (((Tok.kind r1.1) : Int) == 2) = false, (((Tok.kind r1.1) : Int) == 3) = false, (((Tok.kind r1.1) : Int) == 1) = true, AbC 93 (xAQ (Tok.text r1.1)) (xAm r2), r2 = false, (((Tok.kind r1.1) : Int) == 1) = true, AbC 117 (xAo (Tok.text r1.1)) (xAg r3), (decide ((r3 : Int) ≥ 0)) = false, AbC 55 (xAl r1.2 [91]) (xAd r4), r4.1 = false, AbC 55 (xAl r4.2 [40]) (xAd r5), r5.1 = false, AbC 94 (xBY r5.2) (xA0 r6)] := by kernel_rfl
theorem p116_e_7 (a0 : Psr) (r1 : Tok × Psr) (r2 : Bool × Psr) (r3 : (List Exp) × Psr) : rE I116 (xAV a0) [F, F, F, F, F, F, Y] [xAc r1, xAd r2, xA5 r3] = dn (xAR ((Exp.mk 4 0 [] r3.1), r3.2)) [AbC 51 (xAi a0) (xAc r1), (((Tok.kind r1.1) : Int) == 2) = false, (((Tok.kind r1.1) : Int) == 3) = false, (((Tok.kind r1.1) : Int) == 1) = false, false = false, (((Tok.kind r1.1) : Int) == 1) = false, false = false, AbC 55 (xAl r1.2 [91]) (xAd r2), r2.1 = true, AbC 131 (xB5 r2.2 [93]) (xA5 r3)] := by kernel_rfl
theorem p116_e_8 (a0 : Psr) (r1 : Tok × Psr) (r2 : Bool × Psr) (r3 : Bool × Psr) (r4 : Exp × Psr) (r5 : Psr) : rE I116 (xAV a0) [F, F, F, F, F, F, F, Y] [xAc r1, xAd r2, xAd r3, xAe r4, xAw r5] = dn (xAR (r4.1, r5)) [AbC 51 (xAi a0) (xAc r1), (((Tok.kind r1.1) : Int) == 2) = false, (((Tok.kind r1.1) : Int) == 3) = false, (((Tok.kind r1.1) : Int) == 1) = false, false = false, (((Tok.kind r1.1) : Int) == 1) = false, false = false, AbC 55 (xAl r1.2 [91]) (xAd r2), r2.1 = false, AbC 55 (xAl r2.2 [40]) (xAd r3), r3.1 = true, AbC 31 (xAk r3.2) (xAe r4), AbC 53 (xAW r4.2 [41]) (xAw r5)] := by kernel_rfl
theorem p116_e_9 (a0 : Psr) (r1 : Tok × Psr) (r2 : Bool × Psr) (r3 : Bool × Psr) (r4 : Exp × Psr) : rE I116 (xAV a0) [F, F, F, F, F, F, F, F] [xAc r1, xAd r2, xAd r3, xA0 r4] = dn (xAR (r4.1, r4.2)) [AbC 51 (xAi a0) (xAc r1), (((Tok.kind r1.1) : Int) == 2) = false, (((Tok.kind r1.1) : Int) == 3) = false, (((Tok.kind r1.1) : Int) == 1) = false, false = false, (((Tok.kind r1.1) : Int) == 1) = false, false = false, AbC 55 (xAl r1.2 [91]) (xAd r2), r2.1 = false, AbC 55 (xAl r2.2 [40]) (xAd r3), r3.1 = false, AbC 94 (xBY r3.2) (xA0 r4)] := by kernel_rfl
theorem c116_e {N : Nat} {q0 : Psr → Option (Exp × Psr)} (g0 : G116 q0) {q1 : Psr → Option (Exp × Psr)} (g1 : G31 q1) {q2 : Psr → Str → Option ((List Exp) × Psr)} (g2 : G131 q2) {q3 : Psr → Option (Exp × Psr)} (g3 : G96 q3) {q4 : Psr → Option (Exp × Psr)} (g4 : G54 q4) : ∀ a0 r, xCe N q0 q1 q2 q3 q4 a0 = some r → RE Tryz.f116 I116 (xAV a0) (xAR r) := fun a0 r h =>
 bE h fun r1 h0 h => cE h (fun h1 h => dE h fk116 (p116_e_0 a0 r1) (oc (xAp h0) (oc h1 on))) fun h1 h =>
 cE h (fun h2 h => dE h fk116 (p116_e_1 a0 r1) (oc (xAp h0) (oc h1 (oc h2 on)))) fun h2 h =>
 cE h (fun h3 h => bE h fun r2 h4 h => cE h (fun h5 h => dE h fk116 (p116_e_2 a0 r1 r2) (oc (xAp h0) (oc h1 (oc h2 (oc h3 (oc (xBb h4) (oc h5 on))))))) fun h5 h =>
 bE h fun r3 h7 h => cE h (fun h8 h => bE h fun r4 h9 h => bE h fun r5 h10 h => dE h fk116 (p116_e_3 a0 r1 r2 r3 r4 r5) (oc (xAp h0) (oc h1 (oc h2 (oc h3 (oc (xBb h4) (oc h5 (oc h3 (oc (xCK h7) (oc h8 (oc (xBH h9) (oc (g2 _ _ _ h10) on)))))))))))) fun h8 h =>
 bE h fun r4 h9 h => cE h (fun h10 h => bE h fun r5 h11 h => dE h fk116 (p116_e_4 a0 r1 r2 r3 r4 r5) (oc (xAp h0) (oc h1 (oc h2 (oc h3 (oc (xBb h4) (oc h5 (oc h3 (oc (xCK h7) (oc h8 (oc (xAt h9) (oc h10 (oc (g2 _ _ _ h11) on))))))))))))) fun h10 h =>
 bE h fun r5 h11 h => cE h (fun h12 h => bE h fun r6 h13 h => bE h fun r7 h14 h => dE h fk116 (p116_e_5 a0 r1 r2 r3 r4 r5 r6 r7) (oc (xAp h0) (oc h1 (oc h2 (oc h3 (oc (xBb h4) (oc h5 (oc h3 (oc (xCK h7) (oc h8 (oc (xAt h9) (oc h10 (oc (xAt h11) (oc h12 (oc (g1 _ _ h13) (oc (xBH h14) on)))))))))))))))) fun h12 h =>
 bE h fun r6 h13 h => dE h fk116 (p116_e_6 a0 r1 r2 r3 r4 r5 r6) (oc (xAp h0) (oc h1 (oc h2 (oc h3 (oc (xBb h4) (oc h5 (oc h3 (oc (xCK h7) (oc h8 (oc (xAt h9) (oc h10 (oc (xAt h11) (oc h12 (oc (xDz h13) on))))))))))))))) fun h3 h =>
 bE h fun r2 h7 h => cE h (fun h8 h => bE h fun r3 h9 h => dE h fk116 (p116_e_7 a0 r1 r2 r3) (oc (xAp h0) (oc h1 (oc h2 (oc h3 (oc rfl (oc h3 (oc rfl (oc (xAt h7) (oc h8 (oc (g2 _ _ _ h9) on))))))))))) fun h8 h =>
 bE h fun r3 h9 h => cE h (fun h10 h => bE h fun r4 h11 h => bE h fun r5 h12 h => dE h fk116 (p116_e_8 a0 r1 r2 r3 r4 r5) (oc (xAp h0) (oc h1 (oc h2 (oc h3 (oc rfl (oc h3 (oc rfl (oc (xAt h7) (oc h8 (oc (xAt h9) (oc h10 (oc (g1 _ _ h11) (oc (xBH h12) on)))))))))))))) fun h10 h =>
 bE h fun r4 h11 h => dE h fk116 (p116_e_9 a0 r1 r2 r3 r4) (oc (xAp h0) (oc h1 (oc h2 (oc h3 (oc rfl (oc h3 (oc rfl (oc (xAt h7) (oc h8 (oc (xAt h9) (oc h10 (oc (xDz h11) on))))))))))))
theorem xFB {N : Nat} {q0 : Psr → Option (Exp × Psr)} (g0 : G116 q0) {q1 : Psr → Option (Exp × Psr)} (g1 : G31 q1) {q2 : Psr → Str → Option ((List Exp) × Psr)} (g2 : G131 q2) {q3 : Psr → Option (Exp × Psr)} (g3 : G96 q3) {q4 : Psr → Option (Exp × Psr)} (g4 : G54 q4) {a0 : Psr} {r : Exp × Psr} (h : xCe N q0 q1 q2 q3 q4 a0 = some r) : AbC 116 (xAV a0) (xAR r) :=
 AbsCalls.of_reach fk116 rfl rfl (Nat.le_of_ble_eq_true rfl) (c116_e g0 g1 g2 g3 g4 a0 r h)
noncomputable def I31 : Info := { body := (Tryz.f31.body).getD .skip, nt := 133, results := [.cell 2 25], keep := [0, 4, 6, 8, 10, 12, 16, 18, 84, 160, 230, 232, 234, 236, 248, 1, 5, 7, 9, 11, 13], live := [(28, [0, 4, 12, 230, 232, 234, 1, 5, 13])], modes := [(5, [(1, .take, false), (5, .take, false)]), (7, [(1, .take, false), (5, .take, false)]), (8, [(0, .take, false)]), (12, [(1, .take, false), (5, .take, false)]), (14, [(1, .take, false), (5, .take, false)]), (16, [(1, .take, false), (5, .take, false)]), (17, [(0, .take, false)]), (22, [(1, .take, false), (5, .take, false)]), (24, [(1, .take, false), (5, .take, false)]), (25, [(0, .take, false)]), (31, [(1, .take, false)]), (32, [(1, .take, false)]), (33, [(0, .take, false)])], ext := [0] }
theorem fk31 : FnOk Tryz.prog 31 Tryz.f31 I31 := ⟨Tryz.func31, by kernel_rfl, by kernel_rfl, by kernel_rfl, by kernel_rfl⟩
def S31_28 (x115 : List Int) (x116 x117 : Int) (b0 : Psr) (b2 b6 : Exp) : St := [(0, .v false [.ptr 0 0]), (4, .v false [.ptr 2 0]), (12, .v false [.ptr 6 0]), (230, .v false [.sl .own .int x115]), (232, .v false [.int .i64 x116]), (234, .v false [.int .i64 x117]), (1, .v true [.sl .ro .tok (Psr.list b0), .int .i64 (Psr.pos b0), .int .i64 (Psr.bad b0)]), (5, .v true [.int .i64 (Exp.kind b2), .int .i64 (Exp.n b2), .str (Exp.text b2), .sl .own .exp (Exp.args b2)]), (13, .v true [.int .i64 (Exp.kind b6), .int .i64 (Exp.n b6), .str (Exp.text b6), .sl .own .exp (Exp.args b6)])]
theorem p31_28_0 (x115 : List Int) (x116 x117 : Int) (b0 : Psr) (b2 b6 : Exp) (r1 : Str) (r2 : Bool × Psr) (r3 : Exp × Psr) : rS 28 I31 (S31_28 x115 x116 x117 b0 b2 b6) [Y, Y] [xCY r1, xAd r2, xBV r3] = dn (xAe ((Exp.mk 6 (gD x115 (tN x117) Ty.int.dflt) [] [(Exp.re b6), (Exp.re r3.1)]), r3.2)) [(decide ((x117 : Int) < x116)) = true, (0 : Int) ≤ x117 ∧ x117 < (Ln x115), AbC 56 (xDD (gD x115 (tN x117) Ty.int.dflt)) (xCY r1), AbC 55 (xAl b0 r1) (xAd r2), r2.1 = true, AbC 54 (xDl r2.2) (xBV r3)] := by kernel_rfl
theorem p31_28_1 (x115 : List Int) (x116 x117 : Int) (b0 : Psr) (b2 b6 : Exp) (r1 : Str) (r2 : Bool × Psr) : rS 28 I31 (S31_28 x115 x116 x117 b0 b2 b6) [Y, F] [xCY r1, xAd r2] = st 28 I31 (S31_28 x115 x116 (W (x117 + 1)) r2.2 b2 b6) [(decide ((x117 : Int) < x116)) = true, (0 : Int) ≤ x117 ∧ x117 < (Ln x115), AbC 56 (xDD (gD x115 (tN x117) Ty.int.dflt)) (xCY r1), AbC 55 (xAl b0 r1) (xAd r2), r2.1 = false] := by kernel_rfl
theorem p31_28_2 (x115 : List Int) (x116 x117 : Int) (b0 : Psr) (b2 b6 : Exp) : rS 28 I31 (S31_28 x115 x116 x117 b0 b2 b6) [F] [] = dn (xAe (b6, b0)) [(decide ((x117 : Int) < x116)) = false] := by kernel_rfl
theorem p31_e_3 (a0 : Psr) (r1 : Tok × Psr) (r2 : Bool) (r3 : Str × Psr) (r4 : Psr) (r5 : Exp × Psr) (r6 : Psr) (r7 : Exp × Psr) : rE I31 (xAk a0) [Y] [xAc r1, xAy r2, xBZ r3, xAw r4, xAe r5, xAw r6, xAe r7] = dn (xAe ((Exp.mk 7 0 r3.1 (([] ++ [(Exp.re r5.1)]) ++ [(Exp.re r7.1)])), r7.2)) [AbC 51 (xAi a0) (xAc r1), AbC 50 (xA3 r1.1 [108, 101, 116]) (xAy r2), r2 = true, AbC 52 (xCJ (Psr.mk (Psr.list r1.2) (W ((Psr.pos r1.2) + 1)) (Psr.bad r1.2))) (xBZ r3), AbC 53 (xAW r3.2 [61]) (xAw r4), AbC 31 (xAk r4) (xAe r5), 0 + Ln [(Exp.re r5.1)] ≤ Lim, AbC 53 (xAW r5.2 [105, 110]) (xAw r6), AbC 31 (xAk r6) (xAe r7), Ln ([] ++ [(Exp.re r5.1)]) + Ln [(Exp.re r7.1)] ≤ Lim] := by kernel_rfl
theorem p31_e_4 (a0 : Psr) (r1 : Tok × Psr) (r2 : Bool) (r3 : Tok × Psr) (r4 : Bool) (r5 : Exp × Psr) (r6 : Psr) (r7 : Exp × Psr) (r8 : Psr) (r9 : Exp × Psr) : rE I31 (xAk a0) [F, Y] [xAc r1, xAy r2, xAc r3, xAy r4, xAe r5, xAw r6, xAe r7, xAw r8, xAe r9] = dn (xAe ((Exp.mk 8 0 [] ((([] ++ [(Exp.re r5.1)]) ++ [(Exp.re r7.1)]) ++ [(Exp.re r9.1)])), r9.2)) [AbC 51 (xAi a0) (xAc r1), AbC 50 (xA3 r1.1 [108, 101, 116]) (xAy r2), r2 = false, AbC 51 (xAi r1.2) (xAc r3), AbC 50 (xA3 r3.1 [105, 102]) (xAy r4), r4 = true, AbC 31 (xAk (Psr.mk (Psr.list r3.2) (W ((Psr.pos r3.2) + 1)) (Psr.bad r3.2))) (xAe r5), 0 + Ln [(Exp.re r5.1)] ≤ Lim, AbC 53 (xAW r5.2 [116, 104, 101, 110]) (xAw r6), AbC 31 (xAk r6) (xAe r7), Ln ([] ++ [(Exp.re r5.1)]) + Ln [(Exp.re r7.1)] ≤ Lim, AbC 53 (xAW r7.2 [101, 108, 115, 101]) (xAw r8), AbC 31 (xAk r8) (xAe r9), Ln (([] ++ [(Exp.re r5.1)]) ++ [(Exp.re r7.1)]) + Ln [(Exp.re r9.1)] ≤ Lim] := by kernel_rfl
theorem p31_e_5 (a0 : Psr) (r1 : Tok × Psr) (r2 : Bool) (r3 : Tok × Psr) (r4 : Bool) (r5 : Tok × Psr) (r6 : Bool) (r7 : Str × Psr) (r8 : Psr) (r9 : Exp × Psr) (r10 : Psr) (r11 : Exp × Psr) : rE I31 (xAk a0) [F, F, Y] [xAc r1, xAy r2, xAc r3, xAy r4, xAc r5, xAy r6, xBZ r7, xAw r8, xAe r9, xAw r10, xAe r11] = dn (xAe ((Exp.mk 9 0 r7.1 (([] ++ [(Exp.re r9.1)]) ++ [(Exp.re r11.1)])), r11.2)) [AbC 51 (xAi a0) (xAc r1), AbC 50 (xA3 r1.1 [108, 101, 116]) (xAy r2), r2 = false, AbC 51 (xAi r1.2) (xAc r3), AbC 50 (xA3 r3.1 [105, 102]) (xAy r4), r4 = false, AbC 51 (xAi r3.2) (xAc r5), AbC 50 (xA3 r5.1 [102, 111, 114]) (xAy r6), r6 = true, AbC 52 (xCJ (Psr.mk (Psr.list r5.2) (W ((Psr.pos r5.2) + 1)) (Psr.bad r5.2))) (xBZ r7), AbC 53 (xAW r7.2 [105, 110]) (xAw r8), AbC 31 (xAk r8) (xAe r9), 0 + Ln [(Exp.re r9.1)] ≤ Lim, AbC 53 (xAW r9.2 [100, 111]) (xAw r10), AbC 31 (xAk r10) (xAe r11), Ln ([] ++ [(Exp.re r9.1)]) + Ln [(Exp.re r11.1)] ≤ Lim] := by kernel_rfl
theorem p31_e_6 (a0 : Psr) (r1 : Tok × Psr) (r2 : Bool) (r3 : Tok × Psr) (r4 : Bool) (r5 : Tok × Psr) (r6 : Bool) (r7 : Exp × Psr) : rE I31 (xAk a0) [F, F, F] [xAc r1, xAy r2, xAc r3, xAy r4, xAc r5, xAy r6, xBV r7] = st 28 I31 (S31_28 [4, 5] (Ln [4, 5] : Int) 0 r7.2 (Exp.mk 0 0 [] []) r7.1) [AbC 51 (xAi a0) (xAc r1), AbC 50 (xA3 r1.1 [108, 101, 116]) (xAy r2), r2 = false, AbC 51 (xAi r1.2) (xAc r3), AbC 50 (xA3 r3.1 [105, 102]) (xAy r4), r4 = false, AbC 51 (xAi r3.2) (xAc r5), AbC 50 (xA3 r5.1 [102, 111, 114]) (xAy r6), r6 = false, AbC 54 (xDl r5.2) (xBV r7)] := by kernel_rfl
theorem c31_28 {N : Nat} {q0 : Psr → Option (Exp × Psr)} (g0 : G116 q0) {q1 : Psr → Option (Exp × Psr)} (g1 : G31 q1) {q2 : Psr → Str → Option ((List Exp) × Psr)} (g2 : G131 q2) {q3 : Psr → Option (Exp × Psr)} (g3 : G96 q3) {q4 : Psr → Option (Exp × Psr)} (g4 : G54 q4) : ∀ n x115 x116 x117 b0 b2 b6 r, xCp N q0 q1 q2 q3 q4 n x115 x116 x117 b0 b2 b6 = some r → RS Tryz.f31 I31 28 (S31_28 x115 x116 x117 b0 b2 b6) (xAe r) := by
 intro n
 induction n with
 | zero => exact fun _ _ _ _ _ _ _ h => nE h
 | succ n ih =>
  exact fun x115 x116 x117 b0 b2 b6 r h =>
   cE h (fun h0 h => iE h fun h1 h => bE h fun r1 h2 h => bE h fun r2 h3 h => cE h (fun h4 h => bE h fun r3 h5 h => dS h fk31 (p31_28_0 x115 x116 x117 b0 b2 b6 r1 r2 r3) (oc h0 (oc h1 (oc (xFV h2) (oc (xAt h3) (oc h4 (oc (g4 _ _ h5) on))))))) fun h4 h =>
   tS fk31 (p31_28_1 x115 x116 x117 b0 b2 b6 r1 r2) (oc h0 (oc h1 (oc (xFV h2) (oc (xAt h3) (oc h4 on))))) (ih _ _ _ _ _ _ _ h)) fun h0 h =>
   dS h fk31 (p31_28_2 x115 x116 x117 b0 b2 b6) (oc h0 on)
theorem c31_e {N : Nat} {q0 : Psr → Option (Exp × Psr)} (g0 : G116 q0) {q1 : Psr → Option (Exp × Psr)} (g1 : G31 q1) {q2 : Psr → Str → Option ((List Exp) × Psr)} (g2 : G131 q2) {q3 : Psr → Option (Exp × Psr)} (g3 : G96 q3) {q4 : Psr → Option (Exp × Psr)} (g4 : G54 q4) : ∀ a0 r, xCf N q0 q1 q2 q3 q4 a0 = some r → RE Tryz.f31 I31 (xAk a0) (xAe r) := fun a0 r h =>
 bE h fun r1 h0 h => bE h fun r2 h1 h => cE h (fun h2 h => bE h fun r3 h3 h => bE h fun r4 h4 h => bE h fun r5 h5 h => iE h fun h6 h => bE h fun r6 h7 h => bE h fun r7 h8 h => iE h fun h9 h => dE h fk31 (p31_e_3 a0 r1 r2 r3 r4 r5 r6 r7) (oc (xAp h0) (oc (xBy h1) (oc h2 (oc (xFa h3) (oc (xBH h4) (oc (g1 _ _ h5) (oc h6 (oc (xBH h7) (oc (g1 _ _ h8) (oc h9 on))))))))))) fun h2 h =>
 bE h fun r3 h3 h => bE h fun r4 h4 h => cE h (fun h5 h => bE h fun r5 h6 h => iE h fun h7 h => bE h fun r6 h8 h => bE h fun r7 h9 h => iE h fun h10 h => bE h fun r8 h11 h => bE h fun r9 h12 h => iE h fun h13 h => dE h fk31 (p31_e_4 a0 r1 r2 r3 r4 r5 r6 r7 r8 r9) (oc (xAp h0) (oc (xBy h1) (oc h2 (oc (xAp h3) (oc (xBy h4) (oc h5 (oc (g1 _ _ h6) (oc h7 (oc (xBH h8) (oc (g1 _ _ h9) (oc h10 (oc (xBH h11) (oc (g1 _ _ h12) (oc h13 on))))))))))))))) fun h5 h =>
 bE h fun r5 h6 h => bE h fun r6 h7 h => cE h (fun h8 h => bE h fun r7 h9 h => bE h fun r8 h10 h => bE h fun r9 h11 h => iE h fun h12 h => bE h fun r10 h13 h => bE h fun r11 h14 h => iE h fun h15 h => dE h fk31 (p31_e_5 a0 r1 r2 r3 r4 r5 r6 r7 r8 r9 r10 r11) (oc (xAp h0) (oc (xBy h1) (oc h2 (oc (xAp h3) (oc (xBy h4) (oc h5 (oc (xAp h6) (oc (xBy h7) (oc h8 (oc (xFa h9) (oc (xBH h10) (oc (g1 _ _ h11) (oc h12 (oc (xBH h13) (oc (g1 _ _ h14) (oc h15 on))))))))))))))))) fun h8 h =>
 bE h fun r7 h9 h => tE fk31 (p31_e_6 a0 r1 r2 r3 r4 r5 r6 r7) (oc (xAp h0) (oc (xBy h1) (oc h2 (oc (xAp h3) (oc (xBy h4) (oc h5 (oc (xAp h6) (oc (xBy h7) (oc h8 (oc (g4 _ _ h9) on)))))))))) (c31_28 g0 g1 g2 g3 g4 _ _ _ _ _ _ _ _ h)
theorem xFC {N : Nat} {q0 : Psr → Option (Exp × Psr)} (g0 : G116 q0) {q1 : Psr → Option (Exp × Psr)} (g1 : G31 q1) {q2 : Psr → Str → Option ((List Exp) × Psr)} (g2 : G131 q2) {q3 : Psr → Option (Exp × Psr)} (g3 : G96 q3) {q4 : Psr → Option (Exp × Psr)} (g4 : G54 q4) {a0 : Psr} {r : Exp × Psr} (h : xCf N q0 q1 q2 q3 q4 a0 = some r) : AbC 31 (xAk a0) (xAe r) :=
 AbsCalls.of_reach fk31 rfl rfl (Nat.le_of_ble_eq_true rfl) (c31_e g0 g1 g2 g3 g4 a0 r h)
noncomputable def I131 : Info := { body := (Tryz.f131.body).getD .skip, nt := 27, results := [.tmp 4], keep := [0, 2, 8, 10, 18, 30, 46, 1], live := [(4, [0, 2, 10, 1])], modes := [(3, [(0, .take, false)]), (5, [(0, .take, false), (4, .take, false)]), (8, [(0, .take, false)])], ext := [0] }
theorem fk131 : FnOk Tryz.prog 131 Tryz.f131 I131 := ⟨Tryz.func131, by kernel_rfl, by kernel_rfl, by kernel_rfl, by kernel_rfl⟩
def S131_4 (x1 : Str) (x5 : List Exp) (b0 : Psr) : St := [(0, .v false [.ptr 0 0]), (2, .v false [.str x1]), (10, .v false [.sl .own .exp x5]), (1, .v true [.sl .ro .tok (Psr.list b0), .int .i64 (Psr.pos b0), .int .i64 (Psr.bad b0)])]
theorem p131_4_0 (x1 : Str) (x5 : List Exp) (b0 : Psr) (r1 : Exp × Psr) (r2 : Bool × Psr) : rS 4 I131 (S131_4 x1 x5 b0) [Y, Y] [xAe r1, xAd r2] = dn (xA5 ((x5 ++ [(Exp.re r1.1)]), r2.2)) [(decide (((Psr.bad b0) : Int) < 0)) = true, AbC 31 (xAk b0) (xAe r1), Ln x5 + Ln [(Exp.re r1.1)] ≤ Lim, AbC 55 (xAl r1.2 x1) (xAd r2), r2.1 = true] := by kernel_rfl
theorem p131_4_1 (x1 : Str) (x5 : List Exp) (b0 : Psr) (r1 : Exp × Psr) (r2 : Bool × Psr) (r3 : Psr) : rS 4 I131 (S131_4 x1 x5 b0) [Y, F] [xAe r1, xAd r2, xAw r3] = st 4 I131 (S131_4 x1 (x5 ++ [(Exp.re r1.1)]) r3) [(decide (((Psr.bad b0) : Int) < 0)) = true, AbC 31 (xAk b0) (xAe r1), Ln x5 + Ln [(Exp.re r1.1)] ≤ Lim, AbC 55 (xAl r1.2 x1) (xAd r2), r2.1 = false, AbC 53 (xAW r2.2 [44]) (xAw r3)] := by kernel_rfl
theorem p131_4_2 (x1 : Str) (x5 : List Exp) (b0 : Psr) : rS 4 I131 (S131_4 x1 x5 b0) [F] [] = dn (xA5 (x5, b0)) [(decide (((Psr.bad b0) : Int) < 0)) = false] := by kernel_rfl
theorem p131_e_3 (a0 : Psr) (a1 : Str) (r1 : Bool × Psr) : rE I131 (xB5 a0 a1) [Y] [xAd r1] = dn (xA5 ([], r1.2)) [AbC 55 (xAl a0 a1) (xAd r1), r1.1 = true] := by kernel_rfl
theorem p131_e_4 (a0 : Psr) (a1 : Str) (r1 : Bool × Psr) : rE I131 (xB5 a0 a1) [F] [xAd r1] = st 4 I131 (S131_4 a1 [] r1.2) [AbC 55 (xAl a0 a1) (xAd r1), r1.1 = false] := by kernel_rfl
theorem c131_4 {N : Nat} {q0 : Psr → Option (Exp × Psr)} (g0 : G116 q0) {q1 : Psr → Option (Exp × Psr)} (g1 : G31 q1) {q2 : Psr → Str → Option ((List Exp) × Psr)} (g2 : G131 q2) {q3 : Psr → Option (Exp × Psr)} (g3 : G96 q3) {q4 : Psr → Option (Exp × Psr)} (g4 : G54 q4) : ∀ n x1 x5 b0 r, xB6 N q0 q1 q2 q3 q4 n x1 x5 b0 = some r → RS Tryz.f131 I131 4 (S131_4 x1 x5 b0) (xA5 r) := by
 intro n
 induction n with
 | zero => exact fun _ _ _ _ h => nE h
 | succ n ih =>
  exact fun x1 x5 b0 r h =>
   cE h (fun h0 h => bE h fun r1 h1 h => iE h fun h2 h => bE h fun r2 h3 h => cE h (fun h4 h => dS h fk131 (p131_4_0 x1 x5 b0 r1 r2) (oc h0 (oc (g1 _ _ h1) (oc h2 (oc (xAt h3) (oc h4 on)))))) fun h4 h =>
   bE h fun r3 h5 h => tS fk131 (p131_4_1 x1 x5 b0 r1 r2 r3) (oc h0 (oc (g1 _ _ h1) (oc h2 (oc (xAt h3) (oc h4 (oc (xBH h5) on)))))) (ih _ _ _ _ h)) fun h0 h =>
   dS h fk131 (p131_4_2 x1 x5 b0) (oc h0 on)
theorem c131_e {N : Nat} {q0 : Psr → Option (Exp × Psr)} (g0 : G116 q0) {q1 : Psr → Option (Exp × Psr)} (g1 : G31 q1) {q2 : Psr → Str → Option ((List Exp) × Psr)} (g2 : G131 q2) {q3 : Psr → Option (Exp × Psr)} (g3 : G96 q3) {q4 : Psr → Option (Exp × Psr)} (g4 : G54 q4) : ∀ a0 a1 r, xB8 N q0 q1 q2 q3 q4 a0 a1 = some r → RE Tryz.f131 I131 (xB5 a0 a1) (xA5 r) := fun a0 a1 r h =>
 bE h fun r1 h0 h => cE h (fun h1 h => dE h fk131 (p131_e_3 a0 a1 r1) (oc (xAt h0) (oc h1 on))) fun h1 h =>
 tE fk131 (p131_e_4 a0 a1 r1) (oc (xAt h0) (oc h1 on)) (c131_4 g0 g1 g2 g3 g4 _ _ _ _ _ h)
theorem xFw {N : Nat} {q0 : Psr → Option (Exp × Psr)} (g0 : G116 q0) {q1 : Psr → Option (Exp × Psr)} (g1 : G31 q1) {q2 : Psr → Str → Option ((List Exp) × Psr)} (g2 : G131 q2) {q3 : Psr → Option (Exp × Psr)} (g3 : G96 q3) {q4 : Psr → Option (Exp × Psr)} (g4 : G54 q4) {a0 : Psr} {a1 : Str} {r : (List Exp) × Psr} (h : xB8 N q0 q1 q2 q3 q4 a0 a1 = some r) : AbC 131 (xB5 a0 a1) (xA5 r) :=
 AbsCalls.of_reach fk131 rfl rfl (Nat.le_of_ble_eq_true rfl) (c131_e g0 g1 g2 g3 g4 a0 a1 r h)
noncomputable def I96 : Info := { body := (Tryz.f96.body).getD .skip, nt := 14, results := [.cell 2 25], keep := [0, 4, 6, 14, 1, 5, 7], live := [(2, [0, 4, 6, 1, 5, 7])], modes := [(3, [(0, .take, false)]), (4, [(0, .take, false)])], ext := [0] }
theorem fk96 : FnOk Tryz.prog 96 Tryz.f96 I96 := ⟨Tryz.func96, by kernel_rfl, by kernel_rfl, by kernel_rfl, by kernel_rfl⟩
def S96_2 (b0 : Psr) (b2 b3 : Exp) : St := [(0, .v false [.ptr 0 0]), (4, .v false [.ptr 2 0]), (6, .v false [.ptr 3 0]), (1, .v true [.sl .ro .tok (Psr.list b0), .int .i64 (Psr.pos b0), .int .i64 (Psr.bad b0)]), (5, .v true [.int .i64 (Exp.kind b2), .int .i64 (Exp.n b2), .str (Exp.text b2), .sl .own .exp (Exp.args b2)]), (7, .v true [.int .i64 (Exp.kind b3), .int .i64 (Exp.n b3), .str (Exp.text b3), .sl .own .exp (Exp.args b3)])]
theorem p96_2_0 (b0 : Psr) (b2 b3 : Exp) (r1 : Bool × Psr) (r2 : Exp × Psr) : rS 2 I96 (S96_2 b0 b2 b3) [Y] [xAd r1, xAR r2] = st 2 I96 (S96_2 r2.2 b2 (Exp.mk 6 3 [] [(Exp.re b3), (Exp.re r2.1)])) [AbC 55 (xAl b0 [42]) (xAd r1), r1.1 = true, AbC 116 (xAV r1.2) (xAR r2)] := by kernel_rfl
theorem p96_2_1 (b0 : Psr) (b2 b3 : Exp) (r1 : Bool × Psr) : rS 2 I96 (S96_2 b0 b2 b3) [F] [xAd r1] = dn (xA9 (b3, r1.2)) [AbC 55 (xAl b0 [42]) (xAd r1), r1.1 = false] := by kernel_rfl
theorem p96_e_2 (a0 : Psr) (r1 : Exp × Psr) : rE I96 (xB9 a0) [] [xAR r1] = st 2 I96 (S96_2 r1.2 (Exp.mk 0 0 [] []) r1.1) [AbC 116 (xAV a0) (xAR r1)] := by kernel_rfl
theorem c96_2 {N : Nat} {q0 : Psr → Option (Exp × Psr)} (g0 : G116 q0) {q1 : Psr → Option (Exp × Psr)} (g1 : G31 q1) {q2 : Psr → Str → Option ((List Exp) × Psr)} (g2 : G131 q2) {q3 : Psr → Option (Exp × Psr)} (g3 : G96 q3) {q4 : Psr → Option (Exp × Psr)} (g4 : G54 q4) : ∀ n b0 b2 b3 r, xBK N q0 q1 q2 q3 q4 n b0 b2 b3 = some r → RS Tryz.f96 I96 2 (S96_2 b0 b2 b3) (xA9 r) := by
 intro n
 induction n with
 | zero => exact fun _ _ _ _ h => nE h
 | succ n ih =>
  exact fun b0 b2 b3 r h =>
   bE h fun r1 h0 h => cE h (fun h1 h => bE h fun r2 h2 h => tS fk96 (p96_2_0 b0 b2 b3 r1 r2) (oc (xAt h0) (oc h1 (oc (g0 _ _ h2) on))) (ih _ _ _ _ h)) fun h1 h =>
   dS h fk96 (p96_2_1 b0 b2 b3 r1) (oc (xAt h0) (oc h1 on))
theorem c96_e {N : Nat} {q0 : Psr → Option (Exp × Psr)} (g0 : G116 q0) {q1 : Psr → Option (Exp × Psr)} (g1 : G31 q1) {q2 : Psr → Str → Option ((List Exp) × Psr)} (g2 : G131 q2) {q3 : Psr → Option (Exp × Psr)} (g3 : G96 q3) {q4 : Psr → Option (Exp × Psr)} (g4 : G54 q4) : ∀ a0 r, xBR N q0 q1 q2 q3 q4 a0 = some r → RE Tryz.f96 I96 (xB9 a0) (xA9 r) := fun a0 r h =>
 bE h fun r1 h0 h => tE fk96 (p96_e_2 a0 r1) (oc (g0 _ _ h0) on) (c96_2 g0 g1 g2 g3 g4 _ _ _ _ _ h)
theorem xFb {N : Nat} {q0 : Psr → Option (Exp × Psr)} (g0 : G116 q0) {q1 : Psr → Option (Exp × Psr)} (g1 : G31 q1) {q2 : Psr → Str → Option ((List Exp) × Psr)} (g2 : G131 q2) {q3 : Psr → Option (Exp × Psr)} (g3 : G96 q3) {q4 : Psr → Option (Exp × Psr)} (g4 : G54 q4) {a0 : Psr} {r : Exp × Psr} (h : xBR N q0 q1 q2 q3 q4 a0 = some r) : AbC 96 (xB9 a0) (xA9 r) :=
 AbsCalls.of_reach fk96 rfl rfl (Nat.le_of_ble_eq_true rfl) (c96_e g0 g1 g2 g3 g4 a0 r h)
noncomputable def I54 : Info := { body := (Tryz.f54.body).getD .skip, nt := 25, results := [.cell 2 25], keep := [0, 4, 6, 8, 22, 28, 34, 1, 5, 7], live := [(2, [0, 4, 6, 1, 5, 7])], modes := [(7, [(0, .take, false), (1, .take, false)]), (8, [(0, .take, false)])], ext := [0] }
theorem fk54 : FnOk Tryz.prog 54 Tryz.f54 I54 := ⟨Tryz.func54, by kernel_rfl, by kernel_rfl, by kernel_rfl, by kernel_rfl⟩
def S54_2 (b0 : Psr) (b2 b3 : Exp) : St := [(0, .v false [.ptr 0 0]), (4, .v false [.ptr 2 0]), (6, .v false [.ptr 3 0]), (1, .v true [.sl .ro .tok (Psr.list b0), .int .i64 (Psr.pos b0), .int .i64 (Psr.bad b0)]), (5, .v true [.int .i64 (Exp.kind b2), .int .i64 (Exp.n b2), .str (Exp.text b2), .sl .own .exp (Exp.args b2)]), (7, .v true [.int .i64 (Exp.kind b3), .int .i64 (Exp.n b3), .str (Exp.text b3), .sl .own .exp (Exp.args b3)])]
theorem p54_2_0 (b0 : Psr) (b2 b3 : Exp) (r1 : Bool × Psr) (r2 : Bool × Psr) : rS 2 I54 (S54_2 b0 b2 b3) [Y, Y, Y] [xAd r1, xAd r2] = dn (xBV (b3, r2.2)) [(decide (((Psr.bad b0) : Int) < 0)) = true, AbC 55 (xAl b0 [43]) (xAd r1), (!r1.1) = true, AbC 55 (xAl r1.2 [45]) (xAd r2), (!r2.1) = true] := by kernel_rfl
theorem p54_2_1 (b0 : Psr) (b2 b3 : Exp) (r1 : Bool × Psr) (r2 : Bool × Psr) (r3 : Exp × Psr) : rS 2 I54 (S54_2 b0 b2 b3) [Y, Y, F] [xAd r1, xAd r2, xA9 r3] = st 2 I54 (S54_2 r3.2 b2 (Exp.mk 6 2 [] [(Exp.re b3), (Exp.re r3.1)])) [(decide (((Psr.bad b0) : Int) < 0)) = true, AbC 55 (xAl b0 [43]) (xAd r1), (!r1.1) = true, AbC 55 (xAl r1.2 [45]) (xAd r2), (!r2.1) = false, AbC 96 (xB9 r2.2) (xA9 r3)] := by kernel_rfl
theorem p54_2_2 (b0 : Psr) (b2 b3 : Exp) (r1 : Bool × Psr) (r2 : Exp × Psr) : rS 2 I54 (S54_2 b0 b2 b3) [Y, F] [xAd r1, xA9 r2] = st 2 I54 (S54_2 r2.2 b2 (Exp.mk 6 1 [] [(Exp.re b3), (Exp.re r2.1)])) [(decide (((Psr.bad b0) : Int) < 0)) = true, AbC 55 (xAl b0 [43]) (xAd r1), (!r1.1) = false, AbC 96 (xB9 r1.2) (xA9 r2)] := by kernel_rfl
theorem p54_2_3 (b0 : Psr) (b2 b3 : Exp) : rS 2 I54 (S54_2 b0 b2 b3) [F] [] = dn (xBV (b3, b0)) [(decide (((Psr.bad b0) : Int) < 0)) = false] := by kernel_rfl
theorem p54_e_4 (a0 : Psr) (r1 : Exp × Psr) : rE I54 (xDl a0) [] [xA9 r1] = st 2 I54 (S54_2 r1.2 (Exp.mk 0 0 [] []) r1.1) [AbC 96 (xB9 a0) (xA9 r1)] := by kernel_rfl
theorem c54_2 {N : Nat} {q0 : Psr → Option (Exp × Psr)} (g0 : G116 q0) {q1 : Psr → Option (Exp × Psr)} (g1 : G31 q1) {q2 : Psr → Str → Option ((List Exp) × Psr)} (g2 : G131 q2) {q3 : Psr → Option (Exp × Psr)} (g3 : G96 q3) {q4 : Psr → Option (Exp × Psr)} (g4 : G54 q4) : ∀ n b0 b2 b3 r, xBU N q0 q1 q2 q3 q4 n b0 b2 b3 = some r → RS Tryz.f54 I54 2 (S54_2 b0 b2 b3) (xBV r) := by
 intro n
 induction n with
 | zero => exact fun _ _ _ _ h => nE h
 | succ n ih =>
  exact fun b0 b2 b3 r h =>
   cE h (fun h0 h => bE h fun r1 h1 h => cE h (fun h2 h => bE h fun r2 h3 h => cE h (fun h4 h => dS h fk54 (p54_2_0 b0 b2 b3 r1 r2) (oc h0 (oc (xAt h1) (oc h2 (oc (xAt h3) (oc h4 on)))))) fun h4 h =>
   bE h fun r3 h5 h => tS fk54 (p54_2_1 b0 b2 b3 r1 r2 r3) (oc h0 (oc (xAt h1) (oc h2 (oc (xAt h3) (oc h4 (oc (g3 _ _ h5) on)))))) (ih _ _ _ _ h)) fun h2 h =>
   bE h fun r2 h3 h => tS fk54 (p54_2_2 b0 b2 b3 r1 r2) (oc h0 (oc (xAt h1) (oc h2 (oc (g3 _ _ h3) on)))) (ih _ _ _ _ h)) fun h0 h =>
   dS h fk54 (p54_2_3 b0 b2 b3) (oc h0 on)
theorem c54_e {N : Nat} {q0 : Psr → Option (Exp × Psr)} (g0 : G116 q0) {q1 : Psr → Option (Exp × Psr)} (g1 : G31 q1) {q2 : Psr → Str → Option ((List Exp) × Psr)} (g2 : G131 q2) {q3 : Psr → Option (Exp × Psr)} (g3 : G96 q3) {q4 : Psr → Option (Exp × Psr)} (g4 : G54 q4) : ∀ a0 r, xCq N q0 q1 q2 q3 q4 a0 = some r → RE Tryz.f54 I54 (xDl a0) (xBV r) := fun a0 r h =>
 bE h fun r1 h0 h => tE fk54 (p54_e_4 a0 r1) (oc (g3 _ _ h0) on) (c54_2 g0 g1 g2 g3 g4 _ _ _ _ _ h)
theorem xFQ {N : Nat} {q0 : Psr → Option (Exp × Psr)} (g0 : G116 q0) {q1 : Psr → Option (Exp × Psr)} (g1 : G31 q1) {q2 : Psr → Str → Option ((List Exp) × Psr)} (g2 : G131 q2) {q3 : Psr → Option (Exp × Psr)} (g3 : G96 q3) {q4 : Psr → Option (Exp × Psr)} (g4 : G54 q4) {a0 : Psr} {r : Exp × Psr} (h : xCq N q0 q1 q2 q3 q4 a0 = some r) : AbC 54 (xDl a0) (xBV r) :=
 AbsCalls.of_reach fk54 rfl rfl (Nat.le_of_ble_eq_true rfl) (c54_e g0 g1 g2 g3 g4 a0 r h)
theorem xFP {N : Nat} : ∀ d, G116 (xAb N d).c_impl_parser_atom ∧ G31 (xAb N d).c_impl_parser_expr ∧ G131 (xAb N d).c_impl_parser_list2 ∧ G96 (xAb N d).c_impl_parser_product ∧ G54 (xAb N d).c_impl_parser_sum := by
 intro d
 induction d with
 | zero => exact ⟨fun _ _ h => nE h, fun _ _ h => nE h, fun _ _ _ h => nE h, fun _ _ h => nE h, fun _ _ h => nE h⟩
 | succ d ih =>
  obtain ⟨ih0, ih1, ih2, ih3, ih4⟩ := ih
  exact ⟨fun _ _ h => xFB (N := N) ih0 ih1 ih2 ih3 ih4 h, fun _ _ h => xFC (N := N) ih0 ih1 ih2 ih3 ih4 h, fun _ _ _ h => xFw (N := N) ih0 ih1 ih2 ih3 ih4 h, fun _ _ h => xFb (N := N) ih0 ih1 ih2 ih3 ih4 h, fun _ _ h => xFQ (N := N) ih0 ih1 ih2 ih3 ih4 h⟩
theorem xBk {N : Nat} {a0 : Psr} {r : Exp × Psr} (h : xEr N a0 = some r) : AbC 31 (xAk a0) (xAe r) := (xFP N).2.1 _ r h
def G57 (q : Exp → Option (Int)) : Prop := ∀ a0 r, q a0 = some r → AbC 57 (xCo a0) (xBh r)
noncomputable def I57 : Info := { body := (Tryz.f57.body).getD .skip, nt := 19, results := [.tmp 2], keep := [0, 2, 4, 6, 10, 14, 16, 18, 20, 3, 11], live := [(3, [6, 14, 16, 18])], modes := [(6, [(1, .take, false)])] }
theorem fk57 : FnOk Tryz.prog 57 Tryz.f57 I57 := ⟨Tryz.func57, by kernel_rfl, by kernel_rfl, by kernel_rfl, by kernel_rfl⟩
def S57_3 (x3 : Int) (x7 : List Exp) (x8 x9 : Int) : St := [(6, .v false [.int .i64 x3]), (14, .v false [.sl .ro .exp x7]), (16, .v false [.int .i64 x8]), (18, .v false [.int .i64 x9])]
theorem p57_3_0 (x3 : Int) (x7 : List Exp) (x8 x9 r1 : Int) : rS 3 I57 (S57_3 x3 x7 x8 x9) [Y] [xBh r1] = st 3 I57 (S57_3 (W (x3 + r1)) x7 x8 (W (x9 + 1))) [(decide ((x9 : Int) < x8)) = true, (0 : Int) ≤ x9 ∧ x9 < (Ln x7), AbC 57 (xCo (gD x7 (tN x9) Ty.exp.dflt)) (xBh r1)] := by kernel_rfl
theorem p57_3_1 (x3 : Int) (x7 : List Exp) (x8 x9 : Int) : rS 3 I57 (S57_3 x3 x7 x8 x9) [F] [] = dn (xBh x3) [(decide ((x9 : Int) < x8)) = false] := by kernel_rfl
theorem p57_e_2 (a0 : Exp) : rE I57 (xCo a0) [] [] = st 3 I57 (S57_3 1 (Exp.args a0) (Ln (Exp.args a0) : Int) 0) [] := by kernel_rfl
theorem c57_3 {N : Nat} {q0 : Exp → Option (Int)} (g0 : G57 q0) : ∀ n x3 x7 x8 x9 r, xC4 N q0 n x3 x7 x8 x9 = some r → RS Tryz.f57 I57 3 (S57_3 x3 x7 x8 x9) (xBh r) := by
 intro n
 induction n with
 | zero => exact fun _ _ _ _ _ h => nE h
 | succ n ih =>
  exact fun x3 x7 x8 x9 r h =>
   cE h (fun h0 h => iE h fun h1 h => bE h fun r1 h2 h => tS fk57 (p57_3_0 x3 x7 x8 x9 r1) (oc h0 (oc h1 (oc (g0 _ _ h2) on))) (ih _ _ _ _ _ h)) fun h0 h =>
   dS h fk57 (p57_3_1 x3 x7 x8 x9) (oc h0 on)
theorem c57_e {N : Nat} {q0 : Exp → Option (Int)} (g0 : G57 q0) : ∀ a0 r, xEx N q0 a0 = some r → RE Tryz.f57 I57 (xCo a0) (xBh r) := fun a0 r h =>
 tE fk57 (p57_e_2 a0) on (c57_3 g0 _ _ _ _ _ _ h)
theorem xFY {N : Nat} {q0 : Exp → Option (Int)} (g0 : G57 q0) {a0 : Exp} {r : Int} (h : xEx N q0 a0 = some r) : AbC 57 (xCo a0) (xBh r) :=
 AbsCalls.of_reach fk57 rfl rfl (Nat.le_of_ble_eq_true rfl) (c57_e g0 a0 r h)
theorem xES {N : Nat} : ∀ d, G57 (xDk N d)
 | 0 => fun _ _ h => nE h
 | d + 1 => fun _ _ h => xFY (N := N) (xES d) h
theorem xEL {N : Nat} {a0 : Exp} {r : Int} (h : xFv N a0 = some r) : AbC 57 (xCo a0) (xBh r) := xES N _ r h
def G58 (q : Exp → Option (Int)) : Prop := ∀ a0 r, q a0 = some r → AbC 58 (xCL a0) (xBz r)
noncomputable def I58 : Info := { body := (Tryz.f58.body).getD .skip, nt := 20, results := [.tmp 2], keep := [0, 2, 4, 6, 10, 14, 16, 18, 20, 3, 11], live := [(3, [6, 14, 16, 18])], modes := [(6, [(1, .take, false)])] }
theorem fk58 : FnOk Tryz.prog 58 Tryz.f58 I58 := ⟨Tryz.func58, by kernel_rfl, by kernel_rfl, by kernel_rfl, by kernel_rfl⟩
def S58_3 (x3 : Int) (x7 : List Exp) (x8 x9 : Int) : St := [(6, .v false [.int .i64 x3]), (14, .v false [.sl .ro .exp x7]), (16, .v false [.int .i64 x8]), (18, .v false [.int .i64 x9])]
theorem p58_3_0 (x3 : Int) (x7 : List Exp) (x8 x9 r1 : Int) : rS 3 I58 (S58_3 x3 x7 x8 x9) [Y] [xBz r1] = st 3 I58 (S58_3 (if (r1 : Int) > x3 then r1 else x3) x7 x8 (W (x9 + 1))) [(decide ((x9 : Int) < x8)) = true, (0 : Int) ≤ x9 ∧ x9 < (Ln x7), AbC 58 (xCL (gD x7 (tN x9) Ty.exp.dflt)) (xBz r1)] := by kernel_rfl
theorem p58_3_1 (x3 : Int) (x7 : List Exp) (x8 x9 : Int) : rS 3 I58 (S58_3 x3 x7 x8 x9) [F] [] = dn (xBz (W (x3 + 1))) [(decide ((x9 : Int) < x8)) = false] := by kernel_rfl
theorem p58_e_2 (a0 : Exp) : rE I58 (xCL a0) [] [] = st 3 I58 (S58_3 0 (Exp.args a0) (Ln (Exp.args a0) : Int) 0) [] := by kernel_rfl
theorem c58_3 {N : Nat} {q0 : Exp → Option (Int)} (g0 : G58 q0) : ∀ n x3 x7 x8 x9 r, xDu N q0 n x3 x7 x8 x9 = some r → RS Tryz.f58 I58 3 (S58_3 x3 x7 x8 x9) (xBz r) := by
 intro n
 induction n with
 | zero => exact fun _ _ _ _ _ h => nE h
 | succ n ih =>
  exact fun x3 x7 x8 x9 r h =>
   cE h (fun h0 h => iE h fun h1 h => bE h fun r1 h2 h => tS fk58 (p58_3_0 x3 x7 x8 x9 r1) (oc h0 (oc h1 (oc (g0 _ _ h2) on))) (ih _ _ _ _ _ h)) fun h0 h =>
   dS h fk58 (p58_3_1 x3 x7 x8 x9) (oc h0 on)
theorem c58_e {N : Nat} {q0 : Exp → Option (Int)} (g0 : G58 q0) : ∀ a0 r, xEw N q0 a0 = some r → RE Tryz.f58 I58 (xCL a0) (xBz r) := fun a0 r h =>
 tE fk58 (p58_e_2 a0) on (c58_3 g0 _ _ _ _ _ _ h)
theorem xFX {N : Nat} {q0 : Exp → Option (Int)} (g0 : G58 q0) {a0 : Exp} {r : Int} (h : xEw N q0 a0 = some r) : AbC 58 (xCL a0) (xBz r) :=
 AbsCalls.of_reach fk58 rfl rfl (Nat.le_of_ble_eq_true rfl) (c58_e g0 a0 r h)
theorem xER {N : Nat} : ∀ d, G58 (xDI N d)
 | 0 => fun _ _ h => nE h
 | d + 1 => fun _ _ h => xFX (N := N) (xER d) h
theorem xFA {N : Nat} {a0 : Exp} {r : Int} (h : xFu N a0 = some r) : AbC 58 (xCL a0) (xBz r) := xER N _ r h
noncomputable def I98 : Info := { body := (Tryz.f98.body).getD .skip, nt := 120, results := [.tmp 2], keep := [0, 2, 4, 6, 16, 18, 46, 74, 102, 130, 154, 182, 212, 3], live := [], modes := [(4, [(3, .take, false), (8, .take, false)]), (6, [(3, .take, false), (8, .take, false)]), (8, [(3, .take, false), (8, .take, false)]), (10, [(3, .take, false), (8, .take, false)]), (12, [(3, .take, false)]), (14, [(3, .take, false), (8, .take, false)]), (17, [(3, .take, false), (8, .take, false)]), (19, [(3, .take, false), (8, .take, false)])] }
theorem fk98 : FnOk Tryz.prog 98 Tryz.f98 I98 := ⟨Tryz.func98, by kernel_rfl, by kernel_rfl, by kernel_rfl, by kernel_rfl⟩
theorem p98_e_0 (a0 : Exp) (r1 : Bool) : rE I98 (xAG a0) [Y, Y, Y] [xAY r1] = dn (xAE (((Ln (Exp.args a0) : Int) : Int) == 0)) [(((Exp.kind a0) : Int) == 1) = true, AbC 97 (xB2 (Exp.n a0) 0 1000000000) (xAY r1), r1 = true, (((Exp.text a0) : Str) == []) = true] := by kernel_rfl
theorem p98_e_1 (a0 : Exp) (r1 : Bool) : rE I98 (xAG a0) [Y, Y, F] [xAY r1] = dn (xAE false) [(((Exp.kind a0) : Int) == 1) = true, AbC 97 (xB2 (Exp.n a0) 0 1000000000) (xAY r1), r1 = true, (((Exp.text a0) : Str) == []) = false] := by kernel_rfl
theorem p98_e_2 (a0 : Exp) (r1 : Bool) : rE I98 (xAG a0) [Y, F, F] [xAY r1] = dn (xAE false) [(((Exp.kind a0) : Int) == 1) = true, AbC 97 (xB2 (Exp.n a0) 0 1000000000) (xAY r1), r1 = false, false = false] := by kernel_rfl
theorem p98_e_3 (a0 : Exp) (r1 : Bool) : rE I98 (xAG a0) [F, Y, Y, Y] [xAJ r1] = dn (xAE (((Ln (Exp.args a0) : Int) : Int) == 0)) [(((Exp.kind a0) : Int) == 1) = false, (((Exp.kind a0) : Int) == 2) = true, (((Exp.n a0) : Int) == 0) = true, AbC 91 (xBX (Exp.text a0)) (xAJ r1), r1 = true] := by kernel_rfl
theorem p98_e_4 (a0 : Exp) (r1 : Bool) : rE I98 (xAG a0) [F, Y, Y, F] [xAJ r1] = dn (xAE false) [(((Exp.kind a0) : Int) == 1) = false, (((Exp.kind a0) : Int) == 2) = true, (((Exp.n a0) : Int) == 0) = true, AbC 91 (xBX (Exp.text a0)) (xAJ r1), r1 = false] := by kernel_rfl
theorem p98_e_5 (a0 : Exp) : rE I98 (xAG a0) [F, Y, F, F] [] = dn (xAE false) [(((Exp.kind a0) : Int) == 1) = false, (((Exp.kind a0) : Int) == 2) = true, (((Exp.n a0) : Int) == 0) = false, false = false] := by kernel_rfl
theorem p98_e_6 (a0 : Exp) (r1 : Bool) : rE I98 (xAG a0) [F, F, Y, Y, Y] [xAm r1] = dn (xAE (((Ln (Exp.args a0) : Int) : Int) == 0)) [(((Exp.kind a0) : Int) == 1) = false, (((Exp.kind a0) : Int) == 2) = false, (((Exp.kind a0) : Int) == 3) = true, (((Exp.n a0) : Int) == 0) = true, AbC 93 (xAQ (Exp.text a0)) (xAm r1), r1 = true] := by kernel_rfl
theorem p98_e_7 (a0 : Exp) (r1 : Bool) : rE I98 (xAG a0) [F, F, Y, Y, F] [xAm r1] = dn (xAE false) [(((Exp.kind a0) : Int) == 1) = false, (((Exp.kind a0) : Int) == 2) = false, (((Exp.kind a0) : Int) == 3) = true, (((Exp.n a0) : Int) == 0) = true, AbC 93 (xAQ (Exp.text a0)) (xAm r1), r1 = false] := by kernel_rfl
theorem p98_e_8 (a0 : Exp) : rE I98 (xAG a0) [F, F, Y, F, F] [] = dn (xAE false) [(((Exp.kind a0) : Int) == 1) = false, (((Exp.kind a0) : Int) == 2) = false, (((Exp.kind a0) : Int) == 3) = true, (((Exp.n a0) : Int) == 0) = false, false = false] := by kernel_rfl
theorem p98_e_9 (a0 : Exp) : rE I98 (xAG a0) [F, F, F, Y, Y, Y] [] = dn (xAE (decide (((Ln (Exp.args a0) : Int) : Int) ≤ 8))) [(((Exp.kind a0) : Int) == 1) = false, (((Exp.kind a0) : Int) == 2) = false, (((Exp.kind a0) : Int) == 3) = false, (((Exp.kind a0) : Int) == 4) = true, (((Exp.n a0) : Int) == 0) = true, (((Exp.text a0) : Str) == []) = true] := by kernel_rfl
theorem p98_e_10 (a0 : Exp) : rE I98 (xAG a0) [F, F, F, Y, Y, F] [] = dn (xAE false) [(((Exp.kind a0) : Int) == 1) = false, (((Exp.kind a0) : Int) == 2) = false, (((Exp.kind a0) : Int) == 3) = false, (((Exp.kind a0) : Int) == 4) = true, (((Exp.n a0) : Int) == 0) = true, (((Exp.text a0) : Str) == []) = false] := by kernel_rfl
theorem p98_e_11 (a0 : Exp) : rE I98 (xAG a0) [F, F, F, Y, F, F] [] = dn (xAE false) [(((Exp.kind a0) : Int) == 1) = false, (((Exp.kind a0) : Int) == 2) = false, (((Exp.kind a0) : Int) == 3) = false, (((Exp.kind a0) : Int) == 4) = true, (((Exp.n a0) : Int) == 0) = false, false = false] := by kernel_rfl
theorem p98_e_12 (a0 : Exp) (r1 : Int) : rE I98 (xAG a0) [F, F, F, F, Y, Y] [xAg r1] = dn (xAE (((Ln (Exp.args a0) : Int) : Int) == r1)) [(((Exp.kind a0) : Int) == 1) = false, (((Exp.kind a0) : Int) == 2) = false, (((Exp.kind a0) : Int) == 3) = false, (((Exp.kind a0) : Int) == 4) = false, (((Exp.kind a0) : Int) == 5) = true, (((Exp.n a0) : Int) == 0) = true, AbC 117 (xAo (Exp.text a0)) (xAg r1)] := by kernel_rfl
theorem p98_e_13 (a0 : Exp) : rE I98 (xAG a0) [F, F, F, F, Y, F] [] = dn (xAE false) [(((Exp.kind a0) : Int) == 1) = false, (((Exp.kind a0) : Int) == 2) = false, (((Exp.kind a0) : Int) == 3) = false, (((Exp.kind a0) : Int) == 4) = false, (((Exp.kind a0) : Int) == 5) = true, (((Exp.n a0) : Int) == 0) = false] := by kernel_rfl
theorem p98_e_14 (a0 : Exp) (r1 : Bool) : rE I98 (xAG a0) [F, F, F, F, F, Y, Y, Y] [xAY r1] = dn (xAE (((Ln (Exp.args a0) : Int) : Int) == 2)) [(((Exp.kind a0) : Int) == 1) = false, (((Exp.kind a0) : Int) == 2) = false, (((Exp.kind a0) : Int) == 3) = false, (((Exp.kind a0) : Int) == 4) = false, (((Exp.kind a0) : Int) == 5) = false, (((Exp.kind a0) : Int) == 6) = true, AbC 97 (xB2 (Exp.n a0) 1 5) (xAY r1), r1 = true, (((Exp.text a0) : Str) == []) = true] := by kernel_rfl
theorem p98_e_15 (a0 : Exp) (r1 : Bool) : rE I98 (xAG a0) [F, F, F, F, F, Y, Y, F] [xAY r1] = dn (xAE false) [(((Exp.kind a0) : Int) == 1) = false, (((Exp.kind a0) : Int) == 2) = false, (((Exp.kind a0) : Int) == 3) = false, (((Exp.kind a0) : Int) == 4) = false, (((Exp.kind a0) : Int) == 5) = false, (((Exp.kind a0) : Int) == 6) = true, AbC 97 (xB2 (Exp.n a0) 1 5) (xAY r1), r1 = true, (((Exp.text a0) : Str) == []) = false] := by kernel_rfl
theorem p98_e_16 (a0 : Exp) (r1 : Bool) : rE I98 (xAG a0) [F, F, F, F, F, Y, F, F] [xAY r1] = dn (xAE false) [(((Exp.kind a0) : Int) == 1) = false, (((Exp.kind a0) : Int) == 2) = false, (((Exp.kind a0) : Int) == 3) = false, (((Exp.kind a0) : Int) == 4) = false, (((Exp.kind a0) : Int) == 5) = false, (((Exp.kind a0) : Int) == 6) = true, AbC 97 (xB2 (Exp.n a0) 1 5) (xAY r1), r1 = false, false = false] := by kernel_rfl
theorem p98_e_17 (a0 : Exp) (r1 : Bool) : rE I98 (xAG a0) [F, F, F, F, F, F, Y, Y, Y, Y] [xAm r1] = dn (xAE (((Ln (Exp.args a0) : Int) : Int) == 2)) [(((Exp.kind a0) : Int) == 1) = false, (((Exp.kind a0) : Int) == 2) = false, (((Exp.kind a0) : Int) == 3) = false, (((Exp.kind a0) : Int) == 4) = false, (((Exp.kind a0) : Int) == 5) = false, (((Exp.kind a0) : Int) == 6) = false, (((Exp.kind a0) : Int) == 7) = true, (((Exp.kind a0) : Int) == 7) = true, (((Exp.n a0) : Int) == 0) = true, AbC 93 (xAQ (Exp.text a0)) (xAm r1), r1 = true] := by kernel_rfl
theorem p98_e_18 (a0 : Exp) (r1 : Bool) : rE I98 (xAG a0) [F, F, F, F, F, F, Y, Y, Y, F] [xAm r1] = dn (xAE false) [(((Exp.kind a0) : Int) == 1) = false, (((Exp.kind a0) : Int) == 2) = false, (((Exp.kind a0) : Int) == 3) = false, (((Exp.kind a0) : Int) == 4) = false, (((Exp.kind a0) : Int) == 5) = false, (((Exp.kind a0) : Int) == 6) = false, (((Exp.kind a0) : Int) == 7) = true, (((Exp.kind a0) : Int) == 7) = true, (((Exp.n a0) : Int) == 0) = true, AbC 93 (xAQ (Exp.text a0)) (xAm r1), r1 = false] := by kernel_rfl
theorem p98_e_19 (a0 : Exp) : rE I98 (xAG a0) [F, F, F, F, F, F, Y, Y, F, F] [] = dn (xAE false) [(((Exp.kind a0) : Int) == 1) = false, (((Exp.kind a0) : Int) == 2) = false, (((Exp.kind a0) : Int) == 3) = false, (((Exp.kind a0) : Int) == 4) = false, (((Exp.kind a0) : Int) == 5) = false, (((Exp.kind a0) : Int) == 6) = false, (((Exp.kind a0) : Int) == 7) = true, (((Exp.kind a0) : Int) == 7) = true, (((Exp.n a0) : Int) == 0) = false, false = false] := by kernel_rfl
theorem p98_e_20 (a0 : Exp) (r1 : Bool) : rE I98 (xAG a0) [F, F, F, F, F, F, F, Y, Y, Y] [xAm r1] = dn (xAE (((Ln (Exp.args a0) : Int) : Int) == 2)) [(((Exp.kind a0) : Int) == 1) = false, (((Exp.kind a0) : Int) == 2) = false, (((Exp.kind a0) : Int) == 3) = false, (((Exp.kind a0) : Int) == 4) = false, (((Exp.kind a0) : Int) == 5) = false, (((Exp.kind a0) : Int) == 6) = false, (((Exp.kind a0) : Int) == 7) = false, (((Exp.kind a0) : Int) == 9) = true, (((Exp.n a0) : Int) == 0) = true, AbC 93 (xAQ (Exp.text a0)) (xAm r1), r1 = true] := by kernel_rfl
theorem p98_e_21 (a0 : Exp) (r1 : Bool) : rE I98 (xAG a0) [F, F, F, F, F, F, F, Y, Y, F] [xAm r1] = dn (xAE false) [(((Exp.kind a0) : Int) == 1) = false, (((Exp.kind a0) : Int) == 2) = false, (((Exp.kind a0) : Int) == 3) = false, (((Exp.kind a0) : Int) == 4) = false, (((Exp.kind a0) : Int) == 5) = false, (((Exp.kind a0) : Int) == 6) = false, (((Exp.kind a0) : Int) == 7) = false, (((Exp.kind a0) : Int) == 9) = true, (((Exp.n a0) : Int) == 0) = true, AbC 93 (xAQ (Exp.text a0)) (xAm r1), r1 = false] := by kernel_rfl
theorem p98_e_22 (a0 : Exp) : rE I98 (xAG a0) [F, F, F, F, F, F, F, Y, F, F] [] = dn (xAE false) [(((Exp.kind a0) : Int) == 1) = false, (((Exp.kind a0) : Int) == 2) = false, (((Exp.kind a0) : Int) == 3) = false, (((Exp.kind a0) : Int) == 4) = false, (((Exp.kind a0) : Int) == 5) = false, (((Exp.kind a0) : Int) == 6) = false, (((Exp.kind a0) : Int) == 7) = false, (((Exp.kind a0) : Int) == 9) = true, (((Exp.n a0) : Int) == 0) = false, false = false] := by kernel_rfl
theorem p98_e_23 (a0 : Exp) : rE I98 (xAG a0) [F, F, F, F, F, F, F, F, Y, Y, Y] [] = dn (xAE (((Ln (Exp.args a0) : Int) : Int) == 3)) [(((Exp.kind a0) : Int) == 1) = false, (((Exp.kind a0) : Int) == 2) = false, (((Exp.kind a0) : Int) == 3) = false, (((Exp.kind a0) : Int) == 4) = false, (((Exp.kind a0) : Int) == 5) = false, (((Exp.kind a0) : Int) == 6) = false, (((Exp.kind a0) : Int) == 7) = false, (((Exp.kind a0) : Int) == 9) = false, (((Exp.kind a0) : Int) == 8) = true, (((Exp.n a0) : Int) == 0) = true, (((Exp.text a0) : Str) == []) = true] := by kernel_rfl
theorem p98_e_24 (a0 : Exp) : rE I98 (xAG a0) [F, F, F, F, F, F, F, F, Y, Y, F] [] = dn (xAE false) [(((Exp.kind a0) : Int) == 1) = false, (((Exp.kind a0) : Int) == 2) = false, (((Exp.kind a0) : Int) == 3) = false, (((Exp.kind a0) : Int) == 4) = false, (((Exp.kind a0) : Int) == 5) = false, (((Exp.kind a0) : Int) == 6) = false, (((Exp.kind a0) : Int) == 7) = false, (((Exp.kind a0) : Int) == 9) = false, (((Exp.kind a0) : Int) == 8) = true, (((Exp.n a0) : Int) == 0) = true, (((Exp.text a0) : Str) == []) = false] := by kernel_rfl
theorem p98_e_25 (a0 : Exp) : rE I98 (xAG a0) [F, F, F, F, F, F, F, F, Y, F, F] [] = dn (xAE false) [(((Exp.kind a0) : Int) == 1) = false, (((Exp.kind a0) : Int) == 2) = false, (((Exp.kind a0) : Int) == 3) = false, (((Exp.kind a0) : Int) == 4) = false, (((Exp.kind a0) : Int) == 5) = false, (((Exp.kind a0) : Int) == 6) = false, (((Exp.kind a0) : Int) == 7) = false, (((Exp.kind a0) : Int) == 9) = false, (((Exp.kind a0) : Int) == 8) = true, (((Exp.n a0) : Int) == 0) = false, false = false] := by kernel_rfl
theorem p98_e_26 (a0 : Exp) : rE I98 (xAG a0) [F, F, F, F, F, F, F, F, F] [] = dn (xAE false) [(((Exp.kind a0) : Int) == 1) = false, (((Exp.kind a0) : Int) == 2) = false, (((Exp.kind a0) : Int) == 3) = false, (((Exp.kind a0) : Int) == 4) = false, (((Exp.kind a0) : Int) == 5) = false, (((Exp.kind a0) : Int) == 6) = false, (((Exp.kind a0) : Int) == 7) = false, (((Exp.kind a0) : Int) == 9) = false, (((Exp.kind a0) : Int) == 8) = false] := by kernel_rfl
theorem c98_e {N : Nat} : ∀ a0 r, xE9 N a0 = some r → RE Tryz.f98 I98 (xAG a0) (xAE r) := fun a0 r h =>
 cE h (fun h0 h => bE h fun r1 h1 h => cE h (fun h2 h => cE h (fun h3 h => dE h fk98 (p98_e_0 a0 r1) (oc h0 (oc (xDa h1) (oc h2 (oc h3 on))))) fun h3 h =>
 dE h fk98 (p98_e_1 a0 r1) (oc h0 (oc (xDa h1) (oc h2 (oc h3 on))))) fun h2 h =>
 dE h fk98 (p98_e_2 a0 r1) (oc h0 (oc (xDa h1) (oc h2 (oc rfl on))))) fun h0 h =>
 cE h (fun h1 h => cE h (fun h2 h => bE h fun r1 h3 h => cE h (fun h4 h => dE h fk98 (p98_e_3 a0 r1) (oc h0 (oc h1 (oc h2 (oc (xC3 h3) (oc h4 on)))))) fun h4 h =>
 dE h fk98 (p98_e_4 a0 r1) (oc h0 (oc h1 (oc h2 (oc (xC3 h3) (oc h4 on)))))) fun h2 h =>
 dE h fk98 (p98_e_5 a0) (oc h0 (oc h1 (oc h2 (oc rfl on))))) fun h1 h =>
 cE h (fun h2 h => cE h (fun h3 h => bE h fun r1 h4 h => cE h (fun h5 h => dE h fk98 (p98_e_6 a0 r1) (oc h0 (oc h1 (oc h2 (oc h3 (oc (xBb h4) (oc h5 on))))))) fun h5 h =>
 dE h fk98 (p98_e_7 a0 r1) (oc h0 (oc h1 (oc h2 (oc h3 (oc (xBb h4) (oc h5 on))))))) fun h3 h =>
 dE h fk98 (p98_e_8 a0) (oc h0 (oc h1 (oc h2 (oc h3 (oc rfl on)))))) fun h2 h =>
 cE h (fun h3 h => cE h (fun h4 h => cE h (fun h5 h => dE h fk98 (p98_e_9 a0) (oc h0 (oc h1 (oc h2 (oc h3 (oc h4 (oc h5 on))))))) fun h5 h =>
 dE h fk98 (p98_e_10 a0) (oc h0 (oc h1 (oc h2 (oc h3 (oc h4 (oc h5 on))))))) fun h4 h =>
 dE h fk98 (p98_e_11 a0) (oc h0 (oc h1 (oc h2 (oc h3 (oc h4 (oc rfl on))))))) fun h3 h =>
 cE h (fun h4 h => cE h (fun h5 h => bE h fun r1 h6 h => dE h fk98 (p98_e_12 a0 r1) (oc h0 (oc h1 (oc h2 (oc h3 (oc h4 (oc h5 (oc (xCK h6) on)))))))) fun h5 h =>
 dE h fk98 (p98_e_13 a0) (oc h0 (oc h1 (oc h2 (oc h3 (oc h4 (oc h5 on))))))) fun h4 h =>
 cE h (fun h5 h => bE h fun r1 h6 h => cE h (fun h7 h => cE h (fun h8 h => dE h fk98 (p98_e_14 a0 r1) (oc h0 (oc h1 (oc h2 (oc h3 (oc h4 (oc h5 (oc (xDa h6) (oc h7 (oc h8 on)))))))))) fun h8 h =>
 dE h fk98 (p98_e_15 a0 r1) (oc h0 (oc h1 (oc h2 (oc h3 (oc h4 (oc h5 (oc (xDa h6) (oc h7 (oc h8 on)))))))))) fun h7 h =>
 dE h fk98 (p98_e_16 a0 r1) (oc h0 (oc h1 (oc h2 (oc h3 (oc h4 (oc h5 (oc (xDa h6) (oc h7 (oc rfl on)))))))))) fun h5 h =>
 cE h (fun h6 h => cE h (fun h8 h => bE h fun r1 h9 h => cE h (fun h10 h => dE h fk98 (p98_e_17 a0 r1) (oc h0 (oc h1 (oc h2 (oc h3 (oc h4 (oc h5 (oc h6 (oc h6 (oc h8 (oc (xBb h9) (oc h10 on)))))))))))) fun h10 h =>
 dE h fk98 (p98_e_18 a0 r1) (oc h0 (oc h1 (oc h2 (oc h3 (oc h4 (oc h5 (oc h6 (oc h6 (oc h8 (oc (xBb h9) (oc h10 on)))))))))))) fun h8 h =>
 dE h fk98 (p98_e_19 a0) (oc h0 (oc h1 (oc h2 (oc h3 (oc h4 (oc h5 (oc h6 (oc h6 (oc h8 (oc rfl on))))))))))) fun h6 h =>
 cE h (fun h7 h => cE h (fun h8 h => bE h fun r1 h9 h => cE h (fun h10 h => dE h fk98 (p98_e_20 a0 r1) (oc h0 (oc h1 (oc h2 (oc h3 (oc h4 (oc h5 (oc h6 (oc h7 (oc h8 (oc (xBb h9) (oc h10 on)))))))))))) fun h10 h =>
 dE h fk98 (p98_e_21 a0 r1) (oc h0 (oc h1 (oc h2 (oc h3 (oc h4 (oc h5 (oc h6 (oc h7 (oc h8 (oc (xBb h9) (oc h10 on)))))))))))) fun h8 h =>
 dE h fk98 (p98_e_22 a0) (oc h0 (oc h1 (oc h2 (oc h3 (oc h4 (oc h5 (oc h6 (oc h7 (oc h8 (oc rfl on))))))))))) fun h7 h =>
 cE h (fun h8 h => cE h (fun h9 h => cE h (fun h10 h => dE h fk98 (p98_e_23 a0) (oc h0 (oc h1 (oc h2 (oc h3 (oc h4 (oc h5 (oc h6 (oc h7 (oc h8 (oc h9 (oc h10 on)))))))))))) fun h10 h =>
 dE h fk98 (p98_e_24 a0) (oc h0 (oc h1 (oc h2 (oc h3 (oc h4 (oc h5 (oc h6 (oc h7 (oc h8 (oc h9 (oc h10 on)))))))))))) fun h9 h =>
 dE h fk98 (p98_e_25 a0) (oc h0 (oc h1 (oc h2 (oc h3 (oc h4 (oc h5 (oc h6 (oc h7 (oc h8 (oc h9 (oc rfl on)))))))))))) fun h8 h =>
 dE h fk98 (p98_e_26 a0) (oc h0 (oc h1 (oc h2 (oc h3 (oc h4 (oc h5 (oc h6 (oc h7 (oc h8 on)))))))))
theorem impl_isNode_ok {N : Nat} {a0 : Exp} {r : Bool} (h : xE9 N  a0 = some r) : AbC 98 (xAG a0) (xAE r) :=
 AbsCalls.of_reach fk98 rfl rfl (Nat.le_of_ble_eq_true rfl) (c98_e a0 r h)
def G59 (q : Exp → Option (Bool)) : Prop := ∀ a0 r, q a0 = some r → AbC 59 (xCZ a0) (xBB r)
noncomputable def I59 : Info := { body := (Tryz.f59.body).getD .skip, nt := 18, results := [.tmp 2], keep := [0, 2, 4, 8, 12, 14, 16, 18, 28, 3, 9], live := [(2, [2, 12, 14, 16, 3])], modes := [(6, [(1, .take, false)])] }
theorem fk59 : FnOk Tryz.prog 59 Tryz.f59 I59 := ⟨Tryz.func59, by kernel_rfl, by kernel_rfl, by kernel_rfl, by kernel_rfl⟩
def S59_2 (x6 : List Exp) (x7 x8 : Int) (b1 : Exp) : St := [(2, .v false [.ptr 1 0]), (12, .v false [.sl .ro .exp x6]), (14, .v false [.int .i64 x7]), (16, .v false [.int .i64 x8]), (3, .v true [.int .i64 (Exp.kind b1), .int .i64 (Exp.n b1), .str (Exp.text b1), .sl .ro .exp (Exp.args b1)])]
theorem p59_2_0 (x6 : List Exp) (x7 x8 : Int) (b1 : Exp) (r1 : Bool) : rS 2 I59 (S59_2 x6 x7 x8 b1) [Y, Y] [xBB r1] = dn (xBB false) [(decide ((x8 : Int) < x7)) = true, (0 : Int) ≤ x8 ∧ x8 < (Ln x6), AbC 59 (xCZ (gD x6 (tN x8) Ty.exp.dflt)) (xBB r1), (!r1) = true] := by kernel_rfl
theorem p59_2_1 (x6 : List Exp) (x7 x8 : Int) (b1 : Exp) (r1 : Bool) : rS 2 I59 (S59_2 x6 x7 x8 b1) [Y, F] [xBB r1] = st 2 I59 (S59_2 x6 x7 (W (x8 + 1)) b1) [(decide ((x8 : Int) < x7)) = true, (0 : Int) ≤ x8 ∧ x8 < (Ln x6), AbC 59 (xCZ (gD x6 (tN x8) Ty.exp.dflt)) (xBB r1), (!r1) = false] := by kernel_rfl
theorem p59_2_2 (x6 : List Exp) (x7 x8 : Int) (b1 : Exp) (r1 : Bool) : rS 2 I59 (S59_2 x6 x7 x8 b1) [F] [xAE r1] = dn (xBB r1) [(decide ((x8 : Int) < x7)) = false, AbC 98 (xAG b1) (xAE r1)] := by kernel_rfl
theorem p59_e_3 (a0 : Exp) : rE I59 (xCZ a0) [] [] = st 2 I59 (S59_2 (Exp.args a0) (Ln (Exp.args a0) : Int) 0 a0) [] := by kernel_rfl
theorem c59_2 {N : Nat} {q0 : Exp → Option (Bool)} (g0 : G59 q0) : ∀ n x6 x7 x8 b1 r, xDn N q0 n x6 x7 x8 b1 = some r → RS Tryz.f59 I59 2 (S59_2 x6 x7 x8 b1) (xBB r) := by
 intro n
 induction n with
 | zero => exact fun _ _ _ _ _ h => nE h
 | succ n ih =>
  exact fun x6 x7 x8 b1 r h =>
   cE h (fun h0 h => iE h fun h1 h => bE h fun r1 h2 h => cE h (fun h3 h => dS h fk59 (p59_2_0 x6 x7 x8 b1 r1) (oc h0 (oc h1 (oc (g0 _ _ h2) (oc h3 on))))) fun h3 h =>
   tS fk59 (p59_2_1 x6 x7 x8 b1 r1) (oc h0 (oc h1 (oc (g0 _ _ h2) (oc h3 on)))) (ih _ _ _ _ _ h)) fun h0 h =>
   bE h fun r1 h1 h => dS h fk59 (p59_2_2 x6 x7 x8 b1 r1) (oc h0 (oc (impl_isNode_ok h1) on))
theorem c59_e {N : Nat} {q0 : Exp → Option (Bool)} (g0 : G59 q0) : ∀ a0 r, xEF N q0 a0 = some r → RE Tryz.f59 I59 (xCZ a0) (xBB r) := fun a0 r h =>
 tE fk59 (p59_e_3 a0) on (c59_2 g0 _ _ _ _ _ _ h)
theorem xF2 {N : Nat} {q0 : Exp → Option (Bool)} (g0 : G59 q0) {a0 : Exp} {r : Bool} (h : xEF N q0 a0 = some r) : AbC 59 (xCZ a0) (xBB r) :=
 AbsCalls.of_reach fk59 rfl rfl (Nat.le_of_ble_eq_true rfl) (c59_e g0 a0 r h)
theorem xEZ {N : Nat} : ∀ d, G59 (xDQ N d)
 | 0 => fun _ _ h => nE h
 | d + 1 => fun _ _ h => xF2 (N := N) (xEZ d) h
theorem impl_areNodes_ok {N : Nat} {a0 : Exp} {r : Bool} (h : xFM N a0 = some r) : AbC 59 (xCZ a0) (xBB r) := xEZ N _ r h
noncomputable def I32 : Info := { body := (Tryz.f32.body).getD .skip, nt := 15, results := [.tmp 2], keep := [0, 2, 4, 3], live := [], modes := [(1, [(3, .take, false), (8, .take, false)])] }
theorem fk32 : FnOk Tryz.prog 32 Tryz.f32 I32 := ⟨Tryz.func32, by kernel_rfl, by kernel_rfl, by kernel_rfl, by kernel_rfl⟩
theorem p32_e_0 (a0 : Exp) (r1 r2 : Int) (r3 : Bool) : rE I32 (xBu a0) [Y, Y] [xBh r1, xBz r2, xBB r3] = dn (xAP r3) [AbC 57 (xCo a0) (xBh r1), (decide ((r1 : Int) ≤ 40)) = true, AbC 58 (xCL a0) (xBz r2), (decide ((r2 : Int) ≤ 8)) = true, AbC 59 (xCZ a0) (xBB r3)] := by kernel_rfl
theorem p32_e_1 (a0 : Exp) (r1 r2 : Int) : rE I32 (xBu a0) [Y, F] [xBh r1, xBz r2] = dn (xAP false) [AbC 57 (xCo a0) (xBh r1), (decide ((r1 : Int) ≤ 40)) = true, AbC 58 (xCL a0) (xBz r2), (decide ((r2 : Int) ≤ 8)) = false] := by kernel_rfl
theorem p32_e_2 (a0 : Exp) (r1 : Int) : rE I32 (xBu a0) [F, F] [xBh r1] = dn (xAP false) [AbC 57 (xCo a0) (xBh r1), (decide ((r1 : Int) ≤ 40)) = false, false = false] := by kernel_rfl
theorem c32_e {N : Nat} : ∀ a0 r, xCD N a0 = some r → RE Tryz.f32 I32 (xBu a0) (xAP r) := fun a0 r h =>
 bE h fun r1 h0 h => cE h (fun h1 h => bE h fun r2 h2 h => cE h (fun h3 h => bE h fun r3 h4 h => dE h fk32 (p32_e_0 a0 r1 r2 r3) (oc (xEL h0) (oc h1 (oc (xFA h2) (oc h3 (oc (impl_areNodes_ok h4) on)))))) fun h3 h =>
 dE h fk32 (p32_e_1 a0 r1 r2) (oc (xEL h0) (oc h1 (oc (xFA h2) (oc h3 on))))) fun h1 h =>
 dE h fk32 (p32_e_2 a0 r1) (oc (xEL h0) (oc h1 (oc rfl on)))
theorem xC2 {N : Nat} {a0 : Exp} {r : Bool} (h : xCD N  a0 = some r) : AbC 32 (xBu a0) (xAP r) :=
 AbsCalls.of_reach fk32 rfl rfl (Nat.le_of_ble_eq_true rfl) (c32_e a0 r h)
noncomputable def I12 : Info := { body := (Tryz.f12.body).getD .skip, nt := 72, results := [.cell 2 25, .tmp 3], keep := [0, 4, 6, 8, 10, 12, 14, 28, 70, 98, 114, 138, 5, 15, 39], live := [], modes := [(1, [(2, .take, false)]), (6, [(5, .take, false)]), (14, [(0, .take, false)])] }
theorem fk12 : FnOk Tryz.prog 12 Tryz.f12 I12 := ⟨Tryz.func12, by kernel_rfl, by kernel_rfl, by kernel_rfl, by kernel_rfl⟩
theorem p12_e_0 (a0 : Str) (r1 : (List Tok) × Int) : rE I12 (xA4 a0) [Y] [xAr r1] = dn (xAZ ((Exp.mk 0 0 [] []), r1.2)) [AbC 30 (xA7 a0) (xAr r1), (decide ((r1.2 : Int) ≥ 0)) = true] := by kernel_rfl
theorem p12_e_1 (a0 : Str) (r1 : (List Tok) × Int) (r2 : Exp × Psr) : rE I12 (xA4 a0) [F, Y, Y, Y] [xAr r1, xAe r2] = dn (xAZ ((Exp.mk 0 0 [] []), (Ln a0 : Int))) [AbC 30 (xA7 a0) (xAr r1), (decide ((r1.2 : Int) ≥ 0)) = false, AbC 31 (xAk (Psr.mk r1.1 0 (-1))) (xAe r2), (decide (((Psr.bad r2.2) : Int) < 0)) = true, (decide (((Psr.pos r2.2) : Int) < (Ln r1.1 : Int))) = true, (decide (((Psr.pos r2.2) : Int) ≥ (Ln r1.1 : Int))) = true] := by kernel_rfl
theorem p12_e_2 (a0 : Str) (r1 : (List Tok) × Int) (r2 : Exp × Psr) : rE I12 (xA4 a0) [F, Y, Y, F, Y] [xAr r1, xAe r2] = dn (xAZ ((Exp.mk 0 0 [] []), (Tok.pos (gD r1.1 (tN (Psr.pos r2.2)) Ty.tok.dflt)))) [AbC 30 (xA7 a0) (xAr r1), (decide ((r1.2 : Int) ≥ 0)) = false, AbC 31 (xAk (Psr.mk r1.1 0 (-1))) (xAe r2), (decide (((Psr.bad r2.2) : Int) < 0)) = true, (decide (((Psr.pos r2.2) : Int) < (Ln r1.1 : Int))) = true, (decide (((Psr.pos r2.2) : Int) ≥ (Ln r1.1 : Int))) = false, (decide (((Psr.pos r2.2) : Int) ≥ 0)) = true, (0 : Int) ≤ (Psr.pos r2.2) ∧ (Psr.pos r2.2) < (Ln r1.1)] := by kernel_rfl
theorem p12_e_3 (a0 : Str) (r1 : (List Tok) × Int) (r2 : Exp × Psr) (r3 : Bool) : rE I12 (xA4 a0) [F, Y, Y, F, F, Y] [xAr r1, xAe r2, xAP r3] = dn (xAZ ((Exp.mk 0 0 [] []), 0)) [AbC 30 (xA7 a0) (xAr r1), (decide ((r1.2 : Int) ≥ 0)) = false, AbC 31 (xAk (Psr.mk r1.1 0 (-1))) (xAe r2), (decide (((Psr.bad r2.2) : Int) < 0)) = true, (decide (((Psr.pos r2.2) : Int) < (Ln r1.1 : Int))) = true, (decide (((Psr.pos r2.2) : Int) ≥ (Ln r1.1 : Int))) = false, (decide (((Psr.pos r2.2) : Int) ≥ 0)) = false, AbC 32 (xBu r2.1) (xAP r3), (!r3) = true] := by kernel_rfl
theorem p12_e_4 (a0 : Str) (r1 : (List Tok) × Int) (r2 : Exp × Psr) (r3 : Bool) : rE I12 (xA4 a0) [F, Y, Y, F, F, F] [xAr r1, xAe r2, xAP r3] = dn (xAZ (r2.1, (-1))) [AbC 30 (xA7 a0) (xAr r1), (decide ((r1.2 : Int) ≥ 0)) = false, AbC 31 (xAk (Psr.mk r1.1 0 (-1))) (xAe r2), (decide (((Psr.bad r2.2) : Int) < 0)) = true, (decide (((Psr.pos r2.2) : Int) < (Ln r1.1 : Int))) = true, (decide (((Psr.pos r2.2) : Int) ≥ (Ln r1.1 : Int))) = false, (decide (((Psr.pos r2.2) : Int) ≥ 0)) = false, AbC 32 (xBu r2.1) (xAP r3), (!r3) = false] := by kernel_rfl
theorem p12_e_5 (a0 : Str) (r1 : (List Tok) × Int) (r2 : Exp × Psr) : rE I12 (xA4 a0) [F, Y, F, Y] [xAr r1, xAe r2] = dn (xAZ ((Exp.mk 0 0 [] []), (Ln a0 : Int))) [AbC 30 (xA7 a0) (xAr r1), (decide ((r1.2 : Int) ≥ 0)) = false, AbC 31 (xAk (Psr.mk r1.1 0 (-1))) (xAe r2), (decide (((Psr.bad r2.2) : Int) < 0)) = true, (decide (((Psr.pos r2.2) : Int) < (Ln r1.1 : Int))) = false, (decide (((Psr.bad r2.2) : Int) ≥ (Ln r1.1 : Int))) = true] := by kernel_rfl
theorem p12_e_6 (a0 : Str) (r1 : (List Tok) × Int) (r2 : Exp × Psr) : rE I12 (xA4 a0) [F, Y, F, F, Y] [xAr r1, xAe r2] = dn (xAZ ((Exp.mk 0 0 [] []), (Tok.pos (gD r1.1 (tN (Psr.bad r2.2)) Ty.tok.dflt)))) [AbC 30 (xA7 a0) (xAr r1), (decide ((r1.2 : Int) ≥ 0)) = false, AbC 31 (xAk (Psr.mk r1.1 0 (-1))) (xAe r2), (decide (((Psr.bad r2.2) : Int) < 0)) = true, (decide (((Psr.pos r2.2) : Int) < (Ln r1.1 : Int))) = false, (decide (((Psr.bad r2.2) : Int) ≥ (Ln r1.1 : Int))) = false, (decide (((Psr.bad r2.2) : Int) ≥ 0)) = true, (0 : Int) ≤ (Psr.bad r2.2) ∧ (Psr.bad r2.2) < (Ln r1.1)] := by kernel_rfl
theorem p12_e_7 (a0 : Str) (r1 : (List Tok) × Int) (r2 : Exp × Psr) (r3 : Bool) : rE I12 (xA4 a0) [F, Y, F, F, F, Y] [xAr r1, xAe r2, xAP r3] = dn (xAZ ((Exp.mk 0 0 [] []), 0)) [AbC 30 (xA7 a0) (xAr r1), (decide ((r1.2 : Int) ≥ 0)) = false, AbC 31 (xAk (Psr.mk r1.1 0 (-1))) (xAe r2), (decide (((Psr.bad r2.2) : Int) < 0)) = true, (decide (((Psr.pos r2.2) : Int) < (Ln r1.1 : Int))) = false, (decide (((Psr.bad r2.2) : Int) ≥ (Ln r1.1 : Int))) = false, (decide (((Psr.bad r2.2) : Int) ≥ 0)) = false, AbC 32 (xBu r2.1) (xAP r3), (!r3) = true] := by kernel_rfl
theorem p12_e_8 (a0 : Str) (r1 : (List Tok) × Int) (r2 : Exp × Psr) (r3 : Bool) : rE I12 (xA4 a0) [F, Y, F, F, F, F] [xAr r1, xAe r2, xAP r3] = dn (xAZ (r2.1, (-1))) [AbC 30 (xA7 a0) (xAr r1), (decide ((r1.2 : Int) ≥ 0)) = false, AbC 31 (xAk (Psr.mk r1.1 0 (-1))) (xAe r2), (decide (((Psr.bad r2.2) : Int) < 0)) = true, (decide (((Psr.pos r2.2) : Int) < (Ln r1.1 : Int))) = false, (decide (((Psr.bad r2.2) : Int) ≥ (Ln r1.1 : Int))) = false, (decide (((Psr.bad r2.2) : Int) ≥ 0)) = false, AbC 32 (xBu r2.1) (xAP r3), (!r3) = false] := by kernel_rfl
theorem p12_e_9 (a0 : Str) (r1 : (List Tok) × Int) (r2 : Exp × Psr) : rE I12 (xA4 a0) [F, F, F, Y] [xAr r1, xAe r2] = dn (xAZ ((Exp.mk 0 0 [] []), (Ln a0 : Int))) [AbC 30 (xA7 a0) (xAr r1), (decide ((r1.2 : Int) ≥ 0)) = false, AbC 31 (xAk (Psr.mk r1.1 0 (-1))) (xAe r2), (decide (((Psr.bad r2.2) : Int) < 0)) = false, false = false, (decide (((Psr.bad r2.2) : Int) ≥ (Ln r1.1 : Int))) = true] := by kernel_rfl
theorem p12_e_10 (a0 : Str) (r1 : (List Tok) × Int) (r2 : Exp × Psr) : rE I12 (xA4 a0) [F, F, F, F, Y] [xAr r1, xAe r2] = dn (xAZ ((Exp.mk 0 0 [] []), (Tok.pos (gD r1.1 (tN (Psr.bad r2.2)) Ty.tok.dflt)))) [AbC 30 (xA7 a0) (xAr r1), (decide ((r1.2 : Int) ≥ 0)) = false, AbC 31 (xAk (Psr.mk r1.1 0 (-1))) (xAe r2), (decide (((Psr.bad r2.2) : Int) < 0)) = false, false = false, (decide (((Psr.bad r2.2) : Int) ≥ (Ln r1.1 : Int))) = false, (decide (((Psr.bad r2.2) : Int) ≥ 0)) = true, (0 : Int) ≤ (Psr.bad r2.2) ∧ (Psr.bad r2.2) < (Ln r1.1)] := by kernel_rfl
theorem p12_e_11 (a0 : Str) (r1 : (List Tok) × Int) (r2 : Exp × Psr) (r3 : Bool) : rE I12 (xA4 a0) [F, F, F, F, F, Y] [xAr r1, xAe r2, xAP r3] = dn (xAZ ((Exp.mk 0 0 [] []), 0)) [AbC 30 (xA7 a0) (xAr r1), (decide ((r1.2 : Int) ≥ 0)) = false, AbC 31 (xAk (Psr.mk r1.1 0 (-1))) (xAe r2), (decide (((Psr.bad r2.2) : Int) < 0)) = false, false = false, (decide (((Psr.bad r2.2) : Int) ≥ (Ln r1.1 : Int))) = false, (decide (((Psr.bad r2.2) : Int) ≥ 0)) = false, AbC 32 (xBu r2.1) (xAP r3), (!r3) = true] := by kernel_rfl
theorem p12_e_12 (a0 : Str) (r1 : (List Tok) × Int) (r2 : Exp × Psr) (r3 : Bool) : rE I12 (xA4 a0) [F, F, F, F, F, F] [xAr r1, xAe r2, xAP r3] = dn (xAZ (r2.1, (-1))) [AbC 30 (xA7 a0) (xAr r1), (decide ((r1.2 : Int) ≥ 0)) = false, AbC 31 (xAk (Psr.mk r1.1 0 (-1))) (xAe r2), (decide (((Psr.bad r2.2) : Int) < 0)) = false, false = false, (decide (((Psr.bad r2.2) : Int) ≥ (Ln r1.1 : Int))) = false, (decide (((Psr.bad r2.2) : Int) ≥ 0)) = false, AbC 32 (xBu r2.1) (xAP r3), (!r3) = false] := by kernel_rfl
theorem c12_e {N : Nat} : ∀ a0 r, xDr N a0 = some r → RE Tryz.f12 I12 (xA4 a0) (xAZ r) := fun a0 r h =>
 bE h fun r1 h0 h => cE h (fun h1 h => dE h fk12 (p12_e_0 a0 r1) (oc (xBA h0) (oc h1 on))) fun h1 h =>
 bE h fun r2 h2 h => cE h (fun h3 h => cE h (fun h4 h => cE h (fun h5 h => dE h fk12 (p12_e_1 a0 r1 r2) (oc (xBA h0) (oc h1 (oc (xBk h2) (oc h3 (oc h4 (oc h5 on))))))) fun h5 h =>
 cE h (fun h6 h => iE h fun h7 h => dE h fk12 (p12_e_2 a0 r1 r2) (oc (xBA h0) (oc h1 (oc (xBk h2) (oc h3 (oc h4 (oc h5 (oc h6 (oc h7 on))))))))) fun h6 h =>
 bE h fun r3 h7 h => cE h (fun h8 h => dE h fk12 (p12_e_3 a0 r1 r2 r3) (oc (xBA h0) (oc h1 (oc (xBk h2) (oc h3 (oc h4 (oc h5 (oc h6 (oc (xC2 h7) (oc h8 on)))))))))) fun h8 h =>
 dE h fk12 (p12_e_4 a0 r1 r2 r3) (oc (xBA h0) (oc h1 (oc (xBk h2) (oc h3 (oc h4 (oc h5 (oc h6 (oc (xC2 h7) (oc h8 on)))))))))) fun h4 h =>
 cE h (fun h5 h => dE h fk12 (p12_e_5 a0 r1 r2) (oc (xBA h0) (oc h1 (oc (xBk h2) (oc h3 (oc h4 (oc h5 on))))))) fun h5 h =>
 cE h (fun h6 h => iE h fun h7 h => dE h fk12 (p12_e_6 a0 r1 r2) (oc (xBA h0) (oc h1 (oc (xBk h2) (oc h3 (oc h4 (oc h5 (oc h6 (oc h7 on))))))))) fun h6 h =>
 bE h fun r3 h7 h => cE h (fun h8 h => dE h fk12 (p12_e_7 a0 r1 r2 r3) (oc (xBA h0) (oc h1 (oc (xBk h2) (oc h3 (oc h4 (oc h5 (oc h6 (oc (xC2 h7) (oc h8 on)))))))))) fun h8 h =>
 dE h fk12 (p12_e_8 a0 r1 r2 r3) (oc (xBA h0) (oc h1 (oc (xBk h2) (oc h3 (oc h4 (oc h5 (oc h6 (oc (xC2 h7) (oc h8 on)))))))))) fun h3 h =>
 cE h (fun h5 h => dE h fk12 (p12_e_9 a0 r1 r2) (oc (xBA h0) (oc h1 (oc (xBk h2) (oc h3 (oc rfl (oc h5 on))))))) fun h5 h =>
 cE h (fun h6 h => iE h fun h7 h => dE h fk12 (p12_e_10 a0 r1 r2) (oc (xBA h0) (oc h1 (oc (xBk h2) (oc h3 (oc rfl (oc h5 (oc h6 (oc h7 on))))))))) fun h6 h =>
 bE h fun r3 h7 h => cE h (fun h8 h => dE h fk12 (p12_e_11 a0 r1 r2 r3) (oc (xBA h0) (oc h1 (oc (xBk h2) (oc h3 (oc rfl (oc h5 (oc h6 (oc (xC2 h7) (oc h8 on)))))))))) fun h8 h =>
 dE h fk12 (p12_e_12 a0 r1 r2 r3) (oc (xBA h0) (oc h1 (oc (xBk h2) (oc h3 (oc rfl (oc h5 (oc h6 (oc (xC2 h7) (oc h8 on)))))))))
theorem impl_ParseExpr_ok {N : Nat} {a0 : Str} {r : Exp × Int} (h : xDr N  a0 = some r) : AbC 12 (xA4 a0) (xAZ r) :=
 AbsCalls.of_reach fk12 rfl rfl (Nat.le_of_ble_eq_true rfl) (c12_e a0 r h)
noncomputable def I10 : Info := { body := (Tryz.f10.body).getD .skip, nt := 12, results := [.tmp 2], keep := [0, 4, 8, 7], live := [], modes := [(1, [(2, .take, false)]), (2, [(0, .take, false)])] }
theorem fk10 : FnOk Tryz.prog 10 Tryz.f10 I10 := ⟨Tryz.func10, by kernel_rfl, by kernel_rfl, by kernel_rfl, by kernel_rfl⟩
theorem p10_e_0 (a0 : Str) (r1 : Exp × Int) : rE I10 (xDJ a0) [] [xAZ r1] = dn (xCP (decide ((r1.2 : Int) ≥ 0))) [AbC 12 (xA4 a0) (xAZ r1)] := by kernel_rfl
theorem c10_e {N : Nat} : ∀ a0 r, xD7 N a0 = some r → RE Tryz.f10 I10 (xDJ a0) (xCP r) := fun a0 r h =>
 bE h fun r1 h0 h => dE h fk10 (p10_e_0 a0 r1) (oc (impl_ParseExpr_ok h0) on)
theorem xFn {N : Nat} {a0 : Str} {r : Bool} (h : xD7 N  a0 = some r) : AbC 10 (xDJ a0) (xCP r) :=
 AbsCalls.of_reach fk10 rfl rfl (Nat.le_of_ble_eq_true rfl) (c10_e a0 r h)
noncomputable def I3 : Info := { body := (Tryz.f3.body).getD .skip, nt := 15, results := [.tmp 2], keep := [0, 4, 6, 8, 14, 28], live := [], modes := [(5, [(0, .take, false), (1, .take, false)])] }
theorem fk3 : FnOk Tryz.prog 3 Tryz.f3 I3 := ⟨Tryz.func3, by kernel_rfl, by kernel_rfl, by kernel_rfl, by kernel_rfl⟩
theorem p3_e_0 (a0 : Str) : rE I3 (xCz a0) [Y] [] = dn (xCA true) [(decide (((Ln a0 : Int) : Int) > 1048576)) = true] := by kernel_rfl
theorem p3_e_1 (a0 : Str) (r1 r2 : Bool) : rE I3 (xCz a0) [F, Y] [xCR r1, xCP r2] = dn (xCA false) [(decide (((Ln a0 : Int) : Int) > 1048576)) = false, AbC 9 (xDM a0) (xCR r1), AbC 10 (xDJ a0) (xCP r2), (!((r2 : Bool) == r1)) = true] := by kernel_rfl
theorem p3_e_2 (a0 : Str) (r1 r2 : Bool) : rE I3 (xCz a0) [F, F] [xCR r1, xCP r2] = dn (xCA true) [(decide (((Ln a0 : Int) : Int) > 1048576)) = false, AbC 9 (xDM a0) (xCR r1), AbC 10 (xDJ a0) (xCP r2), (!((r2 : Bool) == r1)) = false] := by kernel_rfl
theorem c3_e {N : Nat} : ∀ a0 r, xDB N a0 = some r → RE Tryz.f3 I3 (xCz a0) (xCA r) := fun a0 r h =>
 cE h (fun h0 h => dE h fk3 (p3_e_0 a0) (oc h0 on)) fun h0 h =>
 bE h fun r1 h1 h => bE h fun r2 h2 h => cE h (fun h3 h => dE h fk3 (p3_e_1 a0 r1 r2) (oc h0 (oc (xFq h1) (oc (xFn h2) (oc h3 on))))) fun h3 h =>
 dE h fk3 (p3_e_2 a0 r1 r2) (oc h0 (oc (xFq h1) (oc (xFn h2) (oc h3 on))))
theorem laws_FnExactParseError_ok {N : Nat} {a0 : Str} {r : Bool} (h : xDB N  a0 = some r) : AbC 3 (xCz a0) (xCA r) :=
 AbsCalls.of_reach fk3 rfl rfl (Nat.le_of_ble_eq_true rfl) (c3_e a0 r h)
end Go.Ab.T
end
section
open Go.Proofs
namespace Go.Ab.T
set_option linter.unusedVariables false
set_option maxRecDepth 100000
variable [Inhabited Lb]
variable [Nonempty Tab10]
variable [Nonempty ErrVars]
noncomputable def I64 : Info := { body := (Tryz.f64.body).getD .skip, nt := 12, results := [.tmp 4], keep := [0, 2, 8, 1], live := [], modes := [], ext := [0] }
end Go.Ab.T
end
section
namespace Go.Ab
set_option linter.unusedVariables false
def Big (p : Nat → Prop) : Prop := ∃ k, ∀ N, k ≤ N → p N
def Big2 (p : Nat → Nat → Prop) : Prop := ∃ k, ∀ N n, k ≤ N → k ≤ n → p N n
theorem Big.imp {p q : Nat → Prop} (h : Big p) (f : ∀ N, p N → q N) : Big q := h.elim fun k hk => ⟨k, fun N hN => f N (hk N hN)⟩
theorem Big2.imp {p q : Nat → Nat → Prop} (h : Big2 p) (f : ∀ N n, p N n → q N n) : Big2 q := h.elim fun k hk => ⟨k, fun N n h1 h2 => f N n (hk N n h1 h2)⟩
theorem Big.of {p : Nat → Prop} (h : ∀ N, p N) : Big p := ⟨0, fun N _ => h N⟩
theorem Big2.of {p : Nat → Nat → Prop} (h : ∀ N n, p N n) : Big2 p := ⟨0, fun N n _ _ => h N n⟩
theorem Big.and {p q : Nat → Prop} (h : Big p) (h' : Big q) : Big fun N => p N ∧ q N := by
  obtain ⟨a, ha⟩ := h; obtain ⟨b, hb⟩ := h'
  exact ⟨max a b, fun N hN => ⟨ha N (by omega), hb N (by omega)⟩⟩
theorem Big2.and {p q : Nat → Nat → Prop} (h : Big2 p) (h' : Big2 q) : Big2 fun N n => p N n ∧ q N n := by
  obtain ⟨a, ha⟩ := h; obtain ⟨b, hb⟩ := h'
  exact ⟨max a b, fun N n h1 h2 => ⟨ha N n (by omega) (by omega), hb N n (by omega) (by omega)⟩⟩
theorem Big.two {p : Nat → Prop} (h : Big p) : Big2 fun N _ => p N := h.elim fun k hk => ⟨k, fun N _ h _ => hk N h⟩
theorem Big2.diag {p : Nat → Nat → Prop} (h : Big2 p) : Big fun N => p N N := h.elim fun k hk => ⟨k, fun N h => hk N N h h⟩
theorem Big2.succ {p : Nat → Nat → Prop} (h : Big2 fun N n => p N (n + 1)) : Big2 p := by
  obtain ⟨k, hk⟩ := h
  refine ⟨k + 1, fun N n h1 h2 => ?_⟩
  obtain ⟨m, rfl⟩ : ∃ m, n = m + 1 := ⟨n - 1, by omega⟩
  exact hk N m (by omega) (by omega)
theorem Big2.list {α : Type} {p : α → Nat → Nat → Prop} {l : List α} (h : ∀ x ∈ l, Big2 (p x)) : Big2 fun N n => ∀ x ∈ l, p x N n := by
  induction l with
  | nil => exact .of fun N n x hx => by cases hx
  | cons a l ih =>
    refine ((h a List.mem_cons_self).and (ih fun x hx => h x (List.mem_cons_of_mem _ hx))).imp fun N n ⟨h1, h2⟩ x hx => ?_
    rcases List.mem_cons.1 hx with rfl | hx
    · exact h1
    · exact h2 x hx
theorem Big.get {p : Nat → Prop} (h : Big p) : ∃ N, p N := h.elim fun k hk => ⟨k, hk k (Nat.le_refl k)⟩
def I64 (x : Int) : Prop := -9223372036854775808 ≤ x ∧ x ≤ 9223372036854775807
theorem wrap_i64_def (x : Int) : IntKind.i64.wrap x = if x % 18446744073709551616 ≥ 9223372036854775808 then x % 18446744073709551616 - 18446744073709551616 else x % 18446744073709551616 := by
  show (if (true && decide (x % 18446744073709551616 ≥ 9223372036854775808)) = true then x % 18446744073709551616 - 18446744073709551616 else x % 18446744073709551616) = _
  simp only [Bool.true_and, decide_eq_true_eq]
theorem wrap_u8_def (x : Int) : IntKind.u8.wrap x = x % 256 := by
  show (if (false && decide (x % 256 ≥ 128)) = true then x % 256 - 256 else x % 256) = _
  simp
theorem xCc {x : Int} (h1 : -9223372036854775808 ≤ x) (h2 : x ≤ 9223372036854775807) : IntKind.i64.wrap x = x := by
  rw [wrap_i64_def]
  split <;> omega
theorem wrap_u8 {x : Int} (h1 : 0 ≤ x) (h2 : x ≤ 255) : IntKind.u8.wrap x = x := by
  rw [wrap_u8_def]
  omega
theorem xDf {α : Type} {xs : List α} {i : Nat} {x : α} {l : List α} (h : xs.drop i = x :: l) : i < xs.length ∧ xs[i]? = some x ∧ xs.drop (i + 1) = l := by
  have h1 : i < xs.length := by
    rcases Nat.lt_or_ge i xs.length with h1 | h1
    · exact h1
    · rw [List.drop_eq_nil_of_le h1] at h; cases h
  rw [List.drop_eq_getElem_cons h1] at h
  cases h
  exact ⟨h1, by simp [h1], rfl⟩
theorem xFJ {α : Type} {xs : List α} {i : Nat} (h : xs.drop i = []) : xs.length ≤ i := by simpa using h
end Go.Ab
end
section
namespace Go.Ab
set_option linter.unusedVariables false
inductive DK (K : Nat) : D → Prop where
  | int {k n} (h : (Lit.int k n).wf = true) : DK K (.int k n)
  | bool (b) : DK K (.bool b)
  | str {s : Str} (h : s.length ≤ K) : DK K (.str s)
  | sl {sz rows} (h : rows.length ≤ K) (hr : ∀ r ∈ rows, ∀ x ∈ r, DK K x) : DK K (.sl sz rows)
theorem wf_i64 {n : Int} : (Lit.int .i64 n).wf = true ↔ I64 n := by
  show (decide (_ ≤ n) && decide (n ≤ _)) = true ↔ _
  rw [Bool.and_eq_true, decide_eq_true_eq, decide_eq_true_eq]
  exact Iff.rfl
theorem DK.i64 {K : Nat} {n : Int} : DK K (.int .i64 n) ↔ I64 n := ⟨fun h => by cases h with | int h => exact wf_i64.1 h, fun h => .int (wf_i64.2 h)⟩
theorem DK.str_iff {K : Nat} {s : Str} : DK K (.str s) ↔ s.length ≤ K := ⟨fun h => by cases h; assumption, .str⟩
theorem DK.sl_iff {K sz : Nat} {α : Type} {f : α → List D} {xs : List α} : DK K (.sl sz (xs.map f)) ↔ xs.length ≤ K ∧ ∀ x ∈ xs, ∀ d ∈ f x, DK K d := by
  constructor
  · intro h
    cases h with
    | sl h hr => exact ⟨by simpa using h, fun x hx => hr _ (List.mem_map_of_mem hx)⟩
  · rintro ⟨h, hr⟩
    refine .sl (by simpa using h) fun r hr' => ?_
    obtain ⟨x, hx, rfl⟩ := List.mem_map.1 hr'
    exact hr x hx
def LFit {α : Type} (K : Nat) (p : α → Prop) (l : List α) : Prop := l.length ≤ K ∧ ∀ x ∈ l, p x
def Ty.Fit (K : Nat) (T : Ty) (x : T.den) : Prop := ∀ d ∈ T.toD x, DK K d
def Org.Fit (o : Org) : Prop := I64 o.cell ∧ I64 o.row
def Rowd.Fit (K : Nat) (r : Rowd) : Prop := LFit K I64 r.cells ∧ LFit K Org.Fit r.frm
def Str.Fit (K : Nat) (s : Str) : Prop := s.length ≤ K
def Exp.Fit (K : Nat) (v : Exp) : Prop := ∀ d ∈ Exp.toD v, DK K d
def Fil.Fit (K : Nat) (v : Fil) : Prop := Str.Fit K v.name ∧ I64 v.n
def Tok.Fit (K : Nat) (v : Tok) : Prop := I64 v.kind ∧ I64 v.n ∧ I64 v.pos ∧ Str.Fit K v.text
theorem rowd_fit {K : Nat} {r : Rowd} : (∀ d ∈ Rowd.toD r, DK K d) ↔ r.Fit K := by
  simp only [Rowd.toD, List.mem_cons, List.not_mem_nil, or_false, forall_eq_or_imp, forall_eq, DK.sl_iff, DK.i64, Rowd.Fit, LFit, Org.Fit]
theorem fil_fit {K : Nat} {r : Fil} : Ty.Fit K .fil r ↔ r.Fit K := by
  simp only [Ty.Fit, Ty.toD, List.mem_cons, List.not_mem_nil, or_false, forall_eq_or_imp, forall_eq, DK.str_iff, DK.i64, Fil.Fit, Str.Fit]
theorem Exp.fit_iff {K : Nat} {v : Exp} : v.Fit K ↔ I64 v.kind ∧ I64 v.n ∧ Str.Fit K v.text ∧ LFit K (Exp.Fit K) v.args := by
  cases v
  simp only [Exp.Fit, Exp.toD, Exp.toDs_eq, List.mem_cons, List.not_mem_nil, or_false, forall_eq_or_imp, forall_eq, DK.sl_iff, DK.i64, DK.str_iff, Str.Fit, LFit, Exp.kind, Exp.n, Exp.text, Exp.args]
theorem sizeOf_mem_args {l : List Exp} {x : Exp} (h : x ∈ l) (k n : Int) (t : Str) : SizeOf.sizeOf x < SizeOf.sizeOf (Exp.mk k n t l) := by
  have := List.sizeOf_lt_of_mem h
  simp only [Exp.mk.sizeOf_spec]
  omega
theorem Exp.ind {p : Exp → Prop} (h : ∀ k n t l, (∀ x ∈ l, p x) → p (.mk k n t l)) : ∀ v, p v
  | .mk k n t l => h k n t l fun x hx => Exp.ind h x
termination_by v => SizeOf.sizeOf v
decreasing_by exact sizeOf_mem_args hx k n t
end Go.Ab
end
section
namespace Go.Ab
set_option linter.unusedVariables false
theorem xEX {α σ ρ : Type} {L : Nat → Int → σ → Option ρ} (x0 : List α) (g : List α → σ → ρ) (Inv : Nat → σ → Prop)
    (hnil : ∀ n s, Inv x0.length s → L (n + 1) (x0.length : Nat) s = some (g [] s))
    (hcons : ∀ i x l s, x0.drop i = x :: l → i < x0.length → x0[i]? = some x → Inv i s →
      (∃ s', Inv (i + 1) s' ∧ g (x :: l) s = g l s' ∧ ∀ n, L (n + 1) (i : Nat) s = L n ((i + 1 : Nat) : Int) s') ∨ (∀ n, L (n + 1) (i : Nat) s = some (g (x :: l) s))) :
    ∀ n i s, Inv i s → i ≤ x0.length → x0.length < n + i → L n (i : Nat) s = some (g (x0.drop i) s) := by
  intro n
  induction n with
  | zero => intro i s _ h1 h2; omega
  | succ n ih =>
    intro i s hs hi hn
    cases hd : x0.drop i with
    | nil =>
      have := xFJ hd
      obtain rfl : i = x0.length := by omega
      exact hnil n s hs
    | cons x l =>
      obtain ⟨h1, h2, h3⟩ := xDf hd
      rcases hcons i x l s hd h1 h2 hs with ⟨s', h4, h5, h6⟩ | h
      · rw [h6, ih (i + 1) s' h4 (by omega) (by omega), h3, h5]
      · exact h n
theorem xCx {α : Type} {xs : List α} {i : Nat} {x : α} (h : xs[i]? = some x) (d : α) : xs.getD i d = x := by simp [List.getD, h]
theorem xB1 {i : Nat} {len : Nat} (h : i < len) (hl : len ≤ 9223372036854775807) : IntKind.i64.wrap ((i : Int) + 1) = ((i + 1 : Nat) : Int) := by
  rw [xCc (by omega) (by omega)]; omega
def left (s : Nat) (l : Int) : Int := if (s : Int) ≤ l then l - s else -1
theorem left_of {s : Nat} {l : Int} (h : (s : Int) ≤ l) : left s l = l - s := by unfold left; rw [if_pos h]
theorem left_not {s : Nat} {l : Int} (h : ¬ (s : Int) ≤ l) : left s l = -1 := by unfold left; rw [if_neg h]
section
variable {α : Type} {d : α}
end
end Go.Ab
end
section
namespace Go.Ab
set_option linter.unusedVariables false
theorem vk (a b c : Int) (t : Str) (l : List Val) (k : List Str) (r : List Rowd) : (Val.mk a b c t l k r).kind = a := rfl
theorem vs (a b c : Int) (t : Str) (l : List Val) (k : List Str) (r : List Rowd) : (Val.mk a b c t l k r).step = c := rfl
theorem vl (a b c : Int) (t : Str) (l : List Val) (k : List Str) (r : List Rowd) : (Val.mk a b c t l k r).list = l := rfl
theorem ek (a b : Int) (t : Str) (l : List Exp) : (Exp.mk a b t l).kind = a := rfl
theorem ea (a b : Int) (t : Str) (l : List Exp) : (Exp.mk a b t l).args = l := rfl
mutual
def Exp.size : Exp → Nat
  | .mk _ _ t a => t.length + (a.length + Exp.sizes a)
def Exp.sizes : List Exp → Nat
  | [] => 0
  | x :: r => Exp.size x + Exp.sizes r
end
theorem Exp.sizes_eq (l : List Exp) : Exp.sizes l = (l.map Exp.size).sum := by
  induction l with
  | nil => rfl
  | cons x l ih => simp [Exp.sizes, ih]
theorem size_mem {α : Type} {f : α → Nat} {l : List α} {x : α} (h : x ∈ l) : f x ≤ (l.map f).sum := by
  induction l with
  | nil => cases h
  | cons a l ih =>
    simp only [List.map_cons, List.sum_cons]
    rcases List.mem_cons.1 h with rfl | h
    · omega
    · have := ih h; omega
theorem Exp.size_eq (e : Exp) : e.size = e.text.length + (e.args.length + (e.args.map Exp.size).sum) := by
  cases e; simp [Exp.size, Exp.sizes_eq, Exp.text, Exp.args]
theorem big_lt (n : Nat) : Big fun N => n < N := ⟨n + 1, fun N h => by omega⟩
end Go.Ab
end
section
namespace Go.Ab
set_option linter.unusedVariables false
set_option linter.unusedSimpArgs false
def xGk (c : UInt8) : Bool := decide ((c.toNat : Int) ≥ 97) && decide ((c.toNat : Int) ≤ 122)
def digitC (c : UInt8) : Bool := decide ((c.toNat : Int) ≥ 48) && decide ((c.toNat : Int) ≤ 57)
def xFp : List UInt8 → Bool → Bool
  | [], _ => true
  | x :: r, f => (xGk x || (!f && digitC x)) && xFp r false
theorem spec_l2Shape_eq {N : Nat} {s : Str} (hl : s.length ≤ 9223372036854775807) (hn : s.length < N) : xFt N s = some (xFp s true && decide ((s.length : Int) > 0)) :=
  xEX (L := fun n i _ => xCB N n s i) s (fun l f => xFp l f && decide ((s.length : Int) > 0)) (fun i f => f = (i == 0)) (fun n _ _ => by simp [xCB, xFp])
    (fun i x l f hd hi hx hf => by
      have hi' : (i : Int) < (s.length : Int) := by omega
      have hi0 : ((i : Int) == 0) = f := by rw [hf]; cases i <;> simp <;> omega
      by_cases h1 : (xGk x || (!f && digitC x)) = true
      · refine .inl ⟨false, by simp, by simp [xFp, h1], fun n => ?_⟩
        simp only [xCB, decide_eq_true hi', cond_true, Int.toNat_natCast, xCx hx, xB1 hi hl, hi0]
        rw [if_pos (by omega)]
        unfold xGk digitC at h1
        by_cases c1 : (x.toNat : Int) ≥ 97 <;> by_cases c2 : (x.toNat : Int) ≤ 122 <;> by_cases c3 : (x.toNat : Int) ≥ 48 <;> by_cases c4 : (x.toNat : Int) ≤ 57 <;> cases f <;>
          simp only [c1, c2, c3, c4, decide_true, decide_false, cond_true, cond_false, Bool.not_true, Bool.not_false, Bool.and_true, Bool.and_false, Bool.or_true, Bool.or_false, Bool.false_and, Bool.true_and, Bool.false_or, Bool.false_eq_true] at h1 ⊢
      · refine .inr fun n => ?_
        have h1 := Bool.eq_false_iff.2 h1
        simp only [xCB, decide_eq_true hi', cond_true, Int.toNat_natCast, xCx hx, xB1 hi hl, hi0, xFp, h1, Bool.false_and]
        rw [if_pos (by omega)]
        unfold xGk digitC at h1
        by_cases c1 : (x.toNat : Int) ≥ 97 <;> by_cases c2 : (x.toNat : Int) ≤ 122 <;> by_cases c3 : (x.toNat : Int) ≥ 48 <;> by_cases c4 : (x.toNat : Int) ≤ 57 <;> cases f <;>
          simp only [c1, c2, c3, c4, decide_true, decide_false, cond_true, cond_false, Bool.not_true, Bool.not_false, Bool.and_true, Bool.and_false, Bool.or_true, Bool.or_false, Bool.false_and, Bool.true_and, Bool.false_or, Bool.true_eq_false] at h1 ⊢) N 0 true rfl (by omega) (by omega)
theorem xGh (N : Nat) (a b c : Int) : xD8 N a b c = some (decide (b ≤ a) && decide (a ≤ c)) := by
  unfold xD8
  cases h : decide (b ≤ a) <;> simp
theorem spec_l1In_eq (N : Nat) (a b c : Int) : xFG N a b c = some (decide (b ≤ a) && decide (a ≤ c)) := by
  unfold xFG
  cases h : decide (b ≤ a)
  · rfl
  · rfl
theorem impl_isWord_eq {N : Nat} {s : Str} (hl : s.length ≤ 9223372036854775807) (hn : s.length < N) : xFN N s = some (xFp s true && (decide ((1 : Int) ≤ s.length) && decide ((s.length : Int) ≤ 8))) :=
  xEX (L := fun n i _ => xC9 N n s i) s (fun l f => xFp l f && (decide ((1 : Int) ≤ s.length) && decide ((s.length : Int) ≤ 8))) (fun i f => f = (i == 0)) (fun n _ _ => by simp [xC9, xFp, xGh])
    (fun i x l f hd hi hx hf => by
      have hi' : (i : Int) < (s.length : Int) := by omega
      have hi0 : ((i : Int) == 0) = f := by rw [hf]; cases i <;> simp <;> omega
      have e1 : decide ((x.toNat : Int) < 48) = !decide ((x.toNat : Int) ≥ 48) := by by_cases c : (x.toNat : Int) ≥ 48 <;> simp [c] <;> omega
      have e2 : decide ((x.toNat : Int) > 57) = !decide ((x.toNat : Int) ≤ 57) := by by_cases c : (x.toNat : Int) ≤ 57 <;> simp [c] <;> omega
      by_cases h1 : (xGk x || (!f && digitC x)) = true
      · refine .inl ⟨false, by simp, by simp [xFp, h1], fun n => ?_⟩
        simp only [xC9, decide_eq_true hi', cond_true, Int.toNat_natCast, xCx hx, xB1 hi hl, hi0, e1, e2]
        rw [if_pos (by omega)]
        unfold xGk digitC at h1
        by_cases c1 : (x.toNat : Int) ≥ 97 <;> by_cases c2 : (x.toNat : Int) ≤ 122 <;> by_cases c3 : (x.toNat : Int) ≥ 48 <;> by_cases c4 : (x.toNat : Int) ≤ 57 <;> cases f <;>
          simp only [c1, c2, c3, c4, decide_true, decide_false, cond_true, cond_false, Bool.not_true, Bool.not_false, Bool.and_true, Bool.and_false, Bool.or_true, Bool.or_false, Bool.false_and, Bool.true_and, Bool.false_or, Bool.false_eq_true] at h1 ⊢
      · refine .inr fun n => ?_
        have h1 := Bool.eq_false_iff.2 h1
        simp only [xC9, decide_eq_true hi', cond_true, Int.toNat_natCast, xCx hx, xB1 hi hl, hi0, e1, e2, xFp, h1, Bool.false_and]
        rw [if_pos (by omega)]
        unfold xGk digitC at h1
        by_cases c1 : (x.toNat : Int) ≥ 97 <;> by_cases c2 : (x.toNat : Int) ≤ 122 <;> by_cases c3 : (x.toNat : Int) ≥ 48 <;> by_cases c4 : (x.toNat : Int) ≤ 57 <;> cases f <;>
          simp only [c1, c2, c3, c4, decide_true, decide_false, cond_true, cond_false, Bool.not_true, Bool.not_false, Bool.and_true, Bool.and_false, Bool.or_true, Bool.or_false, Bool.false_and, Bool.true_and, Bool.false_or, Bool.true_eq_false] at h1 ⊢) N 0 true rfl (by omega) (by omega)
def xFE : List Str := [[108, 101, 116], [105, 110], [105, 102], [116, 104, 101, 110], [101, 108, 115, 101], [102, 111, 114], [100, 111], [108, 101, 110], [115, 117, 109], [116, 97, 107, 101], [115, 107, 105, 112], [114, 97, 110, 103, 101], [110, 116, 104], [119, 104, 101, 114, 101], [107, 101, 101, 112], [97, 100, 100], [103, 114, 111, 117, 112], [106, 111, 105, 110], [99, 111, 108, 117, 109, 110], [114, 111, 119, 115], [99, 108, 111, 99, 107], [99, 104, 97, 110, 99, 101], [102, 105, 108, 101], [116, 97, 98, 108, 101]]
theorem spec_l1Has_eq {N : Nat} {xs : List Str} {s : Str} (hl : xs.length ≤ 9223372036854775807) (hn : xs.length < N) : xF9 N xs s = some (xs.any (· == s)) :=
  xEX (σ := Unit) (L := fun n i _ => xD0 N n xs s i) xs (fun l _ => l.any (· == s)) (fun _ _ => True) (fun n _ _ => by simp [xD0])
    (fun i x l _ hd hi hx _ => by
      have hi' : (i : Int) < (xs.length : Int) := by omega
      cases h1 : x == s
      · refine .inl ⟨(), trivial, by simp [h1], fun n => ?_⟩
        simp only [xD0, decide_eq_true hi', cond_true, Int.toNat_natCast, xCx hx, h1, cond_false, xB1 hi hl]
        rw [if_pos (by omega)]
      · refine .inr fun n => ?_
        simp only [xD0, decide_eq_true hi', cond_true, Int.toNat_natCast, xCx hx, h1]
        rw [if_pos (by omega)]
        simp [h1]) N 0 () trivial (by omega) (by omega)
def xF8 (s : Str) : Bool := xFE.any (· == s)
theorem spec_IsReserved_eq {N : Nat} {s : Str} (hn : 24 < N) : xEb N s = some (xF8 s) := by
  unfold xEb xEI
  rw [Option.bind_some, show ([[108, 101, 116], [105, 110], [105, 102], [116, 104, 101, 110], [101, 108, 115, 101], [102, 111, 114], [100, 111], [108, 101, 110], [115, 117, 109], [116, 97, 107, 101], [115, 107, 105, 112], [114, 97, 110, 103, 101], [110, 116, 104], [119, 104, 101, 114, 101], [107, 101, 101, 112], [97, 100, 100], [103, 114, 111, 117, 112], [106, 111, 105, 110], [99, 111, 108, 117, 109, 110], [114, 111, 119, 115], [99, 108, 111, 99, 107], [99, 104, 97, 110, 99, 101], [102, 105, 108, 101], [116, 97, 98, 108, 101]] : List Str) = xFE from rfl, spec_l1Has_eq (by decide) hn]
  rfl
theorem impl_IsReserved_eq (N : Nat) (s : Str) : xD6 N s = some (xF8 s) := by
  by_cases h : s ∈ xFE
  · have h' : xF8 s = true := List.any_eq_true.2 ⟨s, h, by simp⟩
    rw [h']
    simp only [xFE, List.mem_cons, List.not_mem_nil, or_false] at h
    rcases h with h | h | h | h | h | h | h | h | h | h | h | h | h | h | h | h | h | h | h | h | h | h | h | h <;> subst h <;> rfl
  · have h' : xF8 s = false := by
      unfold xF8
      rw [List.any_eq_false]
      intro x hx hxs
      exact h (by rw [← eq_of_beq hxs]; exact hx)
    rw [h']
    have hne : ∀ x ∈ xFE, (s == x) = false := by
      intro x hx
      cases hb : s == x
      · rfl
      · exact absurd (by rw [eq_of_beq hb]; exact hx) h
    simp only [xFE, List.mem_cons, List.not_mem_nil, or_false, forall_eq_or_imp, forall_eq] at hne
    simp only [xD6, xCu, hne, cond_false, Option.bind_some]
    rfl
def xDj (s : Str) : Bool := xFp s true && (decide ((1 : Int) ≤ s.length) && decide ((s.length : Int) ≤ 8)) && !xF8 s
theorem xEv {N : Nat} {s : Str} (hl : s.length ≤ 9223372036854775807) (hn : s.length < N) : xCE N s = some (xDj s) := by
  unfold xCE xDj
  rw [impl_isWord_eq hl hn, Option.bind_some]
  cases (xFp s true && (decide ((1 : Int) ≤ s.length) && decide ((s.length : Int) ≤ 8)))
  · rfl
  · rw [impl_IsReserved_eq]; rfl
theorem xEy {N : Nat} {s : Str} (hl : s.length ≤ 9223372036854775807) (hn : s.length < N) (hn2 : 24 < N) : xCH N s = some (xDj s) := by
  unfold xCH xDj
  rw [spec_l2Shape_eq hl hn, Option.bind_some, spec_IsReserved_eq hn2]
  have : decide ((s.length : Int) > 0) = decide ((1 : Int) ≤ s.length) := by by_cases c : (s.length : Int) > 0 <;> simp [c] <;> omega
  rw [this]
  cases xFp s true <;> cases decide ((1 : Int) ≤ s.length) <;> cases decide ((s.length : Int) ≤ 8) <;> rfl
end Go.Ab
end
section
namespace Go.Ab
set_option linter.unusedVariables false
set_option linter.unusedSimpArgs false
def allI {α : Type} (p : Nat → α → Bool) : List α → Nat → Bool
  | [], _ => true
  | x :: r, i => p i x && allI p r (i + 1)
theorem allLoop {α : Type} {L : Nat → Int → Option Bool} {x0 : List α} {p : Nat → α → Bool} {e : Option Bool} (hend : ∀ n, L (n + 1) (x0.length : Nat) = e)
    (hcons : ∀ (i : Nat) x n, i < x0.length → x0[i]? = some x → x ∈ x0 → L (n + 1) (i : Nat) = bif p i x then L n ((i + 1 : Nat) : Int) else some false) {n : Nat} (hn : x0.length < n) :
    L n 0 = bif allI p x0 0 then e else some false := by
  have key : ∀ (m i : Nat), i ≤ x0.length → x0.length < m + i → L m (i : Nat) = bif allI p (x0.drop i) i then e else some false := by
    intro m
    induction m with
    | zero => intro i h1 h2; omega
    | succ m ih =>
      intro i h1 h2
      cases hd : x0.drop i with
      | nil =>
        have := xFJ hd
        obtain rfl : i = x0.length := by omega
        rw [hend]; rfl
      | cons x l =>
        obtain ⟨g1, g2, g3⟩ := xDf hd
        rw [hcons i x m g1 g2 (List.mem_of_getElem? g2), ih (i + 1) (by omega) (by omega), g3]
        simp only [allI]
        cases p i x <;> rfl
  exact key n 0 (by omega) (by omega)
def textC (c : UInt8) : Bool := !(decide ((c.toNat : Int) < 32)) && (!(decide ((c.toNat : Int) > 126)) && !((c.toNat : Int) == 34))
def xGi (s : Str) : Bool := allI (fun _ => textC) s 0 && decide ((s.length : Int) ≤ 20)
theorem bif_and {a b : Bool} : (bif a then some b else some false) = some (a && b) := by cases a <;> rfl
theorem xEz {N : Nat} {s : Str} (hl : s.length ≤ 9223372036854775807) (hn : s.length < N) : xDF N s = some (xGi s) := by
  rw [xGi, ← bif_and]
  exact allLoop (L := fun n i => xCi N n s i) (fun n => by simp [xCi]) (fun i x n hi hx hm => by
    have hi' : (i : Int) < (s.length : Int) := by omega
    simp only [xCi, decide_eq_true hi', cond_true, Int.toNat_natCast, xCx hx, xB1 hi hl, textC]
    rw [if_pos (by omega)]
    cases decide ((x.toNat : Int) < 32) <;> cases decide ((x.toNat : Int) > 126) <;> cases ((x.toNat : Int) == 34) <;> rfl) hn
theorem xFW (N n : Nat) (s : Str) (i : Int) : xDy N n s i = xCi N n s i := by
  induction n generalizing i with
  | zero => rfl
  | succ n ih => simp only [xDy, xCi, ih]
theorem xE8 {N : Nat} {s : Str} (hl : s.length ≤ 9223372036854775807) (hn : s.length < N) : xCF N s = some (xGi s) := (xFW N N s 0).trans (xEz hl hn)
end Go.Ab
end
section
namespace Go.Ab
set_option linter.unusedVariables false
set_option linter.unusedSimpArgs false
def kb : List Val → List Int → Bool
  | [], _ => false
  | _ :: _, [] => false
  | x :: r, k :: ks => (x.kind != k) || kb r ks
end Go.Ab
end
section
namespace Go.Ab
set_option linter.unusedVariables false
set_option linter.unusedSimpArgs false
def pick (k : Int) (n : Int) (rs : List Rowd) : List Rowd := rs.filter fun r => r.cells.getD k.toNat Ty.int.dflt == n
end Go.Ab
end
section
namespace Go.Ab
set_option linter.unusedVariables false
def dd (n : Nat) : Str := if n = 0 then [] else Lib.decDigits n
theorem dd_step {n : Nat} (h : n ≠ 0) : dd n = dd (n / 10) ++ [UInt8.ofNat (48 + n % 10)] := by
  unfold dd
  rw [if_neg h]
  by_cases h1 : n < 10
  · rw [Lib.decDigits, dif_pos h1, if_pos (by omega), Nat.mod_eq_of_lt h1]; rfl
  · rw [Lib.decDigits, dif_neg h1, if_neg (by omega)]
theorem itoa_dd {n : Int} (h : n ≠ 0) : Lib.itoa n = (bif decide (n < 0) then [45] else []) ++ dd n.natAbs := by
  have h2 : ¬ n.natAbs = 0 := by omega
  unfold Lib.itoa dd
  by_cases h1 : n < 0
  · rw [if_pos h1, decide_eq_true h1, if_neg h2]; rfl
  · rw [if_neg h1, decide_eq_false h1, if_neg h2, show n.toNat = n.natAbs from by omega]; rfl
theorem dd_len : ∀ (k n : Nat), n < 10 ^ k → (dd n).length ≤ k := by
  intro k
  induction k with
  | zero => intro n h; have : n = 0 := by simpa using h
            subst this; exact Nat.le_refl _
  | succ k ih =>
    intro n h
    by_cases h0 : n = 0
    · subst h0; exact Nat.zero_le _
    · rw [dd_step h0, List.length_append]
      have := ih (n / 10) (by rw [Nat.pow_succ] at h; omega)
      simp only [List.length_cons, List.length_nil]; omega
mutual
def Exp.cnt : Exp → Nat
  | .mk _ _ _ a => 1 + Exp.cnts a
def Exp.cnts : List Exp → Nat
  | [] => 0
  | x :: r => Exp.cnt x + Exp.cnts r
end
theorem Exp.cnts_eq (l : List Exp) : Exp.cnts l = (l.map Exp.cnt).sum := by
  induction l with
  | nil => rfl
  | cons x l ih => simp only [Exp.cnts, List.map_cons, List.sum_cons, ih]
theorem Exp.cnt_eq (e : Exp) : e.cnt = 1 + (e.args.map Exp.cnt).sum := by
  cases e; simp only [Exp.cnt, Exp.cnts_eq, Exp.args]
mutual
def Exp.nest : Exp → Nat
  | .mk _ _ _ a => Exp.nests a + 1
def Exp.nests : List Exp → Nat
  | [] => 0
  | x :: r => max (Exp.nest x) (Exp.nests r)
end
theorem Exp.nest_eq (e : Exp) : e.nest = Exp.nests e.args + 1 := by cases e; rfl
theorem sums_le {f g : Exp → Nat} : ∀ {a : List Exp}, (∀ x ∈ a, f x ≤ g x + 1) → (a.map f).sum ≤ a.length + (a.map g).sum
  | [], _ => Nat.le_refl _
  | x :: l, ih => by
    have h1 := ih x List.mem_cons_self
    have h2 := sums_le fun y hy => ih y (List.mem_cons_of_mem _ hy)
    simp only [List.map_cons, List.sum_cons, List.length_cons]; omega
theorem Exp.cnt_le : ∀ e : Exp, e.cnt ≤ e.size + 1 := by
  refine Exp.ind fun k n t a ih => ?_
  rw [Exp.cnt_eq, Exp.size_eq]
  have := sums_le ih
  show 1 + (a.map Exp.cnt).sum ≤ t.length + (a.length + (a.map Exp.size).sum) + 1
  omega
theorem nests_le : ∀ {a : List Exp}, (∀ x ∈ a, x.nest ≤ x.cnt) → Exp.nests a ≤ (a.map Exp.cnt).sum
  | [], _ => Nat.le_refl _
  | x :: l, ih => by
    have h1 := ih x List.mem_cons_self
    have h2 := nests_le fun y hy => ih y (List.mem_cons_of_mem _ hy)
    simp only [Exp.nests, List.map_cons, List.sum_cons]; omega
theorem Exp.nest_le : ∀ e : Exp, e.nest ≤ e.cnt := by
  refine Exp.ind fun k n t a ih => ?_
  rw [Exp.nest_eq, Exp.cnt_eq]
  have := nests_le ih
  show Exp.nests a + 1 ≤ 1 + (a.map Exp.cnt).sum
  omega
def nodeOk (vT vN : Str → Bool) (ac : Str → Int) (k n : Int) (t : Str) (l : Nat) : Bool :=
  bif k == 1 then (decide (0 ≤ n) && decide (n ≤ 1000000000)) && ((t == []) && (l == 0))
  else bif k == 2 then (n == 0) && (vT t && (l == 0))
  else bif k == 3 then (n == 0) && (vN t && (l == 0))
  else bif k == 4 then (n == 0) && ((t == []) && decide (l ≤ 8))
  else bif k == 5 then (n == 0) && ((l : Int) == ac t)
  else bif k == 6 then (decide (1 ≤ n) && decide (n ≤ 5)) && ((t == []) && (l == 2))
  else bif k == 7 then (n == 0) && (vN t && (l == 2))
  else bif k == 9 then (n == 0) && (vN t && (l == 2))
  else bif k == 8 then (n == 0) && ((t == []) && (l == 3)) else false
end Go.Ab
end
section
namespace Go.Ab
set_option linter.unusedVariables false
set_option linter.unusedSimpArgs false
theorem xGo {N : Nat} : ∀ (k n : Nat) (x : Int) (b : Bool) (q : Str), x.natAbs < 10 ^ k → k < n → k + q.length ≤ 1000 → (-9223372036854775808 ≤ x ∧ x ≤ 9223372036854775807) →
    xB3 N n x b q = some ((bif b then [45] else []) ++ (dd x.natAbs ++ q)) := by
  intro k
  induction k with
  | zero =>
    intro n x b q hx hn hq hi
    obtain ⟨n, rfl⟩ : ∃ m, n = m + 1 := ⟨n - 1, by omega⟩
    have : x = 0 := by have : x.natAbs < 1 := by simpa using hx
                       omega
    subst this
    simp only [xB3, show ((0 : Int) != 0) = false from rfl, cond_false]
    cases b
    · rfl
    · simp only [cond_true]
      rw [if_pos (by simp only [List.length_cons, List.length_nil]; unfold Lim; omega)]; rfl
  | succ k ih =>
    intro n x b q hx hn hq hi
    obtain ⟨n, rfl⟩ : ∃ m, n = m + 1 := ⟨n - 1, by omega⟩
    by_cases h0 : x = 0
    · subst h0
      simp only [xB3, show ((0 : Int) != 0) = false from rfl, cond_false]
      cases b
      · rfl
      · simp only [cond_true]
        rw [if_pos (by simp only [List.length_cons, List.length_nil]; unfold Lim; omega)]; rfl
    · have hne : (x != 0) = true := by simpa using h0
      have hn0 : x.natAbs ≠ 0 := by omega
      have hd : (Int.tdiv x 10).natAbs = x.natAbs / 10 := by rw [Int.natAbs_tdiv]; rfl
      have hm : (Int.tmod x 10).natAbs = x.natAbs % 10 := by rw [Int.natAbs_tmod]; rfl
      have hdi : -9223372036854775808 ≤ Int.tdiv x 10 ∧ Int.tdiv x 10 ≤ 9223372036854775807 := by omega
      have hb : (Int.tdiv x 10).natAbs < 10 ^ k := by rw [hd]; rw [Nat.pow_succ] at hx; omega
      have hw : IntKind.i64.wrap (Int.tdiv x 10) = Int.tdiv x 10 := xCc (by omega) (by omega)
      have fin : ∀ c : Int, c = ((48 + x.natAbs % 10 : Nat) : Int) → xB3 N n (Int.tdiv x 10) b ((List.map (fun n => UInt8.ofNat (Int.toNat n)) [c]) ++ q) = some ((bif b then [45] else []) ++ (dd x.natAbs ++ q)) := by
        intro c hc
        rw [ih n _ b _ hb (by omega) (by simp only [List.length_append, List.length_map, List.length_cons, List.length_nil]; omega) hdi, hd, dd_step hn0, hc]
        simp only [List.map_cons, List.map_nil, Int.toNat_natCast, List.append_assoc, List.cons_append, List.nil_append]
      have hlim : ∀ c : Int, List.length (List.map (fun n => UInt8.ofNat (Int.toNat n)) [c]) + List.length q ≤ Lim := fun c => by
        simp only [List.length_map, List.length_cons, List.length_nil]; unfold Lim; omega
      by_cases hneg : Int.tmod x 10 < 0
      · have e1 : IntKind.i64.wrap (0 - Int.tmod x 10) = 0 - Int.tmod x 10 := xCc (by omega) (by omega)
        have e2 : IntKind.i64.wrap (48 + (0 - Int.tmod x 10)) = 48 + (0 - Int.tmod x 10) := xCc (by omega) (by omega)
        have e3 : IntKind.u8.wrap (48 + (0 - Int.tmod x 10)) = 48 + (0 - Int.tmod x 10) := wrap_u8 (by omega) (by omega)
        simp only [xB3, hne, cond_true, decide_eq_true hneg, e1, e2, e3, hw]
        rw [if_pos (hlim _)]
        exact fin _ (by omega)
      · have e2 : IntKind.i64.wrap (48 + Int.tmod x 10) = 48 + Int.tmod x 10 := xCc (by omega) (by omega)
        have e3 : IntKind.u8.wrap (48 + Int.tmod x 10) = 48 + Int.tmod x 10 := wrap_u8 (by omega) (by omega)
        simp only [xB3, hne, cond_true, decide_eq_false hneg, cond_false, e2, e3, hw]
        rw [if_pos (hlim _)]
        exact fin _ (by omega)
theorem spec_FormatInt_eq {N : Nat} {x : Int} (hN : 100 < N) (hi : -9223372036854775808 ≤ x ∧ x ≤ 9223372036854775807) : xD2 N x = some (Lib.itoa x) := by
  unfold xD2
  by_cases h0 : x = 0
  · subst h0
    simp only [beq_self_eq_true, cond_true]
    show some [48] = some (Lib.decDigits 0)
    rw [Lib.decDigits, dif_pos (by omega)]; rfl
  · have e20 : x.natAbs < 10 ^ 20 := by
      have : (10 : Nat) ^ 20 = 100000000000000000000 := by decide
      omega
    rw [show (x == 0) = false from beq_eq_false_iff_ne.2 h0, cond_false, xGo 20 N x _ [] e20 (by omega) (by simp) hi, itoa_dd h0, List.append_nil]
theorem bif_ex {α : Type} {b : Bool} {x y : Option α} (h1 : ∃ r, x = some r) (h2 : ∃ r, y = some r) : ∃ r, (bif b then x else y) = some r := by cases b <;> assumption
theorem xDC {α : Type} {b : Bool} {x y : Option α} {p q : α} (h1 : x = some p) (h2 : y = some q) : (bif b then x else y) = some (bif b then p else q) := by cases b <;> assumption
def argc (s : Str) : Int := (xBW 0 s).getD 0
theorem xEa (N : Nat) (s : Str) : xBW N s = some (argc s) := by
  have key : ∃ r, xBW 0 s = some r := by
    unfold xBW
    repeat (first | exact ⟨_, rfl⟩ | refine bif_ex ⟨_, rfl⟩ ?_)
  obtain ⟨r, hr⟩ := key
  show xBW 0 s = _
  rw [argc, hr]; rfl
theorem xEQ (N : Nat) (s : Str) : xCu N s = some (argc s) := (show xCu N s = xBW N s from rfl).trans (xEa N s)
def nodeE (e : Exp) : Bool := nodeOk xGi xDj argc e.kind e.n e.text e.args.length
theorem lenI0 (l : Nat) : ((l : Int) == 0) = (l == 0) := by
  rcases Nat.eq_zero_or_pos l with rfl | h
  · rfl
  · rw [beq_eq_false_iff_ne.2 (by omega : l ≠ 0), beq_eq_false_iff_ne.2 (by omega : (l : Int) ≠ 0)]
theorem lenI2 (l : Nat) : ((l : Int) == 2) = (l == 2) := by
  rcases Decidable.em (l = 2) with rfl | h
  · rfl
  · rw [beq_eq_false_iff_ne.2 h, beq_eq_false_iff_ne.2 (by omega : (l : Int) ≠ 2)]
theorem lenI3 (l : Nat) : ((l : Int) == 3) = (l == 3) := by
  rcases Decidable.em (l = 3) with rfl | h
  · rfl
  · rw [beq_eq_false_iff_ne.2 h, beq_eq_false_iff_ne.2 (by omega : (l : Int) ≠ 3)]
theorem lenI8 (l : Nat) : decide ((l : Int) ≤ 8) = decide (l ≤ 8) := by
  rcases Decidable.em (l ≤ 8) with h | h
  · rw [decide_eq_true h, decide_eq_true (by omega : (l : Int) ≤ 8)]
  · rw [decide_eq_false h, decide_eq_false (by omega : ¬ (l : Int) ≤ 8)]
theorem impl_isNode_eq {N : Nat} {e : Exp} (ht : e.text.length ≤ 9223372036854775807) (hn : e.text.length < N) : xE9 N e = some (nodeE e) := by
  simp only [xE9, nodeE, nodeOk, xGh, xE8 ht hn, xEv (N := N) ht hn, xEQ, Option.bind_some, lenI0, lenI2, lenI3, lenI8]
  refine xDC ?_ (xDC ?_ (xDC ?_ (xDC ?_ (xDC ?_ (xDC ?_ (xDC ?_ (xDC ?_ (xDC ?_ rfl)))))))) <;>
    first
    | rfl
    | (cases (decide ((0 : Int) ≤ e.n) && decide (e.n ≤ 1000000000)) <;> cases (e.text == []) <;> rfl)
    | (cases (decide ((1 : Int) ≤ e.n) && decide (e.n ≤ 5)) <;> cases (e.text == []) <;> rfl)
    | (cases (e.n == 0) <;> cases (e.text == []) <;> rfl)
    | (cases (e.n == 0) <;> cases (xGi e.text) <;> rfl)
    | (cases (e.n == 0) <;> cases (xDj e.text) <;> rfl)
theorem spec_l10Node_eq {N : Nat} {e : Exp} (ht : e.text.length ≤ 9223372036854775807) (hn : e.text.length < N) (h24 : 24 < N) : xEW N e = some (nodeE e) := by
  simp only [xEW, nodeE, nodeOk, spec_l1In_eq, xEz ht hn, xEy (N := N) (s := e.text) ht hn h24, xEa, Option.bind_some, lenI0, lenI2, lenI3, lenI8]
  refine xDC ?_ (xDC ?_ (xDC ?_ (xDC ?_ (xDC ?_ (xDC ?_ (xDC ?_ (xDC ?_ (xDC ?_ rfl)))))))) <;>
    first
    | rfl
    | (cases (e.args.length == 0) <;> cases (e.text == []) <;> cases (decide ((0 : Int) ≤ e.n) && decide (e.n ≤ 1000000000)) <;> rfl)
    | (cases (e.args.length == 0) <;> cases (e.n == 0) <;> cases (xGi e.text) <;> rfl)
    | (cases (e.args.length == 0) <;> cases (e.n == 0) <;> cases (xDj e.text) <;> rfl)
    | (cases (e.n == 0) <;> cases (e.text == []) <;> rfl)
    | (cases (e.args.length == 2) <;> cases (e.text == []) <;> cases (decide ((1 : Int) ≤ e.n) && decide (e.n ≤ 5)) <;> rfl)
    | (cases (e.args.length == 2) <;> cases (e.n == 0) <;> cases (xDj e.text) <;> rfl)
    | (cases (e.args.length == 3) <;> cases (e.n == 0) <;> cases (e.text == []) <;> rfl)
mutual
def okE : Exp → Bool
  | .mk k n t a => okEs a && nodeE (.mk k n t a)
def okEs : List Exp → Bool
  | [] => true
  | x :: r => okE x && okEs r
end
theorem okEs_eq (l : List Exp) : okEs l = l.all okE := by
  induction l with
  | nil => rfl
  | cons x l ih => simp only [okEs, List.all_cons, ih]
theorem okE_eq (e : Exp) : okE e = (e.args.all okE && nodeE e) := by
  cases e; simp only [okE, okEs_eq]; rfl
theorem all_ok {K : Nat} (hK : K ≤ 1048576) : ∀ e : Exp, e.Fit K → Big2 fun N d => xDQ N d e = some (okE e) ∧ xEd N d e = some (okE e) := by
  refine Exp.ind fun k n t a ih h => ?_
  obtain ⟨h1, h2, h3, h4⟩ := Exp.fit_iff.1 h
  refine Big2.succ ?_
  refine ((Big2.list fun x hx => ih x hx (h4.2 x hx)).and (big_lt (K + 30)).two).imp fun N d ⟨hx, hn⟩ => ?_
  have hl : a.length ≤ K := h4.1
  have ht : (Exp.mk k n t a).text.length ≤ K := h3
  rw [okE_eq]
  refine ⟨?_, ?_⟩
  · exact xEX (σ := Unit) (L := fun m i _ => xDn N (xDQ N d) m a a.length i (.mk k n t a)) a (fun l _ => l.all okE && nodeE (.mk k n t a)) (fun _ _ => True) (fun m _ _ => by simp [xDn, impl_isNode_eq (N := N) (e := .mk k n t a) (by omega) (by omega)])
      (fun i x l _ hd hi hxi _ => by
        have hi' : (i : Int) < (a.length : Int) := by omega
        have hm := List.mem_of_getElem? hxi
        cases ho : okE x
        · refine .inr fun m => ?_
          simp only [xDn, decide_eq_true hi', cond_true, Int.toNat_natCast, xCx hxi, (hx x hm).1, ho, Option.bind_some, Bool.not_false, List.all_cons, Bool.false_and]
          rw [if_pos (by omega)]
        · refine .inl ⟨(), trivial, by simp [ho], fun m => ?_⟩
          simp only [xDn, decide_eq_true hi', cond_true, Int.toNat_natCast, xCx hxi, (hx x hm).1, ho, Option.bind_some, Bool.not_true, cond_false, xB1 hi (by omega : a.length ≤ _)]
          rw [if_pos (by omega)]) N 0 () trivial (by omega) (by omega)
  · exact xEX (σ := Unit) (L := fun m i _ => xDO N (xEd N d) m i (.mk k n t a)) a (fun l _ => l.all okE && nodeE (.mk k n t a)) (fun _ _ => True) (fun m _ _ => by simp [xDO, ea, spec_l10Node_eq (N := N) (e := .mk k n t a) (by omega) (by omega) (by omega)])
      (fun i x l _ hd hi hxi _ => by
        have hi' : (i : Int) < ((Exp.mk k n t a).args.length : Int) := by show (i : Int) < (a.length : Int); omega
        have hi2 : (0 : Int) ≤ (i : Int) ∧ (i : Int) < ((Exp.mk k n t a).args.length : Int) := ⟨by omega, hi'⟩
        have hm := List.mem_of_getElem? hxi
        have hxi2 : (Exp.mk k n t a).args[i]? = some x := hxi
        cases ho : okE x
        · refine .inr fun m => ?_
          simp only [xDO, decide_eq_true hi', if_pos hi2, cond_true, Int.toNat_natCast, xCx hxi2, (hx x hm).2, ho, Option.bind_some, Bool.not_false, List.all_cons, Bool.false_and]
        · refine .inl ⟨(), trivial, by simp [ho], fun m => ?_⟩
          simp only [xDO, decide_eq_true hi', if_pos hi2, cond_true, Int.toNat_natCast, xCx hxi2, (hx x hm).2, ho, Option.bind_some, Bool.not_true, cond_false, xB1 hi (by omega : a.length ≤ _)]) N 0 () trivial (by omega) (by omega)
end Go.Ab
end
section
namespace Go.Ab
set_option linter.unusedVariables false
set_option linter.unusedSimpArgs false
def sumC (l : List Exp) : Nat := (l.map Exp.cnt).sum
theorem sumC_cons (x : Exp) (l : List Exp) : sumC (x :: l) = x.cnt + sumC l := by simp only [sumC, List.map_cons, List.sum_cons]
theorem left_left (c s : Nat) {l : Int} (h : 0 ≤ l) : left (c + s) l = if left c l < 0 then left c l else left s (left c l) := by
  by_cases c1 : (c : Int) ≤ l
  · rw [left_of c1, if_neg (by omega)]
    by_cases c2 : (s : Int) ≤ l - c
    · rw [left_of c2, left_of (by omega)]; omega
    · rw [left_not c2, left_not (by omega)]
  · rw [left_not c1, if_pos (by omega), left_not (by omega)]
theorem count_eq {K : Nat} (hK : K ≤ 1048576) : ∀ e : Exp, e.Fit K → e.cnt ≤ 2000000 → Big2 fun N d => xDk N d e = some (e.cnt : Int) ∧ ∀ l : Int, 0 ≤ l → l ≤ 1000 → xDH N d e l = some (left e.cnt l) := by
  refine Exp.ind fun k n t a ih h hc => ?_
  obtain ⟨h1, h2, h3, h4⟩ := Exp.fit_iff.1 h
  rw [Exp.cnt_eq] at hc
  have hc : 1 + sumC a ≤ 2000000 := hc
  have hmem : ∀ x ∈ a, x.cnt ≤ sumC a := fun x hx => size_mem (f := Exp.cnt) hx
  refine Big2.succ ?_
  refine ((Big2.list fun x hx => ih x hx (h4.2 x hx) (by have := hmem x hx; omega)).and (big_lt (K + 30)).two).imp fun N d ⟨hx, hn⟩ => ?_
  have hl : a.length ≤ K := h4.1
  rw [Exp.cnt_eq]
  refine ⟨?_, fun l hl0 hl1 => ?_⟩
  · have := xEX (L := fun m i s => xC4 N (xDk N d) m s a a.length i) a (fun l s => s + (sumC l : Int)) (fun i s => 0 ≤ s ∧ s + (sumC (a.drop i) : Int) ≤ 2000000) (fun m s _ => by simp [xC4, sumC])
      (fun i x l s hd hi hxi hs => by
        have hi' : (i : Int) < (a.length : Int) := by omega
        have hm := List.mem_of_getElem? hxi
        rw [hd, sumC_cons] at hs
        have hw : IntKind.i64.wrap (s + (x.cnt : Int)) = s + (x.cnt : Int) := xCc (by omega) (by omega)
        refine .inl ⟨s + (x.cnt : Int), ⟨by omega, by rw [(xDf hd).2.2]; omega⟩, by rw [sumC_cons]; omega, fun m => ?_⟩
        simp only [xC4, decide_eq_true hi', cond_true, Int.toNat_natCast, xCx hxi, (hx x hm).1, Option.bind_some, hw, xB1 hi (by omega : a.length ≤ _)]
        rw [if_pos (by omega)]) N 0 1 ⟨by omega, by rw [List.drop_zero]; omega⟩ (by omega) (by omega)
    rw [List.drop_zero] at this
    show xC4 N (xDk N d) N 1 a a.length 0 = some ((1 + sumC a : Nat) : Int)
    rw [show ((1 + sumC a : Nat) : Int) = 1 + (sumC a : Int) from by omega]
    exact this
  · have := xEX (L := fun m i s => xDh N (xDH N d) m s i (.mk k n t a)) a (fun l s => if s < 0 then s else left (sumC l) s) (fun i s => -1 ≤ s ∧ s ≤ 1000) (fun m s hs => by
        simp only [xDh, ea, Int.lt_irrefl, decide_false, cond_false, sumC, List.map_nil, List.sum_nil]
        split
        · rfl
        · rw [left_of (by omega)]; simp)
      (fun i x l s hd hi hxi hs => by
        have hi' : (i : Int) < ((Exp.mk k n t a).args.length : Int) := by show (i : Int) < (a.length : Int); omega
        have hi2 : (0 : Int) ≤ (i : Int) ∧ (i : Int) < ((Exp.mk k n t a).args.length : Int) := ⟨by omega, hi'⟩
        have hm := List.mem_of_getElem? hxi
        have hxi2 : (Exp.mk k n t a).args[i]? = some x := hxi
        by_cases hneg : s < 0
        · refine .inr fun m => ?_
          have h2 : ¬ s ≥ 0 := by omega
          simp only [xDh, decide_eq_true hi', cond_true, decide_eq_false h2, cond_false, if_pos hneg]
        · have h2 : s ≥ 0 := by omega
          refine .inl ⟨left x.cnt s, ?_, ?_, fun m => ?_⟩
          · unfold left; split <;> omega
          · rw [if_neg hneg, sumC_cons, left_left _ _ (by omega)]
          · simp only [xDh, decide_eq_true hi', cond_true, decide_eq_true h2, if_pos hi2, Int.toNat_natCast, xCx hxi2, (hx x hm).2 s (by omega) (by omega), Option.bind_some, xB1 hi (by omega : a.length ≤ _)]) N 0 (l - 1) ⟨by omega, by omega⟩ (by omega) (by omega)
    rw [List.drop_zero] at this
    show xDh N (xDH N d) N (IntKind.i64.wrap (l - 1)) 0 (.mk k n t a) = some (left (1 + sumC a) l)
    rw [xCc (by omega) (by omega)]
    refine Eq.trans this ?_
    unfold left
    by_cases c0 : l - 1 < 0
    · rw [if_pos c0, if_neg (by omega)]; congr 1; omega
    · rw [if_neg c0]
      by_cases c2 : (sumC a : Int) ≤ l - 1
      · rw [if_pos c2, if_pos (by omega)]; congr 1; omega
      · rw [if_neg c2, if_neg (by omega)]
theorem nest_mem {x : Exp} : ∀ {a : List Exp}, x ∈ a → x.nest ≤ Exp.nests a
  | y :: l, h => by
    rcases List.mem_cons.1 h with rfl | h
    · simp only [Exp.nests]; omega
    · have := nest_mem h; simp only [Exp.nests]; omega
theorem maxI (a b : Nat) : (if (a : Int) > (b : Int) then (a : Int) else (b : Int)) = ((max b a : Nat) : Int) := by
  split <;> omega
theorem nest_eq {K : Nat} (hK : K ≤ 1048576) : ∀ e : Exp, e.Fit K → e.nest ≤ 2000000 → Big2 fun N d => xDI N d e = some (e.nest : Int) ∧ xDL N d e = some (e.nest : Int) := by
  refine Exp.ind fun k n t a ih h hc => ?_
  obtain ⟨h1, h2, h3, h4⟩ := Exp.fit_iff.1 h
  rw [Exp.nest_eq] at hc
  have hc : Exp.nests a + 1 ≤ 2000000 := hc
  have hmem : ∀ x ∈ a, x.nest ≤ Exp.nests a := fun x hx => nest_mem hx
  refine Big2.succ ?_
  refine ((Big2.list fun x hx => ih x hx (h4.2 x hx) (by have := hmem x hx; omega)).and (big_lt (K + 30)).two).imp fun N d ⟨hx, hn⟩ => ?_
  have hl : a.length ≤ K := h4.1
  rw [Exp.nest_eq]
  refine ⟨?_, ?_⟩
  · have := xEX (L := fun m i (s : Nat) => xDu N (xDI N d) m (s : Int) a a.length i) a (fun l s => ((max s (Exp.nests l) + 1 : Nat) : Int)) (fun i s => s ≤ 2000000) (fun m s hs => by
        have hw : IntKind.i64.wrap ((s : Int) + 1) = ((max s 0 + 1 : Nat) : Int) := by rw [xCc (by omega) (by omega)]; omega
        simp only [xDu, Int.lt_irrefl, decide_false, cond_false, hw, Exp.nests])
      (fun i x l s hd hi hxi hs => by
        have hi' : (i : Int) < (a.length : Int) := by omega
        have hm := List.mem_of_getElem? hxi
        have := hmem x hm
        refine .inl ⟨max s x.nest, by omega, by simp only [Exp.nests]; omega, fun m => ?_⟩
        simp only [xDu, decide_eq_true hi', cond_true, Int.toNat_natCast, xCx hxi, (hx x hm).1, Option.bind_some, maxI, xB1 hi (by omega : a.length ≤ _)]
        rw [if_pos (by omega)]) N 0 0 (by omega) (by omega) (by omega)
    rw [List.drop_zero] at this
    refine Eq.trans this ?_
    simp; rfl
  · have := xEX (L := fun m i (s : Nat) => xDw N (xDL N d) m (s : Int) i (.mk k n t a)) a (fun l s => ((max s (Exp.nests l) + 1 : Nat) : Int)) (fun i s => s ≤ 2000000) (fun m s hs => by
        have hw : IntKind.i64.wrap ((s : Int) + 1) = ((max s 0 + 1 : Nat) : Int) := by rw [xCc (by omega) (by omega)]; omega
        simp only [xDw, ea, Int.lt_irrefl, decide_false, cond_false, hw, Exp.nests])
      (fun i x l s hd hi hxi hs => by
        have hi' : (i : Int) < ((Exp.mk k n t a).args.length : Int) := by show (i : Int) < (a.length : Int); omega
        have hi2 : (0 : Int) ≤ (i : Int) ∧ (i : Int) < ((Exp.mk k n t a).args.length : Int) := ⟨by omega, hi'⟩
        have hm := List.mem_of_getElem? hxi
        have hxi2 : (Exp.mk k n t a).args[i]? = some x := hxi
        have := hmem x hm
        have hmax : xFH N (s : Int) (x.nest : Int) = some ((max s x.nest : Nat) : Int) := by
          unfold xFH
          by_cases c : (s : Int) > (x.nest : Int)
          · rw [decide_eq_true c]; show some (s : Int) = _; congr 1; omega
          · rw [decide_eq_false c]; show some (x.nest : Int) = _; congr 1; omega
        refine .inl ⟨max s x.nest, by omega, by simp only [Exp.nests]; omega, fun m => ?_⟩
        simp only [xDw, decide_eq_true hi', cond_true, if_pos hi2, Int.toNat_natCast, xCx hxi2, (hx x hm).2, Option.bind_some, hmax, xB1 hi (by omega : a.length ≤ _)]) N 0 0 (by omega) (by omega) (by omega)
    rw [List.drop_zero] at this
    refine Eq.trans this ?_
    simp; rfl
def xFI (e : Exp) : Bool := (decide (e.cnt ≤ 40) && decide (e.nest ≤ 8)) && okE e
theorem validX_eq {K : Nat} (hK : K ≤ 1048576) {e : Exp} (h : e.Fit K) (hs : e.size ≤ 1048576) : Big fun N => xCD N e = some (xFI e) ∧ xCG N e = some (xFI e) := by
  have h1 := Exp.cnt_le e
  have h2 := Exp.nest_le e
  refine (((count_eq hK e h (by omega)).diag.and (nest_eq hK e h (by omega)).diag).and (all_ok hK e h).diag).imp fun N ⟨⟨⟨c1, c2⟩, n1, n2⟩, a1, a2⟩ => ?_
  have c3 : xFv N e = some (e.cnt : Int) := c1
  have c4 : xF4 N e 40 = some (left e.cnt 40) := c2 40 (by omega) (by omega)
  have n3 : xFu N e = some (e.nest : Int) := n1
  have n4 : xFx N e = some (e.nest : Int) := n2
  have a3 : xFM N e = some (okE e) := a1
  have a4 : xGp N e = some (okE e) := a2
  have d1 : decide ((e.cnt : Int) ≤ 40) = decide (e.cnt ≤ 40) := decide_eq_decide.2 (by omega)
  have d2 : decide (left e.cnt 40 ≥ 0) = decide (e.cnt ≤ 40) := decide_eq_decide.2 (by unfold left; split <;> omega)
  have d3 : decide ((e.nest : Int) ≤ 8) = decide (e.nest ≤ 8) := decide_eq_decide.2 (by omega)
  refine ⟨?_, ?_⟩
  · simp only [xCD, c3, n3, a3, Option.bind_some, d1, d3, xFI]
    cases decide (e.cnt ≤ 40) <;> cases decide (e.nest ≤ 8) <;> rfl
  · simp only [xCG, c4, n4, a4, Option.bind_some, d2, d3, xFI]
    cases decide (e.cnt ≤ 40) <;> cases decide (e.nest ≤ 8) <;> rfl
end Go.Ab
end
section
namespace Go.Ab
set_option linter.unusedVariables false
inductive PR (α : Type) where
  | ok (a : α) (r : List Tok)
  | err (r : List Tok)
def PR.bind {α β : Type} : PR α → (α → List Tok → PR β) → PR β
  | .ok a r, k => k a r
  | .err r, _ => .err r
theorem PR.bind_ok {α β : Type} {R : PR α} {k : α → List Tok → PR β} {b : β} {r : List Tok} (h : R.bind k = .ok b r) : ∃ a q, R = .ok a q ∧ k a q = .ok b r := by
  cases R with
  | ok a q => exact ⟨a, q, rfl, h⟩
  | err q => cases h
def isK (t : Tok) (s : Str) : Bool := bif t.kind == 1 then t.text == s else false
def isS (t : Tok) (s : Str) : Bool := bif t.kind == 4 then t.text == s else false
def seeK (s : Str) : List Tok → Bool
  | [] => false
  | t :: _ => isK t s
def seeS (s : Str) : List Tok → Bool
  | [] => false
  | t :: _ => isS t s
def xEC (s : Str) : List Tok → PR Unit
  | [] => .err []
  | t :: r => bif isK t s || isS t s then .ok () r else .err (t :: r)
def pName : List Tok → PR Str
  | [] => .err []
  | t :: r => bif t.kind == 1 then (bif xDj t.text then .ok t.text r else .err (t :: r)) else .err (t :: r)
def pListL (f : List Tok → PR Exp) (c : Str) : Nat → List Exp → List Tok → PR (List Exp)
  | 0, _, ts => .err ts
  | m + 1, acc, ts => (f ts).bind fun e r => bif seeS c r then .ok (acc ++ [e]) r.tail else (xEC [44] r).bind fun _ q => pListL f c m (acc ++ [e]) q
def pList (f : List Tok → PR Exp) (m : Nat) (c : Str) (ts : List Tok) : PR (List Exp) := bif seeS c ts then .ok [] ts.tail else pListL f c m [] ts
def pAtom2 (f : List Tok → PR Exp) (m : Nat) (t : Tok) (r : List Tok) : PR Exp :=
  bif isS t [91] then (pList f m [93] r).bind fun a q => .ok (.mk 4 0 [] a) q
  else bif isS t [40] then (f r).bind fun e q => (xEC [41] q).bind fun _ u => .ok e u
  else .err (t :: r)
def pAtom (f : List Tok → PR Exp) (m : Nat) : List Tok → PR Exp
  | [] => .err []
  | t :: r =>
    bif t.kind == 2 then .ok (.mk 1 t.n [] []) r
    else bif t.kind == 3 then .ok (.mk 2 0 t.text []) r
    else bif t.kind == 1 then
      (bif xDj t.text then .ok (.mk 3 0 t.text []) r
      else bif decide (argc t.text ≥ 0) then (xEC [40] r).bind fun _ q => (pList f m [41] q).bind fun a u => .ok (.mk 5 0 t.text a) u
      else pAtom2 f m t r)
    else pAtom2 f m t r
def pProdL (g : List Tok → PR Exp) : Nat → Exp → List Tok → PR Exp
  | 0, _, ts => .err ts
  | m + 1, a, ts => bif seeS [42] ts then (g ts.tail).bind fun b r => pProdL g m (.mk 6 3 [] [a, b]) r else .ok a ts
def pProd (g : List Tok → PR Exp) (m : Nat) (ts : List Tok) : PR Exp := (g ts).bind fun a r => pProdL g m a r
def pSumL (g : List Tok → PR Exp) : Nat → Exp → List Tok → PR Exp
  | 0, _, ts => .err ts
  | m + 1, a, ts => bif seeS [43] ts then (g ts.tail).bind fun b r => pSumL g m (.mk 6 1 [] [a, b]) r
    else bif seeS [45] ts then (g ts.tail).bind fun b r => pSumL g m (.mk 6 2 [] [a, b]) r else .ok a ts
def pSum (g : List Tok → PR Exp) (m : Nat) (ts : List Tok) : PR Exp := (g ts).bind fun a r => pSumL g m a r
def pCmpT (g : List Tok → PR Exp) (a : Exp) (r : List Tok) : PR Exp :=
  bif seeS [60] r then (g r.tail).bind fun b q => .ok (.mk 6 4 [] [a, b]) q
  else bif seeS [61, 61] r then (g r.tail).bind fun b q => .ok (.mk 6 5 [] [a, b]) q else .ok a r
def pCmp (g : List Tok → PR Exp) (ts : List Tok) : PR Exp := (g ts).bind fun a r => pCmpT g a r
def pTwo (f : List Tok → PR Exp) (k : Int) (s1 s2 : Str) (ts : List Tok) : PR Exp :=
  (pName ts).bind fun x q1 => (xEC s1 q1).bind fun _ q2 => (f q2).bind fun a q3 => (xEC s2 q3).bind fun _ q4 => (f q4).bind fun b q5 => .ok (.mk k 0 x [a, b]) q5
def pIf (f : List Tok → PR Exp) (ts : List Tok) : PR Exp :=
  (f ts).bind fun a q1 => (xEC [116, 104, 101, 110] q1).bind fun _ q2 => (f q2).bind fun b q3 => (xEC [101, 108, 115, 101] q3).bind fun _ q4 => (f q4).bind fun c q5 => .ok (.mk 8 0 [] [a, b, c]) q5
def pExprB (f g : List Tok → PR Exp) (ts : List Tok) : PR Exp :=
  bif seeK [108, 101, 116] ts then pTwo f 7 [61] [105, 110] ts.tail
  else bif seeK [105, 102] ts then pIf f ts.tail
  else bif seeK [102, 111, 114] ts then pTwo f 9 [105, 110] [100, 111] ts.tail
  else pCmp g ts
def pSumF (f : List Tok → PR Exp) (m : Nat) : List Tok → PR Exp := pSum (pProd (pAtom f m) m) m
def pE : Nat → List Tok → PR Exp
  | 0, ts => .err ts
  | m + 1, ts => pExprB (pE m) (pSumF (pE m) (m + 1)) ts
theorem pNeed_ok {s : Str} {ts r : List Tok} {u : Unit} (h : xEC s ts = .ok u r) : ∃ t, ts = t :: r ∧ (isK t s || isS t s) = true := by
  cases ts with
  | nil => cases h
  | cons t q =>
    simp only [xEC] at h
    cases hb : isK t s || isS t s <;> rw [hb] at h <;> cases h
    exact ⟨t, rfl, hb⟩
theorem pName_ok {ts r : List Tok} {x : Str} (h : pName ts = .ok x r) : ∃ t, ts = t :: r ∧ x = t.text ∧ t.kind = 1 ∧ xDj t.text = true := by
  cases ts with
  | nil => cases h
  | cons t q =>
    simp only [pName] at h
    cases hb : t.kind == 1 <;> rw [hb] at h
    · cases h
    · cases hv : xDj t.text <;> rw [hv] at h <;> cases h
      exact ⟨t, rfl, rfl, by simpa using hb, hv⟩
theorem seeS_cons {s : Str} {ts : List Tok} (h : seeS s ts = true) : ∃ t, ts = t :: ts.tail ∧ isS t s = true := by
  cases ts with
  | nil => cases h
  | cons t q => exact ⟨t, rfl, h⟩
theorem seeK_cons {s : Str} {ts : List Tok} (h : seeK s ts = true) : ∃ t, ts = t :: ts.tail ∧ isK t s = true := by
  cases ts with
  | nil => cases h
  | cons t q => exact ⟨t, rfl, h⟩
theorem xEt {s : Str} {ts : List Tok} (h : seeS s ts = true) : ts.tail.length + 1 = ts.length := by
  obtain ⟨t, h1, _⟩ := seeS_cons h
  rw [h1]; rfl
theorem xEs {s : Str} {ts : List Tok} (h : seeK s ts = true) : ts.tail.length + 1 = ts.length := by
  obtain ⟨t, h1, _⟩ := seeK_cons h
  rw [h1]; rfl
theorem xD9 {s : Str} {ts r : List Tok} {u : Unit} (h : xEC s ts = .ok u r) : r.length + 1 = ts.length := by
  obtain ⟨t, h1, _⟩ := pNeed_ok h
  rw [h1]; rfl
theorem pName_len {ts r : List Tok} {x : Str} (h : pName ts = .ok x r) : r.length + 1 = ts.length := by
  obtain ⟨t, h1, _⟩ := pName_ok h
  rw [h1]; rfl
def tw (ts : List Tok) : Nat := (ts.map fun t => t.text.length + 3).sum
theorem tw_cons (t : Tok) (r : List Tok) : tw (t :: r) = t.text.length + 3 + tw r := by simp [tw]
def Light (K : Nat) (ts : List Tok) (e : Exp) (r : List Tok) : Prop := e.size + tw r ≤ tw ts ∧ e.Fit K
def xCd (K : Nat) (f : List Tok → PR Exp) : Prop := ∀ ts e r, (∀ t ∈ ts, t.Fit K) → tw ts ≤ K → f ts = .ok e r → Light K ts e r ∧ (∀ t ∈ r, t.Fit K) ∧ r.length < ts.length
theorem xFm {K : Nat} {k n : Int} {t : Str} {a : List Exp} (hk : I64 k) (hn : I64 n) (ht : t.length ≤ K) (ha : a.length ≤ K) (hx : ∀ x ∈ a, x.Fit K) : (Exp.mk k n t a).Fit K :=
  Exp.fit_iff.2 ⟨hk, hn, ht, ha, hx⟩
theorem xEU (k n : Int) (t : Str) (a : List Exp) : (Exp.mk k n t a).size = t.length + (a.length + (a.map Exp.size).sum) := Exp.size_eq _
theorem xBt {x : Int} (h : 0 ≤ x ∧ x ≤ 1000) : I64 x := by unfold I64; omega
theorem xFR {K : Nat} {s : Str} {ts r : List Tok} {u : Unit} (hf : ∀ t ∈ ts, t.Fit K) (h : xEC s ts = .ok u r) : (∀ t ∈ r, t.Fit K) ∧ tw r + 3 ≤ tw ts ∧ r.length < ts.length := by
  obtain ⟨t, rfl, _⟩ := pNeed_ok h
  exact ⟨fun x hx => hf x (List.mem_cons_of_mem _ hx), by rw [tw_cons]; omega, by simp⟩
theorem tail_in {K : Nat} {ts : List Tok} (hf : ∀ t ∈ ts, t.Fit K) (h : (∃ t, ts = t :: ts.tail ∧ True)) : (∀ t ∈ ts.tail, t.Fit K) ∧ tw ts.tail + 3 ≤ tw ts ∧ ts.tail.length < ts.length := by
  obtain ⟨t, h1, _⟩ := h
  generalize ts.tail = q at h1
  subst h1
  exact ⟨fun x hx => hf x (List.mem_cons_of_mem _ hx), by rw [tw_cons]; omega, by simp⟩
theorem xGn {K : Nat} {s : Str} {ts : List Tok} (hf : ∀ t ∈ ts, t.Fit K) (h : seeS s ts = true) : (∀ t ∈ ts.tail, t.Fit K) ∧ tw ts.tail + 3 ≤ tw ts ∧ ts.tail.length < ts.length := by
  obtain ⟨t, h1, _⟩ := seeS_cons h
  exact tail_in hf ⟨t, h1, trivial⟩
theorem seeK_in {K : Nat} {s : Str} {ts : List Tok} (hf : ∀ t ∈ ts, t.Fit K) (h : seeK s ts = true) : (∀ t ∈ ts.tail, t.Fit K) ∧ tw ts.tail + 3 ≤ tw ts ∧ ts.tail.length < ts.length := by
  obtain ⟨t, h1, _⟩ := seeK_cons h
  exact tail_in hf ⟨t, h1, trivial⟩
theorem sizes_append (a b : List Exp) : ((a ++ b).map Exp.size).sum = (a.map Exp.size).sum + (b.map Exp.size).sum := by simp
theorem pListL_light {K : Nat} {f : List Tok → PR Exp} (hf : xCd K f) (c : Str) : ∀ (m : Nat) (acc : List Exp) (ts : List Tok) (a : List Exp) (r : List Tok), (∀ t ∈ ts, t.Fit K) → tw ts ≤ K → (∀ x ∈ acc, x.Fit K) → pListL f c m acc ts = .ok a r →
    (a.length + (a.map Exp.size).sum + tw r ≤ acc.length + (acc.map Exp.size).sum + tw ts) ∧ (∀ x ∈ a, x.Fit K) ∧ (∀ t ∈ r, t.Fit K) ∧ r.length < ts.length := by
  intro m
  induction m with
  | zero => intro acc ts a r _ _ _ h; cases h
  | succ m ih =>
    intro acc ts a r h1 h2 h3 h
    obtain ⟨e, q, he, h⟩ := PR.bind_ok h
    obtain ⟨⟨w1, w2⟩, g1, g2⟩ := hf ts e q h1 h2 he
    have hacc : ∀ x ∈ acc ++ [e], x.Fit K := fun x hx => by
      rcases List.mem_append.1 hx with hx | hx
      · exact h3 x hx
      · rw [List.mem_singleton.1 hx]; exact w2
    have hsz : (acc ++ [e]).length + ((acc ++ [e]).map Exp.size).sum = acc.length + (acc.map Exp.size).sum + (1 + e.size) := by
      rw [sizes_append, List.length_append]; simp only [List.map_cons, List.map_nil, List.sum_cons, List.sum_nil, List.length_cons, List.length_nil]; omega
    cases hc : seeS c q <;> rw [hc] at h
    · obtain ⟨u, v, hn, h⟩ := PR.bind_ok h
      obtain ⟨n1, n2, n3⟩ := xFR g1 hn
      obtain ⟨a1, a2, a3, a4⟩ := ih (acc ++ [e]) v a r n1 (by omega) hacc h
      exact ⟨by omega, a2, a3, by omega⟩
    · cases h
      obtain ⟨n1, n2, n3⟩ := xGn g1 hc
      exact ⟨by omega, hacc, n1, by omega⟩
theorem pList_light {K : Nat} {f : List Tok → PR Exp} (hf : xCd K f) {m : Nat} {c : Str} {ts r : List Tok} {a : List Exp} (h1 : ∀ t ∈ ts, t.Fit K) (h2 : tw ts ≤ K) (h : pList f m c ts = .ok a r) :
    (a.length + (a.map Exp.size).sum + tw r ≤ tw ts) ∧ (∀ x ∈ a, x.Fit K) ∧ (∀ t ∈ r, t.Fit K) ∧ r.length < ts.length := by
  unfold pList at h
  cases hc : seeS c ts <;> rw [hc] at h
  · have := pListL_light hf c m [] ts a r h1 h2 (fun x hx => by cases hx) h
    simpa using this
  · cases h
    obtain ⟨n1, n2, n3⟩ := xGn h1 hc
    exact ⟨by simp; omega, (fun x hx => by cases hx), n1, n3⟩
theorem pAtom2_light {K : Nat} {f : List Tok → PR Exp} (hf : xCd K f) {m : Nat} {t : Tok} {q r : List Tok} {e : Exp} (h1 : ∀ x ∈ t :: q, x.Fit K) (h2 : tw (t :: q) ≤ K) (h : pAtom2 f m t q = .ok e r) :
    Light K (t :: q) e r ∧ (∀ x ∈ r, x.Fit K) ∧ r.length < (t :: q).length := by
  have hq : ∀ x ∈ q, x.Fit K := fun x hx => h1 x (List.mem_cons_of_mem _ hx)
  have hw := tw_cons t q
  unfold pAtom2 at h
  cases c1 : isS t [91] <;> rw [c1] at h
  · cases c2 : isS t [40] <;> rw [c2] at h
    · cases h
    · obtain ⟨e', u, he, h⟩ := PR.bind_ok h
      obtain ⟨_, v, hn, h⟩ := PR.bind_ok h
      cases h
      obtain ⟨⟨w1, w2⟩, g1, g2⟩ := hf q e u hq (by omega) he
      obtain ⟨n1, n2, n3⟩ := xFR g1 hn
      exact ⟨⟨by omega, w2⟩, n1, by simp only [List.length_cons]; omega⟩
  · obtain ⟨a, u, ha, h⟩ := PR.bind_ok h
    cases h
    obtain ⟨w1, w2, w3, w4⟩ := pList_light hf hq (by omega) ha
    refine ⟨⟨by rw [xEU]; simp only [List.length_nil]; omega, xFm (xBt (by omega)) (xBt (by omega)) (Nat.zero_le _) (by omega) w2⟩, w3, by simp only [List.length_cons]; omega⟩
theorem xFg {K : Nat} {f : List Tok → PR Exp} (hf : xCd K f) (m : Nat) : xCd K (pAtom f m) := by
  intro ts e r h1 h2 h
  cases ts with
  | nil => cases h
  | cons t q =>
    have hq : ∀ x ∈ q, x.Fit K := fun x hx => h1 x (List.mem_cons_of_mem _ hx)
    obtain ⟨ft1, ft2, ft3, ft4⟩ := h1 t List.mem_cons_self
    have ft4 : t.text.length ≤ K := ft4
    have hw := tw_cons t q
    have zero : ∀ x ∈ ([] : List Exp), x.Fit K := fun x hx => by cases hx
    simp only [pAtom] at h
    cases c1 : t.kind == 2 <;> rw [c1] at h
    · cases c2 : t.kind == 3 <;> rw [c2] at h
      · cases c3 : t.kind == 1 <;> rw [c3] at h
        · exact pAtom2_light hf h1 h2 h
        · cases c4 : xDj t.text <;> rw [c4] at h
          · cases c5 : decide (argc t.text ≥ 0) <;> rw [c5] at h
            · exact pAtom2_light hf h1 h2 h
            · obtain ⟨_, u, hn, h⟩ := PR.bind_ok h
              obtain ⟨a, v, ha, h⟩ := PR.bind_ok h
              cases h
              obtain ⟨n1, n2, n3⟩ := xFR hq hn
              obtain ⟨w1, w2, w3, w4⟩ := pList_light hf n1 (by omega) ha
              exact ⟨⟨by rw [xEU]; omega, xFm (xBt (by omega)) (xBt (by omega)) ft4 (by omega) w2⟩, w3, by simp only [List.length_cons]; omega⟩
          · cases h
            exact ⟨⟨by rw [xEU]; simp only [List.length_nil, List.map_nil, List.sum_nil]; omega, xFm (xBt (by omega)) (xBt (by omega)) ft4 (Nat.zero_le _) zero⟩, hq, by simp⟩
      · cases h
        exact ⟨⟨by rw [xEU]; simp only [List.length_nil, List.map_nil, List.sum_nil]; omega, xFm (xBt (by omega)) (xBt (by omega)) ft4 (Nat.zero_le _) zero⟩, hq, by simp⟩
    · cases h
      exact ⟨⟨by rw [xEU]; simp only [List.length_nil, List.map_nil, List.sum_nil]; omega, xFm (xBt (by omega)) ft2 (Nat.zero_le _) (Nat.zero_le _) zero⟩, hq, by simp⟩
theorem light_two {K : Nat} {k n : Int} {a b : Exp} {w : Nat} (hk : I64 k) (hn : I64 n) (ha : a.Fit K) (hb : b.Fit K) (h2 : 2 ≤ K) : (Exp.mk k n [] [a, b]).Fit K ∧ (Exp.mk k n [] [a, b]).size = a.size + b.size + 2 :=
  ⟨xFm hk hn (Nat.zero_le _) h2 (fun x hx => by
    simp only [List.mem_cons, List.not_mem_nil, or_false] at hx
    rcases hx with rfl | rfl <;> assumption), by rw [xEU]; simp only [List.length_cons, List.length_nil, List.map_cons, List.map_nil, List.sum_cons, List.sum_nil]; omega⟩
theorem pProdL_light {K : Nat} {g : List Tok → PR Exp} (hg : xCd K g) : ∀ (m : Nat) (a : Exp) (ts : List Tok) (e : Exp) (r : List Tok), (∀ t ∈ ts, t.Fit K) → tw ts ≤ K → a.Fit K → pProdL g m a ts = .ok e r →
    e.size + tw r ≤ a.size + tw ts ∧ e.Fit K ∧ (∀ t ∈ r, t.Fit K) ∧ r.length ≤ ts.length := by
  intro m
  induction m with
  | zero => intro a ts e r _ _ _ h; cases h
  | succ m ih =>
    intro a ts e r h1 h2 h3 h
    unfold pProdL at h
    cases c1 : seeS [42] ts <;> rw [c1] at h
    · cases h; exact ⟨Nat.le_refl _, h3, h1, Nat.le_refl _⟩
    · obtain ⟨b, q, hb, h⟩ := PR.bind_ok h
      obtain ⟨n1, n2, n3⟩ := xGn h1 c1
      obtain ⟨⟨w1, w2⟩, g1, g2⟩ := hg _ b q n1 (by omega) hb
      obtain ⟨f1, f2⟩ := light_two (w := 0) (k := 6) (n := 3) (xBt (by omega)) (xBt (by omega)) h3 w2 (by omega)
      obtain ⟨p1, p2, p3, p4⟩ := ih _ q e r g1 (by omega) f1 h
      exact ⟨by omega, p2, p3, by omega⟩
theorem pSumL_light {K : Nat} {g : List Tok → PR Exp} (hg : xCd K g) : ∀ (m : Nat) (a : Exp) (ts : List Tok) (e : Exp) (r : List Tok), (∀ t ∈ ts, t.Fit K) → tw ts ≤ K → a.Fit K → pSumL g m a ts = .ok e r →
    e.size + tw r ≤ a.size + tw ts ∧ e.Fit K ∧ (∀ t ∈ r, t.Fit K) ∧ r.length ≤ ts.length := by
  intro m
  induction m with
  | zero => intro a ts e r _ _ _ h; cases h
  | succ m ih =>
    intro a ts e r h1 h2 h3 h
    have one : ∀ (n : Int), I64 n → (∀ t ∈ ts.tail, t.Fit K) ∧ tw ts.tail + 3 ≤ tw ts ∧ ts.tail.length < ts.length → ((g ts.tail).bind fun b r => pSumL g m (.mk 6 n [] [a, b]) r) = .ok e r →
        e.size + tw r ≤ a.size + tw ts ∧ e.Fit K ∧ (∀ t ∈ r, t.Fit K) ∧ r.length ≤ ts.length := by
      rintro n hn ⟨n1, n2, n3⟩ h
      obtain ⟨b, q, hb, h⟩ := PR.bind_ok h
      obtain ⟨⟨w1, w2⟩, g1, g2⟩ := hg _ b q n1 (by omega) hb
      obtain ⟨f1, f2⟩ := light_two (w := 0) (k := 6) (n := n) (xBt (by omega)) hn h3 w2 (by omega)
      obtain ⟨p1, p2, p3, p4⟩ := ih _ q e r g1 (by omega) f1 h
      exact ⟨by omega, p2, p3, by omega⟩
    unfold pSumL at h
    cases c1 : seeS [43] ts <;> rw [c1] at h
    · cases c2 : seeS [45] ts <;> rw [c2] at h
      · cases h; exact ⟨Nat.le_refl _, h3, h1, Nat.le_refl _⟩
      · exact one 2 (xBt (by omega)) (xGn h1 c2) h
    · exact one 1 (xBt (by omega)) (xGn h1 c1) h
theorem xGl {K : Nat} {g : List Tok → PR Exp} (hg : xCd K g) (m : Nat) : xCd K (pProd g m) := by
  intro ts e r h1 h2 h
  obtain ⟨a, q, ha, h⟩ := PR.bind_ok h
  obtain ⟨⟨w1, w2⟩, g1, g2⟩ := hg ts a q h1 h2 ha
  obtain ⟨p1, p2, p3, p4⟩ := pProdL_light hg m a q e r g1 (by omega) w2 h
  exact ⟨⟨by omega, p2⟩, p3, by omega⟩
theorem pSum_light {K : Nat} {g : List Tok → PR Exp} (hg : xCd K g) (m : Nat) : xCd K (pSum g m) := by
  intro ts e r h1 h2 h
  obtain ⟨a, q, ha, h⟩ := PR.bind_ok h
  obtain ⟨⟨w1, w2⟩, g1, g2⟩ := hg ts a q h1 h2 ha
  obtain ⟨p1, p2, p3, p4⟩ := pSumL_light hg m a q e r g1 (by omega) w2 h
  exact ⟨⟨by omega, p2⟩, p3, by omega⟩
theorem pCmp_light {K : Nat} {g : List Tok → PR Exp} (hg : xCd K g) : xCd K (pCmp g) := by
  intro ts e r h1 h2 h
  obtain ⟨a, q, ha, h⟩ := PR.bind_ok h
  obtain ⟨⟨w1, w2⟩, g1, g2⟩ := hg ts a q h1 h2 ha
  have one : ∀ (n : Int), I64 n → (∀ t ∈ q.tail, t.Fit K) ∧ tw q.tail + 3 ≤ tw q ∧ q.tail.length < q.length → ((g q.tail).bind fun b r => PR.ok (.mk 6 n [] [a, b]) r) = .ok e r → Light K ts e r ∧ (∀ x ∈ r, x.Fit K) ∧ r.length < ts.length := by
    rintro n hn ⟨n1, n2, n3⟩ h
    obtain ⟨b, u, hb, h⟩ := PR.bind_ok h
    cases h
    obtain ⟨⟨v1, v2⟩, l1, l2⟩ := hg _ b r n1 (by omega) hb
    obtain ⟨f1, f2⟩ := light_two (w := 0) (k := 6) (n := n) (xBt (by omega)) hn w2 v2 (by omega)
    exact ⟨⟨by omega, f1⟩, l1, by omega⟩
  unfold pCmpT at h
  cases c1 : seeS [60] q <;> rw [c1] at h
  · cases c2 : seeS [61, 61] q <;> rw [c2] at h
    · cases h; exact ⟨⟨w1, w2⟩, g1, g2⟩
    · exact one 5 (xBt (by omega)) (xGn g1 c2) h
  · exact one 4 (xBt (by omega)) (xGn g1 c1) h
theorem pTwo_light {K : Nat} {f : List Tok → PR Exp} (hf : xCd K f) {k : Int} (hk : I64 k) {s1 s2 : Str} {ts r : List Tok} {e : Exp} (h1 : ∀ x ∈ ts, x.Fit K) (h2 : tw ts + 3 ≤ K) (h : pTwo f k s1 s2 ts = .ok e r) :
    e.size + tw r ≤ tw ts ∧ e.Fit K ∧ (∀ x ∈ r, x.Fit K) ∧ r.length < ts.length := by
  obtain ⟨x, q1, e1, h⟩ := PR.bind_ok h
  obtain ⟨_, q2, e2, h⟩ := PR.bind_ok h
  obtain ⟨a, q3, e3, h⟩ := PR.bind_ok h
  obtain ⟨_, q4, e4, h⟩ := PR.bind_ok h
  obtain ⟨b, q5, e5, h⟩ := PR.bind_ok h
  cases h
  obtain ⟨t, rfl, rfl, _, _⟩ := pName_ok e1
  have hq : ∀ x ∈ q1, x.Fit K := fun x hx => h1 x (List.mem_cons_of_mem _ hx)
  have ft4 : t.text.length ≤ K := (h1 t List.mem_cons_self).2.2.2
  have hw := tw_cons t q1
  obtain ⟨n1, n2, n3⟩ := xFR hq e2
  obtain ⟨⟨w1, w2⟩, g1, g2⟩ := hf _ a q3 n1 (by omega) e3
  obtain ⟨m1, m2, m3⟩ := xFR g1 e4
  obtain ⟨⟨v1, v2⟩, l1, l2⟩ := hf _ b r m1 (by omega) e5
  refine ⟨by rw [xEU]; simp only [List.length_cons, List.length_nil, List.map_cons, List.map_nil, List.sum_cons, List.sum_nil]; omega, xFm hk (xBt (by omega)) ft4 (by simp; omega) (fun x hx => ?_), l1, by simp only [List.length_cons]; omega⟩
  simp only [List.mem_cons, List.not_mem_nil, or_false] at hx
  rcases hx with rfl | rfl <;> assumption
theorem pIf_light {K : Nat} {f : List Tok → PR Exp} (hf : xCd K f) {ts r : List Tok} {e : Exp} (h1 : ∀ x ∈ ts, x.Fit K) (h2 : tw ts + 3 ≤ K) (h : pIf f ts = .ok e r) :
    e.size + tw r ≤ tw ts ∧ e.Fit K ∧ (∀ x ∈ r, x.Fit K) ∧ r.length < ts.length := by
  obtain ⟨a, q1, e1, h⟩ := PR.bind_ok h
  obtain ⟨_, q2, e2, h⟩ := PR.bind_ok h
  obtain ⟨b, q3, e3, h⟩ := PR.bind_ok h
  obtain ⟨_, q4, e4, h⟩ := PR.bind_ok h
  obtain ⟨c, q5, e5, h⟩ := PR.bind_ok h
  cases h
  obtain ⟨⟨w1, w2⟩, g1, g2⟩ := hf _ a q1 h1 (by omega) e1
  obtain ⟨n1, n2, n3⟩ := xFR g1 e2
  obtain ⟨⟨v1, v2⟩, l1, l2⟩ := hf _ b q3 n1 (by omega) e3
  obtain ⟨m1, m2, m3⟩ := xFR l1 e4
  obtain ⟨⟨x1, x2⟩, y1, y2⟩ := hf _ c r m1 (by omega) e5
  refine ⟨by rw [xEU]; simp only [List.length_cons, List.length_nil, List.map_cons, List.map_nil, List.sum_cons, List.sum_nil]; omega, xFm (xBt (by omega)) (xBt (by omega)) (Nat.zero_le _) (by simp; omega) (fun x hx => ?_), y1, by omega⟩
  simp only [List.mem_cons, List.not_mem_nil, or_false] at hx
  rcases hx with rfl | rfl | rfl <;> assumption
theorem xGm {K : Nat} {f : List Tok → PR Exp} (hf : xCd K f) (m : Nat) : xCd K (pSumF f m) := pSum_light (xGl (xFg hf m) m) m
theorem pExprB_light {K : Nat} {f g : List Tok → PR Exp} (hf : xCd K f) (hg : xCd K g) : xCd K (pExprB f g) := by
  intro ts e r h1 h2 h
  unfold pExprB at h
  cases c1 : seeK [108, 101, 116] ts <;> rw [c1] at h
  · cases c2 : seeK [105, 102] ts <;> rw [c2] at h
    · cases c3 : seeK [102, 111, 114] ts <;> rw [c3] at h
      · exact pCmp_light hg ts e r h1 h2 h
      · obtain ⟨n1, n2, n3⟩ := seeK_in h1 c3
        obtain ⟨a1, a2, a3, a4⟩ := pTwo_light hf (xBt (by omega)) n1 (by omega) h
        exact ⟨⟨by omega, a2⟩, a3, by omega⟩
    · obtain ⟨n1, n2, n3⟩ := seeK_in h1 c2
      obtain ⟨a1, a2, a3, a4⟩ := pIf_light hf n1 (by omega) h
      exact ⟨⟨by omega, a2⟩, a3, by omega⟩
  · obtain ⟨n1, n2, n3⟩ := seeK_in h1 c1
    obtain ⟨a1, a2, a3, a4⟩ := pTwo_light hf (xBt (by omega)) n1 (by omega) h
    exact ⟨⟨by omega, a2⟩, a3, by omega⟩
theorem xDX {K : Nat} : ∀ m, xCd K (pE m)
  | 0 => fun ts e r _ _ h => by cases h
  | m + 1 => pExprB_light (xDX m) (xGm (xDX m) (m + 1))
end Go.Ab
end
