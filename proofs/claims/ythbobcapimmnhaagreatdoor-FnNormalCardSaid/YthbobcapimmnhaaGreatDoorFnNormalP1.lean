/- The statement FnNormal holds: plain functions, certificates, laws. Conditions: none. -/
import Derived.Test.YthbobcapimmnhaaGreatDoorL2
import Derived.Test.YthbobcapimmnhaaGreatDoorFnNormalP0
set_option linter.all false
section
open Go.Proofs
namespace Go.Ab.T
set_option maxRecDepth 100000
variable [Inhabited Lb]
variable [Nonempty Tab10]
variable [Nonempty ErrVars]
def G137 (q : Rdr → Str → Option ((List Exp) × Rdr)) : Prop := ∀ a0 a1 r, q a0 a1 = some r → AbC 137 (xE8 a0 a1) (xCB r)
def G127 (q : Rdr → Option (Exp × Rdr)) : Prop := ∀ a0 r, q a0 = some r → AbC 127 (xBx a0) (xBo r)
def G48 (q : Rdr → Option (Exp × Rdr)) : Prop := ∀ a0 r, q a0 = some r → AbC 48 (xDP a0) (xDk r)
def G28 (q : Rdr → Option (Exp × Rdr)) : Prop := ∀ a0 r, q a0 = some r → AbC 28 (xCC a0) (xAv r)
def G110 (q : Rdr → Option (Exp × Rdr)) : Prop := ∀ a0 r, q a0 = some r → AbC 110 (xEy a0) (xBP r)
def G88 (q : Rdr → Option (Exp × Rdr)) : Prop := ∀ a0 r, q a0 = some r → AbC 88 (xEP a0) (xCs r)
noncomputable def I137 : Info := { body := (Tryz.f137.body).getD .skip, nt := 44, results := [.tmp 4], keep := [0, 2, 8, 10, 18, 46, 62, 1], live := [(5, [0, 2, 10, 1])], modes := [(4, [(0, .take, false)]), (6, [(0, .take, false), (4, .take, false)]), (10, [(0, .take, false)])], ext := [0], casts := [(5, [(10, 0, false)])], fcast := [(8, 0, false)] }
theorem xQA : FnOk Tryz.prog 137 Tryz.f137 I137 := ⟨Tryz.func137, by kernel_rfl, by kernel_rfl, by kernel_rfl, by kernel_rfl⟩
def xM1 (x1 : Str) (x5 : List Exp) (b0 : Rdr) : St := [(0, .v false [.ptr 0 0]), (2, .v false [.str x1]), (10, .v false [.sl .tip .exp x5]), (1, .v true [.sl .ro .tok (Rdr.toks b0), .int .i64 (Rdr.i b0), .int .i64 (Rdr.fin b0), .int .i64 (Rdr.bad b0)])]
abbrev xL1 (v0 : Rdr) (v1 : Exp × Rdr) : Prop := AbC 28 (xCC v0) (xAv v1)
def xVe (x1 : Str) (x5 : List Exp) (b0 : Rdr) (r1 : Exp × Rdr) (r2 : Bool × Rdr) (r3 : Rdr) : rS 5 I137 (xM1 x1 x5 b0) [Y, Y] [xAv r1, xAe r2, xAJ r3] = dn (xCB ((x5 ++ [(Exp.re r1.1)]), r3)) [xMB b0, xL1 b0 r1, Ln x5 + Ln [(Exp.re r1.1)] ≤ Lim, AbC 45 (xAH r1.2 [44]) (xAe r2), iY (!r2.1), AbC 47 (xBR r2.2 x1) (xAJ r3)] := by kernel_rfl
def xVf (x1 : Str) (x5 : List Exp) (b0 : Rdr) (r1 : Exp × Rdr) (r2 : Bool × Rdr) : rS 5 I137 (xM1 x1 x5 b0) [Y, F] [xAv r1, xAe r2] = st 5 I137 (xM1 x1 (x5 ++ [(Exp.re r1.1)]) (xJ5 r2)) [xMB b0, xL1 b0 r1, Ln x5 + Ln [(Exp.re r1.1)] ≤ Lim, AbC 45 (xAH r1.2 [44]) (xAe r2), iN (!r2.1)] := by kernel_rfl
def xVg (x1 : Str) (x5 : List Exp) (b0 r1 : Rdr) : rS 5 I137 (xM1 x1 x5 b0) [F] [xAJ r1] = dn (xCB (x5, r1)) [iN (dc ((Rdr.bad b0) < 0)), AbC 47 (xBR b0 x1) (xAJ r1)] := by kernel_rfl
def xVh (a0 : Rdr) (a1 : Str) (r1 : Bool × Rdr) : rE I137 (xE8 a0 a1) [Y] [xAe r1] = dn (xCB ([], (xJ5 r1))) [AbC 45 (xAH a0 a1) (xAe r1), iY r1.1] := by kernel_rfl
def xVi (a0 : Rdr) (a1 : Str) (r1 : Bool × Rdr) : rE I137 (xE8 a0 a1) [F] [xAe r1] = st 5 I137 (xM1 a1 [] r1.2) [AbC 45 (xAH a0 a1) (xAe r1), iN r1.1] := by kernel_rfl
theorem vC6 {N q0 q1 q2 q3 q4 q5} (g0 : G137 q0) (g1 : G127 q1) (g2 : G48 q2) (g3 : G28 q3) (g4 : G110 q4) (g5 : G88 q5) : ∀ n x1 x5 b0 r, xFK N q0 q1 q2 q3 q4 q5 n x1 x5 b0 = some r → RS Tryz.f137 I137 5 (xM1 x1 x5 b0) (xCB r) := by
 intro n
 induction n with
 | zero => exact fun _ _ _ _ h => nE h
 | succ n ih =>
  exact fun x1 x5 b0 r h =>
   cE h (fun h0 h => bE h fun r1 h1 h => iE h fun h2 h => bE h fun r2 h3 h => cE h (fun h4 h => bE h fun r3 h5 h => dS h xQA (xVe x1 x5 b0 r1 r2 r3) (oc6 h0 (g3 _ _ h1) h2 (xAq h3) h4 (xCZ h5) on)) fun h4 h =>
   tS xQA (xVf x1 x5 b0 r1 r2) (oc5 h0 (g3 _ _ h1) h2 (xAq h3) h4 on) (ih _ _ _ _ h)) fun h0 h =>
   bE h fun r1 h1 h => dS h xQA (xVg x1 x5 b0 r1) (oc2 h0 (xCZ h1) on)
theorem vC7 {N q0 q1 q2 q3 q4 q5} (g0 : G137 q0) (g1 : G127 q1) (g2 : G48 q2) (g3 : G28 q3) (g4 : G110 q4) (g5 : G88 q5) : ∀ a0 a1 r, xEd N q0 q1 q2 q3 q4 q5 a0 a1 = some r → RE Tryz.f137 I137 (xE8 a0 a1) (xCB r) := fun a0 a1 r h =>
 bE h fun r1 h0 h => cE h (fun h1 h => dE h xQA (xVh a0 a1 r1) (oc2 (xAq h0) h1 on)) fun h1 h =>
 tE xQA (xVi a0 a1 r1) (oc2 (xAq h0) h1 on) (vC6 g0 g1 g2 g3 g4 g5 _ _ _ _ _ h)
theorem xKt {N q0 q1 q2 q3 q4 q5} (g0 : G137 q0) (g1 : G127 q1) (g2 : G48 q2) (g3 : G28 q3) (g4 : G110 q4) (g5 : G88 q5) {a0} {a1} {r} (h : xEd N q0 q1 q2 q3 q4 q5 a0 a1 = some r) : AbC 137 (xE8 a0 a1) (xCB r) :=
 AbsCalls.of_reach xQA rfl rfl (Nat.le_of_ble_eq_true rfl) (vC7 g0 g1 g2 g3 g4 g5 a0 a1 r h)
noncomputable def I127 : Info := { body := (Tryz.f127.body).getD .skip, nt := 141, results := [.cell 2 25], keep := [0, 4, 6, 8, 42, 68, 98, 128, 168, 218, 246, 1, 5, 7, 9], live := [], modes := [(1, [(5, .take, false)]), (10, [(3, .take, false)]), (13, [(3, .take, false)])], ext := [0], fcast := [(5, 3, true)] }
theorem xLs : FnOk Tryz.prog 127 Tryz.f127 I127 := ⟨Tryz.func127, by kernel_rfl, by kernel_rfl, by kernel_rfl, by kernel_rfl⟩
def xUV (a0 : Rdr) (r1 : Exp × Rdr) : rE I127 (xBx a0) [Y, Y] [xAW r1] = dn (xBo (r1.1, r1.2)) [iY (dc ((Rdr.bad a0) ≥ 0)), iY true, xLZ a0 r1] := by kernel_rfl
def xUW (a0 : Rdr) (r1 : Exp × Rdr) : rE I127 (xBx a0) [F, Y] [xAW r1] = dn (xBo (r1.1, r1.2)) [xIc a0, iY (xPn a0), xLZ a0 r1] := by kernel_rfl
abbrev xRG (v0 : Exp) (v1 : Rdr) := xBo (v0, (Rdr.mk (Rdr.toks v1) (W ((Rdr.i v1) + 1)) (Rdr.fin v1) (Rdr.bad v1)))
abbrev xRH (v0 : Rdr) := ((Tok.kind (gD (Rdr.toks v0) (tN (Rdr.i v0)) Ty.tok.dflt)) : Int) == 2
def xUX (a0 : Rdr) (r1 : Exp) : rE I127 (xBx a0) [F, F, Y] [xBC r1] = dn (xRG r1 a0) [xIc a0, xIZ a0, xHc a0, iY (xRH a0), AbC 67 (xF5 (Tok.n (xKQ a0))) (xBC r1)] := by kernel_rfl
abbrev xLe (v0 : Rdr) : Prop := iN (xRH v0)
abbrev xRI (v0 : Rdr) := ((Tok.kind (gD (Rdr.toks v0) (tN (Rdr.i v0)) Ty.tok.dflt)) : Int) == 3
def xUY (a0 : Rdr) : rE I127 (xBx a0) [F, F, F, Y] [] = dn (xBo ((Exp.mk 2 0 (xMy a0) []), (xMz a0))) [xIc a0, xIZ a0, xHc a0, xLe a0, iY (xRI a0)] := by kernel_rfl
abbrev xL2 (v0 : Rdr) : Prop := iN (xRI v0)
abbrev xRJ (v0 : Rdr) := ((Tok.kind (gD (Rdr.toks v0) (tN (Rdr.i v0)) Ty.tok.dflt)) : Int) == 1
abbrev xLf (v0 : Rdr) : Prop := iY (xRJ v0)
def xUZ (a0 : Rdr) (r1 : Bool) (r2 : Exp) : rE I127 (xBx a0) [F, F, F, F, Y, Y] [xAL r1, xE7 r2] = dn (xRG r2 a0) [xIc a0, xIZ a0, xHc a0, xLe a0, xL2 a0, xLf a0, xMC a0 r1, iY r1, AbC 101 (xGm (xMy a0)) (xE7 r2)] := by kernel_rfl
abbrev xQa (v0 : Rdr) (v1 : Int) : Prop := AbC 106 (xAt (xMy v0)) (xAl v1)
def xU0 (a0 : Rdr) (r1 : Bool) (r2 : Int) (r3 : Rdr) (r4 : (List Exp) × Rdr) : rE I127 (xBx a0) [F, F, F, F, Y, F, Y, Y] [xAL r1, xAl r2, xAJ r3, xCB r4] = dn (xBo ((Exp.mk 5 0 (xMy a0) r4.1), r4.2)) [xIc a0, xIZ a0, xHc a0, xLe a0, xL2 a0, xLf a0, xMC a0 r1, iN r1, xLf a0, xQa a0 r2, iY (dc (r2 ≥ 0)), AbC 47 (xBR (xMz a0) [40]) (xAJ r3), AbC 137 (xE8 r3 [41]) (xCB r4)] := by kernel_rfl
abbrev xL3 (v0 : Int) : Prop := iN (dc (v0 ≥ 0))
abbrev xNd (v0 : Rdr) (v1 : Bool) : Prop := AbC 85 (xDX (xKQ v0) [91]) (xAX v1)
abbrev xWP (v0 : Rdr) (v1 : (List Exp) × Rdr) : Prop := AbC 137 (xE8 (xMz v0) [93]) (xCB v1)
def xU1 (a0 : Rdr) (r1 : Bool) (r2 : Int) (r3 : Bool) (r4 : (List Exp) × Rdr) : rE I127 (xBx a0) [F, F, F, F, Y, F, Y, F, Y] [xAL r1, xAl r2, xAX r3, xCB r4] = dn (xBo ((Exp.mk 4 0 [] r4.1), r4.2)) [xIc a0, xIZ a0, xHc a0, xLe a0, xL2 a0, xLf a0, xMC a0 r1, iN r1, xLf a0, xQa a0 r2, xL3 r2, xNd a0 r3, iY r3, xWP a0 r4] := by kernel_rfl
abbrev xQb (v0 : Rdr) (v1 : Bool) : Prop := AbC 85 (xDX (xKQ v0) [40]) (xAX v1)
abbrev xWQ (v0 : Rdr) (v1 : Exp × Rdr) : Prop := AbC 28 (xCC (xMz v0)) (xAv v1)
def xU2 (a0 : Rdr) (r1 : Bool) (r2 : Int) (r3 r4 : Bool) (r5 : Exp × Rdr) (r6 : Rdr) : rE I127 (xBx a0) [F, F, F, F, Y, F, Y, F, F, Y] [xAL r1, xAl r2, xAX r3, xAX r4, xAv r5, xAJ r6] = dn (xBo (r5.1, r6)) [xIc a0, xIZ a0, xHc a0, xLe a0, xL2 a0, xLf a0, xMC a0 r1, iN r1, xLf a0, xQa a0 r2, xL3 r2, xNd a0 r3, iN r3, xQb a0 r4, iY r4, xWQ a0 r5, AbC 47 (xBR r5.2 [41]) (xAJ r6)] := by kernel_rfl
def xU3 (a0 : Rdr) (r1 : Bool) (r2 : Int) (r3 r4 : Bool) (r5 : Exp × Rdr) : rE I127 (xBx a0) [F, F, F, F, Y, F, Y, F, F, F] [xAL r1, xAl r2, xAX r3, xAX r4, xAW r5] = dn (xBo (r5.1, r5.2)) [xIc a0, xIZ a0, xHc a0, xLe a0, xL2 a0, xLf a0, xMC a0 r1, iN r1, xLf a0, xQa a0 r2, xL3 r2, xNd a0 r3, iN r3, xQb a0 r4, iN r4, xLZ a0 r5] := by kernel_rfl
abbrev xNe (v0 : Rdr) : Prop := iN (xRJ v0)
def xU4 (a0 : Rdr) (r1 : Bool) (r2 : (List Exp) × Rdr) : rE I127 (xBx a0) [F, F, F, F, F, F, F, F, Y] [xAX r1, xCB r2] = dn (xBo ((Exp.mk 4 0 [] r2.1), r2.2)) [xIc a0, xIZ a0, xHc a0, xLe a0, xL2 a0, xNe a0, iN false, xNe a0, iN false, xNd a0 r1, iY r1, xWP a0 r2] := by kernel_rfl
def xSl (a0 : Rdr) (r1 r2 : Bool) (r3 : Exp × Rdr) (r4 : Rdr) : rE I127 (xBx a0) [F, F, F, F, F, F, F, F, F, Y] [xAX r1, xAX r2, xAv r3, xAJ r4] = dn (xBo (r3.1, r4)) [xIc a0, xIZ a0, xHc a0, xLe a0, xL2 a0, xNe a0, iN false, xNe a0, iN false, xNd a0 r1, iN r1, xQb a0 r2, iY r2, xWQ a0 r3, AbC 47 (xBR r3.2 [41]) (xAJ r4)] := by kernel_rfl
def xSm (a0 : Rdr) (r1 r2 : Bool) (r3 : Exp × Rdr) : rE I127 (xBx a0) [F, F, F, F, F, F, F, F, F, F] [xAX r1, xAX r2, xAW r3] = dn (xBo (r3.1, r3.2)) [xIc a0, xIZ a0, xHc a0, xLe a0, xL2 a0, xNe a0, iN false, xNe a0, iN false, xNd a0 r1, iN r1, xQb a0 r2, iN r2, xLZ a0 r3] := by kernel_rfl
theorem vC2 {N q0 q1 q2 q3 q4 q5} (g0 : G137 q0) (g1 : G127 q1) (g2 : G48 q2) (g3 : G28 q3) (g4 : G110 q4) (g5 : G88 q5) : ∀ a0 r, xEe N q0 q1 q2 q3 q4 q5 a0 = some r → RE Tryz.f127 I127 (xBx a0) (xBo r) := fun a0 r h =>
 cE h (fun h0 h => bE h fun r1 h2 h => dE h xLs (xUV a0 r1) (oc3 h0 rfl (xCD h2) on)) fun h0 h =>
 cE h (fun h1 h => bE h fun r1 h2 h => dE h xLs (xUW a0 r1) (oc3 h0 h1 (xCD h2) on)) fun h1 h =>
 iE h fun h2 h => cE h (fun h3 h => bE h fun r1 h4 h => dE h xLs (xUX a0 r1) (oc5 h0 h1 h2 h3 (xC3 h4) on)) fun h3 h =>
 cE h (fun h4 h => dE h xLs (xUY a0) (oc5 h0 h1 h2 h3 h4 on)) fun h4 h =>
 cE h (fun h5 h => bE h fun r1 h6 h => cE h (fun h7 h => bE h fun r2 h8 h => dE h xLs (xUZ a0 r1 r2) (oc9 h0 h1 h2 h3 h4 h5 (xCb h6) h7 (xKc h8) on)) fun h7 h =>
 bE h fun r2 h9 h => cE h (fun h10 h => bE h fun r3 h11 h => bE h fun r4 h12 h => dE h xLs (xU0 a0 r1 r2 r3 r4) (oc12 h0 h1 h2 h3 h4 h5 (xCb h6) h7 h5 (xEo h9) h10 (xCZ h11) (oc (g0 _ _ _ h12) on))) fun h10 h =>
 bE h fun r3 h11 h => cE h (fun h12 h => bE h fun r4 h13 h => dE h xLs (xU1 a0 r1 r2 r3 r4) (oc12 h0 h1 h2 h3 h4 h5 (xCb h6) h7 h5 (xEo h9) h10 (xCm h11) (oc2 h12 (g0 _ _ _ h13) on))) fun h12 h =>
 bE h fun r4 h13 h => cE h (fun h14 h => bE h fun r5 h15 h => bE h fun r6 h16 h => dE h xLs (xU2 a0 r1 r2 r3 r4 r5 r6) (oc12 h0 h1 h2 h3 h4 h5 (xCb h6) h7 h5 (xEo h9) h10 (xCm h11) (oc5 h12 (xCm h13) h14 (g3 _ _ h15) (xCZ h16) on))) fun h14 h =>
 bE h fun r5 h15 h => dE h xLs (xU3 a0 r1 r2 r3 r4 r5) (oc12 h0 h1 h2 h3 h4 h5 (xCb h6) h7 h5 (xEo h9) h10 (xCm h11) (oc4 h12 (xCm h13) h14 (xCD h15) on))) fun h5 h =>
 bE h fun r1 h9 h => cE h (fun h10 h => bE h fun r2 h11 h => dE h xLs (xU4 a0 r1 r2) (oc12 h0 h1 h2 h3 h4 h5 rfl h5 rfl (xCm h9) h10 (g0 _ _ _ h11) on)) fun h10 h =>
 bE h fun r2 h11 h => cE h (fun h12 h => bE h fun r3 h13 h => bE h fun r4 h14 h => dE h xLs (xSl a0 r1 r2 r3 r4) (oc12 h0 h1 h2 h3 h4 h5 rfl h5 rfl (xCm h9) h10 (xCm h11) (oc3 h12 (g3 _ _ h13) (xCZ h14) on))) fun h12 h =>
 bE h fun r3 h13 h => dE h xLs (xSm a0 r1 r2 r3) (oc12 h0 h1 h2 h3 h4 h5 rfl h5 rfl (xCm h9) h10 (xCm h11) (oc2 h12 (xCD h13) on))
theorem xKu {N q0 q1 q2 q3 q4 q5} (g0 : G137 q0) (g1 : G127 q1) (g2 : G48 q2) (g3 : G28 q3) (g4 : G110 q4) (g5 : G88 q5) {a0} {r} (h : xEe N q0 q1 q2 q3 q4 q5 a0 = some r) : AbC 127 (xBx a0) (xBo r) :=
 AbsCalls.of_reach xLs rfl rfl (Nat.le_of_ble_eq_true rfl) (vC2 g0 g1 g2 g3 g4 g5 a0 r h)
noncomputable def I48 : Info := { body := (Tryz.f48.body).getD .skip, nt := 37, results := [.cell 2 25], keep := [0, 4, 6, 12, 42, 1, 5, 7], live := [], modes := [], ext := [0], fcast := [(5, 3, true)] }
theorem fk48 : FnOk Tryz.prog 48 Tryz.f48 I48 := ⟨Tryz.func48, by kernel_rfl, by kernel_rfl, by kernel_rfl, by kernel_rfl⟩
abbrev xWR (v0 : Bool × Rdr) (v1 : Exp × Rdr) : Prop := AbC 88 (xEP (xJ5 v0)) (xCs v1)
def xZo (a0 : Rdr) (r1 : Exp × Rdr) (r2 : Bool × Rdr) (r3 : Exp × Rdr) (r4 : Exp) : rE I48 (xDP a0) [Y] [xCs r1, xAe r2, xCs r3, xBv r4] = dn (xDk (r4, r3.2)) [AbC 88 (xEP a0) (xCs r1), AbC 45 (xAH r1.2 [60]) (xAe r2), iY r2.1, xWR r2 r3, AbC 66 (xDB 4 r1.1 r3.1) (xBv r4)] := by kernel_rfl
def xZp (a0 : Rdr) (r1 : Exp × Rdr) (r2 : Bool × Rdr) (r3 : Bool × Rdr) (r4 : Exp × Rdr) (r5 : Exp) : rE I48 (xDP a0) [F, Y] [xCs r1, xAe r2, xAe r3, xCs r4, xBv r5] = dn (xDk (r5, r4.2)) [AbC 88 (xEP a0) (xCs r1), AbC 45 (xAH r1.2 [60]) (xAe r2), iN r2.1, AbC 45 (xAH r2.2 [61, 61]) (xAe r3), iY r3.1, xWR r3 r4, AbC 66 (xDB 5 r1.1 r4.1) (xBv r5)] := by kernel_rfl
def xZq (a0 : Rdr) (r1 : Exp × Rdr) (r2 : Bool × Rdr) (r3 : Bool × Rdr) : rE I48 (xDP a0) [F, F] [xCs r1, xAe r2, xAe r3] = dn (xDk (r1.1, r3.2)) [AbC 88 (xEP a0) (xCs r1), AbC 45 (xAH r1.2 [60]) (xAe r2), iN r2.1, AbC 45 (xAH r2.2 [61, 61]) (xAe r3), iN r3.1] := by kernel_rfl
theorem vEl {N q0 q1 q2 q3 q4 q5} (g0 : G137 q0) (g1 : G127 q1) (g2 : G48 q2) (g3 : G28 q3) (g4 : G110 q4) (g5 : G88 q5) : ∀ a0 r, xDd N q0 q1 q2 q3 q4 q5 a0 = some r → RE Tryz.f48 I48 (xDP a0) (xDk r) := fun a0 r h =>
 bE h fun r1 h0 h => bE h fun r2 h1 h => cE h (fun h2 h => bE h fun r3 h3 h => bE h fun r4 h4 h => dE h fk48 (xZo a0 r1 r2 r3 r4) (oc5 (g5 _ _ h0) (xAq h1) h2 (g5 _ _ h3) (xEJ h4) on)) fun h2 h =>
 bE h fun r3 h3 h => cE h (fun h4 h => bE h fun r4 h5 h => bE h fun r5 h6 h => dE h fk48 (xZp a0 r1 r2 r3 r4 r5) (oc7 (g5 _ _ h0) (xAq h1) h2 (xAq h3) h4 (g5 _ _ h5) (xEJ h6) on)) fun h4 h =>
 dE h fk48 (xZq a0 r1 r2 r3) (oc5 (g5 _ _ h0) (xAq h1) h2 (xAq h3) h4 on)
theorem xJt {N q0 q1 q2 q3 q4 q5} (g0 : G137 q0) (g1 : G127 q1) (g2 : G48 q2) (g3 : G28 q3) (g4 : G110 q4) (g5 : G88 q5) {a0} {r} (h : xDd N q0 q1 q2 q3 q4 q5 a0 = some r) : AbC 48 (xDP a0) (xDk r) :=
 AbsCalls.of_reach fk48 rfl rfl (Nat.le_of_ble_eq_true rfl) (vEl g0 g1 g2 g3 g4 g5 a0 r h)
noncomputable def I28 : Info := { body := (Tryz.f28.body).getD .skip, nt := 86, results := [.cell 2 25], keep := [0, 4, 6, 8, 10, 12, 14, 16, 18, 68, 118, 1, 5, 9, 11, 13, 17], live := [], modes := [(7, [(0, .take, false)]), (21, [(0, .take, false)])], ext := [0], fcast := [(5, 3, true)] }
theorem fk28 : FnOk Tryz.prog 28 Tryz.f28 I28 := ⟨Tryz.func28, by kernel_rfl, by kernel_rfl, by kernel_rfl, by kernel_rfl⟩
abbrev xQc (v0 : Rdr) (v1 : Bool × Rdr) : Prop := AbC 45 (xAH v0 [108, 101, 116]) (xAe v1)
abbrev xWS (v0 : Bool × Rdr) (v1 : Str × Rdr) : Prop := AbC 46 (xEr (xJ5 v0)) (xDs v1)
def xYa (a0 : Rdr) (r1 : Bool × Rdr) (r2 : Str × Rdr) (r3 : Rdr) (r4 : Exp × Rdr) (r5 : Rdr) (r6 : Exp × Rdr) : rE I28 (xCC a0) [Y] [xAe r1, xDs r2, xAJ r3, xAv r4, xAJ r5, xAv r6] = dn (xAv ((Exp.mk 7 0 r2.1 [(Exp.re r4.1), (Exp.re r6.1)]), r6.2)) [xQc a0 r1, iY r1.1, xWS r1 r2, AbC 47 (xBR r2.2 [61]) (xAJ r3), xL1 r3 r4, AbC 47 (xBR r4.2 [105, 110]) (xAJ r5), xL1 r5 r6] := by kernel_rfl
def xYb (a0 : Rdr) (r1 : Bool × Rdr) (r2 : Bool × Rdr) (r3 : Exp × Rdr) (r4 : Rdr) (r5 : Exp × Rdr) (r6 : Rdr) (r7 : Exp × Rdr) : rE I28 (xCC a0) [F, Y] [xAe r1, xAe r2, xAv r3, xAJ r4, xAv r5, xAJ r6, xAv r7] = dn (xAv ((Exp.mk 8 0 [] [(Exp.re r3.1), (Exp.re r5.1), (Exp.re r7.1)]), r7.2)) [xQc a0 r1, iN r1.1, AbC 45 (xAH r1.2 [105, 102]) (xAe r2), iY r2.1, AbC 28 (xCC (xJ5 r2)) (xAv r3), AbC 47 (xBR r3.2 [116, 104, 101, 110]) (xAJ r4), xL1 r4 r5, AbC 47 (xBR r5.2 [101, 108, 115, 101]) (xAJ r6), xL1 r6 r7] := by kernel_rfl
def xYc (a0 : Rdr) (r1 : Bool × Rdr) (r2 : Bool × Rdr) (r3 : Bool × Rdr) (r4 : Str × Rdr) (r5 : Rdr) (r6 : Exp × Rdr) (r7 : Rdr) (r8 : Exp × Rdr) : rE I28 (xCC a0) [F, F, Y] [xAe r1, xAe r2, xAe r3, xDs r4, xAJ r5, xAv r6, xAJ r7, xAv r8] = dn (xAv ((Exp.mk 9 0 r4.1 [(Exp.re r6.1), (Exp.re r8.1)]), r8.2)) [xQc a0 r1, iN r1.1, AbC 45 (xAH r1.2 [105, 102]) (xAe r2), iN r2.1, AbC 45 (xAH r2.2 [102, 111, 114]) (xAe r3), iY r3.1, xWS r3 r4, AbC 47 (xBR r4.2 [105, 110]) (xAJ r5), xL1 r5 r6, AbC 47 (xBR r6.2 [100, 111]) (xAJ r7), xL1 r7 r8] := by kernel_rfl
def xYd (a0 : Rdr) (r1 : Bool × Rdr) (r2 : Bool × Rdr) (r3 : Bool × Rdr) (r4 : Exp × Rdr) : rE I28 (xCC a0) [F, F, F] [xAe r1, xAe r2, xAe r3, xDk r4] = dn (xAv (r4.1, r4.2)) [xQc a0 r1, iN r1.1, AbC 45 (xAH r1.2 [105, 102]) (xAe r2), iN r2.1, AbC 45 (xAH r2.2 [102, 111, 114]) (xAe r3), iN r3.1, AbC 48 (xDP r3.2) (xDk r4)] := by kernel_rfl
theorem vDZ {N q0 q1 q2 q3 q4 q5} (g0 : G137 q0) (g1 : G127 q1) (g2 : G48 q2) (g3 : G28 q3) (g4 : G110 q4) (g5 : G88 q5) : ∀ a0 r, xEf N q0 q1 q2 q3 q4 q5 a0 = some r → RE Tryz.f28 I28 (xCC a0) (xAv r) := fun a0 r h =>
 bE h fun r1 h0 h => cE h (fun h1 h => bE h fun r2 h2 h => bE h fun r3 h3 h => bE h fun r4 h4 h => bE h fun r5 h5 h => bE h fun r6 h6 h => dE h fk28 (xYa a0 r1 r2 r3 r4 r5 r6) (oc7 (xAq h0) h1 (xKd h2) (xCZ h3) (g3 _ _ h4) (xCZ h5) (g3 _ _ h6) on)) fun h1 h =>
 bE h fun r2 h2 h => cE h (fun h3 h => bE h fun r3 h4 h => bE h fun r4 h5 h => bE h fun r5 h6 h => bE h fun r6 h7 h => bE h fun r7 h8 h => dE h fk28 (xYb a0 r1 r2 r3 r4 r5 r6 r7) (oc9 (xAq h0) h1 (xAq h2) h3 (g3 _ _ h4) (xCZ h5) (g3 _ _ h6) (xCZ h7) (g3 _ _ h8) on)) fun h3 h =>
 bE h fun r3 h4 h => cE h (fun h5 h => bE h fun r4 h6 h => bE h fun r5 h7 h => bE h fun r6 h8 h => bE h fun r7 h9 h => bE h fun r8 h10 h => dE h fk28 (xYc a0 r1 r2 r3 r4 r5 r6 r7 r8) (oc11 (xAq h0) h1 (xAq h2) h3 (xAq h4) h5 (xKd h6) (xCZ h7) (g3 _ _ h8) (xCZ h9) (g3 _ _ h10) on)) fun h5 h =>
 bE h fun r4 h6 h => dE h fk28 (xYd a0 r1 r2 r3 r4) (oc7 (xAq h0) h1 (xAq h2) h3 (xAq h4) h5 (g2 _ _ h6) on)
theorem xKv {N q0 q1 q2 q3 q4 q5} (g0 : G137 q0) (g1 : G127 q1) (g2 : G48 q2) (g3 : G28 q3) (g4 : G110 q4) (g5 : G88 q5) {a0} {r} (h : xEf N q0 q1 q2 q3 q4 q5 a0 = some r) : AbC 28 (xCC a0) (xAv r) :=
 AbsCalls.of_reach fk28 rfl rfl (Nat.le_of_ble_eq_true rfl) (vDZ g0 g1 g2 g3 g4 g5 a0 r h)
noncomputable def I110 : Info := { body := (Tryz.f110.body).getD .skip, nt := 21, results := [.cell 2 25], keep := [0, 4, 6, 14, 1, 5, 7], live := [(2, [0, 4, 6, 1, 5, 7])], modes := [], ext := [0], casts := [(2, [(7, 3, true)])] }
theorem xS9 : FnOk Tryz.prog 110 Tryz.f110 I110 := ⟨Tryz.func110, by kernel_rfl, by kernel_rfl, by kernel_rfl, by kernel_rfl⟩
def xN4 (b0 : Rdr) (b2 b3 : Exp) : St := [(0, .v false [.ptr 0 0]), (4, .v false [.ptr 2 0]), (6, .v false [.ptr 3 0]), (1, .v true [.sl .ro .tok (Rdr.toks b0), .int .i64 (Rdr.i b0), .int .i64 (Rdr.fin b0), .int .i64 (Rdr.bad b0)]), (5, .v true [.int .i64 (Exp.kind b2), .int .i64 (Exp.n b2), .str (Exp.text b2), .sl .own .exp (Exp.args b2)]), (7, .v true [.int .i64 (Exp.kind b3), .int .i64 (Exp.n b3), .str (Exp.text b3), .sl .ro .exp (Exp.args b3)])]
def xT0 (b0 : Rdr) (b2 b3 : Exp) (r1 : Bool × Rdr) (r2 : Exp × Rdr) (r3 : Exp) : rS 2 I110 (xN4 b0 b2 b3) [Y] [xAe r1, xBo r2, xBv r3] = st 2 I110 (xN4 r2.2 b2 r3) [AbC 45 (xAH b0 [42]) (xAe r1), iY r1.1, AbC 127 (xBx (xJ5 r1)) (xBo r2), AbC 66 (xDB 3 b3 r2.1) (xBv r3)] := by kernel_rfl
def xT1 (b0 : Rdr) (b2 b3 : Exp) (r1 : Bool × Rdr) : rS 2 I110 (xN4 b0 b2 b3) [F] [xAe r1] = dn (xBP (b3, r1.2)) [AbC 45 (xAH b0 [42]) (xAe r1), iN r1.1] := by kernel_rfl
def xT2 (a0 : Rdr) (r1 : Exp × Rdr) : rE I110 (xEy a0) [] [xBo r1] = st 2 I110 (xN4 r1.2 (Exp.mk 0 0 [] []) r1.1) [AbC 127 (xBx a0) (xBo r1)] := by kernel_rfl
theorem vCL {N q0 q1 q2 q3 q4 q5} (g0 : G137 q0) (g1 : G127 q1) (g2 : G48 q2) (g3 : G28 q3) (g4 : G110 q4) (g5 : G88 q5) : ∀ n b0 b2 b3 r, xDl N q0 q1 q2 q3 q4 q5 n b0 b2 b3 = some r → RS Tryz.f110 I110 2 (xN4 b0 b2 b3) (xBP r) := by
 intro n
 induction n with
 | zero => exact fun _ _ _ _ h => nE h
 | succ n ih =>
  exact fun b0 b2 b3 r h =>
   bE h fun r1 h0 h => cE h (fun h1 h => bE h fun r2 h2 h => bE h fun r3 h3 h => tS xS9 (xT0 b0 b2 b3 r1 r2 r3) (oc4 (xAq h0) h1 (g1 _ _ h2) (xEJ h3) on) (ih _ _ _ _ h)) fun h1 h =>
   dS h xS9 (xT1 b0 b2 b3 r1) (oc2 (xAq h0) h1 on)
theorem vCM {N q0 q1 q2 q3 q4 q5} (g0 : G137 q0) (g1 : G127 q1) (g2 : G48 q2) (g3 : G28 q3) (g4 : G110 q4) (g5 : G88 q5) : ∀ a0 r, xDe N q0 q1 q2 q3 q4 q5 a0 = some r → RE Tryz.f110 I110 (xEy a0) (xBP r) := fun a0 r h =>
 bE h fun r1 h0 h => tE xS9 (xT2 a0 r1) (oc (g1 _ _ h0) on) (vCL g0 g1 g2 g3 g4 g5 _ _ _ _ _ h)
theorem xJu {N q0 q1 q2 q3 q4 q5} (g0 : G137 q0) (g1 : G127 q1) (g2 : G48 q2) (g3 : G28 q3) (g4 : G110 q4) (g5 : G88 q5) {a0} {r} (h : xDe N q0 q1 q2 q3 q4 q5 a0 = some r) : AbC 110 (xEy a0) (xBP r) :=
 AbsCalls.of_reach xS9 rfl rfl (Nat.le_of_ble_eq_true rfl) (vCM g0 g1 g2 g3 g4 g5 a0 r h)
noncomputable def I88 : Info := { body := (Tryz.f88.body).getD .skip, nt := 29, results := [.cell 2 25], keep := [0, 4, 6, 8, 24, 28, 1, 5, 7], live := [(2, [0, 4, 6, 1, 5, 7])], modes := [(2, [(2, .take, false)]), (7, [(0, .take, false)])], ext := [0], casts := [(2, [(7, 3, true)])] }
theorem fk88 : FnOk Tryz.prog 88 Tryz.f88 I88 := ⟨Tryz.func88, by kernel_rfl, by kernel_rfl, by kernel_rfl, by kernel_rfl⟩
def xMj (b0 : Rdr) (b2 b3 : Exp) : St := [(0, .v false [.ptr 0 0]), (4, .v false [.ptr 2 0]), (6, .v false [.ptr 3 0]), (1, .v true [.sl .ro .tok (Rdr.toks b0), .int .i64 (Rdr.i b0), .int .i64 (Rdr.fin b0), .int .i64 (Rdr.bad b0)]), (5, .v true [.int .i64 (Exp.kind b2), .int .i64 (Exp.n b2), .str (Exp.text b2), .sl .own .exp (Exp.args b2)]), (7, .v true [.int .i64 (Exp.kind b3), .int .i64 (Exp.n b3), .str (Exp.text b3), .sl .ro .exp (Exp.args b3)])]
abbrev xOo (v0 : Rdr) (v1 : Bool × Rdr) : Prop := AbC 45 (xAH v0 [43]) (xAe v1)
abbrev xMD (v0 v1 : Bool × Rdr) : Prop := AbC 45 (xAH v0.2 [45]) (xAe v1)
abbrev xQd (v0 : Bool × Rdr) (v1 : Exp × Rdr) : Prop := AbC 110 (xEy (xJ5 v0)) (xBP v1)
def vBB (b0 : Rdr) (b2 b3 : Exp) (r1 : Bool × Rdr) (r2 : Bool × Rdr) (r3 : Exp × Rdr) (r4 : Exp) : rS 2 I88 (xMj b0 b2 b3) [Y, Y, Y] [xAe r1, xAe r2, xBP r3, xBv r4] = st 2 I88 (xMj r3.2 b2 r4) [xOo b0 r1, iY r1.1, iY true, xMD r1 r2, iY r2.1, xQd r2 r3, AbC 66 (xDB 2 b3 r3.1) (xBv r4)] := by kernel_rfl
def vBC (b0 : Rdr) (b2 b3 : Exp) (r1 : Bool × Rdr) (r2 : Bool × Rdr) (r3 : Exp × Rdr) (r4 : Exp) : rS 2 I88 (xMj b0 b2 b3) [Y, Y, F] [xAe r1, xAe r2, xBP r3, xBv r4] = st 2 I88 (xMj r3.2 b2 r4) [xOo b0 r1, iY r1.1, iY true, xMD r1 r2, iN r2.1, xQd r2 r3, AbC 66 (xDB 1 b3 r3.1) (xBv r4)] := by kernel_rfl
def vBD (b0 : Rdr) (b2 b3 : Exp) (r1 : Bool × Rdr) (r2 : Bool × Rdr) (r3 : Bool × Rdr) (r4 : Exp × Rdr) (r5 : Exp) : rS 2 I88 (xMj b0 b2 b3) [F, Y, Y] [xAe r1, xAe r2, xAe r3, xBP r4, xBv r5] = st 2 I88 (xMj r4.2 b2 r5) [xOo b0 r1, iN r1.1, xMD r1 r2, iY r2.1, xMD r2 r3, iY r3.1, xQd r3 r4, AbC 66 (xDB 2 b3 r4.1) (xBv r5)] := by kernel_rfl
def vBE (b0 : Rdr) (b2 b3 : Exp) (r1 : Bool × Rdr) (r2 : Bool × Rdr) (r3 : Bool × Rdr) (r4 : Exp × Rdr) (r5 : Exp) : rS 2 I88 (xMj b0 b2 b3) [F, Y, F] [xAe r1, xAe r2, xAe r3, xBP r4, xBv r5] = st 2 I88 (xMj r4.2 b2 r5) [xOo b0 r1, iN r1.1, xMD r1 r2, iY r2.1, xMD r2 r3, iN r3.1, xQd r3 r4, AbC 66 (xDB 1 b3 r4.1) (xBv r5)] := by kernel_rfl
def vBF (b0 : Rdr) (b2 b3 : Exp) (r1 : Bool × Rdr) (r2 : Bool × Rdr) : rS 2 I88 (xMj b0 b2 b3) [F, F] [xAe r1, xAe r2] = dn (xCs (b3, r2.2)) [xOo b0 r1, iN r1.1, xMD r1 r2, iN r2.1] := by kernel_rfl
def vBG (a0 : Rdr) (r1 : Exp × Rdr) : rE I88 (xEP a0) [] [xBP r1] = st 2 I88 (xMj r1.2 (Exp.mk 0 0 [] []) r1.1) [AbC 110 (xEy a0) (xBP r1)] := by kernel_rfl
theorem vE6 {N q0 q1 q2 q3 q4 q5} (g0 : G137 q0) (g1 : G127 q1) (g2 : G48 q2) (g3 : G28 q3) (g4 : G110 q4) (g5 : G88 q5) : ∀ n b0 b2 b3 r, xC5 N q0 q1 q2 q3 q4 q5 n b0 b2 b3 = some r → RS Tryz.f88 I88 2 (xMj b0 b2 b3) (xCs r) := by
 intro n
 induction n with
 | zero => exact fun _ _ _ _ h => nE h
 | succ n ih =>
  exact fun b0 b2 b3 r h =>
   bE h fun r1 h0 h => cE h (fun h1 h => bE h fun r2 h3 h => cE h (fun h4 h => bE h fun r3 h5 h => bE h fun r4 h6 h => tS fk88 (vBB b0 b2 b3 r1 r2 r3 r4) (oc7 (xAq h0) h1 rfl (xAq h3) h4 (g4 _ _ h5) (xEJ h6) on) (ih _ _ _ _ h)) fun h4 h =>
   bE h fun r3 h5 h => bE h fun r4 h6 h => tS fk88 (vBC b0 b2 b3 r1 r2 r3 r4) (oc7 (xAq h0) h1 rfl (xAq h3) h4 (g4 _ _ h5) (xEJ h6) on) (ih _ _ _ _ h)) fun h1 h =>
   bE h fun r2 h2 h => cE h (fun h3 h => bE h fun r3 h4 h => cE h (fun h5 h => bE h fun r4 h6 h => bE h fun r5 h7 h => tS fk88 (vBD b0 b2 b3 r1 r2 r3 r4 r5) (oc8 (xAq h0) h1 (xAq h2) h3 (xAq h4) h5 (g4 _ _ h6) (xEJ h7) on) (ih _ _ _ _ h)) fun h5 h =>
   bE h fun r4 h6 h => bE h fun r5 h7 h => tS fk88 (vBE b0 b2 b3 r1 r2 r3 r4 r5) (oc8 (xAq h0) h1 (xAq h2) h3 (xAq h4) h5 (g4 _ _ h6) (xEJ h7) on) (ih _ _ _ _ h)) fun h3 h =>
   dS h fk88 (vBF b0 b2 b3 r1 r2) (oc4 (xAq h0) h1 (xAq h2) h3 on)
theorem vE7 {N q0 q1 q2 q3 q4 q5} (g0 : G137 q0) (g1 : G127 q1) (g2 : G48 q2) (g3 : G28 q3) (g4 : G110 q4) (g5 : G88 q5) : ∀ a0 r, xEE N q0 q1 q2 q3 q4 q5 a0 = some r → RE Tryz.f88 I88 (xEP a0) (xCs r) := fun a0 r h =>
 bE h fun r1 h0 h => tE fk88 (vBG a0 r1) (oc (g4 _ _ h0) on) (vE6 g0 g1 g2 g3 g4 g5 _ _ _ _ _ h)
theorem xK0 {N q0 q1 q2 q3 q4 q5} (g0 : G137 q0) (g1 : G127 q1) (g2 : G48 q2) (g3 : G28 q3) (g4 : G110 q4) (g5 : G88 q5) {a0} {r} (h : xEE N q0 q1 q2 q3 q4 q5 a0 = some r) : AbC 88 (xEP a0) (xCs r) :=
 AbsCalls.of_reach fk88 rfl rfl (Nat.le_of_ble_eq_true rfl) (vE7 g0 g1 g2 g3 g4 g5 a0 r h)
theorem xKZ {N : Nat} : ∀ d, G137 (xAa N d).c_spec_l11Args ∧ G127 (xAa N d).c_spec_l11Atom ∧ G48 (xAa N d).c_spec_l11Compare ∧ G28 (xAa N d).c_spec_l11Expr ∧ G110 (xAa N d).c_spec_l11Product ∧ G88 (xAa N d).c_spec_l11Sum := by
 intro d
 induction d with
 | zero => exact ⟨fun _ _ _ h => nE h, fun _ _ h => nE h, fun _ _ h => nE h, fun _ _ h => nE h, fun _ _ h => nE h, fun _ _ h => nE h⟩
 | succ d ih =>
  obtain ⟨ih0, ih1, ih2, ih3, ih4, ih5⟩ := ih
  exact ⟨fun _ _ _ h => xKt (N := N) ih0 ih1 ih2 ih3 ih4 ih5 h, fun _ _ h => xKu (N := N) ih0 ih1 ih2 ih3 ih4 ih5 h, fun _ _ h => xJt (N := N) ih0 ih1 ih2 ih3 ih4 ih5 h, fun _ _ h => xKv (N := N) ih0 ih1 ih2 ih3 ih4 ih5 h, fun _ _ h => xJu (N := N) ih0 ih1 ih2 ih3 ih4 ih5 h, fun _ _ h => xK0 (N := N) ih0 ih1 ih2 ih3 ih4 ih5 h⟩
theorem xDQ {N : Nat} {a0 : Rdr} {r : Exp × Rdr} (h : xIC N a0 = some r) : AbC 28 (xCC a0) (xAv r) := (xKZ N).2.2.2.1 _ r h
def G40 (q : Exp → Int → Option (Int)) : Prop := ∀ a0 a1 r, q a0 a1 = some r → AbC 40 (xDO a0 a1) (xBQ r)
noncomputable def I40 : Info := { body := (Tryz.f40.body).getD .skip, nt := 27, results := [.tmp 4], keep := [0, 2, 4, 8, 10, 32, 5], live := [(3, [2, 4, 10, 5])], modes := [(3, [(5, .take, false)])] }
theorem fk40 : FnOk Tryz.prog 40 Tryz.f40 I40 := ⟨Tryz.func40, by kernel_rfl, by kernel_rfl, by kernel_rfl, by kernel_rfl⟩
def xQt (x1 x5 : Int) (b2 : Exp) : St := [(2, .v false [.int .i64 x1]), (4, .v false [.ptr 2 0]), (10, .v false [.int .i64 x5]), (5, .v true [.int .i64 (Exp.kind b2), .int .i64 (Exp.n b2), .str (Exp.text b2), .sl .ro .exp (Exp.args b2)])]
abbrev xNQ (v0 : Int) (v1 : Exp) := dc (v0 < (Ln (Exp.args v1) : Int))
abbrev xOp (v0 : Int) (v1 : Exp) : Prop := iY (xNQ v0 v1)
abbrev xL4 (v0 : Int) (v1 : Exp) : Prop := (0 : Int) ≤ v0 ∧ v0 < (Ln (Exp.args v1))
abbrev xJ6 (v0 : Exp) (v1 : Int) := gD (Exp.args v0) (tN v1) Ty.exp.dflt
def xYT (x1 x5 : Int) (b2 : Exp) (r1 : Int) : rS 3 I40 (xQt x1 x5 b2) [Y, Y] [xBQ r1] = st 3 I40 (xQt r1 (W (x5 + 1)) b2) [xOp x5 b2, iY (dc (x1 ≥ 0)), xL4 x5 b2, AbC 40 (xDO (xJ6 b2 x5) x1) (xBQ r1)] := by kernel_rfl
def xYU (x1 x5 : Int) (b2 : Exp) : rS 3 I40 (xQt x1 x5 b2) [Y, F] [] = dn (xBQ x1) [xOp x5 b2, xL3 x1] := by kernel_rfl
def xYV (x1 x5 : Int) (b2 : Exp) : rS 3 I40 (xQt x1 x5 b2) [F, F] [] = dn (xBQ x1) [iN (xNQ x5 b2), iN false] := by kernel_rfl
def xYW (a0 : Exp) (a1 : Int) : rE I40 (xDO a0 a1) [] [] = st 3 I40 (xQt (W (a1 - 1)) 0 a0) [] := by kernel_rfl
theorem vD9 {N q0} (g0 : G40 q0) : ∀ n x1 x5 b2 r, xEq N q0 n x1 x5 b2 = some r → RS Tryz.f40 I40 3 (xQt x1 x5 b2) (xBQ r) := by
 intro n
 induction n with
 | zero => exact fun _ _ _ _ h => nE h
 | succ n ih =>
  exact fun x1 x5 b2 r h =>
   cE h (fun h0 h => cE h (fun h1 h => iE h fun h2 h => bE h fun r1 h3 h => tS fk40 (xYT x1 x5 b2 r1) (oc4 h0 h1 h2 (g0 _ _ _ h3) on) (ih _ _ _ _ h)) fun h1 h =>
   dS h fk40 (xYU x1 x5 b2) (oc2 h0 h1 on)) fun h0 h =>
   dS h fk40 (xYV x1 x5 b2) (oc2 h0 rfl on)
theorem vEa {N q0} (g0 : G40 q0) : ∀ a0 a1 r, xHu N q0 a0 a1 = some r → RE Tryz.f40 I40 (xDO a0 a1) (xBQ r) := fun a0 a1 r h =>
 tE fk40 (xYW a0 a1) on (vD9 g0 _ _ _ _ _ h)
theorem xKr {N q0} (g0 : G40 q0) {a0} {a1} {r} (h : xHu N q0 a0 a1 = some r) : AbC 40 (xDO a0 a1) (xBQ r) :=
 AbsCalls.of_reach fk40 rfl rfl (Nat.le_of_ble_eq_true rfl) (vEa g0 a0 a1 r h)
theorem xIh {N : Nat} : ∀ d, G40 (xFj N d)
 | 0 => fun _ _ _ h => nE h
 | d + 1 => fun _ _ _ h => xKr (N := N) (xIh d) h
theorem xIi {N : Nat} {a0 : Exp} {a1 : Int} {r : Int} (h : xJ9 N a0 a1 = some r) : AbC 40 (xDO a0 a1) (xBQ r) := xIh N _ _ r h
noncomputable def I77 : Info := { body := (Tryz.f77.body).getD .skip, nt := 10, results := [.tmp 4], keep := [0, 2, 8, 14], live := [], modes := [] }
theorem fk77 : FnOk Tryz.prog 77 Tryz.f77 I77 := ⟨Tryz.func77, by kernel_rfl, by kernel_rfl, by kernel_rfl, by kernel_rfl⟩
def vAU (a0 a1 : Int) : rE I77 (xHg a0 a1) [Y] [] = dn (xGw a0) [iY (dc (a0 > a1))] := by kernel_rfl
def vAV (a0 a1 : Int) : rE I77 (xHg a0 a1) [F] [] = dn (xGw a1) [iN (dc (a0 > a1))] := by kernel_rfl
theorem vEU {N : Nat} : ∀ a0 a1 r, xI7 N a0 a1 = some r → RE Tryz.f77 I77 (xHg a0 a1) (xGw r) := fun a0 a1 r h =>
 cE h (fun h0 h => dE h fk77 (vAU a0 a1) (oc h0 on)) fun h0 h =>
 dE h fk77 (vAV a0 a1) (oc h0 on)
theorem xNY {N : Nat} {a0 : Int} {a1 : Int} {r : Int} (h : xI7 N  a0 a1 = some r) : AbC 77 (xHg a0 a1) (xGw r) :=
 AbsCalls.of_reach fk77 rfl rfl (Nat.le_of_ble_eq_true rfl) (vEU a0 a1 r h)
def G41 (q : Exp → Option (Int)) : Prop := ∀ a0 r, q a0 = some r → AbC 41 (xDH a0) (xB0 r)
noncomputable def I41 : Info := { body := (Tryz.f41.body).getD .skip, nt := 22, results := [.tmp 2], keep := [0, 2, 4, 6, 8, 18, 3], live := [(3, [2, 6, 8, 3])], modes := [] }
theorem fk41 : FnOk Tryz.prog 41 Tryz.f41 I41 := ⟨Tryz.func41, by kernel_rfl, by kernel_rfl, by kernel_rfl, by kernel_rfl⟩
def xQS (x3 x4 : Int) (b1 : Exp) : St := [(2, .v false [.ptr 1 0]), (6, .v false [.int .i64 x3]), (8, .v false [.int .i64 x4]), (3, .v true [.int .i64 (Exp.kind b1), .int .i64 (Exp.n b1), .str (Exp.text b1), .sl .ro .exp (Exp.args b1)])]
def xYX (x3 x4 : Int) (b1 : Exp) (r1 r2 : Int) : rS 3 I41 (xQS x3 x4 b1) [Y] [xB0 r1, xGw r2] = st 3 I41 (xQS r2 (W (x4 + 1)) b1) [xOp x4 b1, xL4 x4 b1, AbC 41 (xDH (xJ6 b1 x4)) (xB0 r1), AbC 77 (xHg x3 r1) (xGw r2)] := by kernel_rfl
def xYY (x3 x4 : Int) (b1 : Exp) : rS 3 I41 (xQS x3 x4 b1) [F] [] = dn (xB0 (W (x3 + 1))) [iN (xNQ x4 b1)] := by kernel_rfl
def xYZ (a0 : Exp) : rE I41 (xDH a0) [] [] = st 3 I41 (xQS 0 0 a0) [] := by kernel_rfl
theorem vEb {N q0} (g0 : G41 q0) : ∀ n x3 x4 b1 r, xET N q0 n x3 x4 b1 = some r → RS Tryz.f41 I41 3 (xQS x3 x4 b1) (xB0 r) := by
 intro n
 induction n with
 | zero => exact fun _ _ _ _ h => nE h
 | succ n ih =>
  exact fun x3 x4 b1 r h =>
   cE h (fun h0 h => iE h fun h1 h => bE h fun r1 h2 h => bE h fun r2 h3 h => tS fk41 (xYX x3 x4 b1 r1 r2) (oc4 h0 h1 (g0 _ _ h2) (xNY h3) on) (ih _ _ _ _ h)) fun h0 h =>
   dS h fk41 (xYY x3 x4 b1) (oc h0 on)
theorem vEc {N q0} (g0 : G41 q0) : ∀ a0 r, xGX N q0 a0 = some r → RE Tryz.f41 I41 (xDH a0) (xB0 r) := fun a0 r h =>
 tE fk41 (xYZ a0) on (vEb g0 _ _ _ _ _ h)
theorem xJF {N q0} (g0 : G41 q0) {a0} {r} (h : xGX N q0 a0 = some r) : AbC 41 (xDH a0) (xB0 r) :=
 AbsCalls.of_reach fk41 rfl rfl (Nat.le_of_ble_eq_true rfl) (vEc g0 a0 r h)
theorem xHK {N : Nat} : ∀ d, G41 (xFu N d)
 | 0 => fun _ _ h => nE h
 | d + 1 => fun _ _ h => xJF (N := N) (xHK d) h
theorem xI5 {N : Nat} {a0 : Exp} {r : Int} (h : xIT N a0 = some r) : AbC 41 (xDH a0) (xB0 r) := xHK N _ r h
noncomputable def I105 : Info := { body := (Tryz.f105.body).getD .skip, nt := 15, results := [.tmp 6], keep := [0, 2, 4, 12], live := [], modes := [(1, [(3, .take, false)])] }
theorem xW5 : FnOk Tryz.prog 105 Tryz.f105 I105 := ⟨Tryz.func105, by kernel_rfl, by kernel_rfl, by kernel_rfl, by kernel_rfl⟩
def xTt (a0 a1 a2 : Int) : rE I105 (xFR a0 a1 a2) [Y] [] = dn (xD0 (dc (a0 ≤ a2))) [iY (dc (a0 ≥ a1))] := by kernel_rfl
def xTu (a0 a1 a2 : Int) : rE I105 (xFR a0 a1 a2) [F] [] = dn (xD0 false) [iN (dc (a0 ≥ a1))] := by kernel_rfl
theorem vCF {N : Nat} : ∀ a0 a1 a2 r, xIk N a0 a1 a2 = some r → RE Tryz.f105 I105 (xFR a0 a1 a2) (xD0 r) := fun a0 a1 a2 r h =>
 cE h (fun h0 h => dE h xW5 (xTt a0 a1 a2) (oc h0 on)) fun h0 h =>
 dE h xW5 (xTu a0 a1 a2) (oc h0 on)
theorem xID {N : Nat} {a0 : Int} {a1 : Int} {a2 : Int} {r : Bool} (h : xIk N  a0 a1 a2 = some r) : AbC 105 (xFR a0 a1 a2) (xD0 r) :=
 AbsCalls.of_reach xW5 rfl rfl (Nat.le_of_ble_eq_true rfl) (vCF a0 a1 a2 r h)
noncomputable def I78 : Info := { body := (Tryz.f78.body).getD .skip, nt := 120, results := [.tmp 2], keep := [0, 2, 4, 6, 16, 18, 46, 74, 102, 130, 154, 182, 212, 3], live := [], modes := [(4, [(2, .take, false), (7, .take, false)]), (6, [(2, .take, false), (7, .take, false)]), (8, [(2, .take, false), (7, .take, false)]), (10, [(3, .take, false), (8, .take, false)]), (12, [(3, .take, false)]), (14, [(3, .take, false), (7, .take, false)]), (17, [(3, .take, false), (7, .take, false)]), (19, [(3, .take, false), (8, .take, false)])] }
theorem fk78 : FnOk Tryz.prog 78 Tryz.f78 I78 := ⟨Tryz.func78, by kernel_rfl, by kernel_rfl, by kernel_rfl, by kernel_rfl⟩
abbrev xL5 (v0 : Exp) : Prop := iY ((Exp.kind v0) == 1)
abbrev xRK (v0 : Exp) := (Ln (Exp.args v0) : Int) == 0
abbrev xNf (v0 : Exp) : Prop := iY (xRK v0)
abbrev xJi (v0 : Exp) : Prop := iY (((Exp.text v0) : Str) == [])
def vAW (a0 : Exp) (r1 : Bool) : rE I78 (xAz a0) [Y, Y, Y] [xD0 r1] = dn (xAy r1) [xL5 a0, xNf a0, xJi a0, AbC 105 (xFR (Exp.n a0) 0 1000000000) (xD0 r1)] := by kernel_rfl
abbrev xJM (v0 : Exp) : Prop := iN (((Exp.text v0) : Str) == [])
def vAX (a0 : Exp) : rE I78 (xAz a0) [Y, Y, F] [] = dn (xAy false) [xL5 a0, xNf a0, xJM a0] := by kernel_rfl
abbrev xOZ (v0 : Exp) : Prop := iN (xRK v0)
def vAY (a0 : Exp) : rE I78 (xAz a0) [Y, F, F] [] = dn (xAy false) [xL5 a0, xOZ a0, iN false] := by kernel_rfl
abbrev xA2 (v0 : Exp) : Prop := iN ((Exp.kind v0) == 1)
abbrev xJN (v0 : Exp) : Prop := iY ((Exp.kind v0) == 2)
abbrev xEG (v0 : Exp) : Prop := iY ((Exp.n v0) == 0)
def vAZ (a0 : Exp) (r1 : Bool) : rE I78 (xAz a0) [F, Y, Y, Y] [xBh r1] = dn (xAy r1) [xA2 a0, xJN a0, xNf a0, xEG a0, AbC 82 (xE2 (Exp.text a0)) (xBh r1)] := by kernel_rfl
abbrev xG9 (v0 : Exp) : Prop := iN ((Exp.n v0) == 0)
def vA0 (a0 : Exp) : rE I78 (xAz a0) [F, Y, Y, F] [] = dn (xAy false) [xA2 a0, xJN a0, xNf a0, xG9 a0] := by kernel_rfl
def vA1 (a0 : Exp) : rE I78 (xAz a0) [F, Y, F, F] [] = dn (xAy false) [xA2 a0, xJN a0, xOZ a0, iN false] := by kernel_rfl
abbrev xBk (v0 : Exp) : Prop := iN ((Exp.kind v0) == 2)
abbrev xJO (v0 : Exp) : Prop := iY ((Exp.kind v0) == 3)
def vA2 (a0 : Exp) (r1 : Bool) : rE I78 (xAz a0) [F, F, Y, Y, Y] [xAL r1] = dn (xAy r1) [xA2 a0, xBk a0, xJO a0, xNf a0, xEG a0, AbC 87 (xCx (Exp.text a0)) (xAL r1)] := by kernel_rfl
def vA3 (a0 : Exp) : rE I78 (xAz a0) [F, F, Y, Y, F] [] = dn (xAy false) [xA2 a0, xBk a0, xJO a0, xNf a0, xG9 a0] := by kernel_rfl
def vA4 (a0 : Exp) : rE I78 (xAz a0) [F, F, Y, F, F] [] = dn (xAy false) [xA2 a0, xBk a0, xJO a0, xOZ a0, iN false] := by kernel_rfl
abbrev xBG (v0 : Exp) : Prop := iN ((Exp.kind v0) == 3)
abbrev xJP (v0 : Exp) : Prop := iY ((Exp.kind v0) == 4)
abbrev xHb (v0 : Exp) := (Ln (Exp.args v0) : Int)
def vA5 (a0 : Exp) : rE I78 (xAz a0) [F, F, F, Y, Y, Y] [] = dn (xAy (dc ((xHb a0) ≤ 8))) [xA2 a0, xBk a0, xBG a0, xJP a0, xEG a0, xJi a0] := by kernel_rfl
def xVP (a0 : Exp) : rE I78 (xAz a0) [F, F, F, Y, Y, F] [] = dn (xAy false) [xA2 a0, xBk a0, xBG a0, xJP a0, xEG a0, xJM a0] := by kernel_rfl
def xVQ (a0 : Exp) : rE I78 (xAz a0) [F, F, F, Y, F, F] [] = dn (xAy false) [xA2 a0, xBk a0, xBG a0, xJP a0, xG9 a0, iN false] := by kernel_rfl
abbrev xCd (v0 : Exp) : Prop := iN ((Exp.kind v0) == 4)
abbrev xLx (v0 : Exp) : Prop := iY ((Exp.kind v0) == 5)
def xVR (a0 : Exp) (r1 : Int) : rE I78 (xAz a0) [F, F, F, F, Y, Y] [xAl r1] = dn (xAy ((xHb a0) == r1)) [xA2 a0, xBk a0, xBG a0, xCd a0, xLx a0, xEG a0, AbC 106 (xAt (Exp.text a0)) (xAl r1)] := by kernel_rfl
def xVS (a0 : Exp) : rE I78 (xAz a0) [F, F, F, F, Y, F] [] = dn (xAy false) [xA2 a0, xBk a0, xBG a0, xCd a0, xLx a0, xG9 a0] := by kernel_rfl
abbrev xCO (v0 : Exp) : Prop := iN ((Exp.kind v0) == 5)
abbrev xF6 (v0 : Exp) : Prop := iY ((Exp.kind v0) == 6)
abbrev xRL (v0 : Exp) := (Ln (Exp.args v0) : Int) == 2
abbrev xO0 (v0 : Exp) : Prop := iY (xRL v0)
def xVT (a0 : Exp) (r1 : Bool) : rE I78 (xAz a0) [F, F, F, F, F, Y, Y, Y] [xD0 r1] = dn (xAy r1) [xA2 a0, xBk a0, xBG a0, xCd a0, xCO a0, xF6 a0, xJi a0, xO0 a0, AbC 105 (xFR (Exp.n a0) 1 5) (xD0 r1)] := by kernel_rfl
abbrev xO1 (v0 : Exp) : Prop := iN (xRL v0)
def xVU (a0 : Exp) : rE I78 (xAz a0) [F, F, F, F, F, Y, Y, F] [] = dn (xAy false) [xA2 a0, xBk a0, xBG a0, xCd a0, xCO a0, xF6 a0, xJi a0, xO1 a0] := by kernel_rfl
def xVV (a0 : Exp) : rE I78 (xAz a0) [F, F, F, F, F, Y, F, F] [] = dn (xAy false) [xA2 a0, xBk a0, xBG a0, xCd a0, xCO a0, xF6 a0, xJM a0, iN false] := by kernel_rfl
abbrev xFe (v0 : Exp) : Prop := iN ((Exp.kind v0) == 6)
abbrev xF7 (v0 : Exp) : Prop := iY ((Exp.kind v0) == 7)
def xVW (a0 : Exp) (r1 : Bool) : rE I78 (xAz a0) [F, F, F, F, F, F, Y, Y, Y, Y] [xAL r1] = dn (xAy r1) [xA2 a0, xBk a0, xBG a0, xCd a0, xCO a0, xFe a0, xF7 a0, xF7 a0, xEG a0, xO0 a0, AbC 87 (xCx (Exp.text a0)) (xAL r1)] := by kernel_rfl
def xVX (a0 : Exp) : rE I78 (xAz a0) [F, F, F, F, F, F, Y, Y, Y, F] [] = dn (xAy false) [xA2 a0, xBk a0, xBG a0, xCd a0, xCO a0, xFe a0, xF7 a0, xF7 a0, xEG a0, xO1 a0] := by kernel_rfl
def xVY (a0 : Exp) : rE I78 (xAz a0) [F, F, F, F, F, F, Y, Y, F, F] [] = dn (xAy false) [xA2 a0, xBk a0, xBG a0, xCd a0, xCO a0, xFe a0, xF7 a0, xF7 a0, xG9 a0, iN false] := by kernel_rfl
abbrev xCv (v0 : Exp) : Prop := iN ((Exp.kind v0) == 7)
abbrev xIL (v0 : Exp) : Prop := iY ((Exp.kind v0) == 9)
def xVZ (a0 : Exp) (r1 : Bool) : rE I78 (xAz a0) [F, F, F, F, F, F, F, Y, Y, Y] [xAL r1] = dn (xAy r1) [xA2 a0, xBk a0, xBG a0, xCd a0, xCO a0, xFe a0, xCv a0, xIL a0, xEG a0, xO0 a0, AbC 87 (xCx (Exp.text a0)) (xAL r1)] := by kernel_rfl
def xV0 (a0 : Exp) : rE I78 (xAz a0) [F, F, F, F, F, F, F, Y, Y, F] [] = dn (xAy false) [xA2 a0, xBk a0, xBG a0, xCd a0, xCO a0, xFe a0, xCv a0, xIL a0, xEG a0, xO1 a0] := by kernel_rfl
def xV1 (a0 : Exp) : rE I78 (xAz a0) [F, F, F, F, F, F, F, Y, F, F] [] = dn (xAy false) [xA2 a0, xBk a0, xBG a0, xCd a0, xCO a0, xFe a0, xCv a0, xIL a0, xG9 a0, iN false] := by kernel_rfl
abbrev xEa (v0 : Exp) : Prop := iN ((Exp.kind v0) == 9)
abbrev xHM (v0 : Exp) : Prop := iY ((Exp.kind v0) == 8)
def xV2 (a0 : Exp) : rE I78 (xAz a0) [F, F, F, F, F, F, F, F, Y, Y, Y] [] = dn (xAy ((xHb a0) == 3)) [xA2 a0, xBk a0, xBG a0, xCd a0, xCO a0, xFe a0, xCv a0, xEa a0, xHM a0, xEG a0, xJi a0] := by kernel_rfl
def xV3 (a0 : Exp) : rE I78 (xAz a0) [F, F, F, F, F, F, F, F, Y, Y, F] [] = dn (xAy false) [xA2 a0, xBk a0, xBG a0, xCd a0, xCO a0, xFe a0, xCv a0, xEa a0, xHM a0, xEG a0, xJM a0] := by kernel_rfl
def xV4 (a0 : Exp) : rE I78 (xAz a0) [F, F, F, F, F, F, F, F, Y, F, F] [] = dn (xAy false) [xA2 a0, xBk a0, xBG a0, xCd a0, xCO a0, xFe a0, xCv a0, xEa a0, xHM a0, xG9 a0, iN false] := by kernel_rfl
abbrev xE0 (v0 : Exp) : Prop := iN ((Exp.kind v0) == 8)
def xV5 (a0 : Exp) : rE I78 (xAz a0) [F, F, F, F, F, F, F, F, F] [] = dn (xAy false) [xA2 a0, xBk a0, xBG a0, xCd a0, xCO a0, xFe a0, xCv a0, xEa a0, xE0 a0] := by kernel_rfl
theorem vEV {N : Nat} : ∀ a0 r, xHL N a0 = some r → RE Tryz.f78 I78 (xAz a0) (xAy r) := fun a0 r h =>
 cE h (fun h0 h => cE h (fun h1 h => cE h (fun h2 h => bE h fun r1 h3 h => dE h fk78 (vAW a0 r1) (oc4 h0 h1 h2 (xID h3) on)) fun h2 h =>
 dE h fk78 (vAX a0) (oc3 h0 h1 h2 on)) fun h1 h =>
 dE h fk78 (vAY a0) (oc3 h0 h1 rfl on)) fun h0 h =>
 cE h (fun h1 h => cE h (fun h2 h => cE h (fun h3 h => bE h fun r1 h4 h => dE h fk78 (vAZ a0 r1) (oc5 h0 h1 h2 h3 (xE3 h4) on)) fun h3 h =>
 dE h fk78 (vA0 a0) (oc4 h0 h1 h2 h3 on)) fun h2 h =>
 dE h fk78 (vA1 a0) (oc4 h0 h1 h2 rfl on)) fun h1 h =>
 cE h (fun h2 h => cE h (fun h3 h => cE h (fun h4 h => bE h fun r1 h5 h => dE h fk78 (vA2 a0 r1) (oc6 h0 h1 h2 h3 h4 (xCb h5) on)) fun h4 h =>
 dE h fk78 (vA3 a0) (oc5 h0 h1 h2 h3 h4 on)) fun h3 h =>
 dE h fk78 (vA4 a0) (oc5 h0 h1 h2 h3 rfl on)) fun h2 h =>
 cE h (fun h3 h => cE h (fun h4 h => cE h (fun h5 h => dE h fk78 (vA5 a0) (oc6 h0 h1 h2 h3 h4 h5 on)) fun h5 h =>
 dE h fk78 (xVP a0) (oc6 h0 h1 h2 h3 h4 h5 on)) fun h4 h =>
 dE h fk78 (xVQ a0) (oc6 h0 h1 h2 h3 h4 rfl on)) fun h3 h =>
 cE h (fun h4 h => cE h (fun h5 h => bE h fun r1 h6 h => dE h fk78 (xVR a0 r1) (oc7 h0 h1 h2 h3 h4 h5 (xEo h6) on)) fun h5 h =>
 dE h fk78 (xVS a0) (oc6 h0 h1 h2 h3 h4 h5 on)) fun h4 h =>
 cE h (fun h5 h => cE h (fun h6 h => cE h (fun h7 h => bE h fun r1 h8 h => dE h fk78 (xVT a0 r1) (oc9 h0 h1 h2 h3 h4 h5 h6 h7 (xID h8) on)) fun h7 h =>
 dE h fk78 (xVU a0) (oc8 h0 h1 h2 h3 h4 h5 h6 h7 on)) fun h6 h =>
 dE h fk78 (xVV a0) (oc8 h0 h1 h2 h3 h4 h5 h6 rfl on)) fun h5 h =>
 cE h (fun h6 h => cE h (fun h8 h => cE h (fun h9 h => bE h fun r1 h10 h => dE h fk78 (xVW a0 r1) (oc11 h0 h1 h2 h3 h4 h5 h6 h6 h8 h9 (xCb h10) on)) fun h9 h =>
 dE h fk78 (xVX a0) (oc10 h0 h1 h2 h3 h4 h5 h6 h6 h8 h9 on)) fun h8 h =>
 dE h fk78 (xVY a0) (oc10 h0 h1 h2 h3 h4 h5 h6 h6 h8 rfl on)) fun h6 h =>
 cE h (fun h7 h => cE h (fun h8 h => cE h (fun h9 h => bE h fun r1 h10 h => dE h fk78 (xVZ a0 r1) (oc11 h0 h1 h2 h3 h4 h5 h6 h7 h8 h9 (xCb h10) on)) fun h9 h =>
 dE h fk78 (xV0 a0) (oc10 h0 h1 h2 h3 h4 h5 h6 h7 h8 h9 on)) fun h8 h =>
 dE h fk78 (xV1 a0) (oc10 h0 h1 h2 h3 h4 h5 h6 h7 h8 rfl on)) fun h7 h =>
 cE h (fun h8 h => cE h (fun h9 h => cE h (fun h10 h => dE h fk78 (xV2 a0) (oc11 h0 h1 h2 h3 h4 h5 h6 h7 h8 h9 h10 on)) fun h10 h =>
 dE h fk78 (xV3 a0) (oc11 h0 h1 h2 h3 h4 h5 h6 h7 h8 h9 h10 on)) fun h9 h =>
 dE h fk78 (xV4 a0) (oc11 h0 h1 h2 h3 h4 h5 h6 h7 h8 h9 rfl on)) fun h8 h =>
 dE h fk78 (xV5 a0) (oc9 h0 h1 h2 h3 h4 h5 h6 h7 h8 on)
theorem xMK {N : Nat} {a0 : Exp} {r : Bool} (h : xHL N  a0 = some r) : AbC 78 (xAz a0) (xAy r) :=
 AbsCalls.of_reach fk78 rfl rfl (Nat.le_of_ble_eq_true rfl) (vEV a0 r h)
def G42 (q : Exp → Option (Bool)) : Prop := ∀ a0 r, q a0 = some r → AbC 42 (xEO a0) (xCF r)
noncomputable def I42 : Info := { body := (Tryz.f42.body).getD .skip, nt := 20, results := [.tmp 2], keep := [0, 2, 4, 6, 16, 34, 3], live := [(2, [2, 6, 3])], modes := [] }
theorem fk42 : FnOk Tryz.prog 42 Tryz.f42 I42 := ⟨Tryz.func42, by kernel_rfl, by kernel_rfl, by kernel_rfl, by kernel_rfl⟩
def xQu (x3 : Int) (b1 : Exp) : St := [(2, .v false [.ptr 1 0]), (6, .v false [.int .i64 x3]), (3, .v true [.int .i64 (Exp.kind b1), .int .i64 (Exp.n b1), .str (Exp.text b1), .sl .ro .exp (Exp.args b1)])]
def xY0 (x3 : Int) (b1 : Exp) (r1 : Bool) : rS 2 I42 (xQu x3 b1) [Y, Y] [xCF r1] = dn (xCF false) [xOp x3 b1, xL4 x3 b1, AbC 42 (xEO (xJ6 b1 x3)) (xCF r1), iY (!r1)] := by kernel_rfl
def xY1 (x3 : Int) (b1 : Exp) (r1 : Bool) : rS 2 I42 (xQu x3 b1) [Y, F] [xCF r1] = st 2 I42 (xQu (W (x3 + 1)) b1) [xOp x3 b1, xL4 x3 b1, AbC 42 (xEO (xJ6 b1 x3)) (xCF r1), iN (!r1)] := by kernel_rfl
def xY2 (x3 : Int) (b1 : Exp) (r1 : Bool) : rS 2 I42 (xQu x3 b1) [F] [xAy r1] = dn (xCF r1) [iN (xNQ x3 b1), AbC 78 (xAz b1) (xAy r1)] := by kernel_rfl
def xY3 (a0 : Exp) : rE I42 (xEO a0) [] [] = st 2 I42 (xQu 0 a0) [] := by kernel_rfl
theorem vEd {N q0} (g0 : G42 q0) : ∀ n x3 b1 r, xFB N q0 n x3 b1 = some r → RS Tryz.f42 I42 2 (xQu x3 b1) (xCF r) := by
 intro n
 induction n with
 | zero => exact fun _ _ _ h => nE h
 | succ n ih =>
  exact fun x3 b1 r h =>
   cE h (fun h0 h => iE h fun h1 h => bE h fun r1 h2 h => cE h (fun h3 h => dS h fk42 (xY0 x3 b1 r1) (oc4 h0 h1 (g0 _ _ h2) h3 on)) fun h3 h =>
   tS fk42 (xY1 x3 b1 r1) (oc4 h0 h1 (g0 _ _ h2) h3 on) (ih _ _ _ h)) fun h0 h =>
   bE h fun r1 h1 h => dS h fk42 (xY2 x3 b1 r1) (oc2 h0 (xMK h1) on)
theorem vEe {N q0} (g0 : G42 q0) : ∀ a0 r, xHP N q0 a0 = some r → RE Tryz.f42 I42 (xEO a0) (xCF r) := fun a0 r h =>
 tE fk42 (xY3 a0) on (vEd g0 _ _ _ _ h)
theorem xKY {N q0} (g0 : G42 q0) {a0} {r} (h : xHP N q0 a0 = some r) : AbC 42 (xEO a0) (xCF r) :=
 AbsCalls.of_reach fk42 rfl rfl (Nat.le_of_ble_eq_true rfl) (vEe g0 a0 r h)
theorem xIy {N : Nat} : ∀ d, G42 (xGk N d)
 | 0 => fun _ _ h => nE h
 | d + 1 => fun _ _ h => xKY (N := N) (xIy d) h
theorem xMX {N : Nat} {a0 : Exp} {r : Bool} (h : xKX N a0 = some r) : AbC 42 (xEO a0) (xCF r) := xIy N _ r h
noncomputable def I22 : Info := { body := (Tryz.f22.body).getD .skip, nt := 15, results := [.tmp 2], keep := [0, 2, 4, 3], live := [], modes := [(1, [(3, .take, false), (8, .take, false)])] }
theorem fk22 : FnOk Tryz.prog 22 Tryz.f22 I22 := ⟨Tryz.func22, by kernel_rfl, by kernel_rfl, by kernel_rfl, by kernel_rfl⟩
def xXR (a0 : Exp) (r1 r2 : Int) (r3 : Bool) : rE I22 (xB9 a0) [Y, Y] [xBQ r1, xB0 r2, xCF r3] = dn (xAF r3) [AbC 40 (xDO a0 40) (xBQ r1), iY (dc (r1 ≥ 0)), AbC 41 (xDH a0) (xB0 r2), iY (dc (r2 ≤ 8)), AbC 42 (xEO a0) (xCF r3)] := by kernel_rfl
def xXS (a0 : Exp) (r1 r2 : Int) : rE I22 (xB9 a0) [Y, F] [xBQ r1, xB0 r2] = dn (xAF false) [AbC 40 (xDO a0 40) (xBQ r1), iY (dc (r1 ≥ 0)), AbC 41 (xDH a0) (xB0 r2), iN (dc (r2 ≤ 8))] := by kernel_rfl
def xXT (a0 : Exp) (r1 : Int) : rE I22 (xB9 a0) [F, F] [xBQ r1] = dn (xAF false) [AbC 40 (xDO a0 40) (xBQ r1), xL3 r1, iN false] := by kernel_rfl
theorem vDT {N : Nat} : ∀ a0 r, xCy N a0 = some r → RE Tryz.f22 I22 (xB9 a0) (xAF r) := fun a0 r h =>
 bE h fun r1 h0 h => cE h (fun h1 h => bE h fun r2 h2 h => cE h (fun h3 h => bE h fun r3 h4 h => dE h fk22 (xXR a0 r1 r2 r3) (oc5 (xIi h0) h1 (xI5 h2) h3 (xMX h4) on)) fun h3 h =>
 dE h fk22 (xXS a0 r1 r2) (oc4 (xIi h0) h1 (xI5 h2) h3 on)) fun h1 h =>
 dE h fk22 (xXT a0 r1) (oc3 (xIi h0) h1 rfl on)
theorem xCa {N : Nat} {a0 : Exp} {r : Bool} (h : xCy N  a0 = some r) : AbC 22 (xB9 a0) (xAF r) :=
 AbsCalls.of_reach fk22 rfl rfl (Nat.le_of_ble_eq_true rfl) (vDT a0 r h)
noncomputable def I11 : Info := { body := (Tryz.f11.body).getD .skip, nt := 55, results := [.cell 2 25, .tmp 3], keep := [0, 4, 6, 8, 10, 12, 14, 28, 74, 88, 104, 5, 15, 43], live := [], modes := [(1, [(1, .cp, true), (2, .take, false)]), (4, [(0, .take, false)]), (6, [(5, .take, false)])], fcast := [(5, 3, true)] }
theorem fk11 : FnOk Tryz.prog 11 Tryz.f11 I11 := ⟨Tryz.func11, by kernel_rfl, by kernel_rfl, by kernel_rfl, by kernel_rfl⟩
abbrev xIM (v0 : Str) (v1 : (List Tok) × Int) : Prop := AbC 23 (xF2 v0) (xBd v1)
def xXo (a0 : Str) (r1 : (List Tok) × Int) : rE I11 (xBA a0) [Y] [xBd r1] = dn (xBB ((Exp.mk 0 0 [] []), r1.2)) [xIM a0 r1, iY (dc (r1.2 ≥ 0))] := by kernel_rfl
abbrev xFy (v0 : (List Tok) × Int) : Prop := iN (dc (v0.2 ≥ 0))
abbrev xJj (v0 : (List Tok) × Int) (v1 : Str) (v2 : Exp × Rdr) : Prop := AbC 28 (xCC (Rdr.mk v0.1 0 (Ln v1 : Int) (-1))) (xAv v2)
abbrev xLy (v0 : Exp × Rdr) : Prop := iY (dc ((Rdr.bad v0.2) < 0))
abbrev xPt (v0 : Exp × Rdr) := xBB ((Exp.mk 0 0 [] []), (Rdr.bad v0.2))
abbrev xLN (v0 : Exp × Rdr) (v1 : (List Tok) × Int) := dc ((Rdr.i v0.2) < (Ln v1.1 : Int))
def xXp (a0 : Str) (r1 : (List Tok) × Int) (r2 : Exp × Rdr) (r3 : Exp × Rdr) : rE I11 (xBA a0) [F, Y, Y, Y] [xBd r1, xAv r2, xAW r3] = dn (xPt r3) [xIM a0 r1, xFy r1, xJj r1 a0 r2, xLy r2, iY (xLN r2 r1), AbC 29 (xDr r2.2) (xAW r3), iY (dc ((Rdr.bad r3.2) ≥ 0))] := by kernel_rfl
abbrev xLz (v0 : Exp × Rdr) : Prop := iN (dc ((Rdr.bad v0.2) ≥ 0))
abbrev xLA (v0 : Exp × Rdr) (v1 : Bool) : Prop := AbC 22 (xB9 v0.1) (xAF v1)
def xXq (a0 : Str) (r1 : (List Tok) × Int) (r2 : Exp × Rdr) (r3 : Exp × Rdr) (r4 : Bool) : rE I11 (xBA a0) [F, Y, Y, F, Y] [xBd r1, xAv r2, xAW r3, xAF r4] = dn (xBB ((Exp.mk 0 0 [] []), 0)) [xIM a0 r1, xFy r1, xJj r1 a0 r2, xLy r2, iY (xLN r2 r1), AbC 29 (xDr r2.2) (xAW r3), xLz r3, xLA r2 r4, iY (!r4)] := by kernel_rfl
def xXr (a0 : Str) (r1 : (List Tok) × Int) (r2 : Exp × Rdr) (r3 : Exp × Rdr) (r4 : Bool) : rE I11 (xBA a0) [F, Y, Y, F, F] [xBd r1, xAv r2, xAW r3, xAF r4] = dn (xBB (r2.1, (-1))) [xIM a0 r1, xFy r1, xJj r1 a0 r2, xLy r2, iY (xLN r2 r1), AbC 29 (xDr r2.2) (xAW r3), xLz r3, xLA r2 r4, iN (!r4)] := by kernel_rfl
def xXs (a0 : Str) (r1 : (List Tok) × Int) (r2 : Exp × Rdr) : rE I11 (xBA a0) [F, Y, F, Y] [xBd r1, xAv r2] = dn (xPt r2) [xIM a0 r1, xFy r1, xJj r1 a0 r2, xLy r2, iN (xLN r2 r1), iY (dc ((Rdr.bad r2.2) ≥ 0))] := by kernel_rfl
def xXt (a0 : Str) (r1 : (List Tok) × Int) (r2 : Exp × Rdr) (r3 : Bool) : rE I11 (xBA a0) [F, Y, F, F, Y] [xBd r1, xAv r2, xAF r3] = dn (xBB ((Exp.mk 0 0 [] []), 0)) [xIM a0 r1, xFy r1, xJj r1 a0 r2, xLy r2, iN (xLN r2 r1), xLz r2, xLA r2 r3, iY (!r3)] := by kernel_rfl
def xXu (a0 : Str) (r1 : (List Tok) × Int) (r2 : Exp × Rdr) (r3 : Bool) : rE I11 (xBA a0) [F, Y, F, F, F] [xBd r1, xAv r2, xAF r3] = dn (xBB (r2.1, (-1))) [xIM a0 r1, xFy r1, xJj r1 a0 r2, xLy r2, iN (xLN r2 r1), xLz r2, xLA r2 r3, iN (!r3)] := by kernel_rfl
def xXv (a0 : Str) (r1 : (List Tok) × Int) (r2 : Exp × Rdr) : rE I11 (xBA a0) [F, F, F, Y] [xBd r1, xAv r2] = dn (xPt r2) [xIM a0 r1, xFy r1, xJj r1 a0 r2, iN (dc ((Rdr.bad r2.2) < 0)), iN false, iY (dc ((Rdr.bad r2.2) ≥ 0))] := by kernel_rfl
def xXw (a0 : Str) (r1 : (List Tok) × Int) (r2 : Exp × Rdr) (r3 : Bool) : rE I11 (xBA a0) [F, F, F, F, Y] [xBd r1, xAv r2, xAF r3] = dn (xBB ((Exp.mk 0 0 [] []), 0)) [xIM a0 r1, xFy r1, xJj r1 a0 r2, iN (dc ((Rdr.bad r2.2) < 0)), iN false, xLz r2, xLA r2 r3, iY (!r3)] := by kernel_rfl
def xXx (a0 : Str) (r1 : (List Tok) × Int) (r2 : Exp × Rdr) (r3 : Bool) : rE I11 (xBA a0) [F, F, F, F, F] [xBd r1, xAv r2, xAF r3] = dn (xBB (r2.1, (-1))) [xIM a0 r1, xFy r1, xJj r1 a0 r2, iN (dc ((Rdr.bad r2.2) < 0)), iN false, xLz r2, xLA r2 r3, iN (!r3)] := by kernel_rfl
theorem vDM {N : Nat} : ∀ a0 r, xFA N a0 = some r → RE Tryz.f11 I11 (xBA a0) (xBB r) := fun a0 r h =>
 bE h fun r1 h0 h => cE h (fun h1 h => dE h fk11 (xXo a0 r1) (oc2 (xC2 h0) h1 on)) fun h1 h =>
 bE h fun r2 h2 h => cE h (fun h3 h => cE h (fun h4 h => bE h fun r3 h5 h => cE h (fun h6 h => dE h fk11 (xXp a0 r1 r2 r3) (oc7 (xC2 h0) h1 (xDQ h2) h3 h4 (xCD h5) h6 on)) fun h6 h =>
 bE h fun r4 h7 h => cE h (fun h8 h => dE h fk11 (xXq a0 r1 r2 r3 r4) (oc9 (xC2 h0) h1 (xDQ h2) h3 h4 (xCD h5) h6 (xCa h7) h8 on)) fun h8 h =>
 dE h fk11 (xXr a0 r1 r2 r3 r4) (oc9 (xC2 h0) h1 (xDQ h2) h3 h4 (xCD h5) h6 (xCa h7) h8 on)) fun h4 h =>
 cE h (fun h5 h => dE h fk11 (xXs a0 r1 r2) (oc6 (xC2 h0) h1 (xDQ h2) h3 h4 h5 on)) fun h5 h =>
 bE h fun r3 h6 h => cE h (fun h7 h => dE h fk11 (xXt a0 r1 r2 r3) (oc8 (xC2 h0) h1 (xDQ h2) h3 h4 h5 (xCa h6) h7 on)) fun h7 h =>
 dE h fk11 (xXu a0 r1 r2 r3) (oc8 (xC2 h0) h1 (xDQ h2) h3 h4 h5 (xCa h6) h7 on)) fun h3 h =>
 cE h (fun h5 h => dE h fk11 (xXv a0 r1 r2) (oc6 (xC2 h0) h1 (xDQ h2) h3 rfl h5 on)) fun h5 h =>
 bE h fun r3 h6 h => cE h (fun h7 h => dE h fk11 (xXw a0 r1 r2 r3) (oc8 (xC2 h0) h1 (xDQ h2) h3 rfl h5 (xCa h6) h7 on)) fun h7 h =>
 dE h fk11 (xXx a0 r1 r2 r3) (oc8 (xC2 h0) h1 (xDQ h2) h3 rfl h5 (xCa h6) h7 on)
theorem xI6 {N : Nat} {a0 : Str} {r : Exp × Int} (h : xFA N  a0 = some r) : AbC 11 (xBA a0) (xBB r) :=
 AbsCalls.of_reach fk11 rfl rfl (Nat.le_of_ble_eq_true rfl) (vDM a0 r h)
theorem xJd {N : Nat} {a0 : Str} {a1 a2 : Int} {r : Int × Bool} (h : xH1 N a0 a1 a2 = some r) : AbC 89 (xK9 a0 a1 a2) (xG6 r) :=
 zIi xOT (fun s lo hi w hs hw => xPA s lo hi hs zHR vDF xW3 w hw) h
theorem xBt {N : Nat} {a0 : Str} {a1 r : Int} (h : strings_IndexByte N a0 a1 = some r) : AbC 90 (xGD a0 a1) (xA0 r) :=
 zG7 (xMn Tryz.lays137) (Any.strings_IndexByte Tryz.lays137) h
noncomputable def I91 : Info := { body := (Tryz.f91.body).getD .skip, nt := 29, results := [.tmp 2], keep := [0, 4, 6, 14, 50], live := [(2, [0, 6])], modes := [(4, [(4, .take, false), (10, .take, false)])] }
theorem fk91 : FnOk Tryz.prog 91 Tryz.f91 I91 := ⟨Tryz.func91, by kernel_rfl, by kernel_rfl, by kernel_rfl, by kernel_rfl⟩
def xOa (x0 : Str) (x3 : Int) : St := [(0, .v false [.str x0]), (6, .v false [.int .i64 x3])]
def vBH (x0 : Str) (x3 : Int) : rS 2 I91 (xOa x0 x3) [Y, Y, Y, Y] [] = dn (xAZ false) [xDG x3 x0, xAC x3 x0, iY (xPa x0 x3), iY true, iY true] := by kernel_rfl
def vBI (x0 : Str) (x3 : Int) : rS 2 I91 (xOa x0 x3) [Y, F, Y, Y] [] = dn (xAZ false) [xDG x3 x0, xAC x3 x0, xM7 x0 x3, xAC x3 x0, iY (xPb x0 x3), iY true] := by kernel_rfl
def vBJ (x0 : Str) (x3 : Int) : rS 2 I91 (xOa x0 x3) [Y, F, F, Y] [] = dn (xAZ false) [xDG x3 x0, xAC x3 x0, xM7 x0 x3, xAC x3 x0, xPU x0 x3, xAC x3 x0, xJ0 x0 x3] := by kernel_rfl
def vBK (x0 : Str) (x3 : Int) : rS 2 I91 (xOa x0 x3) [Y, F, F, F] [] = st 2 I91 (xOa x0 (W (x3 + 1))) [xDG x3 x0, xAC x3 x0, xM7 x0 x3, xAC x3 x0, xPU x0 x3, xAC x3 x0, xJ1 x0 x3] := by kernel_rfl
def vBL (x0 : Str) (x3 : Int) : rS 2 I91 (xOa x0 x3) [F] [] = dn (xAZ (dc ((Ln x0 : Int) ≤ 20))) [xI0 x3 x0] := by kernel_rfl
def vBM (a0 : Str) : rE I91 (xD6 a0) [] [] = st 2 I91 (xOa a0 0) [] := by kernel_rfl
theorem vE8 {N : Nat} : ∀ n x0 x3 r, xEX N n x0 x3 = some r → RS Tryz.f91 I91 2 (xOa x0 x3) (xAZ r) := by
 intro n
 induction n with
 | zero => exact fun _ _ _ h => nE h
 | succ n ih =>
  exact fun x0 x3 r h =>
   cE h (fun h0 h => iE h fun h1 h => cE h (fun h2 h => dS h fk91 (vBH x0 x3) (oc5 h0 h1 h2 rfl rfl on)) fun h2 h =>
   cE h (fun h4 h => dS h fk91 (vBI x0 x3) (oc6 h0 h1 h2 h1 h4 rfl on)) fun h4 h =>
   cE h (fun h6 h => dS h fk91 (vBJ x0 x3) (oc7 h0 h1 h2 h1 h4 h1 h6 on)) fun h6 h =>
   tS fk91 (vBK x0 x3) (oc7 h0 h1 h2 h1 h4 h1 h6 on) (ih _ _ _ h)) fun h0 h =>
   dS h fk91 (vBL x0 x3) (oc h0 on)
theorem vE9 {N : Nat} : ∀ a0 r, xDx N a0 = some r → RE Tryz.f91 I91 (xD6 a0) (xAZ r) := fun a0 r h =>
 tE fk91 (vBM a0) on (vE8 _ _ _ _ h)
theorem xD7 {N : Nat} {a0 : Str} {r : Bool} (h : xDx N  a0 = some r) : AbC 91 (xD6 a0) (xAZ r) :=
 AbsCalls.of_reach fk91 rfl rfl (Nat.le_of_ble_eq_true rfl) (vE9 a0 r h)
theorem xCJ {N : Nat} {a0 a1 : Str} {r : Bool} (h : strings_HasPrefix N a0 a1 = some r) : AbC 92 (xHU a0 a1) (xBT r) :=
 zG6 (xMm Tryz.lays99) (Any.strings_HasPrefix Tryz.lays99) h
noncomputable def I49 : Info := { body := (Tryz.f49.body).getD .skip, nt := 152, results := [.cell 4 50, .tmp 5, .tmp 6], keep := [0, 2, 8, 10, 12, 14, 16, 18, 20, 22, 24, 34, 102, 130, 174, 206, 224, 262, 9], live := [(4, [0, 2, 8, 14, 9]), (8, [0, 2, 8, 14, 9])], modes := [(3, [(2, .take, false)]), (4, [(4, .take, false), (9, .take, false), (15, .take, false), (20, .take, false)]), (7, [(2, .take, false)]), (8, [(4, .take, false), (10, .take, false)]), (10, [(5, .take, false)]), (11, [(0, .take, false), (4, .take, false)])] }
theorem fk49 : FnOk Tryz.prog 49 Tryz.f49 I49 := ⟨Tryz.func49, by kernel_rfl, by kernel_rfl, by kernel_rfl, by kernel_rfl⟩
def xLr (x0 : Str) (x1 x7 : Int) (b4 : Tok) : St := [(0, .v false [.str x0]), (2, .v false [.int .i64 x1]), (8, .v false [.ptr 4 0]), (14, .v false [.int .i64 x7]), (9, .v true [.int .i64 (Tok.kind b4), .int .i64 (Tok.n b4), .int .i64 (Tok.pos b4), .str (Tok.text b4)])]
def xN6 (x0 : Str) (x1 x7 : Int) (b4 : Tok) : St := [(0, .v false [.str x0]), (2, .v false [.int .i64 x1]), (8, .v false [.ptr 4 0]), (14, .v false [.int .i64 x7]), (9, .v true [.int .i64 (Tok.kind b4), .int .i64 (Tok.n b4), .int .i64 (Tok.pos b4), .str (Tok.text b4)])]
def xZr (x0 : Str) (x1 x7 : Int) (b4 : Tok) : rS 4 I49 (xLr x0 x1 x7 b4) [Y, Y, Y, Y] [] = st 4 I49 (xLr x0 x1 (W (x7 + 1)) b4) [xDG x7 x0, xAC x7 x0, xFP x0 x7, xAC x7 x0, iY (xMx x0 x7), iY true] := by kernel_rfl
abbrev xHN (v0 : Str) (v1 : Int) : Prop := iN (xMx v0 v1)
abbrev xMt (v0 : Str) (v1 : Int) : Prop := iY (xLL v0 v1)
def xZs (x0 : Str) (x1 x7 : Int) (b4 : Tok) : rS 4 I49 (xLr x0 x1 x7 b4) [Y, Y, F, Y, Y] [] = st 4 I49 (xLr x0 x1 (W (x7 + 1)) b4) [xDG x7 x0, xAC x7 x0, xFP x0 x7, xAC x7 x0, xHN x0 x7, xAC x7 x0, xGh x0 x7, xAC x7 x0, xMt x0 x7] := by kernel_rfl
abbrev xIa (v0 : Str) (v1 : Int) : Prop := iN (xLL v0 v1)
abbrev xMA (v0 v1 : Int) (v2 : Str) := xA3 ((Tok.mk 1 0 v0 (List.drop (tN v0) (List.take (tN v1) v2))), v1, (dc ((W (v1 - v0)) ≤ 8)))
def xZt (x0 : Str) (x1 x7 : Int) (b4 : Tok) : rS 4 I49 (xLr x0 x1 x7 b4) [Y, Y, F, Y, F] [] = dn (xMA x1 x7 x0) [xDG x7 x0, xAC x7 x0, xFP x0 x7, xAC x7 x0, xHN x0 x7, xAC x7 x0, xGh x0 x7, xAC x7 x0, xIa x0 x7, xHl x1 x7 x0] := by kernel_rfl
def xZu (x0 : Str) (x1 x7 : Int) (b4 : Tok) : rS 4 I49 (xLr x0 x1 x7 b4) [Y, Y, F, F, F] [] = dn (xMA x1 x7 x0) [xDG x7 x0, xAC x7 x0, xFP x0 x7, xAC x7 x0, xHN x0 x7, xAC x7 x0, xHS x0 x7, iN false, xHl x1 x7 x0] := by kernel_rfl
def xZv (x0 : Str) (x1 x7 : Int) (b4 : Tok) : rS 4 I49 (xLr x0 x1 x7 b4) [Y, F, F, Y, Y] [] = st 4 I49 (xLr x0 x1 (W (x7 + 1)) b4) [xDG x7 x0, xAC x7 x0, xGG x0 x7, iN false, xAC x7 x0, xGh x0 x7, xAC x7 x0, xMt x0 x7] := by kernel_rfl
def xZw (x0 : Str) (x1 x7 : Int) (b4 : Tok) : rS 4 I49 (xLr x0 x1 x7 b4) [Y, F, F, Y, F] [] = dn (xMA x1 x7 x0) [xDG x7 x0, xAC x7 x0, xGG x0 x7, iN false, xAC x7 x0, xGh x0 x7, xAC x7 x0, xIa x0 x7, xHl x1 x7 x0] := by kernel_rfl
def xZx (x0 : Str) (x1 x7 : Int) (b4 : Tok) : rS 4 I49 (xLr x0 x1 x7 b4) [Y, F, F, F, F] [] = dn (xMA x1 x7 x0) [xDG x7 x0, xAC x7 x0, xGG x0 x7, iN false, xAC x7 x0, xHS x0 x7, iN false, xHl x1 x7 x0] := by kernel_rfl
def xZy (x0 : Str) (x1 x7 : Int) (b4 : Tok) : rS 4 I49 (xLr x0 x1 x7 b4) [F, F] [] = dn (xMA x1 x7 x0) [xI0 x7 x0, iN false, xHl x1 x7 x0] := by kernel_rfl
def xZz (x0 : Str) (x1 x7 : Int) (b4 : Tok) : rS 8 I49 (xN6 x0 x1 x7 b4) [Y, Y, Y] [] = st 8 I49 (xN6 x0 x1 (W (x7 + 1)) b4) [xDG x7 x0, xAC x7 x0, xGh x0 x7, xAC x7 x0, xMt x0 x7] := by kernel_rfl
abbrev xO2 (v0 v1 : Int) (v2 : Str) (v3 : Int × Bool) : Prop := AbC 89 (xK9 (xRC v0 v1 v2) 0 1000000000) (xG6 v3)
def xZA (x0 : Str) (x1 x7 : Int) (b4 : Tok) (r1 : Int × Bool) : rS 8 I49 (xN6 x0 x1 x7 b4) [Y, Y, F] [xG6 r1] = dn (xA3 ((Tok.mk 2 r1.1 x1 []), x7, r1.2)) [xDG x7 x0, xAC x7 x0, xGh x0 x7, xAC x7 x0, xIa x0 x7, xHl x1 x7 x0, xO2 x1 x7 x0 r1] := by kernel_rfl
def xVu (x0 : Str) (x1 x7 : Int) (b4 : Tok) (r1 : Int × Bool) : rS 8 I49 (xN6 x0 x1 x7 b4) [Y, F, F] [xG6 r1] = dn (xA3 ((Tok.mk 2 r1.1 x1 []), x7, r1.2)) [xDG x7 x0, xAC x7 x0, xHS x0 x7, iN false, xHl x1 x7 x0, xO2 x1 x7 x0 r1] := by kernel_rfl
def xVv (x0 : Str) (x1 x7 : Int) (b4 : Tok) (r1 : Int × Bool) : rS 8 I49 (xN6 x0 x1 x7 b4) [F, F, F] [xG6 r1] = dn (xA3 ((Tok.mk 2 r1.1 x1 []), x7, r1.2)) [xI0 x7 x0, iN false, iN false, xHl x1 x7 x0, xO2 x1 x7 x0 r1] := by kernel_rfl
def xVw (a0 : Str) (a1 : Int) : rE I49 (xAQ a0 a1) [Y, Y] [] = st 4 I49 (xLr a0 a1 a1 (Tok.mk 0 0 0 [])) [xAC a1 a0, xFP a0 a1, iY (xMx a0 a1)] := by kernel_rfl
def xVx (a0 : Str) (a1 : Int) : rE I49 (xAQ a0 a1) [Y, F, Y, Y] [] = st 8 I49 (xN6 a0 a1 a1 (Tok.mk 0 0 0 [])) [xAC a1 a0, xFP a0 a1, xHN a0 a1, xGh a0 a1, xMt a0 a1] := by kernel_rfl
abbrev xJQ (v0 : Int) (v1 : Str) : Prop := (0 : Int) ≤ (W (v0 + 1)) ∧ (W (v0 + 1)) ≤ (Ln v1)
abbrev xJR (v0 : Int) (v1 : Str) (v2 : Int) : Prop := AbC 90 (xGD (List.drop (xPk v0) v1) 34) (xA0 v2)
def xVy (a0 : Str) (a1 r1 : Int) : rE I49 (xAQ a0 a1) [Y, F, Y, F, Y, Y] [xA0 r1] = dn (xA3 ((Tok.mk 0 0 0 []), 0, false)) [xAC a1 a0, xFP a0 a1, xHN a0 a1, xGh a0 a1, xIa a0 a1, xJ0 a0 a1, xJQ a1 a0, xJR a1 a0 r1, iY (dc (r1 < 0))] := by kernel_rfl
abbrev xRN (v0 v1 : Int) := W ((W (v0 + 1)) + v1)
abbrev xNs (v0 v1 : Int) (v2 : Str) : Prop := (0 : Int) ≤ (W (v0 + 1)) ∧ (W (v0 + 1)) ≤ (xRN v0 v1) ∧ (xRN v0 v1) ≤ (Ln v2)
abbrev xXh (v0 v1 : Int) (v2 : Str) := List.drop (tN (W (v0 + 1))) (List.take (tN (W ((W (v0 + 1)) + v1))) v2)
abbrev xNt (v0 v1 : Int) (v2 : Str) (v3 : Bool) : Prop := AbC 91 (xD6 (xXh v0 v1 v2)) (xAZ v3)
abbrev xNR (v0 v1 : Int) (v2 : Str) (v3 : Bool) := xA3 ((Tok.mk 3 0 v0 (List.drop (tN (W (v0 + 1))) (List.take (tN (W ((W (v0 + 1)) + v1))) v2))), (W ((W (v0 + v1)) + 2)), v3)
def xVz (a0 : Str) (a1 r1 : Int) (r2 : Bool) : rE I49 (xAQ a0 a1) [Y, F, Y, F, Y, F] [xA0 r1, xAZ r2] = dn (xNR a1 r1 a0 r2) [xAC a1 a0, xFP a0 a1, xHN a0 a1, xGh a0 a1, xIa a0 a1, xJ0 a0 a1, xJQ a1 a0, xJR a1 a0 r1, iN (dc (r1 < 0)), xNs a1 r1 a0, xNt a1 r1 a0 r2] := by kernel_rfl
abbrev xJS (v0 : Int) (v1 : Str) : Prop := (0 : Int) ≤ v0 ∧ v0 ≤ (Ln v1)
abbrev xJT (v0 : Int) (v1 : Str) (v2 : Bool) : Prop := AbC 92 (xHU (List.drop (tN v0) v1) [61, 61]) (xBT v2)
abbrev xNS (v0 : Int) := xA3 ((Tok.mk 4 0 v0 [61, 61]), (W (v0 + 2)), true)
def xVA (a0 : Str) (a1 : Int) (r1 : Bool) : rE I49 (xAQ a0 a1) [Y, F, Y, F, F, Y] [xBT r1] = dn (xNS a1) [xAC a1 a0, xFP a0 a1, xHN a0 a1, xGh a0 a1, xIa a0 a1, xJ1 a0 a1, xJS a1 a0, xJT a1 a0 r1, iY r1] := by kernel_rfl
abbrev xNu (v0 : Int) (v1 : Str) : Prop := (0 : Int) ≤ v0 ∧ v0 ≤ (W (v0 + 1)) ∧ (W (v0 + 1)) ≤ (Ln v1)
abbrev xNv (v0 : Str) (v1 v2 : Int) : Prop := AbC 90 (xGD [40, 41, 91, 93, 44, 43, 45, 42, 60, 61] (xNI v0 v1)) (xA0 v2)
abbrev xNT (v0 : Int) (v1 : Str) (v2 : Int) := xA3 ((Tok.mk 4 0 v0 (List.drop (tN v0) (List.take (tN (W (v0 + 1))) v1))), (W (v0 + 1)), (dc (v2 ≥ 0)))
def xVB (a0 : Str) (a1 : Int) (r1 : Bool) (r2 : Int) : rE I49 (xAQ a0 a1) [Y, F, Y, F, F, F] [xBT r1, xA0 r2] = dn (xNT a1 a0 r2) [xAC a1 a0, xFP a0 a1, xHN a0 a1, xGh a0 a1, xIa a0 a1, xJ1 a0 a1, xJS a1 a0, xJT a1 a0 r1, iN r1, xNu a1 a0, xNv a0 a1 r2] := by kernel_rfl
def xVC (a0 : Str) (a1 r1 : Int) : rE I49 (xAQ a0 a1) [Y, F, F, F, Y, Y] [xA0 r1] = dn (xA3 ((Tok.mk 0 0 0 []), 0, false)) [xAC a1 a0, xFP a0 a1, xHN a0 a1, xHS a0 a1, iN false, xJ0 a0 a1, xJQ a1 a0, xJR a1 a0 r1, iY (dc (r1 < 0))] := by kernel_rfl
def xVD (a0 : Str) (a1 r1 : Int) (r2 : Bool) : rE I49 (xAQ a0 a1) [Y, F, F, F, Y, F] [xA0 r1, xAZ r2] = dn (xNR a1 r1 a0 r2) [xAC a1 a0, xFP a0 a1, xHN a0 a1, xHS a0 a1, iN false, xJ0 a0 a1, xJQ a1 a0, xJR a1 a0 r1, iN (dc (r1 < 0)), xNs a1 r1 a0, xNt a1 r1 a0 r2] := by kernel_rfl
def xVE (a0 : Str) (a1 : Int) (r1 : Bool) : rE I49 (xAQ a0 a1) [Y, F, F, F, F, Y] [xBT r1] = dn (xNS a1) [xAC a1 a0, xFP a0 a1, xHN a0 a1, xHS a0 a1, iN false, xJ1 a0 a1, xJS a1 a0, xJT a1 a0 r1, iY r1] := by kernel_rfl
def xVF (a0 : Str) (a1 : Int) (r1 : Bool) (r2 : Int) : rE I49 (xAQ a0 a1) [Y, F, F, F, F, F] [xBT r1, xA0 r2] = dn (xNT a1 a0 r2) [xAC a1 a0, xFP a0 a1, xHN a0 a1, xHS a0 a1, iN false, xJ1 a0 a1, xJS a1 a0, xJT a1 a0 r1, iN r1, xNu a1 a0, xNv a0 a1 r2] := by kernel_rfl
def xVG (a0 : Str) (a1 : Int) : rE I49 (xAQ a0 a1) [F, F, Y, Y] [] = st 8 I49 (xN6 a0 a1 a1 (Tok.mk 0 0 0 [])) [xAC a1 a0, xGG a0 a1, iN false, xGh a0 a1, xMt a0 a1] := by kernel_rfl
def xVH (a0 : Str) (a1 r1 : Int) : rE I49 (xAQ a0 a1) [F, F, Y, F, Y, Y] [xA0 r1] = dn (xA3 ((Tok.mk 0 0 0 []), 0, false)) [xAC a1 a0, xGG a0 a1, iN false, xGh a0 a1, xIa a0 a1, xJ0 a0 a1, xJQ a1 a0, xJR a1 a0 r1, iY (dc (r1 < 0))] := by kernel_rfl
def xVI (a0 : Str) (a1 r1 : Int) (r2 : Bool) : rE I49 (xAQ a0 a1) [F, F, Y, F, Y, F] [xA0 r1, xAZ r2] = dn (xNR a1 r1 a0 r2) [xAC a1 a0, xGG a0 a1, iN false, xGh a0 a1, xIa a0 a1, xJ0 a0 a1, xJQ a1 a0, xJR a1 a0 r1, iN (dc (r1 < 0)), xNs a1 r1 a0, xNt a1 r1 a0 r2] := by kernel_rfl
def xVJ (a0 : Str) (a1 : Int) (r1 : Bool) : rE I49 (xAQ a0 a1) [F, F, Y, F, F, Y] [xBT r1] = dn (xNS a1) [xAC a1 a0, xGG a0 a1, iN false, xGh a0 a1, xIa a0 a1, xJ1 a0 a1, xJS a1 a0, xJT a1 a0 r1, iY r1] := by kernel_rfl
def xVK (a0 : Str) (a1 : Int) (r1 : Bool) (r2 : Int) : rE I49 (xAQ a0 a1) [F, F, Y, F, F, F] [xBT r1, xA0 r2] = dn (xNT a1 a0 r2) [xAC a1 a0, xGG a0 a1, iN false, xGh a0 a1, xIa a0 a1, xJ1 a0 a1, xJS a1 a0, xJT a1 a0 r1, iN r1, xNu a1 a0, xNv a0 a1 r2] := by kernel_rfl
def xVL (a0 : Str) (a1 r1 : Int) : rE I49 (xAQ a0 a1) [F, F, F, F, Y, Y] [xA0 r1] = dn (xA3 ((Tok.mk 0 0 0 []), 0, false)) [xAC a1 a0, xGG a0 a1, iN false, xHS a0 a1, iN false, xJ0 a0 a1, xJQ a1 a0, xJR a1 a0 r1, iY (dc (r1 < 0))] := by kernel_rfl
def xVM (a0 : Str) (a1 r1 : Int) (r2 : Bool) : rE I49 (xAQ a0 a1) [F, F, F, F, Y, F] [xA0 r1, xAZ r2] = dn (xNR a1 r1 a0 r2) [xAC a1 a0, xGG a0 a1, iN false, xHS a0 a1, iN false, xJ0 a0 a1, xJQ a1 a0, xJR a1 a0 r1, iN (dc (r1 < 0)), xNs a1 r1 a0, xNt a1 r1 a0 r2] := by kernel_rfl
def xVN (a0 : Str) (a1 : Int) (r1 : Bool) : rE I49 (xAQ a0 a1) [F, F, F, F, F, Y] [xBT r1] = dn (xNS a1) [xAC a1 a0, xGG a0 a1, iN false, xHS a0 a1, iN false, xJ1 a0 a1, xJS a1 a0, xJT a1 a0 r1, iY r1] := by kernel_rfl
def xVO (a0 : Str) (a1 : Int) (r1 : Bool) (r2 : Int) : rE I49 (xAQ a0 a1) [F, F, F, F, F, F] [xBT r1, xA0 r2] = dn (xNT a1 a0 r2) [xAC a1 a0, xGG a0 a1, iN false, xHS a0 a1, iN false, xJ1 a0 a1, xJS a1 a0, xJT a1 a0 r1, iN r1, xNu a1 a0, xNv a0 a1 r2] := by kernel_rfl
theorem vEm {N : Nat} : ∀ n x0 x1 x7 b4 r, xCW N n x0 x1 x7 b4 = some r → RS Tryz.f49 I49 4 (xLr x0 x1 x7 b4) (xA3 r) := by
 intro n
 induction n with
 | zero => exact fun _ _ _ _ _ h => nE h
 | succ n ih =>
  exact fun x0 x1 x7 b4 r h =>
   cE h (fun h0 h => iE h fun h1 h => cE h (fun h2 h => cE h (fun h4 h => tS fk49 (xZr x0 x1 x7 b4) (oc6 h0 h1 h2 h1 h4 rfl on) (ih _ _ _ _ _ h)) fun h4 h =>
   cE h (fun h6 h => cE h (fun h8 h => tS fk49 (xZs x0 x1 x7 b4) (oc9 h0 h1 h2 h1 h4 h1 h6 h1 h8 on) (ih _ _ _ _ _ h)) fun h8 h =>
   iE h fun h9 h => dS h fk49 (xZt x0 x1 x7 b4) (oc10 h0 h1 h2 h1 h4 h1 h6 h1 h8 h9 on)) fun h6 h =>
   iE h fun h8 h => dS h fk49 (xZu x0 x1 x7 b4) (oc9 h0 h1 h2 h1 h4 h1 h6 rfl h8 on)) fun h2 h =>
   cE h (fun h5 h => cE h (fun h7 h => tS fk49 (xZv x0 x1 x7 b4) (oc8 h0 h1 h2 rfl h1 h5 h1 h7 on) (ih _ _ _ _ _ h)) fun h7 h =>
   iE h fun h8 h => dS h fk49 (xZw x0 x1 x7 b4) (oc9 h0 h1 h2 rfl h1 h5 h1 h7 h8 on)) fun h5 h =>
   iE h fun h7 h => dS h fk49 (xZx x0 x1 x7 b4) (oc8 h0 h1 h2 rfl h1 h5 rfl h7 on)) fun h0 h =>
   iE h fun h2 h => dS h fk49 (xZy x0 x1 x7 b4) (oc3 h0 rfl h2 on)
theorem vDb {N : Nat} : ∀ n x0 x1 x7 b4 r, xDn N n x0 x1 x7 b4 = some r → RS Tryz.f49 I49 8 (xN6 x0 x1 x7 b4) (xA3 r) := by
 intro n
 induction n with
 | zero => exact fun _ _ _ _ _ h => nE h
 | succ n ih =>
  exact fun x0 x1 x7 b4 r h =>
   cE h (fun h0 h => iE h fun h1 h => cE h (fun h2 h => cE h (fun h4 h => tS fk49 (xZz x0 x1 x7 b4) (oc5 h0 h1 h2 h1 h4 on) (ih _ _ _ _ _ h)) fun h4 h =>
   iE h fun h5 h => bE h fun r1 h6 h => dS h fk49 (xZA x0 x1 x7 b4 r1) (oc7 h0 h1 h2 h1 h4 h5 (xJd h6) on)) fun h2 h =>
   iE h fun h4 h => bE h fun r1 h5 h => dS h fk49 (xVu x0 x1 x7 b4 r1) (oc6 h0 h1 h2 rfl h4 (xJd h5) on)) fun h0 h =>
   iE h fun h3 h => bE h fun r1 h4 h => dS h fk49 (xVv x0 x1 x7 b4 r1) (oc5 h0 rfl rfl h3 (xJd h4) on)
theorem vEn {N : Nat} : ∀ a0 a1 r, xHG N a0 a1 = some r → RE Tryz.f49 I49 (xAQ a0 a1) (xA3 r) := fun a0 a1 r h =>
 iE h fun h0 h => cE h (fun h1 h => cE h (fun h2 h => tE fk49 (xVw a0 a1) (oc3 h0 h1 h2 on) (vEm _ _ _ _ _ _ h)) fun h2 h =>
 cE h (fun h3 h => cE h (fun h4 h => tE fk49 (xVx a0 a1) (oc5 h0 h1 h2 h3 h4 on) (vDb _ _ _ _ _ _ h)) fun h4 h =>
 cE h (fun h5 h => iE h fun h6 h => bE h fun r1 h7 h => cE h (fun h8 h => dE h fk49 (xVy a0 a1 r1) (oc9 h0 h1 h2 h3 h4 h5 h6 (xBt h7) h8 on)) fun h8 h =>
 iE h fun h9 h => bE h fun r2 h10 h => dE h fk49 (xVz a0 a1 r1 r2) (oc11 h0 h1 h2 h3 h4 h5 h6 (xBt h7) h8 h9 (xD7 h10) on)) fun h5 h =>
 iE h fun h6 h => bE h fun r1 h7 h => cE h (fun h8 h => dE h fk49 (xVA a0 a1 r1) (oc9 h0 h1 h2 h3 h4 h5 h6 (xCJ h7) h8 on)) fun h8 h =>
 iE h fun h9 h => bE h fun r2 h10 h => dE h fk49 (xVB a0 a1 r1 r2) (oc11 h0 h1 h2 h3 h4 h5 h6 (xCJ h7) h8 h9 (xBt h10) on)) fun h3 h =>
 cE h (fun h5 h => iE h fun h6 h => bE h fun r1 h7 h => cE h (fun h8 h => dE h fk49 (xVC a0 a1 r1) (oc9 h0 h1 h2 h3 rfl h5 h6 (xBt h7) h8 on)) fun h8 h =>
 iE h fun h9 h => bE h fun r2 h10 h => dE h fk49 (xVD a0 a1 r1 r2) (oc11 h0 h1 h2 h3 rfl h5 h6 (xBt h7) h8 h9 (xD7 h10) on)) fun h5 h =>
 iE h fun h6 h => bE h fun r1 h7 h => cE h (fun h8 h => dE h fk49 (xVE a0 a1 r1) (oc9 h0 h1 h2 h3 rfl h5 h6 (xCJ h7) h8 on)) fun h8 h =>
 iE h fun h9 h => bE h fun r2 h10 h => dE h fk49 (xVF a0 a1 r1 r2) (oc11 h0 h1 h2 h3 rfl h5 h6 (xCJ h7) h8 h9 (xBt h10) on)) fun h1 h =>
 cE h (fun h3 h => cE h (fun h4 h => tE fk49 (xVG a0 a1) (oc5 h0 h1 rfl h3 h4 on) (vDb _ _ _ _ _ _ h)) fun h4 h =>
 cE h (fun h5 h => iE h fun h6 h => bE h fun r1 h7 h => cE h (fun h8 h => dE h fk49 (xVH a0 a1 r1) (oc9 h0 h1 rfl h3 h4 h5 h6 (xBt h7) h8 on)) fun h8 h =>
 iE h fun h9 h => bE h fun r2 h10 h => dE h fk49 (xVI a0 a1 r1 r2) (oc11 h0 h1 rfl h3 h4 h5 h6 (xBt h7) h8 h9 (xD7 h10) on)) fun h5 h =>
 iE h fun h6 h => bE h fun r1 h7 h => cE h (fun h8 h => dE h fk49 (xVJ a0 a1 r1) (oc9 h0 h1 rfl h3 h4 h5 h6 (xCJ h7) h8 on)) fun h8 h =>
 iE h fun h9 h => bE h fun r2 h10 h => dE h fk49 (xVK a0 a1 r1 r2) (oc11 h0 h1 rfl h3 h4 h5 h6 (xCJ h7) h8 h9 (xBt h10) on)) fun h3 h =>
 cE h (fun h5 h => iE h fun h6 h => bE h fun r1 h7 h => cE h (fun h8 h => dE h fk49 (xVL a0 a1 r1) (oc9 h0 h1 rfl h3 rfl h5 h6 (xBt h7) h8 on)) fun h8 h =>
 iE h fun h9 h => bE h fun r2 h10 h => dE h fk49 (xVM a0 a1 r1 r2) (oc11 h0 h1 rfl h3 rfl h5 h6 (xBt h7) h8 h9 (xD7 h10) on)) fun h5 h =>
 iE h fun h6 h => bE h fun r1 h7 h => cE h (fun h8 h => dE h fk49 (xVN a0 a1 r1) (oc9 h0 h1 rfl h3 rfl h5 h6 (xCJ h7) h8 on)) fun h8 h =>
 iE h fun h9 h => bE h fun r2 h10 h => dE h fk49 (xVO a0 a1 r1 r2) (oc11 h0 h1 rfl h3 rfl h5 h6 (xCJ h7) h8 h9 (xBt h10) on)
theorem xH8 {N : Nat} {a0 : Str} {a1 : Int} {r : Tok × Int × Bool} (h : xHG N  a0 a1 = some r) : AbC 49 (xAQ a0 a1) (xA3 r) :=
 AbsCalls.of_reach fk49 rfl rfl (Nat.le_of_ble_eq_true rfl) (vEn a0 a1 r h)
noncomputable def I30 : Info := { body := (Tryz.f30.body).getD .skip, nt := 44, results := [.tmp 2, .tmp 3], keep := [0, 4, 6, 8, 10, 12, 14, 16, 22, 32, 40, 72, 13], live := [(5, [0, 8, 10])], modes := [(8, [(3, .take, false)]), (9, [(0, .take, false), (2, .take, false)]), (11, [(0, .take, false)]), (12, [(0, .take, false)]), (13, [(0, .take, false)])] }
theorem fk30 : FnOk Tryz.prog 30 Tryz.f30 I30 := ⟨Tryz.func30, by kernel_rfl, by kernel_rfl, by kernel_rfl, by kernel_rfl⟩
def xNl (x0 : Str) (x4 : List Tok) (x5 : Int) : St := [(0, .v false [.str x0]), (8, .v false [.sl .own .tok x4]), (10, .v false [.int .i64 x5])]
def xYh (x0 : Str) (x4 : List Tok) (x5 : Int) : rS 5 I30 (xNl x0 x4 x5) [Y, Y] [] = st 5 I30 (xNl x0 x4 (W (x5 + 1))) [xDG x5 x0, xAC x5 x0, iY (xPl x0 x5)] := by kernel_rfl
def xYi (x0 : Str) (x4 : List Tok) (x5 : Int) (r1 : Tok × Int × Bool) : rS 5 I30 (xNl x0 x4 x5) [Y, F, Y, Y] [xA3 r1] = dn (xAV ([], x5)) [xDG x5 x0, xAC x5 x0, xNb x0 x5, AbC 49 (xAQ x0 x5) (xA3 r1), iY (!r1.2.2), iY true] := by kernel_rfl
def xYj (x0 : Str) (x4 : List Tok) (x5 : Int) (r1 : Tok × Int × Bool) : rS 5 I30 (xNl x0 x4 x5) [Y, F, F, Y] [xA3 r1] = dn (xAV ([], x5)) [xDG x5 x0, xAC x5 x0, xNb x0 x5, AbC 49 (xAQ x0 x5) (xA3 r1), iN (!r1.2.2), iY ((Ln x4 : Int) == 60)] := by kernel_rfl
def xYk (x0 : Str) (x4 : List Tok) (x5 : Int) (r1 : Tok × Int × Bool) : rS 5 I30 (xNl x0 x4 x5) [Y, F, F, F] [xA3 r1] = st 5 I30 (xNl x0 (x4 ++ [r1.1]) r1.2.1) [xDG x5 x0, xAC x5 x0, xNb x0 x5, AbC 49 (xAQ x0 x5) (xA3 r1), iN (!r1.2.2), iN ((Ln x4 : Int) == 60), Ln x4 + Ln [r1.1] ≤ Lim] := by kernel_rfl
def xYl (x0 : Str) (x4 : List Tok) (x5 : Int) : rS 5 I30 (xNl x0 x4 x5) [F] [] = dn (xAV (x4, (-1))) [xI0 x5 x0] := by kernel_rfl
def xYm (a0 : Str) : rE I30 (xF0 a0) [Y] [] = dn (xAV ([], 120)) [iY (xNO a0)] := by kernel_rfl
def xYn (a0 : Str) : rE I30 (xF0 a0) [F] [] = st 5 I30 (xNl a0 [] 0) [iN (xNO a0)] := by kernel_rfl
theorem vD1 {N : Nat} : ∀ n x0 x4 x5 r, xEA N n x0 x4 x5 = some r → RS Tryz.f30 I30 5 (xNl x0 x4 x5) (xAV r) := by
 intro n
 induction n with
 | zero => exact fun _ _ _ _ h => nE h
 | succ n ih =>
  exact fun x0 x4 x5 r h =>
   cE h (fun h0 h => iE h fun h1 h => cE h (fun h2 h => tS fk30 (xYh x0 x4 x5) (oc3 h0 h1 h2 on) (ih _ _ _ _ h)) fun h2 h =>
   bE h fun r1 h3 h => cE h (fun h4 h => dS h fk30 (xYi x0 x4 x5 r1) (oc6 h0 h1 h2 (xH8 h3) h4 rfl on)) fun h4 h =>
   cE h (fun h5 h => dS h fk30 (xYj x0 x4 x5 r1) (oc6 h0 h1 h2 (xH8 h3) h4 h5 on)) fun h5 h =>
   iE h fun h6 h => tS fk30 (xYk x0 x4 x5 r1) (oc7 h0 h1 h2 (xH8 h3) h4 h5 h6 on) (ih _ _ _ _ h)) fun h0 h =>
   dS h fk30 (xYl x0 x4 x5) (oc h0 on)
theorem vD2 {N : Nat} : ∀ a0 r, xGt N a0 = some r → RE Tryz.f30 I30 (xF0 a0) (xAV r) := fun a0 r h =>
 cE h (fun h0 h => dE h fk30 (xYm a0) (oc h0 on)) fun h0 h =>
 tE fk30 (xYn a0) (oc h0 on) (vD1 _ _ _ _ _ h)
theorem xBX {N : Nat} {a0 : Str} {r : (List Tok) × Int} (h : xGt N  a0 = some r) : AbC 30 (xF0 a0) (xAV r) :=
 AbsCalls.of_reach fk30 rfl rfl (Nat.le_of_ble_eq_true rfl) (vD2 a0 r h)
noncomputable def I51 : Info := { body := (Tryz.f51.body).getD .skip, nt := 31, results := [.cell 2 50], keep := [0, 4, 38, 1, 5], live := [], modes := [(1, [(5, .take, false)])], ext := [0] }
theorem fk51 : FnOk Tryz.prog 51 Tryz.f51 I51 := ⟨Tryz.func51, by kernel_rfl, by kernel_rfl, by kernel_rfl, by kernel_rfl⟩
abbrev xJU (v0 : Psr) : Prop := iY (dc ((Psr.bad v0) < 0))
def xZD (a0 : Psr) : rE I51 (xDC a0) [Y, Y] [] = dn (xAg ((gD (Psr.list a0) (tN (Psr.pos a0)) Ty.tok.dflt), a0)) [xJU a0, iY (dc ((Psr.pos a0) < (Ln (Psr.list a0) : Int))), (0 : Int) ≤ (Psr.pos a0) ∧ (Psr.pos a0) < (Ln (Psr.list a0))] := by kernel_rfl
def xZE (a0 : Psr) : rE I51 (xDC a0) [Y, F] [] = dn (xAg ((Tok.mk 0 0 0 []), a0)) [xJU a0, iN (dc ((Psr.pos a0) < (Ln (Psr.list a0) : Int)))] := by kernel_rfl
abbrev xNw (v0 : Psr) : Prop := iN (dc ((Psr.bad v0) < 0))
def xZF (a0 : Psr) : rE I51 (xDC a0) [F, F] [] = dn (xAg ((Tok.mk 0 0 0 []), a0)) [xNw a0, iN false] := by kernel_rfl
theorem vEp {N : Nat} : ∀ a0 r, xBN N a0 = some r → RE Tryz.f51 I51 (xDC a0) (xAg r) := fun a0 r h =>
 cE h (fun h0 h => cE h (fun h1 h => iE h fun h2 h => dE h fk51 (xZD a0) (oc3 h0 h1 h2 on)) fun h1 h =>
 dE h fk51 (xZE a0) (oc2 h0 h1 on)) fun h0 h =>
 dE h fk51 (xZF a0) (oc2 h0 rfl on)
theorem xAm {N : Nat} {a0 : Psr} {r : Tok × Psr} (h : xBN N  a0 = some r) : AbC 51 (xDC a0) (xAg r) :=
 AbsCalls.of_reach fk51 rfl rfl (Nat.le_of_ble_eq_true rfl) (vEp a0 r h)
noncomputable def I50 : Info := { body := (Tryz.f50.body).getD .skip, nt := 14, results := [.tmp 4], keep := [0, 2, 4, 8, 5], live := [], modes := [(1, [(3, .take, false)])] }
theorem fk50 : FnOk Tryz.prog 50 Tryz.f50 I50 := ⟨Tryz.func50, by kernel_rfl, by kernel_rfl, by kernel_rfl, by kernel_rfl⟩
def xZB (a0 : Tok) (a1 : Str) : rE I50 (xBL a0 a1) [Y] [] = dn (xAA (((Tok.text a0) : Str) == a1)) [iY ((Tok.kind a0) == 1)] := by kernel_rfl
def xZC (a0 : Tok) (a1 : Str) : rE I50 (xBL a0 a1) [F] [] = dn (xAA false) [iN ((Tok.kind a0) == 1)] := by kernel_rfl
theorem vEo {N : Nat} : ∀ a0 a1 r, xEL N a0 a1 = some r → RE Tryz.f50 I50 (xBL a0 a1) (xAA r) := fun a0 a1 r h =>
 cE h (fun h0 h => dE h fk50 (xZB a0 a1) (oc h0 on)) fun h0 h =>
 dE h fk50 (xZC a0 a1) (oc h0 on)
theorem xBU {N : Nat} {a0 : Tok} {a1 : Str} {r : Bool} (h : xEL N  a0 a1 = some r) : AbC 50 (xBL a0 a1) (xAA r) :=
 AbsCalls.of_reach fk50 rfl rfl (Nat.le_of_ble_eq_true rfl) (vEo a0 a1 r h)
noncomputable def I97 : Info := { body := (Tryz.f97.body).getD .skip, nt := 15, results := [.tmp 6], keep := [0, 2, 4, 12], live := [], modes := [(1, [(3, .take, false)])] }
theorem fk97 : FnOk Tryz.prog 97 Tryz.f97 I97 := ⟨Tryz.func97, by kernel_rfl, by kernel_rfl, by kernel_rfl, by kernel_rfl⟩
def vBW (a0 a1 a2 : Int) : rE I97 (xDo a0 a1 a2) [Y] [] = dn (xBm (dc (a0 ≤ a2))) [iY (dc (a1 ≤ a0))] := by kernel_rfl
def vBX (a0 a1 a2 : Int) : rE I97 (xDo a0 a1 a2) [F] [] = dn (xBm false) [iN (dc (a1 ≤ a0))] := by kernel_rfl
theorem vFf {N : Nat} : ∀ a0 a1 a2 r, xGg N a0 a1 a2 = some r → RE Tryz.f97 I97 (xDo a0 a1 a2) (xBm r) := fun a0 a1 a2 r h =>
 cE h (fun h0 h => dE h fk97 (vBW a0 a1 a2) (oc h0 on)) fun h0 h =>
 dE h fk97 (vBX a0 a1 a2) (oc h0 on)
theorem xEh {N : Nat} {a0 : Int} {a1 : Int} {a2 : Int} {r : Bool} (h : xGg N  a0 a1 a2 = some r) : AbC 97 (xDo a0 a1 a2) (xBm r) :=
 AbsCalls.of_reach fk97 rfl rfl (Nat.le_of_ble_eq_true rfl) (vFf a0 a1 a2 r h)
noncomputable def I114 : Info := { body := (Tryz.f114.body).getD .skip, nt := 42, results := [.tmp 2], keep := [0, 4, 6, 8, 16, 76], live := [(2, [0, 6])], modes := [(4, [(4, .take, false)]), (5, [(0, .take, false), (2, .take, false), (5, .take, false), (11, .take, false)])] }
theorem xL7 : FnOk Tryz.prog 114 Tryz.f114 I114 := ⟨Tryz.func114, by kernel_rfl, by kernel_rfl, by kernel_rfl, by kernel_rfl⟩
def xH3 (x0 : Str) (x3 : Int) : St := [(0, .v false [.str x0]), (6, .v false [.int .i64 x3])]
def xT3 (x0 : Str) (x3 : Int) : rS 2 I114 (xH3 x0 x3) [Y, Y, Y, Y, Y, Y] [] = dn (xCp false) [xDG x3 x0, xAC x3 x0, xFP x0 x3, xAC x3 x0, xLd x0 x3, iY (x3 == 0), iY true, iY true] := by kernel_rfl
def xT4 (x0 : Str) (x3 : Int) : rS 2 I114 (xH3 x0 x3) [Y, Y, Y, F, Y, Y] [] = dn (xCp false) [xDG x3 x0, xAC x3 x0, xFP x0 x3, xAC x3 x0, xLd x0 x3, xLw x3, xAC x3 x0, xXi x0 x3, iY true] := by kernel_rfl
def xT5 (x0 : Str) (x3 : Int) : rS 2 I114 (xH3 x0 x3) [Y, Y, Y, F, F, Y] [] = dn (xCp false) [xDG x3 x0, xAC x3 x0, xFP x0 x3, xAC x3 x0, xLd x0 x3, xLw x3, xAC x3 x0, xQE x0 x3, xAC x3 x0, xXj x0 x3] := by kernel_rfl
def xT6 (x0 : Str) (x3 : Int) : rS 2 I114 (xH3 x0 x3) [Y, Y, Y, F, F, F] [] = st 2 I114 (xH3 x0 (W (x3 + 1))) [xDG x3 x0, xAC x3 x0, xFP x0 x3, xAC x3 x0, xLd x0 x3, xLw x3, xAC x3 x0, xQE x0 x3, xAC x3 x0, xXk x0 x3] := by kernel_rfl
def xT7 (x0 : Str) (x3 : Int) : rS 2 I114 (xH3 x0 x3) [Y, Y, F, F] [] = st 2 I114 (xH3 x0 (W (x3 + 1))) [xDG x3 x0, xAC x3 x0, xFP x0 x3, xAC x3 x0, xRT x0 x3, iN false] := by kernel_rfl
def xT8 (x0 : Str) (x3 : Int) : rS 2 I114 (xH3 x0 x3) [Y, F, Y, Y, Y, Y] [] = dn (xCp false) [xDG x3 x0, xAC x3 x0, xGG x0 x3, iY (!false), iY (x3 == 0), iY true, iY true] := by kernel_rfl
def xT9 (x0 : Str) (x3 : Int) : rS 2 I114 (xH3 x0 x3) [Y, F, Y, F, Y, Y] [] = dn (xCp false) [xDG x3 x0, xAC x3 x0, xGG x0 x3, iY (!false), xLw x3, xAC x3 x0, xXi x0 x3, iY true] := by kernel_rfl
def xUa (x0 : Str) (x3 : Int) : rS 2 I114 (xH3 x0 x3) [Y, F, Y, F, F, Y] [] = dn (xCp false) [xDG x3 x0, xAC x3 x0, xGG x0 x3, iY (!false), xLw x3, xAC x3 x0, xQE x0 x3, xAC x3 x0, xXj x0 x3] := by kernel_rfl
def xUb (x0 : Str) (x3 : Int) : rS 2 I114 (xH3 x0 x3) [Y, F, Y, F, F, F] [] = st 2 I114 (xH3 x0 (W (x3 + 1))) [xDG x3 x0, xAC x3 x0, xGG x0 x3, iY (!false), xLw x3, xAC x3 x0, xQE x0 x3, xAC x3 x0, xXk x0 x3] := by kernel_rfl
def xUc (x0 : Str) (x3 : Int) (r1 : Bool) : rS 2 I114 (xH3 x0 x3) [F] [xBm r1] = dn (xCp r1) [xI0 x3 x0, AbC 97 (xDo (Ln x0 : Int) 1 8) (xBm r1)] := by kernel_rfl
def xSc (a0 : Str) : rE I114 (xGF a0) [] [] = st 2 I114 (xH3 a0 0) [] := by kernel_rfl
theorem vCN {N : Nat} : ∀ n x0 x3 r, xEg N n x0 x3 = some r → RS Tryz.f114 I114 2 (xH3 x0 x3) (xCp r) := by
 intro n
 induction n with
 | zero => exact fun _ _ _ h => nE h
 | succ n ih =>
  exact fun x0 x3 r h =>
   cE h (fun h0 h => iE h fun h1 h => cE h (fun h2 h => cE h (fun h4 h => cE h (fun h5 h => dS h xL7 (xT3 x0 x3) (oc8 h0 h1 h2 h1 h4 h5 rfl rfl on)) fun h5 h =>
   cE h (fun h7 h => dS h xL7 (xT4 x0 x3) (oc9 h0 h1 h2 h1 h4 h5 h1 h7 rfl on)) fun h7 h =>
   cE h (fun h9 h => dS h xL7 (xT5 x0 x3) (oc10 h0 h1 h2 h1 h4 h5 h1 h7 h1 h9 on)) fun h9 h =>
   tS xL7 (xT6 x0 x3) (oc10 h0 h1 h2 h1 h4 h5 h1 h7 h1 h9 on) (ih _ _ _ h)) fun h4 h =>
   tS xL7 (xT7 x0 x3) (oc6 h0 h1 h2 h1 h4 rfl on) (ih _ _ _ h)) fun h2 h =>
   cE h (fun h4 h => dS h xL7 (xT8 x0 x3) (oc7 h0 h1 h2 rfl h4 rfl rfl on)) fun h4 h =>
   cE h (fun h6 h => dS h xL7 (xT9 x0 x3) (oc8 h0 h1 h2 rfl h4 h1 h6 rfl on)) fun h6 h =>
   cE h (fun h8 h => dS h xL7 (xUa x0 x3) (oc9 h0 h1 h2 rfl h4 h1 h6 h1 h8 on)) fun h8 h =>
   tS xL7 (xUb x0 x3) (oc9 h0 h1 h2 rfl h4 h1 h6 h1 h8 on) (ih _ _ _ h)) fun h0 h =>
   bE h fun r1 h1 h => dS h xL7 (xUc x0 x3 r1) (oc2 h0 (xEh h1) on)
theorem vCO {N : Nat} : ∀ a0 r, xJc N a0 = some r → RE Tryz.f114 I114 (xGF a0) (xCp r) := fun a0 r h =>
 tE xL7 (xSc a0) on (vCN _ _ _ _ h)
theorem xKB {N : Nat} {a0 : Str} {r : Bool} (h : xJc N  a0 = some r) : AbC 114 (xGF a0) (xCp r) :=
 AbsCalls.of_reach xL7 rfl rfl (Nat.le_of_ble_eq_true rfl) (vCO a0 r h)
end Go.Ab.T
end
section
open Go.Proofs
namespace Go.Ab.T
set_option maxRecDepth 100000
variable [Inhabited Lb]
variable [Nonempty Tab10]
variable [Nonempty ErrVars]
noncomputable def I117 : Info := { body := (Tryz.f117.body).getD .skip, nt := 26, results := [.tmp 2], keep := [0, 4, 6, 8, 12, 24, 40, 48], live := [], modes := [] }
theorem xJa : FnOk Tryz.prog 117 Tryz.f117 I117 := ⟨Tryz.func117, by kernel_rfl, by kernel_rfl, by kernel_rfl, by kernel_rfl⟩
def xUv (a0 : Str) : rE I117 (xAo a0) [Y] [] = dn (xAi 0) [iY (xPp a0)] := by kernel_rfl
def xUw (a0 : Str) : rE I117 (xAo a0) [F, Y, Y] [] = dn (xAi 1) [xEx a0, xPX a0, xPX a0] := by kernel_rfl
def xUx (a0 : Str) : rE I117 (xAo a0) [F, F, Y, Y] [] = dn (xAi 1) [xEx a0, xEM a0, xPY a0, xPY a0] := by kernel_rfl
def xUy (a0 : Str) : rE I117 (xAo a0) [F, F, F, Y, Y] [] = dn (xAi 1) [xEx a0, xEM a0, xFb a0, xPZ a0, xPZ a0] := by kernel_rfl
def xUz (a0 : Str) : rE I117 (xAo a0) [F, F, F, F, Y, Y] [] = dn (xAi 1) [xEx a0, xEM a0, xFb a0, xFD a0, xP0 a0, xP0 a0] := by kernel_rfl
def xUA (a0 : Str) : rE I117 (xAo a0) [F, F, F, F, F, Y] [] = dn (xAi 1) [xEx a0, xEM a0, xFb a0, xFD a0, xFQ a0, iY (xPq a0)] := by kernel_rfl
def xUB (a0 : Str) : rE I117 (xAo a0) [F, F, F, F, F, F, Y, Y] [] = dn (xAi 2) [xEx a0, xEM a0, xFb a0, xFD a0, xFQ a0, xGa a0, xP1 a0, xP1 a0] := by kernel_rfl
def xUC (a0 : Str) : rE I117 (xAo a0) [F, F, F, F, F, F, F, Y, Y] [] = dn (xAi 2) [xEx a0, xEM a0, xFb a0, xFD a0, xFQ a0, xGa a0, xGB a0, xP2 a0, xP2 a0] := by kernel_rfl
def xUD (a0 : Str) : rE I117 (xAo a0) [F, F, F, F, F, F, F, F, Y, Y] [] = dn (xAi 2) [xEx a0, xEM a0, xFb a0, xFD a0, xFQ a0, xGa a0, xGB a0, xGZ a0, xP3 a0, xP3 a0] := by kernel_rfl
def xUE (a0 : Str) : rE I117 (xAo a0) [F, F, F, F, F, F, F, F, F, Y, Y] [] = dn (xAi 2) [xEx a0, xEM a0, xFb a0, xFD a0, xFQ a0, xGa a0, xGB a0, xGZ a0, xHm a0, xP4 a0, xP4 a0] := by kernel_rfl
def xSd (a0 : Str) : rE I117 (xAo a0) [F, F, F, F, F, F, F, F, F, F, Y, Y] [] = dn (xAi 2) [xEx a0, xEM a0, xFb a0, xFD a0, xFQ a0, xGa a0, xGB a0, xGZ a0, xHm a0, xHT a0, xP5 a0, xP5 a0] := by kernel_rfl
def xSe (a0 : Str) : rE I117 (xAo a0) [F, F, F, F, F, F, F, F, F, F, F, Y, Y] [] = dn (xAi 2) [xEx a0, xEM a0, xFb a0, xFD a0, xFQ a0, xGa a0, xGB a0, xGZ a0, xHm a0, xHT a0, xIw a0, xP6 a0, xP6 a0] := by kernel_rfl
def xSf (a0 : Str) : rE I117 (xAo a0) [F, F, F, F, F, F, F, F, F, F, F, F, Y] [] = dn (xAi 2) [xEx a0, xEM a0, xFb a0, xFD a0, xFQ a0, xGa a0, xGB a0, xGZ a0, xHm a0, xHT a0, xIw a0, xJx a0, iY (xPr a0)] := by kernel_rfl
def xSg (a0 : Str) : rE I117 (xAo a0) [F, F, F, F, F, F, F, F, F, F, F, F, F, Y, Y] [] = dn (xAi 3) [xEx a0, xEM a0, xFb a0, xFD a0, xFQ a0, xGa a0, xGB a0, xGZ a0, xHm a0, xHT a0, xIw a0, xJx a0, xKF a0, xP7 a0, xP7 a0] := by kernel_rfl
def xSh (a0 : Str) : rE I117 (xAo a0) [F, F, F, F, F, F, F, F, F, F, F, F, F, F, Y, Y] [] = dn (xAi 3) [xEx a0, xEM a0, xFb a0, xFD a0, xFQ a0, xGa a0, xGB a0, xGZ a0, xHm a0, xHT a0, xIw a0, xJx a0, xKF a0, xL0 a0, xP8 a0, xP8 a0] := by kernel_rfl
def xSi (a0 : Str) : rE I117 (xAo a0) [F, F, F, F, F, F, F, F, F, F, F, F, F, F, F, Y] [] = dn (xAi 3) [xEx a0, xEM a0, xFb a0, xFD a0, xFQ a0, xGa a0, xGB a0, xGZ a0, xHm a0, xHT a0, xIw a0, xJx a0, xKF a0, xL0 a0, xNc a0, iY (xPs a0)] := by kernel_rfl
def xSj (a0 : Str) : rE I117 (xAo a0) [F, F, F, F, F, F, F, F, F, F, F, F, F, F, F, F, Y] [] = dn (xAi 4) [xEx a0, xEM a0, xFb a0, xFD a0, xFQ a0, xGa a0, xGB a0, xGZ a0, xHm a0, xHT a0, xIw a0, xJx a0, xKF a0, xL0 a0, xNc a0, xP9 a0, iY (xNP a0)] := by kernel_rfl
def xSk (a0 : Str) : rE I117 (xAo a0) [F, F, F, F, F, F, F, F, F, F, F, F, F, F, F, F, F] [] = dn (xAi (-1)) [xEx a0, xEM a0, xFb a0, xFD a0, xFQ a0, xGa a0, xGB a0, xGZ a0, xHm a0, xHT a0, xIw a0, xJx a0, xKF a0, xL0 a0, xNc a0, xP9 a0, iN (xNP a0)] := by kernel_rfl
theorem vCR {N : Nat} : ∀ a0 r, xDg N a0 = some r → RE Tryz.f117 I117 (xAo a0) (xAi r) := fun a0 r h =>
 cE h (fun h0 h => dE h xJa (xUv a0) (oc h0 on)) fun h0 h =>
 cE h (fun h1 h => dE h xJa (xUw a0) (oc3 h0 h1 h1 on)) fun h1 h =>
 cE h (fun h2 h => dE h xJa (xUx a0) (oc4 h0 h1 h2 h2 on)) fun h2 h =>
 cE h (fun h3 h => dE h xJa (xUy a0) (oc5 h0 h1 h2 h3 h3 on)) fun h3 h =>
 cE h (fun h4 h => dE h xJa (xUz a0) (oc6 h0 h1 h2 h3 h4 h4 on)) fun h4 h =>
 cE h (fun h5 h => dE h xJa (xUA a0) (oc6 h0 h1 h2 h3 h4 h5 on)) fun h5 h =>
 cE h (fun h6 h => dE h xJa (xUB a0) (oc8 h0 h1 h2 h3 h4 h5 h6 h6 on)) fun h6 h =>
 cE h (fun h7 h => dE h xJa (xUC a0) (oc9 h0 h1 h2 h3 h4 h5 h6 h7 h7 on)) fun h7 h =>
 cE h (fun h8 h => dE h xJa (xUD a0) (oc10 h0 h1 h2 h3 h4 h5 h6 h7 h8 h8 on)) fun h8 h =>
 cE h (fun h9 h => dE h xJa (xUE a0) (oc11 h0 h1 h2 h3 h4 h5 h6 h7 h8 h9 h9 on)) fun h9 h =>
 cE h (fun h10 h => dE h xJa (xSd a0) (oc12 h0 h1 h2 h3 h4 h5 h6 h7 h8 h9 h10 h10 on)) fun h10 h =>
 cE h (fun h11 h => dE h xJa (xSe a0) (oc12 h0 h1 h2 h3 h4 h5 h6 h7 h8 h9 h10 h11 (oc h11 on))) fun h11 h =>
 cE h (fun h12 h => dE h xJa (xSf a0) (oc12 h0 h1 h2 h3 h4 h5 h6 h7 h8 h9 h10 h11 (oc h12 on))) fun h12 h =>
 cE h (fun h13 h => dE h xJa (xSg a0) (oc12 h0 h1 h2 h3 h4 h5 h6 h7 h8 h9 h10 h11 (oc3 h12 h13 h13 on))) fun h13 h =>
 cE h (fun h14 h => dE h xJa (xSh a0) (oc12 h0 h1 h2 h3 h4 h5 h6 h7 h8 h9 h10 h11 (oc4 h12 h13 h14 h14 on))) fun h14 h =>
 cE h (fun h15 h => dE h xJa (xSi a0) (oc12 h0 h1 h2 h3 h4 h5 h6 h7 h8 h9 h10 h11 (oc4 h12 h13 h14 h15 on))) fun h15 h =>
 cE h (fun h16 h => dE h xJa (xSj a0) (oc12 h0 h1 h2 h3 h4 h5 h6 h7 h8 h9 h10 h11 (oc5 h12 h13 h14 h15 h16 on))) fun h16 h =>
 dE h xJa (xSk a0) (oc12 h0 h1 h2 h3 h4 h5 h6 h7 h8 h9 h10 h11 (oc5 h12 h13 h14 h15 h16 on))
theorem xDD {N : Nat} {a0 : Str} {r : Int} (h : xDg N  a0 = some r) : AbC 117 (xAo a0) (xAi r) :=
 AbsCalls.of_reach xJa rfl rfl (Nat.le_of_ble_eq_true rfl) (vCR a0 r h)
noncomputable def I115 : Info := { body := (Tryz.f115.body).getD .skip, nt := 15, results := [.tmp 2], keep := [0, 4, 6, 8], live := [], modes := [] }
theorem xNn : FnOk Tryz.prog 115 Tryz.f115 I115 := ⟨Tryz.func115, by kernel_rfl, by kernel_rfl, by kernel_rfl, by kernel_rfl⟩
def xUd (a0 : Str) : rE I115 (xB3 a0) [Y, Y] [] = dn (xBM true) [iY ((a0 : Str) == [108, 101, 116]), iY ((a0 : Str) == [108, 101, 116])] := by kernel_rfl
abbrev xKM (v0 : Str) : Prop := iN ((v0 : Str) == [108, 101, 116])
def xUe (a0 : Str) : rE I115 (xB3 a0) [F, Y, Y] [] = dn (xBM true) [xKM a0, iY ((a0 : Str) == [105, 110]), iY ((a0 : Str) == [105, 110])] := by kernel_rfl
abbrev xLB (v0 : Str) : Prop := iN ((v0 : Str) == [105, 110])
def xUf (a0 : Str) : rE I115 (xB3 a0) [F, F, Y, Y] [] = dn (xBM true) [xKM a0, xLB a0, iY ((a0 : Str) == [105, 102]), iY ((a0 : Str) == [105, 102])] := by kernel_rfl
abbrev xMu (v0 : Str) : Prop := iN ((v0 : Str) == [105, 102])
abbrev xPu (v0 : Str) := (v0 : Str) == [116, 104, 101, 110]
def xUg (a0 : Str) : rE I115 (xB3 a0) [F, F, F, Y, Y] [] = dn (xBM true) [xKM a0, xLB a0, xMu a0, iY (xPu a0), iY (xPu a0)] := by kernel_rfl
abbrev xNx (v0 : Str) : Prop := iN (xPu v0)
abbrev xPv (v0 : Str) := (v0 : Str) == [101, 108, 115, 101]
def xUh (a0 : Str) : rE I115 (xB3 a0) [F, F, F, F, Y, Y] [] = dn (xBM true) [xKM a0, xLB a0, xMu a0, xNx a0, iY (xPv a0), iY (xPv a0)] := by kernel_rfl
abbrev xO3 (v0 : Str) : Prop := iN (xPv v0)
abbrev xNU (v0 : Str) := (v0 : Str) == [102, 111, 114]
def xUi (a0 : Str) : rE I115 (xB3 a0) [F, F, F, F, F, Y, Y] [] = dn (xBM true) [xKM a0, xLB a0, xMu a0, xNx a0, xO3 a0, iY (xNU a0), iY (xNU a0)] := by kernel_rfl
def xUj (a0 : Str) : rE I115 (xB3 a0) [F, F, F, F, F, F, Y] [] = dn (xBM true) [xKM a0, xLB a0, xMu a0, xNx a0, xO3 a0, iN (xNU a0), iY ((a0 : Str) == [100, 111])] := by kernel_rfl
def xUk (a0 : Str) (r1 : Int) : rE I115 (xB3 a0) [F, F, F, F, F, F, F] [xAi r1] = dn (xBM (dc (r1 ≥ 0))) [xKM a0, xLB a0, xMu a0, xNx a0, xO3 a0, iN (xNU a0), iN ((a0 : Str) == [100, 111]), AbC 117 (xAo a0) (xAi r1)] := by kernel_rfl
theorem vCP {N : Nat} : ∀ a0 r, xGe N a0 = some r → RE Tryz.f115 I115 (xB3 a0) (xBM r) := fun a0 r h =>
 cE h (fun h0 h => dE h xNn (xUd a0) (oc2 h0 h0 on)) fun h0 h =>
 cE h (fun h1 h => dE h xNn (xUe a0) (oc3 h0 h1 h1 on)) fun h1 h =>
 cE h (fun h2 h => dE h xNn (xUf a0) (oc4 h0 h1 h2 h2 on)) fun h2 h =>
 cE h (fun h3 h => dE h xNn (xUg a0) (oc5 h0 h1 h2 h3 h3 on)) fun h3 h =>
 cE h (fun h4 h => dE h xNn (xUh a0) (oc6 h0 h1 h2 h3 h4 h4 on)) fun h4 h =>
 cE h (fun h5 h => dE h xNn (xUi a0) (oc7 h0 h1 h2 h3 h4 h5 h5 on)) fun h5 h =>
 cE h (fun h6 h => dE h xNn (xUj a0) (oc7 h0 h1 h2 h3 h4 h5 h6 on)) fun h6 h =>
 bE h fun r1 h7 h => dE h xNn (xUk a0 r1) (oc8 h0 h1 h2 h3 h4 h5 h6 (xDD h7) on)
theorem xK6 {N : Nat} {a0 : Str} {r : Bool} (h : xGe N  a0 = some r) : AbC 115 (xB3 a0) (xBM r) :=
 AbsCalls.of_reach xNn rfl rfl (Nat.le_of_ble_eq_true rfl) (vCP a0 r h)
noncomputable def I93 : Info := { body := (Tryz.f93.body).getD .skip, nt := 10, results := [.tmp 2], keep := [0, 4], live := [], modes := [(1, [(2, .take, false)])] }
theorem fk93 : FnOk Tryz.prog 93 Tryz.f93 I93 := ⟨Tryz.func93, by kernel_rfl, by kernel_rfl, by kernel_rfl, by kernel_rfl⟩
def vBN (a0 : Str) (r1 r2 : Bool) : rE I93 (xD5 a0) [Y] [xCp r1, xBM r2] = dn (xAK (!r2)) [AbC 114 (xGF a0) (xCp r1), iY r1, AbC 115 (xB3 a0) (xBM r2)] := by kernel_rfl
def vBO (a0 : Str) (r1 : Bool) : rE I93 (xD5 a0) [F] [xCp r1] = dn (xAK false) [AbC 114 (xGF a0) (xCp r1), iN r1] := by kernel_rfl
theorem vFa {N : Nat} : ∀ a0 r, xDw N a0 = some r → RE Tryz.f93 I93 (xD5 a0) (xAK r) := fun a0 r h =>
 bE h fun r1 h0 h => cE h (fun h1 h => bE h fun r2 h2 h => dE h fk93 (vBN a0 r1 r2) (oc3 (xKB h0) h1 (xK6 h2) on)) fun h1 h =>
 dE h fk93 (vBO a0 r1) (oc2 (xKB h0) h1 on)
theorem xBq {N : Nat} {a0 : Str} {r : Bool} (h : xDw N  a0 = some r) : AbC 93 (xD5 a0) (xAK r) :=
 AbsCalls.of_reach fk93 rfl rfl (Nat.le_of_ble_eq_true rfl) (vFa a0 r h)
noncomputable def I94 : Info := { body := (Tryz.f94.body).getD .skip, nt := 16, results := [.cell 2 25], keep := [0, 4, 14, 1, 5], live := [], modes := [], ext := [0] }
theorem fk94 : FnOk Tryz.prog 94 Tryz.f94 I94 := ⟨Tryz.func94, by kernel_rfl, by kernel_rfl, by kernel_rfl, by kernel_rfl⟩
def vBP (a0 : Psr) : rE I94 (xCw a0) [Y] [] = dn (xBg ((Exp.mk 0 0 [] []), (Psr.mk (Psr.list a0) (Psr.pos a0) (Psr.pos a0)))) [xJU a0] := by kernel_rfl
def vBQ (a0 : Psr) : rE I94 (xCw a0) [F] [] = dn (xBg ((Exp.mk 0 0 [] []), a0)) [xNw a0] := by kernel_rfl
theorem vFb {N : Nat} : ∀ a0 r, xCh N a0 = some r → RE Tryz.f94 I94 (xCw a0) (xBg r) := fun a0 r h =>
 cE h (fun h0 h => dE h fk94 (vBP a0) (oc h0 on)) fun h0 h =>
 dE h fk94 (vBQ a0) (oc h0 on)
theorem xEY {N : Nat} {a0 : Psr} {r : Exp × Psr} (h : xCh N  a0 = some r) : AbC 94 (xCw a0) (xBg r) :=
 AbsCalls.of_reach fk94 rfl rfl (Nat.le_of_ble_eq_true rfl) (vFb a0 r h)
noncomputable def I52 : Info := { body := (Tryz.f52.body).getD .skip, nt := 26, results := [.tmp 2], keep := [0, 4, 6, 28, 1, 7], live := [], modes := [(2, [(3, .take, false)])], ext := [0] }
theorem fk52 : FnOk Tryz.prog 52 Tryz.f52 I52 := ⟨Tryz.func52, by kernel_rfl, by kernel_rfl, by kernel_rfl, by kernel_rfl⟩
abbrev xFf (v0 : Psr) (v1 : Tok × Psr) : Prop := AbC 51 (xDC v0) (xAg v1)
def xZG (a0 : Psr) (r1 : Tok × Psr) (r2 : Exp × Psr) : rE I52 (xD9 a0) [Y, Y] [xAg r1, xBg r2] = dn (xCV ([], r2.2)) [xFf a0 r1, iY ((Tok.kind r1.1) != 1), iY true, AbC 94 (xCw r1.2) (xBg r2)] := by kernel_rfl
abbrev xKN (v0 : Tok × Psr) (v1 : Bool) : Prop := AbC 93 (xD5 (Tok.text v0.1)) (xAK v1)
def xZH (a0 : Psr) (r1 : Tok × Psr) (r2 : Bool) (r3 : Exp × Psr) : rE I52 (xD9 a0) [F, Y] [xAg r1, xAK r2, xBg r3] = dn (xCV ([], r3.2)) [xFf a0 r1, iN ((Tok.kind r1.1) != 1), xKN r1 r2, iY (!r2), AbC 94 (xCw r1.2) (xBg r3)] := by kernel_rfl
abbrev xJ7 (v0 : Tok × Psr) := Psr.mk (Psr.list v0.2) (W ((Psr.pos v0.2) + 1)) (Psr.bad v0.2)
def xZI (a0 : Psr) (r1 : Tok × Psr) (r2 : Bool) : rE I52 (xD9 a0) [F, F] [xAg r1, xAK r2] = dn (xCV ((Tok.text r1.1), (xJ7 r1))) [xFf a0 r1, iN ((Tok.kind r1.1) != 1), xKN r1 r2, iN (!r2)] := by kernel_rfl
theorem vEq {N : Nat} : ∀ a0 r, xCi N a0 = some r → RE Tryz.f52 I52 (xD9 a0) (xCV r) := fun a0 r h =>
 bE h fun r1 h0 h => cE h (fun h1 h => bE h fun r2 h3 h => dE h fk52 (xZG a0 r1 r2) (oc4 (xAm h0) h1 rfl (xEY h3) on)) fun h1 h =>
 bE h fun r2 h2 h => cE h (fun h3 h => bE h fun r3 h4 h => dE h fk52 (xZH a0 r1 r2 r3) (oc5 (xAm h0) h1 (xBq h2) h3 (xEY h4) on)) fun h3 h =>
 dE h fk52 (xZI a0 r1 r2) (oc4 (xAm h0) h1 (xBq h2) h3 on)
theorem xH6 {N : Nat} {a0 : Psr} {r : Str × Psr} (h : xCi N  a0 = some r) : AbC 52 (xD9 a0) (xCV r) :=
 AbsCalls.of_reach fk52 rfl rfl (Nat.le_of_ble_eq_true rfl) (vEq a0 r h)
noncomputable def I95 : Info := { body := (Tryz.f95.body).getD .skip, nt := 14, results := [.tmp 4], keep := [0, 2, 4, 8, 5], live := [], modes := [(1, [(3, .take, false)])] }
theorem fk95 : FnOk Tryz.prog 95 Tryz.f95 I95 := ⟨Tryz.func95, by kernel_rfl, by kernel_rfl, by kernel_rfl, by kernel_rfl⟩
def vBR (a0 : Tok) (a1 : Str) : rE I95 (xDU a0 a1) [Y] [] = dn (xCf (((Tok.text a0) : Str) == a1)) [iY ((Tok.kind a0) == 4)] := by kernel_rfl
def vBS (a0 : Tok) (a1 : Str) : rE I95 (xDU a0 a1) [F] [] = dn (xCf false) [iN ((Tok.kind a0) == 4)] := by kernel_rfl
theorem vFc {N : Nat} : ∀ a0 a1 r, xGs N a0 a1 = some r → RE Tryz.f95 I95 (xDU a0 a1) (xCf r) := fun a0 a1 r h =>
 cE h (fun h0 h => dE h fk95 (vBR a0 a1) (oc h0 on)) fun h0 h =>
 dE h fk95 (vBS a0 a1) (oc h0 on)
theorem xGL {N : Nat} {a0 : Tok} {a1 : Str} {r : Bool} (h : xGs N  a0 a1 = some r) : AbC 95 (xDU a0 a1) (xCf r) :=
 AbsCalls.of_reach fk95 rfl rfl (Nat.le_of_ble_eq_true rfl) (vFc a0 a1 r h)
noncomputable def I53 : Info := { body := (Tryz.f53.body).getD .skip, nt := 23, results := [], keep := [0, 2, 26, 1], live := [], modes := [(0, [(4, .take, false)])], ext := [0] }
theorem fk53 : FnOk Tryz.prog 53 Tryz.f53 I53 := ⟨Tryz.func53, by kernel_rfl, by kernel_rfl, by kernel_rfl, by kernel_rfl⟩
abbrev xRO (v0 : Tok × Psr) := xAu (Psr.mk (Psr.list v0.2) (W ((Psr.pos v0.2) + 1)) (Psr.bad v0.2))
def xZJ (a0 : Psr) (a1 : Str) (r1 : Tok × Psr) (r2 : Bool) : rE I53 (xA8 a0 a1) [Y, Y] [xAg r1, xAA r2] = dn (xRO r1) [xFf a0 r1, AbC 50 (xBL r1.1 a1) (xAA r2), iY r2, iY true] := by kernel_rfl
abbrev xKO (v0 v1 : Tok × Psr) : Prop := AbC 51 (xDC v0.2) (xAg v1)
def xZK (a0 : Psr) (a1 : Str) (r1 : Tok × Psr) (r2 : Bool) (r3 : Tok × Psr) (r4 : Bool) : rE I53 (xA8 a0 a1) [F, Y] [xAg r1, xAA r2, xAg r3, xCf r4] = dn (xRO r3) [xFf a0 r1, AbC 50 (xBL r1.1 a1) (xAA r2), iN r2, xKO r1 r3, AbC 95 (xDU r3.1 a1) (xCf r4), iY r4] := by kernel_rfl
def xZL (a0 : Psr) (a1 : Str) (r1 : Tok × Psr) (r2 : Bool) (r3 : Tok × Psr) (r4 : Bool) (r5 : Exp × Psr) : rE I53 (xA8 a0 a1) [F, F] [xAg r1, xAA r2, xAg r3, xCf r4, xBg r5] = dn (xAu r5.2) [xFf a0 r1, AbC 50 (xBL r1.1 a1) (xAA r2), iN r2, xKO r1 r3, AbC 95 (xDU r3.1 a1) (xCf r4), iN r4, AbC 94 (xCw r3.2) (xBg r5)] := by kernel_rfl
theorem vEr {N : Nat} : ∀ a0 a1 r, xAI N a0 a1 = some r → RE Tryz.f53 I53 (xA8 a0 a1) (xAu r) := fun a0 a1 r h =>
 bE h fun r1 h0 h => bE h fun r2 h1 h => cE h (fun h2 h => dE h fk53 (xZJ a0 a1 r1 r2) (oc4 (xAm h0) (xBU h1) h2 rfl on)) fun h2 h =>
 bE h fun r3 h3 h => bE h fun r4 h4 h => cE h (fun h5 h => dE h fk53 (xZK a0 a1 r1 r2 r3 r4) (oc6 (xAm h0) (xBU h1) h2 (xAm h3) (xGL h4) h5 on)) fun h5 h =>
 bE h fun r5 h6 h => dE h fk53 (xZL a0 a1 r1 r2 r3 r4 r5) (oc7 (xAm h0) (xBU h1) h2 (xAm h3) (xGL h4) h5 (xEY h6) on)
theorem xB8 {N : Nat} {a0 : Psr} {a1 : Str} {r : Psr} (h : xAI N  a0 a1 = some r) : AbC 53 (xA8 a0 a1) (xAu r) :=
 AbsCalls.of_reach fk53 rfl rfl (Nat.le_of_ble_eq_true rfl) (vEr a0 a1 r h)
noncomputable def I55 : Info := { body := (Tryz.f55.body).getD .skip, nt := 16, results := [.tmp 4], keep := [0, 2, 8, 16, 1], live := [], modes := [], ext := [0] }
theorem fk55 : FnOk Tryz.prog 55 Tryz.f55 I55 := ⟨Tryz.func55, by kernel_rfl, by kernel_rfl, by kernel_rfl, by kernel_rfl⟩
def xZR (a0 : Psr) (a1 : Str) (r1 : Tok × Psr) (r2 : Bool) : rE I55 (xAs a0 a1) [Y] [xAg r1, xCf r2] = dn (xAd (true, (xJ7 r1))) [xFf a0 r1, AbC 95 (xDU r1.1 a1) (xCf r2), iY r2] := by kernel_rfl
def xZS (a0 : Psr) (a1 : Str) (r1 : Tok × Psr) (r2 : Bool) : rE I55 (xAs a0 a1) [F] [xAg r1, xCf r2] = dn (xAd (false, r1.2)) [xFf a0 r1, AbC 95 (xDU r1.1 a1) (xCf r2), iN r2] := by kernel_rfl
theorem vEu {N : Nat} : ∀ a0 a1 r, xAM N a0 a1 = some r → RE Tryz.f55 I55 (xAs a0 a1) (xAd r) := fun a0 a1 r h =>
 bE h fun r1 h0 h => bE h fun r2 h1 h => cE h (fun h2 h => dE h fk55 (xZR a0 a1 r1 r2) (oc3 (xAm h0) (xGL h1) h2 on)) fun h2 h =>
 dE h fk55 (xZS a0 a1 r1 r2) (oc3 (xAm h0) (xGL h1) h2 on)
theorem xAp {N : Nat} {a0 : Psr} {a1 : Str} {r : Bool × Psr} (h : xAM N  a0 a1 = some r) : AbC 55 (xAs a0 a1) (xAd r) :=
 AbsCalls.of_reach fk55 rfl rfl (Nat.le_of_ble_eq_true rfl) (vEu a0 a1 r h)
noncomputable def I56 : Info := { body := (Tryz.f56.body).getD .skip, nt := 11, results := [.tmp 2], keep := [0, 4, 10], live := [], modes := [] }
theorem fk56 : FnOk Tryz.prog 56 Tryz.f56 I56 := ⟨Tryz.func56, by kernel_rfl, by kernel_rfl, by kernel_rfl, by kernel_rfl⟩
def xZT (a0 : Int) (r1 : Bool) : rE I56 (xDV a0) [Y] [xBm r1] = dn (xCg [63]) [AbC 97 (xDo a0 1 5) (xBm r1), iY (!r1)] := by kernel_rfl
def xZU (a0 : Int) (r1 : Bool) : rE I56 (xDV a0) [F] [xBm r1] = dn (xCg (gD [[43], [45], [42], [60], [61, 61]] (tN (W (a0 - 1))) Ty.str.dflt)) [AbC 97 (xDo a0 1 5) (xBm r1), iN (!r1), (0 : Int) ≤ (W (a0 - 1)) ∧ (W (a0 - 1)) < (Ln [[43], [45], [42], [60], [61, 61]])] := by kernel_rfl
theorem vEv {N : Nat} : ∀ a0 r, xFo N a0 = some r → RE Tryz.f56 I56 (xDV a0) (xCg r) := fun a0 r h =>
 bE h fun r1 h0 h => cE h (fun h1 h => dE h fk56 (xZT a0 r1) (oc2 (xEh h0) h1 on)) fun h1 h =>
 iE h fun h2 h => dE h fk56 (xZU a0 r1) (oc3 (xEh h0) h1 h2 on)
theorem xGM {N : Nat} {a0 : Int} {r : Str} (h : xFo N  a0 = some r) : AbC 56 (xDV a0) (xCg r) :=
 AbsCalls.of_reach fk56 rfl rfl (Nat.le_of_ble_eq_true rfl) (vEv a0 r h)
def G116 (q : Psr → Option (Exp × Psr)) : Prop := ∀ a0 r, q a0 = some r → AbC 116 (xA7 a0) (xAS r)
def G31 (q : Psr → Option (Exp × Psr)) : Prop := ∀ a0 r, q a0 = some r → AbC 31 (xBr a0) (xAf r)
def G131 (q : Psr → Str → Option ((List Exp) × Psr)) : Prop := ∀ a0 a1 r, q a0 a1 = some r → AbC 131 (xCH a0 a1) (xBi r)
def G96 (q : Psr → Option (Exp × Psr)) : Prop := ∀ a0 r, q a0 = some r → AbC 96 (xCM a0) (xBn r)
def G54 (q : Psr → Option (Exp × Psr)) : Prop := ∀ a0 r, q a0 = some r → AbC 54 (xEw a0) (xCr r)
noncomputable def I116 : Info := { body := (Tryz.f116.body).getD .skip, nt := 94, results := [.cell 2 25], keep := [0, 4, 6, 8, 14, 42, 70, 108, 156, 168, 1, 5, 7, 9], live := [], modes := [(8, [(3, .take, false)]), (11, [(3, .take, false)]), (20, [(0, .take, false)])], ext := [0] }
theorem xMo : FnOk Tryz.prog 116 Tryz.f116 I116 := ⟨Tryz.func116, by kernel_rfl, by kernel_rfl, by kernel_rfl, by kernel_rfl⟩
def xUl (a0 : Psr) (r1 : Tok × Psr) : rE I116 (xA7 a0) [Y] [xAg r1] = dn (xAS ((Exp.mk 1 (Tok.n r1.1) [] []), (xJ7 r1))) [xFf a0 r1, iY ((Tok.kind r1.1) == 2)] := by kernel_rfl
abbrev xJk (v0 : Tok × Psr) : Prop := iN ((Tok.kind v0.1) == 2)
def xUm (a0 : Psr) (r1 : Tok × Psr) : rE I116 (xA7 a0) [F, Y] [xAg r1] = dn (xAS ((Exp.mk 2 0 (Tok.text r1.1) []), (xJ7 r1))) [xFf a0 r1, xJk r1, iY ((Tok.kind r1.1) == 3)] := by kernel_rfl
abbrev xJV (v0 : Tok × Psr) : Prop := iN ((Tok.kind v0.1) == 3)
abbrev xJl (v0 : Tok × Psr) : Prop := iY ((Tok.kind v0.1) == 1)
def xUn (a0 : Psr) (r1 : Tok × Psr) (r2 : Bool) : rE I116 (xA7 a0) [F, F, Y, Y] [xAg r1, xAK r2] = dn (xAS ((Exp.mk 3 0 (Tok.text r1.1) []), (xJ7 r1))) [xFf a0 r1, xJk r1, xJV r1, xJl r1, xKN r1 r2, iY r2] := by kernel_rfl
abbrev xNy (v0 : Tok × Psr) (v1 : Int) : Prop := AbC 117 (xAo (Tok.text v0.1)) (xAi v1)
def xUo (a0 : Psr) (r1 : Tok × Psr) (r2 : Bool) (r3 : Int) (r4 : Psr) (r5 : (List Exp) × Psr) : rE I116 (xA7 a0) [F, F, Y, F, Y, Y] [xAg r1, xAK r2, xAi r3, xAu r4, xBi r5] = dn (xAS ((Exp.mk 5 0 (Tok.text r1.1) r5.1), r5.2)) [xFf a0 r1, xJk r1, xJV r1, xJl r1, xKN r1 r2, iN r2, xJl r1, xNy r1 r3, iY (dc (r3 ≥ 0)), AbC 53 (xA8 (xJ7 r1) [40]) (xAu r4), AbC 131 (xCH r4 [41]) (xBi r5)] := by kernel_rfl
abbrev xLC (v0 : Tok × Psr) (v1 : Bool × Psr) : Prop := AbC 55 (xAs v0.2 [91]) (xAd v1)
def xUp (a0 : Psr) (r1 : Tok × Psr) (r2 : Bool) (r3 : Int) (r4 : Bool × Psr) (r5 : (List Exp) × Psr) : rE I116 (xA7 a0) [F, F, Y, F, Y, F, Y] [xAg r1, xAK r2, xAi r3, xAd r4, xBi r5] = dn (xAS ((Exp.mk 4 0 [] r5.1), r5.2)) [xFf a0 r1, xJk r1, xJV r1, xJl r1, xKN r1 r2, iN r2, xJl r1, xNy r1 r3, xL3 r3, xLC r1 r4, iY r4.1, AbC 131 (xCH r4.2 [93]) (xBi r5)] := by kernel_rfl
def xUq (a0 : Psr) (r1 : Tok × Psr) (r2 : Bool) (r3 : Int) (r4 : Bool × Psr) (r5 : Bool × Psr) (r6 : Exp × Psr) (r7 : Psr) : rE I116 (xA7 a0) [F, F, Y, F, Y, F, F, Y] [xAg r1, xAK r2, xAi r3, xAd r4, xAd r5, xAf r6, xAu r7] = dn (xAS (r6.1, r7)) [xFf a0 r1, xJk r1, xJV r1, xJl r1, xKN r1 r2, iN r2, xJl r1, xNy r1 r3, xL3 r3, xLC r1 r4, iN r4.1, AbC 55 (xAs r4.2 [40]) (xAd r5), iY r5.1, AbC 31 (xBr r5.2) (xAf r6), AbC 53 (xA8 r6.2 [41]) (xAu r7)] := by kernel_rfl
def xUr (a0 : Psr) (r1 : Tok × Psr) (r2 : Bool) (r3 : Int) (r4 : Bool × Psr) (r5 : Bool × Psr) (r6 : Exp × Psr) : rE I116 (xA7 a0) [F, F, Y, F, Y, F, F, F] [xAg r1, xAK r2, xAi r3, xAd r4, xAd r5, xBg r6] = dn (xAS (r6.1, r6.2)) [xFf a0 r1, xJk r1, xJV r1, xJl r1, xKN r1 r2, iN r2, xJl r1, xNy r1 r3, xL3 r3, xLC r1 r4, iN r4.1, AbC 55 (xAs r4.2 [40]) (xAd r5), iN r5.1, AbC 94 (xCw r5.2) (xBg r6)] := by kernel_rfl
abbrev xLD (v0 : Tok × Psr) : Prop := iN ((Tok.kind v0.1) == 1)
def xUs (a0 : Psr) (r1 : Tok × Psr) (r2 : Bool × Psr) (r3 : (List Exp) × Psr) : rE I116 (xA7 a0) [F, F, F, F, F, F, Y] [xAg r1, xAd r2, xBi r3] = dn (xAS ((Exp.mk 4 0 [] r3.1), r3.2)) [xFf a0 r1, xJk r1, xJV r1, xLD r1, iN false, xLD r1, iN false, xLC r1 r2, iY r2.1, AbC 131 (xCH r2.2 [93]) (xBi r3)] := by kernel_rfl
def xUt (a0 : Psr) (r1 : Tok × Psr) (r2 : Bool × Psr) (r3 : Bool × Psr) (r4 : Exp × Psr) (r5 : Psr) : rE I116 (xA7 a0) [F, F, F, F, F, F, F, Y] [xAg r1, xAd r2, xAd r3, xAf r4, xAu r5] = dn (xAS (r4.1, r5)) [xFf a0 r1, xJk r1, xJV r1, xLD r1, iN false, xLD r1, iN false, xLC r1 r2, iN r2.1, AbC 55 (xAs r2.2 [40]) (xAd r3), iY r3.1, AbC 31 (xBr r3.2) (xAf r4), AbC 53 (xA8 r4.2 [41]) (xAu r5)] := by kernel_rfl
def xUu (a0 : Psr) (r1 : Tok × Psr) (r2 : Bool × Psr) (r3 : Bool × Psr) (r4 : Exp × Psr) : rE I116 (xA7 a0) [F, F, F, F, F, F, F, F] [xAg r1, xAd r2, xAd r3, xBg r4] = dn (xAS (r4.1, r4.2)) [xFf a0 r1, xJk r1, xJV r1, xLD r1, iN false, xLD r1, iN false, xLC r1 r2, iN r2.1, AbC 55 (xAs r2.2 [40]) (xAd r3), iN r3.1, AbC 94 (xCw r3.2) (xBg r4)] := by kernel_rfl
theorem vCQ {N q0 q1 q2 q3 q4} (g0 : G116 q0) (g1 : G31 q1) (g2 : G131 q2) (g3 : G96 q3) (g4 : G54 q4) : ∀ a0 r, xCT N q0 q1 q2 q3 q4 a0 = some r → RE Tryz.f116 I116 (xA7 a0) (xAS r) := fun a0 r h =>
 bE h fun r1 h0 h => cE h (fun h1 h => dE h xMo (xUl a0 r1) (oc2 (xAm h0) h1 on)) fun h1 h =>
 cE h (fun h2 h => dE h xMo (xUm a0 r1) (oc3 (xAm h0) h1 h2 on)) fun h2 h =>
 cE h (fun h3 h => bE h fun r2 h4 h => cE h (fun h5 h => dE h xMo (xUn a0 r1 r2) (oc6 (xAm h0) h1 h2 h3 (xBq h4) h5 on)) fun h5 h =>
 bE h fun r3 h7 h => cE h (fun h8 h => bE h fun r4 h9 h => bE h fun r5 h10 h => dE h xMo (xUo a0 r1 r2 r3 r4 r5) (oc11 (xAm h0) h1 h2 h3 (xBq h4) h5 h3 (xDD h7) h8 (xB8 h9) (g2 _ _ _ h10) on)) fun h8 h =>
 bE h fun r4 h9 h => cE h (fun h10 h => bE h fun r5 h11 h => dE h xMo (xUp a0 r1 r2 r3 r4 r5) (oc12 (xAm h0) h1 h2 h3 (xBq h4) h5 h3 (xDD h7) h8 (xAp h9) h10 (g2 _ _ _ h11) on)) fun h10 h =>
 bE h fun r5 h11 h => cE h (fun h12 h => bE h fun r6 h13 h => bE h fun r7 h14 h => dE h xMo (xUq a0 r1 r2 r3 r4 r5 r6 r7) (oc12 (xAm h0) h1 h2 h3 (xBq h4) h5 h3 (xDD h7) h8 (xAp h9) h10 (xAp h11) (oc3 h12 (g1 _ _ h13) (xB8 h14) on))) fun h12 h =>
 bE h fun r6 h13 h => dE h xMo (xUr a0 r1 r2 r3 r4 r5 r6) (oc12 (xAm h0) h1 h2 h3 (xBq h4) h5 h3 (xDD h7) h8 (xAp h9) h10 (xAp h11) (oc2 h12 (xEY h13) on))) fun h3 h =>
 bE h fun r2 h7 h => cE h (fun h8 h => bE h fun r3 h9 h => dE h xMo (xUs a0 r1 r2 r3) (oc10 (xAm h0) h1 h2 h3 rfl h3 rfl (xAp h7) h8 (g2 _ _ _ h9) on)) fun h8 h =>
 bE h fun r3 h9 h => cE h (fun h10 h => bE h fun r4 h11 h => bE h fun r5 h12 h => dE h xMo (xUt a0 r1 r2 r3 r4 r5) (oc12 (xAm h0) h1 h2 h3 rfl h3 rfl (xAp h7) h8 (xAp h9) h10 (g1 _ _ h11) (oc (xB8 h12) on))) fun h10 h =>
 bE h fun r4 h11 h => dE h xMo (xUu a0 r1 r2 r3 r4) (oc12 (xAm h0) h1 h2 h3 rfl h3 rfl (xAp h7) h8 (xAp h9) h10 (xEY h11) on)
theorem xIX {N q0 q1 q2 q3 q4} (g0 : G116 q0) (g1 : G31 q1) (g2 : G131 q2) (g3 : G96 q3) (g4 : G54 q4) {a0} {r} (h : xCT N q0 q1 q2 q3 q4 a0 = some r) : AbC 116 (xA7 a0) (xAS r) :=
 AbsCalls.of_reach xMo rfl rfl (Nat.le_of_ble_eq_true rfl) (vCQ g0 g1 g2 g3 g4 a0 r h)
noncomputable def I31 : Info := { body := (Tryz.f31.body).getD .skip, nt := 133, results := [.cell 2 25], keep := [0, 4, 6, 8, 10, 12, 16, 18, 84, 160, 230, 232, 234, 236, 248, 1, 5, 7, 9, 11, 13], live := [(28, [0, 4, 12, 230, 232, 234, 1, 5, 13])], modes := [(5, [(1, .take, false), (5, .take, false)]), (7, [(1, .take, false), (5, .take, false)]), (8, [(0, .take, false)]), (12, [(1, .take, false), (5, .take, false)]), (14, [(1, .take, false), (5, .take, false)]), (16, [(1, .take, false), (5, .take, false)]), (17, [(0, .take, false)]), (22, [(1, .take, false), (5, .take, false)]), (24, [(1, .take, false), (5, .take, false)]), (25, [(0, .take, false)]), (31, [(1, .take, false)]), (32, [(1, .take, false)]), (33, [(0, .take, false)])], ext := [0] }
theorem fk31 : FnOk Tryz.prog 31 Tryz.f31 I31 := ⟨Tryz.func31, by kernel_rfl, by kernel_rfl, by kernel_rfl, by kernel_rfl⟩
def xM2 (x115 : List Int) (x116 x117 : Int) (b0 : Psr) (b2 b6 : Exp) : St := [(0, .v false [.ptr 0 0]), (4, .v false [.ptr 2 0]), (12, .v false [.ptr 6 0]), (230, .v false [.sl .own .int x115]), (232, .v false [.int .i64 x116]), (234, .v false [.int .i64 x117]), (1, .v true [.sl .ro .tok (Psr.list b0), .int .i64 (Psr.pos b0), .int .i64 (Psr.bad b0)]), (5, .v true [.int .i64 (Exp.kind b2), .int .i64 (Exp.n b2), .str (Exp.text b2), .sl .own .exp (Exp.args b2)]), (13, .v true [.int .i64 (Exp.kind b6), .int .i64 (Exp.n b6), .str (Exp.text b6), .sl .own .exp (Exp.args b6)])]
abbrev xHa (v0 v1 : Int) : Prop := iY (dc (v0 < v1))
def xVj (x115 : List Int) (x116 x117 : Int) (b0 : Psr) (b2 b6 : Exp) (r1 : Str) (r2 : Bool × Psr) (r3 : Exp × Psr) : rS 28 I31 (xM2 x115 x116 x117 b0 b2 b6) [Y, Y] [xCg r1, xAd r2, xCr r3] = dn (xAf ((Exp.mk 6 (gD x115 (tN x117) Ty.int.dflt) [] [(Exp.re b6), (Exp.re r3.1)]), r3.2)) [xHa x117 x116, (0 : Int) ≤ x117 ∧ x117 < (Ln x115), AbC 56 (xDV (gD x115 (tN x117) Ty.int.dflt)) (xCg r1), AbC 55 (xAs b0 r1) (xAd r2), iY r2.1, AbC 54 (xEw r2.2) (xCr r3)] := by kernel_rfl
def xVk (x115 : List Int) (x116 x117 : Int) (b0 : Psr) (b2 b6 : Exp) (r1 : Str) (r2 : Bool × Psr) : rS 28 I31 (xM2 x115 x116 x117 b0 b2 b6) [Y, F] [xCg r1, xAd r2] = st 28 I31 (xM2 x115 x116 (W (x117 + 1)) r2.2 b2 b6) [xHa x117 x116, (0 : Int) ≤ x117 ∧ x117 < (Ln x115), AbC 56 (xDV (gD x115 (tN x117) Ty.int.dflt)) (xCg r1), AbC 55 (xAs b0 r1) (xAd r2), iN r2.1] := by kernel_rfl
abbrev xIN (v0 v1 : Int) : Prop := iN (dc (v0 < v1))
def xVl (x115 : List Int) (x116 x117 : Int) (b0 : Psr) (b2 b6 : Exp) : rS 28 I31 (xM2 x115 x116 x117 b0 b2 b6) [F] [] = dn (xAf (b6, b0)) [xIN x117 x116] := by kernel_rfl
abbrev xNz (v0 : Tok × Psr) (v1 : Bool) : Prop := AbC 50 (xBL v0.1 [108, 101, 116]) (xAA v1)
abbrev xRn (v0 : Tok × Psr) (v1 : Str × Psr) : Prop := AbC 52 (xD9 (xJ7 v0)) (xCV v1)
abbrev xJW (v0 : Psr) (v1 : Exp × Psr) : Prop := AbC 31 (xBr v0) (xAf v1)
abbrev xO4 (v0 v1 : Exp × Psr) : Prop := Ln ([] ++ [(Exp.re v0.1)]) + Ln [(Exp.re v1.1)] ≤ Lim
def xYo (a0 : Psr) (r1 : Tok × Psr) (r2 : Bool) (r3 : Str × Psr) (r4 : Psr) (r5 : Exp × Psr) (r6 : Psr) (r7 : Exp × Psr) : rE I31 (xBr a0) [Y] [xAg r1, xAA r2, xCV r3, xAu r4, xAf r5, xAu r6, xAf r7] = dn (xAf ((Exp.mk 7 0 r3.1 (([] ++ [(Exp.re r5.1)]) ++ [(Exp.re r7.1)])), r7.2)) [xFf a0 r1, xNz r1 r2, iY r2, xRn r1 r3, AbC 53 (xA8 r3.2 [61]) (xAu r4), xJW r4 r5, 0 + Ln [(Exp.re r5.1)] ≤ Lim, AbC 53 (xA8 r5.2 [105, 110]) (xAu r6), xJW r6 r7, xO4 r5 r7] := by kernel_rfl
def xYp (a0 : Psr) (r1 : Tok × Psr) (r2 : Bool) (r3 : Tok × Psr) (r4 : Bool) (r5 : Exp × Psr) (r6 : Psr) (r7 : Exp × Psr) (r8 : Psr) (r9 : Exp × Psr) : rE I31 (xBr a0) [F, Y] [xAg r1, xAA r2, xAg r3, xAA r4, xAf r5, xAu r6, xAf r7, xAu r8, xAf r9] = dn (xAf ((Exp.mk 8 0 [] ((([] ++ [(Exp.re r5.1)]) ++ [(Exp.re r7.1)]) ++ [(Exp.re r9.1)])), r9.2)) [xFf a0 r1, xNz r1 r2, iN r2, xKO r1 r3, AbC 50 (xBL r3.1 [105, 102]) (xAA r4), iY r4, AbC 31 (xBr (xJ7 r3)) (xAf r5), 0 + Ln [(Exp.re r5.1)] ≤ Lim, AbC 53 (xA8 r5.2 [116, 104, 101, 110]) (xAu r6), xJW r6 r7, xO4 r5 r7, AbC 53 (xA8 r7.2 [101, 108, 115, 101]) (xAu r8), xJW r8 r9, Ln (([] ++ [(Exp.re r5.1)]) ++ [(Exp.re r7.1)]) + Ln [(Exp.re r9.1)] ≤ Lim] := by kernel_rfl
def xYq (a0 : Psr) (r1 : Tok × Psr) (r2 : Bool) (r3 : Tok × Psr) (r4 : Bool) (r5 : Tok × Psr) (r6 : Bool) (r7 : Str × Psr) (r8 : Psr) (r9 : Exp × Psr) (r10 : Psr) (r11 : Exp × Psr) : rE I31 (xBr a0) [F, F, Y] [xAg r1, xAA r2, xAg r3, xAA r4, xAg r5, xAA r6, xCV r7, xAu r8, xAf r9, xAu r10, xAf r11] = dn (xAf ((Exp.mk 9 0 r7.1 (([] ++ [(Exp.re r9.1)]) ++ [(Exp.re r11.1)])), r11.2)) [xFf a0 r1, xNz r1 r2, iN r2, xKO r1 r3, AbC 50 (xBL r3.1 [105, 102]) (xAA r4), iN r4, xKO r3 r5, AbC 50 (xBL r5.1 [102, 111, 114]) (xAA r6), iY r6, xRn r5 r7, AbC 53 (xA8 r7.2 [105, 110]) (xAu r8), xJW r8 r9, 0 + Ln [(Exp.re r9.1)] ≤ Lim, AbC 53 (xA8 r9.2 [100, 111]) (xAu r10), xJW r10 r11, xO4 r9 r11] := by kernel_rfl
def xYr (a0 : Psr) (r1 : Tok × Psr) (r2 : Bool) (r3 : Tok × Psr) (r4 : Bool) (r5 : Tok × Psr) (r6 : Bool) (r7 : Exp × Psr) : rE I31 (xBr a0) [F, F, F] [xAg r1, xAA r2, xAg r3, xAA r4, xAg r5, xAA r6, xCr r7] = st 28 I31 (xM2 [4, 5] (Ln [4, 5] : Int) 0 r7.2 (Exp.mk 0 0 [] []) r7.1) [xFf a0 r1, xNz r1 r2, iN r2, xKO r1 r3, AbC 50 (xBL r3.1 [105, 102]) (xAA r4), iN r4, xKO r3 r5, AbC 50 (xBL r5.1 [102, 111, 114]) (xAA r6), iN r6, AbC 54 (xEw r5.2) (xCr r7)] := by kernel_rfl
theorem vC8 {N q0 q1 q2 q3 q4} (g0 : G116 q0) (g1 : G31 q1) (g2 : G131 q2) (g3 : G96 q3) (g4 : G54 q4) : ∀ n x115 x116 x117 b0 b2 b6 r, xDb N q0 q1 q2 q3 q4 n x115 x116 x117 b0 b2 b6 = some r → RS Tryz.f31 I31 28 (xM2 x115 x116 x117 b0 b2 b6) (xAf r) := by
 intro n
 induction n with
 | zero => exact fun _ _ _ _ _ _ _ h => nE h
 | succ n ih =>
  exact fun x115 x116 x117 b0 b2 b6 r h =>
   cE h (fun h0 h => iE h fun h1 h => bE h fun r1 h2 h => bE h fun r2 h3 h => cE h (fun h4 h => bE h fun r3 h5 h => dS h fk31 (xVj x115 x116 x117 b0 b2 b6 r1 r2 r3) (oc6 h0 h1 (xGM h2) (xAp h3) h4 (g4 _ _ h5) on)) fun h4 h =>
   tS fk31 (xVk x115 x116 x117 b0 b2 b6 r1 r2) (oc5 h0 h1 (xGM h2) (xAp h3) h4 on) (ih _ _ _ _ _ _ _ h)) fun h0 h =>
   dS h fk31 (xVl x115 x116 x117 b0 b2 b6) (oc h0 on)
theorem vD3 {N q0 q1 q2 q3 q4} (g0 : G116 q0) (g1 : G31 q1) (g2 : G131 q2) (g3 : G96 q3) (g4 : G54 q4) : ∀ a0 r, xCU N q0 q1 q2 q3 q4 a0 = some r → RE Tryz.f31 I31 (xBr a0) (xAf r) := fun a0 r h =>
 bE h fun r1 h0 h => bE h fun r2 h1 h => cE h (fun h2 h => bE h fun r3 h3 h => bE h fun r4 h4 h => bE h fun r5 h5 h => iE h fun h6 h => bE h fun r6 h7 h => bE h fun r7 h8 h => iE h fun h9 h => dE h fk31 (xYo a0 r1 r2 r3 r4 r5 r6 r7) (oc10 (xAm h0) (xBU h1) h2 (xH6 h3) (xB8 h4) (g1 _ _ h5) h6 (xB8 h7) (g1 _ _ h8) h9 on)) fun h2 h =>
 bE h fun r3 h3 h => bE h fun r4 h4 h => cE h (fun h5 h => bE h fun r5 h6 h => iE h fun h7 h => bE h fun r6 h8 h => bE h fun r7 h9 h => iE h fun h10 h => bE h fun r8 h11 h => bE h fun r9 h12 h => iE h fun h13 h => dE h fk31 (xYp a0 r1 r2 r3 r4 r5 r6 r7 r8 r9) (oc12 (xAm h0) (xBU h1) h2 (xAm h3) (xBU h4) h5 (g1 _ _ h6) h7 (xB8 h8) (g1 _ _ h9) h10 (xB8 h11) (oc2 (g1 _ _ h12) h13 on))) fun h5 h =>
 bE h fun r5 h6 h => bE h fun r6 h7 h => cE h (fun h8 h => bE h fun r7 h9 h => bE h fun r8 h10 h => bE h fun r9 h11 h => iE h fun h12 h => bE h fun r10 h13 h => bE h fun r11 h14 h => iE h fun h15 h => dE h fk31 (xYq a0 r1 r2 r3 r4 r5 r6 r7 r8 r9 r10 r11) (oc12 (xAm h0) (xBU h1) h2 (xAm h3) (xBU h4) h5 (xAm h6) (xBU h7) h8 (xH6 h9) (xB8 h10) (g1 _ _ h11) (oc4 h12 (xB8 h13) (g1 _ _ h14) h15 on))) fun h8 h =>
 bE h fun r7 h9 h => tE fk31 (xYr a0 r1 r2 r3 r4 r5 r6 r7) (oc10 (xAm h0) (xBU h1) h2 (xAm h3) (xBU h4) h5 (xAm h6) (xBU h7) h8 (g4 _ _ h9) on) (vC8 g0 g1 g2 g3 g4 _ _ _ _ _ _ _ _ h)
theorem xIY {N q0 q1 q2 q3 q4} (g0 : G116 q0) (g1 : G31 q1) (g2 : G131 q2) (g3 : G96 q3) (g4 : G54 q4) {a0} {r} (h : xCU N q0 q1 q2 q3 q4 a0 = some r) : AbC 31 (xBr a0) (xAf r) :=
 AbsCalls.of_reach fk31 rfl rfl (Nat.le_of_ble_eq_true rfl) (vD3 g0 g1 g2 g3 g4 a0 r h)
noncomputable def I131 : Info := { body := (Tryz.f131.body).getD .skip, nt := 27, results := [.tmp 4], keep := [0, 2, 8, 10, 18, 30, 46, 1], live := [(4, [0, 2, 10, 1])], modes := [(3, [(0, .take, false)]), (5, [(0, .take, false), (4, .take, false)]), (8, [(0, .take, false)])], ext := [0] }
theorem xQz : FnOk Tryz.prog 131 Tryz.f131 I131 := ⟨Tryz.func131, by kernel_rfl, by kernel_rfl, by kernel_rfl, by kernel_rfl⟩
def xM0 (x1 : Str) (x5 : List Exp) (b0 : Psr) : St := [(0, .v false [.ptr 0 0]), (2, .v false [.str x1]), (10, .v false [.sl .own .exp x5]), (1, .v true [.sl .ro .tok (Psr.list b0), .int .i64 (Psr.pos b0), .int .i64 (Psr.bad b0)])]
def xU8 (x1 : Str) (x5 : List Exp) (b0 : Psr) (r1 : Exp × Psr) (r2 : Bool × Psr) : rS 4 I131 (xM0 x1 x5 b0) [Y, Y] [xAf r1, xAd r2] = dn (xBi ((x5 ++ [(Exp.re r1.1)]), r2.2)) [xJU b0, xJW b0 r1, Ln x5 + Ln [(Exp.re r1.1)] ≤ Lim, AbC 55 (xAs r1.2 x1) (xAd r2), iY r2.1] := by kernel_rfl
def xU9 (x1 : Str) (x5 : List Exp) (b0 : Psr) (r1 : Exp × Psr) (r2 : Bool × Psr) (r3 : Psr) : rS 4 I131 (xM0 x1 x5 b0) [Y, F] [xAf r1, xAd r2, xAu r3] = st 4 I131 (xM0 x1 (x5 ++ [(Exp.re r1.1)]) r3) [xJU b0, xJW b0 r1, Ln x5 + Ln [(Exp.re r1.1)] ≤ Lim, AbC 55 (xAs r1.2 x1) (xAd r2), iN r2.1, AbC 53 (xA8 r2.2 [44]) (xAu r3)] := by kernel_rfl
def xVa (x1 : Str) (x5 : List Exp) (b0 : Psr) : rS 4 I131 (xM0 x1 x5 b0) [F] [] = dn (xBi (x5, b0)) [xNw b0] := by kernel_rfl
def xVb (a0 : Psr) (a1 : Str) (r1 : Bool × Psr) : rE I131 (xCH a0 a1) [Y] [xAd r1] = dn (xBi ([], r1.2)) [AbC 55 (xAs a0 a1) (xAd r1), iY r1.1] := by kernel_rfl
def xVc (a0 : Psr) (a1 : Str) (r1 : Bool × Psr) : rE I131 (xCH a0 a1) [F] [xAd r1] = st 4 I131 (xM0 a1 [] r1.2) [AbC 55 (xAs a0 a1) (xAd r1), iN r1.1] := by kernel_rfl
theorem vC3 {N q0 q1 q2 q3 q4} (g0 : G116 q0) (g1 : G31 q1) (g2 : G131 q2) (g3 : G96 q3) (g4 : G54 q4) : ∀ n x1 x5 b0 r, xCI N q0 q1 q2 q3 q4 n x1 x5 b0 = some r → RS Tryz.f131 I131 4 (xM0 x1 x5 b0) (xBi r) := by
 intro n
 induction n with
 | zero => exact fun _ _ _ _ h => nE h
 | succ n ih =>
  exact fun x1 x5 b0 r h =>
   cE h (fun h0 h => bE h fun r1 h1 h => iE h fun h2 h => bE h fun r2 h3 h => cE h (fun h4 h => dS h xQz (xU8 x1 x5 b0 r1 r2) (oc5 h0 (g1 _ _ h1) h2 (xAp h3) h4 on)) fun h4 h =>
   bE h fun r3 h5 h => tS xQz (xU9 x1 x5 b0 r1 r2 r3) (oc6 h0 (g1 _ _ h1) h2 (xAp h3) h4 (xB8 h5) on) (ih _ _ _ _ h)) fun h0 h =>
   dS h xQz (xVa x1 x5 b0) (oc h0 on)
theorem vC4 {N q0 q1 q2 q3 q4} (g0 : G116 q0) (g1 : G31 q1) (g2 : G131 q2) (g3 : G96 q3) (g4 : G54 q4) : ∀ a0 a1 r, xCL N q0 q1 q2 q3 q4 a0 a1 = some r → RE Tryz.f131 I131 (xCH a0 a1) (xBi r) := fun a0 a1 r h =>
 bE h fun r1 h0 h => cE h (fun h1 h => dE h xQz (xVb a0 a1 r1) (oc2 (xAp h0) h1 on)) fun h1 h =>
 tE xQz (xVc a0 a1 r1) (oc2 (xAp h0) h1 on) (vC3 g0 g1 g2 g3 g4 _ _ _ _ _ h)
theorem xIJ {N q0 q1 q2 q3 q4} (g0 : G116 q0) (g1 : G31 q1) (g2 : G131 q2) (g3 : G96 q3) (g4 : G54 q4) {a0} {a1} {r} (h : xCL N q0 q1 q2 q3 q4 a0 a1 = some r) : AbC 131 (xCH a0 a1) (xBi r) :=
 AbsCalls.of_reach xQz rfl rfl (Nat.le_of_ble_eq_true rfl) (vC4 g0 g1 g2 g3 g4 a0 a1 r h)
noncomputable def I96 : Info := { body := (Tryz.f96.body).getD .skip, nt := 14, results := [.cell 2 25], keep := [0, 4, 6, 14, 1, 5, 7], live := [(2, [0, 4, 6, 1, 5, 7])], modes := [(3, [(0, .take, false)]), (4, [(0, .take, false)])], ext := [0] }
theorem fk96 : FnOk Tryz.prog 96 Tryz.f96 I96 := ⟨Tryz.func96, by kernel_rfl, by kernel_rfl, by kernel_rfl, by kernel_rfl⟩
def xQX (b0 : Psr) (b2 b3 : Exp) : St := [(0, .v false [.ptr 0 0]), (4, .v false [.ptr 2 0]), (6, .v false [.ptr 3 0]), (1, .v true [.sl .ro .tok (Psr.list b0), .int .i64 (Psr.pos b0), .int .i64 (Psr.bad b0)]), (5, .v true [.int .i64 (Exp.kind b2), .int .i64 (Exp.n b2), .str (Exp.text b2), .sl .own .exp (Exp.args b2)]), (7, .v true [.int .i64 (Exp.kind b3), .int .i64 (Exp.n b3), .str (Exp.text b3), .sl .own .exp (Exp.args b3)])]
def vBT (b0 : Psr) (b2 b3 : Exp) (r1 : Bool × Psr) (r2 : Exp × Psr) : rS 2 I96 (xQX b0 b2 b3) [Y] [xAd r1, xAS r2] = st 2 I96 (xQX r2.2 b2 (Exp.mk 6 3 [] [(Exp.re b3), (Exp.re r2.1)])) [AbC 55 (xAs b0 [42]) (xAd r1), iY r1.1, AbC 116 (xA7 r1.2) (xAS r2)] := by kernel_rfl
def vBU (b0 : Psr) (b2 b3 : Exp) (r1 : Bool × Psr) : rS 2 I96 (xQX b0 b2 b3) [F] [xAd r1] = dn (xBn (b3, r1.2)) [AbC 55 (xAs b0 [42]) (xAd r1), iN r1.1] := by kernel_rfl
def vBV (a0 : Psr) (r1 : Exp × Psr) : rE I96 (xCM a0) [] [xAS r1] = st 2 I96 (xQX r1.2 (Exp.mk 0 0 [] []) r1.1) [AbC 116 (xA7 a0) (xAS r1)] := by kernel_rfl
theorem vFd {N q0 q1 q2 q3 q4} (g0 : G116 q0) (g1 : G31 q1) (g2 : G131 q2) (g3 : G96 q3) (g4 : G54 q4) : ∀ n b0 b2 b3 r, xCe N q0 q1 q2 q3 q4 n b0 b2 b3 = some r → RS Tryz.f96 I96 2 (xQX b0 b2 b3) (xBn r) := by
 intro n
 induction n with
 | zero => exact fun _ _ _ _ h => nE h
 | succ n ih =>
  exact fun b0 b2 b3 r h =>
   bE h fun r1 h0 h => cE h (fun h1 h => bE h fun r2 h2 h => tS fk96 (vBT b0 b2 b3 r1 r2) (oc3 (xAp h0) h1 (g0 _ _ h2) on) (ih _ _ _ _ h)) fun h1 h =>
   dS h fk96 (vBU b0 b2 b3 r1) (oc2 (xAp h0) h1 on)
theorem vFe {N q0 q1 q2 q3 q4} (g0 : G116 q0) (g1 : G31 q1) (g2 : G131 q2) (g3 : G96 q3) (g4 : G54 q4) : ∀ a0 r, xCn N q0 q1 q2 q3 q4 a0 = some r → RE Tryz.f96 I96 (xCM a0) (xBn r) := fun a0 r h =>
 bE h fun r1 h0 h => tE fk96 (vBV a0 r1) (oc (g0 _ _ h0) on) (vFd g0 g1 g2 g3 g4 _ _ _ _ _ h)
theorem xH7 {N q0 q1 q2 q3 q4} (g0 : G116 q0) (g1 : G31 q1) (g2 : G131 q2) (g3 : G96 q3) (g4 : G54 q4) {a0} {r} (h : xCn N q0 q1 q2 q3 q4 a0 = some r) : AbC 96 (xCM a0) (xBn r) :=
 AbsCalls.of_reach fk96 rfl rfl (Nat.le_of_ble_eq_true rfl) (vFe g0 g1 g2 g3 g4 a0 r h)
noncomputable def I54 : Info := { body := (Tryz.f54.body).getD .skip, nt := 25, results := [.cell 2 25], keep := [0, 4, 6, 8, 22, 28, 34, 1, 5, 7], live := [(2, [0, 4, 6, 1, 5, 7])], modes := [(7, [(0, .take, false), (1, .take, false)]), (8, [(0, .take, false)])], ext := [0] }
theorem fk54 : FnOk Tryz.prog 54 Tryz.f54 I54 := ⟨Tryz.func54, by kernel_rfl, by kernel_rfl, by kernel_rfl, by kernel_rfl⟩
def xN7 (b0 : Psr) (b2 b3 : Exp) : St := [(0, .v false [.ptr 0 0]), (4, .v false [.ptr 2 0]), (6, .v false [.ptr 3 0]), (1, .v true [.sl .ro .tok (Psr.list b0), .int .i64 (Psr.pos b0), .int .i64 (Psr.bad b0)]), (5, .v true [.int .i64 (Exp.kind b2), .int .i64 (Exp.n b2), .str (Exp.text b2), .sl .own .exp (Exp.args b2)]), (7, .v true [.int .i64 (Exp.kind b3), .int .i64 (Exp.n b3), .str (Exp.text b3), .sl .own .exp (Exp.args b3)])]
def xZM (b0 : Psr) (b2 b3 : Exp) (r1 : Bool × Psr) (r2 : Bool × Psr) : rS 2 I54 (xN7 b0 b2 b3) [Y, Y, Y] [xAd r1, xAd r2] = dn (xCr (b3, r2.2)) [xJU b0, AbC 55 (xAs b0 [43]) (xAd r1), iY (!r1.1), AbC 55 (xAs r1.2 [45]) (xAd r2), iY (!r2.1)] := by kernel_rfl
def xZN (b0 : Psr) (b2 b3 : Exp) (r1 : Bool × Psr) (r2 : Bool × Psr) (r3 : Exp × Psr) : rS 2 I54 (xN7 b0 b2 b3) [Y, Y, F] [xAd r1, xAd r2, xBn r3] = st 2 I54 (xN7 r3.2 b2 (Exp.mk 6 2 [] [(Exp.re b3), (Exp.re r3.1)])) [xJU b0, AbC 55 (xAs b0 [43]) (xAd r1), iY (!r1.1), AbC 55 (xAs r1.2 [45]) (xAd r2), iN (!r2.1), AbC 96 (xCM r2.2) (xBn r3)] := by kernel_rfl
def xZO (b0 : Psr) (b2 b3 : Exp) (r1 : Bool × Psr) (r2 : Exp × Psr) : rS 2 I54 (xN7 b0 b2 b3) [Y, F] [xAd r1, xBn r2] = st 2 I54 (xN7 r2.2 b2 (Exp.mk 6 1 [] [(Exp.re b3), (Exp.re r2.1)])) [xJU b0, AbC 55 (xAs b0 [43]) (xAd r1), iN (!r1.1), AbC 96 (xCM r1.2) (xBn r2)] := by kernel_rfl
def xZP (b0 : Psr) (b2 b3 : Exp) : rS 2 I54 (xN7 b0 b2 b3) [F] [] = dn (xCr (b3, b0)) [xNw b0] := by kernel_rfl
def xZQ (a0 : Psr) (r1 : Exp × Psr) : rE I54 (xEw a0) [] [xBn r1] = st 2 I54 (xN7 r1.2 (Exp.mk 0 0 [] []) r1.1) [AbC 96 (xCM a0) (xBn r1)] := by kernel_rfl
theorem vEs {N q0 q1 q2 q3 q4} (g0 : G116 q0) (g1 : G31 q1) (g2 : G131 q2) (g3 : G96 q3) (g4 : G54 q4) : ∀ n b0 b2 b3 r, xCq N q0 q1 q2 q3 q4 n b0 b2 b3 = some r → RS Tryz.f54 I54 2 (xN7 b0 b2 b3) (xCr r) := by
 intro n
 induction n with
 | zero => exact fun _ _ _ _ h => nE h
 | succ n ih =>
  exact fun b0 b2 b3 r h =>
   cE h (fun h0 h => bE h fun r1 h1 h => cE h (fun h2 h => bE h fun r2 h3 h => cE h (fun h4 h => dS h fk54 (xZM b0 b2 b3 r1 r2) (oc5 h0 (xAp h1) h2 (xAp h3) h4 on)) fun h4 h =>
   bE h fun r3 h5 h => tS fk54 (xZN b0 b2 b3 r1 r2 r3) (oc6 h0 (xAp h1) h2 (xAp h3) h4 (g3 _ _ h5) on) (ih _ _ _ _ h)) fun h2 h =>
   bE h fun r2 h3 h => tS fk54 (xZO b0 b2 b3 r1 r2) (oc4 h0 (xAp h1) h2 (g3 _ _ h3) on) (ih _ _ _ _ h)) fun h0 h =>
   dS h fk54 (xZP b0 b2 b3) (oc h0 on)
theorem vEt {N q0 q1 q2 q3 q4} (g0 : G116 q0) (g1 : G31 q1) (g2 : G131 q2) (g3 : G96 q3) (g4 : G54 q4) : ∀ a0 r, xDc N q0 q1 q2 q3 q4 a0 = some r → RE Tryz.f54 I54 (xEw a0) (xCr r) := fun a0 r h =>
 bE h fun r1 h0 h => tE fk54 (xZQ a0 r1) (oc (g3 _ _ h0) on) (vEs g0 g1 g2 g3 g4 _ _ _ _ _ h)
theorem xJf {N q0 q1 q2 q3 q4} (g0 : G116 q0) (g1 : G31 q1) (g2 : G131 q2) (g3 : G96 q3) (g4 : G54 q4) {a0} {r} (h : xDc N q0 q1 q2 q3 q4 a0 = some r) : AbC 54 (xEw a0) (xCr r) :=
 AbsCalls.of_reach fk54 rfl rfl (Nat.le_of_ble_eq_true rfl) (vEt g0 g1 g2 g3 g4 a0 r h)
theorem xJe {N : Nat} : ∀ d, G116 (xAb N d).c_impl_parser_atom ∧ G31 (xAb N d).c_impl_parser_expr ∧ G131 (xAb N d).c_impl_parser_list2 ∧ G96 (xAb N d).c_impl_parser_product ∧ G54 (xAb N d).c_impl_parser_sum := by
 intro d
 induction d with
 | zero => exact ⟨fun _ _ h => nE h, fun _ _ h => nE h, fun _ _ _ h => nE h, fun _ _ h => nE h, fun _ _ h => nE h⟩
 | succ d ih =>
  obtain ⟨ih0, ih1, ih2, ih3, ih4⟩ := ih
  exact ⟨fun _ _ h => xIX (N := N) ih0 ih1 ih2 ih3 ih4 h, fun _ _ h => xIY (N := N) ih0 ih1 ih2 ih3 ih4 h, fun _ _ _ h => xIJ (N := N) ih0 ih1 ih2 ih3 ih4 h, fun _ _ h => xH7 (N := N) ih0 ih1 ih2 ih3 ih4 h, fun _ _ h => xJf (N := N) ih0 ih1 ih2 ih3 ih4 h⟩
theorem xBD {N : Nat} {a0 : Psr} {r : Exp × Psr} (h : xGN N a0 = some r) : AbC 31 (xBr a0) (xAf r) := (xJe N).2.1 _ r h
def G57 (q : Exp → Option (Int)) : Prop := ∀ a0 r, q a0 = some r → AbC 57 (xC7 a0) (xBz r)
noncomputable def I57 : Info := { body := (Tryz.f57.body).getD .skip, nt := 19, results := [.tmp 2], keep := [0, 2, 4, 6, 10, 14, 16, 18, 20, 3, 11], live := [(3, [6, 14, 16, 18])], modes := [(6, [(1, .take, false)])] }
theorem fk57 : FnOk Tryz.prog 57 Tryz.f57 I57 := ⟨Tryz.func57, by kernel_rfl, by kernel_rfl, by kernel_rfl, by kernel_rfl⟩
def xQT (x3 : Int) (x7 : List Exp) (x8 x9 : Int) : St := [(6, .v false [.int .i64 x3]), (14, .v false [.sl .ro .exp x7]), (16, .v false [.int .i64 x8]), (18, .v false [.int .i64 x9])]
abbrev xLE (v0 : Int) (v1 : List Exp) : Prop := (0 : Int) ≤ v0 ∧ v0 < (Ln v1)
abbrev xLO (v0 : List Exp) (v1 : Int) := gD v0 (tN v1) Ty.exp.dflt
def xZV (x3 : Int) (x7 : List Exp) (x8 x9 r1 : Int) : rS 3 I57 (xQT x3 x7 x8 x9) [Y] [xBz r1] = st 3 I57 (xQT (W (x3 + r1)) x7 x8 (W (x9 + 1))) [xHa x9 x8, xLE x9 x7, AbC 57 (xC7 (xLO x7 x9)) (xBz r1)] := by kernel_rfl
def xZW (x3 : Int) (x7 : List Exp) (x8 x9 : Int) : rS 3 I57 (xQT x3 x7 x8 x9) [F] [] = dn (xBz x3) [xIN x9 x8] := by kernel_rfl
def xZX (a0 : Exp) : rE I57 (xC7 a0) [] [] = st 3 I57 (xQT 1 (Exp.args a0) (xHb a0) 0) [] := by kernel_rfl
theorem vEw {N q0} (g0 : G57 q0) : ∀ n x3 x7 x8 x9 r, xD8 N q0 n x3 x7 x8 x9 = some r → RS Tryz.f57 I57 3 (xQT x3 x7 x8 x9) (xBz r) := by
 intro n
 induction n with
 | zero => exact fun _ _ _ _ _ h => nE h
 | succ n ih =>
  exact fun x3 x7 x8 x9 r h =>
   cE h (fun h0 h => iE h fun h1 h => bE h fun r1 h2 h => tS fk57 (xZV x3 x7 x8 x9 r1) (oc3 h0 h1 (g0 _ _ h2) on) (ih _ _ _ _ _ h)) fun h0 h =>
   dS h fk57 (xZW x3 x7 x8 x9) (oc h0 on)
theorem vEx {N q0} (g0 : G57 q0) : ∀ a0 r, xGT N q0 a0 = some r → RE Tryz.f57 I57 (xC7 a0) (xBz r) := fun a0 r h =>
 tE fk57 (xZX a0) on (vEw g0 _ _ _ _ _ _ h)
theorem xJE {N q0} (g0 : G57 q0) {a0} {r} (h : xGT N q0 a0 = some r) : AbC 57 (xC7 a0) (xBz r) :=
 AbsCalls.of_reach fk57 rfl rfl (Nat.le_of_ble_eq_true rfl) (vEx g0 a0 r h)
theorem xHF {N : Nat} : ∀ d, G57 (xEu N d)
 | 0 => fun _ _ h => nE h
 | d + 1 => fun _ _ h => xJE (N := N) (xHF d) h
theorem xHo {N : Nat} {a0 : Exp} {r : Int} (h : xII N a0 = some r) : AbC 57 (xC7 a0) (xBz r) := xHF N _ r h
def G58 (q : Exp → Option (Int)) : Prop := ∀ a0 r, q a0 = some r → AbC 58 (xDE a0) (xBV r)
noncomputable def I58 : Info := { body := (Tryz.f58.body).getD .skip, nt := 20, results := [.tmp 2], keep := [0, 2, 4, 6, 10, 14, 16, 18, 20, 3, 11], live := [(3, [6, 14, 16, 18])], modes := [(6, [(1, .take, false)])] }
theorem fk58 : FnOk Tryz.prog 58 Tryz.f58 I58 := ⟨Tryz.func58, by kernel_rfl, by kernel_rfl, by kernel_rfl, by kernel_rfl⟩
def xQU (x3 : Int) (x7 : List Exp) (x8 x9 : Int) : St := [(6, .v false [.int .i64 x3]), (14, .v false [.sl .ro .exp x7]), (16, .v false [.int .i64 x8]), (18, .v false [.int .i64 x9])]
def xZY (x3 : Int) (x7 : List Exp) (x8 x9 r1 : Int) : rS 3 I58 (xQU x3 x7 x8 x9) [Y] [xBV r1] = st 3 I58 (xQU (if r1 > x3 then r1 else x3) x7 x8 (W (x9 + 1))) [xHa x9 x8, xLE x9 x7, AbC 58 (xDE (xLO x7 x9)) (xBV r1)] := by kernel_rfl
def xZZ (x3 : Int) (x7 : List Exp) (x8 x9 : Int) : rS 3 I58 (xQU x3 x7 x8 x9) [F] [] = dn (xBV (W (x3 + 1))) [xIN x9 x8] := by kernel_rfl
def xZ0 (a0 : Exp) : rE I58 (xDE a0) [] [] = st 3 I58 (xQU 0 (Exp.args a0) (xHb a0) 0) [] := by kernel_rfl
theorem vEy {N q0} (g0 : G58 q0) : ∀ n x3 x7 x8 x9 r, xER N q0 n x3 x7 x8 x9 = some r → RS Tryz.f58 I58 3 (xQU x3 x7 x8 x9) (xBV r) := by
 intro n
 induction n with
 | zero => exact fun _ _ _ _ _ h => nE h
 | succ n ih =>
  exact fun x3 x7 x8 x9 r h =>
   cE h (fun h0 h => iE h fun h1 h => bE h fun r1 h2 h => tS fk58 (xZY x3 x7 x8 x9 r1) (oc3 h0 h1 (g0 _ _ h2) on) (ih _ _ _ _ _ h)) fun h0 h =>
   dS h fk58 (xZZ x3 x7 x8 x9) (oc h0 on)
theorem vEz {N q0} (g0 : G58 q0) : ∀ a0 r, xGS N q0 a0 = some r → RE Tryz.f58 I58 (xDE a0) (xBV r) := fun a0 r h =>
 tE fk58 (xZ0 a0) on (vEy g0 _ _ _ _ _ _ h)
theorem xJD {N q0} (g0 : G58 q0) {a0} {r} (h : xGS N q0 a0 = some r) : AbC 58 (xDE a0) (xBV r) :=
 AbsCalls.of_reach fk58 rfl rfl (Nat.le_of_ble_eq_true rfl) (vEz g0 a0 r h)
theorem xHE {N : Nat} : ∀ d, G58 (xFn N d)
 | 0 => fun _ _ h => nE h
 | d + 1 => fun _ _ h => xJD (N := N) (xHE d) h
theorem xIW {N : Nat} {a0 : Exp} {r : Int} (h : xIH N a0 = some r) : AbC 58 (xDE a0) (xBV r) := xHE N _ r h
noncomputable def I98 : Info := { body := (Tryz.f98.body).getD .skip, nt := 120, results := [.tmp 2], keep := [0, 2, 4, 6, 16, 18, 46, 74, 102, 130, 154, 182, 212, 3], live := [], modes := [(4, [(3, .take, false), (8, .take, false)]), (6, [(3, .take, false), (8, .take, false)]), (8, [(3, .take, false), (8, .take, false)]), (10, [(3, .take, false), (8, .take, false)]), (12, [(3, .take, false)]), (14, [(3, .take, false), (8, .take, false)]), (17, [(3, .take, false), (8, .take, false)]), (19, [(3, .take, false), (8, .take, false)])] }
theorem fk98 : FnOk Tryz.prog 98 Tryz.f98 I98 := ⟨Tryz.func98, by kernel_rfl, by kernel_rfl, by kernel_rfl, by kernel_rfl⟩
abbrev xO5 (v0 : Exp) (v1 : Bool) : Prop := AbC 97 (xDo (Exp.n v0) 0 1000000000) (xBm v1)
abbrev xPw (v0 : Exp) := xAO ((Ln (Exp.args v0) : Int) == 0)
def vBY (a0 : Exp) (r1 : Bool) : rE I98 (xAE a0) [Y, Y, Y] [xBm r1] = dn (xPw a0) [xL5 a0, xO5 a0 r1, iY r1, xJi a0] := by kernel_rfl
def vBZ (a0 : Exp) (r1 : Bool) : rE I98 (xAE a0) [Y, Y, F] [xBm r1] = dn (xAO false) [xL5 a0, xO5 a0 r1, iY r1, xJM a0] := by kernel_rfl
def vB0 (a0 : Exp) (r1 : Bool) : rE I98 (xAE a0) [Y, F, F] [xBm r1] = dn (xAO false) [xL5 a0, xO5 a0 r1, iN r1, iN false] := by kernel_rfl
def vB1 (a0 : Exp) (r1 : Bool) : rE I98 (xAE a0) [F, Y, Y, Y] [xAZ r1] = dn (xPw a0) [xA2 a0, xJN a0, xEG a0, AbC 91 (xD6 (Exp.text a0)) (xAZ r1), iY r1] := by kernel_rfl
def vB2 (a0 : Exp) (r1 : Bool) : rE I98 (xAE a0) [F, Y, Y, F] [xAZ r1] = dn (xAO false) [xA2 a0, xJN a0, xEG a0, AbC 91 (xD6 (Exp.text a0)) (xAZ r1), iN r1] := by kernel_rfl
def vB3 (a0 : Exp) : rE I98 (xAE a0) [F, Y, F, F] [] = dn (xAO false) [xA2 a0, xJN a0, xG9 a0, iN false] := by kernel_rfl
abbrev xLF (v0 : Exp) (v1 : Bool) : Prop := AbC 93 (xD5 (Exp.text v0)) (xAK v1)
def vB4 (a0 : Exp) (r1 : Bool) : rE I98 (xAE a0) [F, F, Y, Y, Y] [xAK r1] = dn (xPw a0) [xA2 a0, xBk a0, xJO a0, xEG a0, xLF a0 r1, iY r1] := by kernel_rfl
def vB5 (a0 : Exp) (r1 : Bool) : rE I98 (xAE a0) [F, F, Y, Y, F] [xAK r1] = dn (xAO false) [xA2 a0, xBk a0, xJO a0, xEG a0, xLF a0 r1, iN r1] := by kernel_rfl
def vB6 (a0 : Exp) : rE I98 (xAE a0) [F, F, Y, F, F] [] = dn (xAO false) [xA2 a0, xBk a0, xJO a0, xG9 a0, iN false] := by kernel_rfl
def vB7 (a0 : Exp) : rE I98 (xAE a0) [F, F, F, Y, Y, Y] [] = dn (xAO (dc ((xHb a0) ≤ 8))) [xA2 a0, xBk a0, xBG a0, xJP a0, xEG a0, xJi a0] := by kernel_rfl
def xV9 (a0 : Exp) : rE I98 (xAE a0) [F, F, F, Y, Y, F] [] = dn (xAO false) [xA2 a0, xBk a0, xBG a0, xJP a0, xEG a0, xJM a0] := by kernel_rfl
def xWa (a0 : Exp) : rE I98 (xAE a0) [F, F, F, Y, F, F] [] = dn (xAO false) [xA2 a0, xBk a0, xBG a0, xJP a0, xG9 a0, iN false] := by kernel_rfl
def xWb (a0 : Exp) (r1 : Int) : rE I98 (xAE a0) [F, F, F, F, Y, Y] [xAi r1] = dn (xAO ((xHb a0) == r1)) [xA2 a0, xBk a0, xBG a0, xCd a0, xLx a0, xEG a0, AbC 117 (xAo (Exp.text a0)) (xAi r1)] := by kernel_rfl
def xWc (a0 : Exp) : rE I98 (xAE a0) [F, F, F, F, Y, F] [] = dn (xAO false) [xA2 a0, xBk a0, xBG a0, xCd a0, xLx a0, xG9 a0] := by kernel_rfl
abbrev xPx (v0 : Exp) := xAO ((Ln (Exp.args v0) : Int) == 2)
def xWd (a0 : Exp) (r1 : Bool) : rE I98 (xAE a0) [F, F, F, F, F, Y, Y, Y] [xBm r1] = dn (xPx a0) [xA2 a0, xBk a0, xBG a0, xCd a0, xCO a0, xF6 a0, AbC 97 (xDo (Exp.n a0) 1 5) (xBm r1), iY r1, xJi a0] := by kernel_rfl
def xWe (a0 : Exp) (r1 : Bool) : rE I98 (xAE a0) [F, F, F, F, F, Y, Y, F] [xBm r1] = dn (xAO false) [xA2 a0, xBk a0, xBG a0, xCd a0, xCO a0, xF6 a0, AbC 97 (xDo (Exp.n a0) 1 5) (xBm r1), iY r1, xJM a0] := by kernel_rfl
def xWf (a0 : Exp) (r1 : Bool) : rE I98 (xAE a0) [F, F, F, F, F, Y, F, F] [xBm r1] = dn (xAO false) [xA2 a0, xBk a0, xBG a0, xCd a0, xCO a0, xF6 a0, AbC 97 (xDo (Exp.n a0) 1 5) (xBm r1), iN r1, iN false] := by kernel_rfl
def xWg (a0 : Exp) (r1 : Bool) : rE I98 (xAE a0) [F, F, F, F, F, F, Y, Y, Y, Y] [xAK r1] = dn (xPx a0) [xA2 a0, xBk a0, xBG a0, xCd a0, xCO a0, xFe a0, xF7 a0, xF7 a0, xEG a0, xLF a0 r1, iY r1] := by kernel_rfl
def xWh (a0 : Exp) (r1 : Bool) : rE I98 (xAE a0) [F, F, F, F, F, F, Y, Y, Y, F] [xAK r1] = dn (xAO false) [xA2 a0, xBk a0, xBG a0, xCd a0, xCO a0, xFe a0, xF7 a0, xF7 a0, xEG a0, xLF a0 r1, iN r1] := by kernel_rfl
def xWi (a0 : Exp) : rE I98 (xAE a0) [F, F, F, F, F, F, Y, Y, F, F] [] = dn (xAO false) [xA2 a0, xBk a0, xBG a0, xCd a0, xCO a0, xFe a0, xF7 a0, xF7 a0, xG9 a0, iN false] := by kernel_rfl
def xWj (a0 : Exp) (r1 : Bool) : rE I98 (xAE a0) [F, F, F, F, F, F, F, Y, Y, Y] [xAK r1] = dn (xPx a0) [xA2 a0, xBk a0, xBG a0, xCd a0, xCO a0, xFe a0, xCv a0, xIL a0, xEG a0, xLF a0 r1, iY r1] := by kernel_rfl
def xWk (a0 : Exp) (r1 : Bool) : rE I98 (xAE a0) [F, F, F, F, F, F, F, Y, Y, F] [xAK r1] = dn (xAO false) [xA2 a0, xBk a0, xBG a0, xCd a0, xCO a0, xFe a0, xCv a0, xIL a0, xEG a0, xLF a0 r1, iN r1] := by kernel_rfl
def xWl (a0 : Exp) : rE I98 (xAE a0) [F, F, F, F, F, F, F, Y, F, F] [] = dn (xAO false) [xA2 a0, xBk a0, xBG a0, xCd a0, xCO a0, xFe a0, xCv a0, xIL a0, xG9 a0, iN false] := by kernel_rfl
def xWm (a0 : Exp) : rE I98 (xAE a0) [F, F, F, F, F, F, F, F, Y, Y, Y] [] = dn (xAO ((xHb a0) == 3)) [xA2 a0, xBk a0, xBG a0, xCd a0, xCO a0, xFe a0, xCv a0, xEa a0, xHM a0, xEG a0, xJi a0] := by kernel_rfl
def xWn (a0 : Exp) : rE I98 (xAE a0) [F, F, F, F, F, F, F, F, Y, Y, F] [] = dn (xAO false) [xA2 a0, xBk a0, xBG a0, xCd a0, xCO a0, xFe a0, xCv a0, xEa a0, xHM a0, xEG a0, xJM a0] := by kernel_rfl
def xWo (a0 : Exp) : rE I98 (xAE a0) [F, F, F, F, F, F, F, F, Y, F, F] [] = dn (xAO false) [xA2 a0, xBk a0, xBG a0, xCd a0, xCO a0, xFe a0, xCv a0, xEa a0, xHM a0, xG9 a0, iN false] := by kernel_rfl
def xWp (a0 : Exp) : rE I98 (xAE a0) [F, F, F, F, F, F, F, F, F] [] = dn (xAO false) [xA2 a0, xBk a0, xBG a0, xCd a0, xCO a0, xFe a0, xCv a0, xEa a0, xE0 a0] := by kernel_rfl
theorem vFg {N : Nat} : ∀ a0 r, xH5 N a0 = some r → RE Tryz.f98 I98 (xAE a0) (xAO r) := fun a0 r h =>
 cE h (fun h0 h => bE h fun r1 h1 h => cE h (fun h2 h => cE h (fun h3 h => dE h fk98 (vBY a0 r1) (oc4 h0 (xEh h1) h2 h3 on)) fun h3 h =>
 dE h fk98 (vBZ a0 r1) (oc4 h0 (xEh h1) h2 h3 on)) fun h2 h =>
 dE h fk98 (vB0 a0 r1) (oc4 h0 (xEh h1) h2 rfl on)) fun h0 h =>
 cE h (fun h1 h => cE h (fun h2 h => bE h fun r1 h3 h => cE h (fun h4 h => dE h fk98 (vB1 a0 r1) (oc5 h0 h1 h2 (xD7 h3) h4 on)) fun h4 h =>
 dE h fk98 (vB2 a0 r1) (oc5 h0 h1 h2 (xD7 h3) h4 on)) fun h2 h =>
 dE h fk98 (vB3 a0) (oc4 h0 h1 h2 rfl on)) fun h1 h =>
 cE h (fun h2 h => cE h (fun h3 h => bE h fun r1 h4 h => cE h (fun h5 h => dE h fk98 (vB4 a0 r1) (oc6 h0 h1 h2 h3 (xBq h4) h5 on)) fun h5 h =>
 dE h fk98 (vB5 a0 r1) (oc6 h0 h1 h2 h3 (xBq h4) h5 on)) fun h3 h =>
 dE h fk98 (vB6 a0) (oc5 h0 h1 h2 h3 rfl on)) fun h2 h =>
 cE h (fun h3 h => cE h (fun h4 h => cE h (fun h5 h => dE h fk98 (vB7 a0) (oc6 h0 h1 h2 h3 h4 h5 on)) fun h5 h =>
 dE h fk98 (xV9 a0) (oc6 h0 h1 h2 h3 h4 h5 on)) fun h4 h =>
 dE h fk98 (xWa a0) (oc6 h0 h1 h2 h3 h4 rfl on)) fun h3 h =>
 cE h (fun h4 h => cE h (fun h5 h => bE h fun r1 h6 h => dE h fk98 (xWb a0 r1) (oc7 h0 h1 h2 h3 h4 h5 (xDD h6) on)) fun h5 h =>
 dE h fk98 (xWc a0) (oc6 h0 h1 h2 h3 h4 h5 on)) fun h4 h =>
 cE h (fun h5 h => bE h fun r1 h6 h => cE h (fun h7 h => cE h (fun h8 h => dE h fk98 (xWd a0 r1) (oc9 h0 h1 h2 h3 h4 h5 (xEh h6) h7 h8 on)) fun h8 h =>
 dE h fk98 (xWe a0 r1) (oc9 h0 h1 h2 h3 h4 h5 (xEh h6) h7 h8 on)) fun h7 h =>
 dE h fk98 (xWf a0 r1) (oc9 h0 h1 h2 h3 h4 h5 (xEh h6) h7 rfl on)) fun h5 h =>
 cE h (fun h6 h => cE h (fun h8 h => bE h fun r1 h9 h => cE h (fun h10 h => dE h fk98 (xWg a0 r1) (oc11 h0 h1 h2 h3 h4 h5 h6 h6 h8 (xBq h9) h10 on)) fun h10 h =>
 dE h fk98 (xWh a0 r1) (oc11 h0 h1 h2 h3 h4 h5 h6 h6 h8 (xBq h9) h10 on)) fun h8 h =>
 dE h fk98 (xWi a0) (oc10 h0 h1 h2 h3 h4 h5 h6 h6 h8 rfl on)) fun h6 h =>
 cE h (fun h7 h => cE h (fun h8 h => bE h fun r1 h9 h => cE h (fun h10 h => dE h fk98 (xWj a0 r1) (oc11 h0 h1 h2 h3 h4 h5 h6 h7 h8 (xBq h9) h10 on)) fun h10 h =>
 dE h fk98 (xWk a0 r1) (oc11 h0 h1 h2 h3 h4 h5 h6 h7 h8 (xBq h9) h10 on)) fun h8 h =>
 dE h fk98 (xWl a0) (oc10 h0 h1 h2 h3 h4 h5 h6 h7 h8 rfl on)) fun h7 h =>
 cE h (fun h8 h => cE h (fun h9 h => cE h (fun h10 h => dE h fk98 (xWm a0) (oc11 h0 h1 h2 h3 h4 h5 h6 h7 h8 h9 h10 on)) fun h10 h =>
 dE h fk98 (xWn a0) (oc11 h0 h1 h2 h3 h4 h5 h6 h7 h8 h9 h10 on)) fun h9 h =>
 dE h fk98 (xWo a0) (oc11 h0 h1 h2 h3 h4 h5 h6 h7 h8 h9 rfl on)) fun h8 h =>
 dE h fk98 (xWp a0) (oc9 h0 h1 h2 h3 h4 h5 h6 h7 h8 on)
theorem xMT {N : Nat} {a0 : Exp} {r : Bool} (h : xH5 N  a0 = some r) : AbC 98 (xAE a0) (xAO r) :=
 AbsCalls.of_reach fk98 rfl rfl (Nat.le_of_ble_eq_true rfl) (vFg a0 r h)
def G59 (q : Exp → Option (Bool)) : Prop := ∀ a0 r, q a0 = some r → AbC 59 (xDW a0) (xBY r)
noncomputable def I59 : Info := { body := (Tryz.f59.body).getD .skip, nt := 18, results := [.tmp 2], keep := [0, 2, 4, 8, 12, 14, 16, 18, 28, 3, 9], live := [(2, [2, 12, 14, 16, 3])], modes := [(6, [(1, .take, false)])] }
theorem fk59 : FnOk Tryz.prog 59 Tryz.f59 I59 := ⟨Tryz.func59, by kernel_rfl, by kernel_rfl, by kernel_rfl, by kernel_rfl⟩
def xQv (x6 : List Exp) (x7 x8 : Int) (b1 : Exp) : St := [(2, .v false [.ptr 1 0]), (12, .v false [.sl .ro .exp x6]), (14, .v false [.int .i64 x7]), (16, .v false [.int .i64 x8]), (3, .v true [.int .i64 (Exp.kind b1), .int .i64 (Exp.n b1), .str (Exp.text b1), .sl .ro .exp (Exp.args b1)])]
def xZ1 (x6 : List Exp) (x7 x8 : Int) (b1 : Exp) (r1 : Bool) : rS 2 I59 (xQv x6 x7 x8 b1) [Y, Y] [xBY r1] = dn (xBY false) [xHa x8 x7, xLE x8 x6, AbC 59 (xDW (xLO x6 x8)) (xBY r1), iY (!r1)] := by kernel_rfl
def xZ2 (x6 : List Exp) (x7 x8 : Int) (b1 : Exp) (r1 : Bool) : rS 2 I59 (xQv x6 x7 x8 b1) [Y, F] [xBY r1] = st 2 I59 (xQv x6 x7 (W (x8 + 1)) b1) [xHa x8 x7, xLE x8 x6, AbC 59 (xDW (xLO x6 x8)) (xBY r1), iN (!r1)] := by kernel_rfl
def xZ3 (x6 : List Exp) (x7 x8 : Int) (b1 : Exp) (r1 : Bool) : rS 2 I59 (xQv x6 x7 x8 b1) [F] [xAO r1] = dn (xBY r1) [xIN x8 x7, AbC 98 (xAE b1) (xAO r1)] := by kernel_rfl
def xZ4 (a0 : Exp) : rE I59 (xDW a0) [] [] = st 2 I59 (xQv (Exp.args a0) (xHb a0) 0 a0) [] := by kernel_rfl
theorem vEA {N q0} (g0 : G59 q0) : ∀ n x6 x7 x8 b1 r, xEB N q0 n x6 x7 x8 b1 = some r → RS Tryz.f59 I59 2 (xQv x6 x7 x8 b1) (xBY r) := by
 intro n
 induction n with
 | zero => exact fun _ _ _ _ _ h => nE h
 | succ n ih =>
  exact fun x6 x7 x8 b1 r h =>
   cE h (fun h0 h => iE h fun h1 h => bE h fun r1 h2 h => cE h (fun h3 h => dS h fk59 (xZ1 x6 x7 x8 b1 r1) (oc4 h0 h1 (g0 _ _ h2) h3 on)) fun h3 h =>
   tS fk59 (xZ2 x6 x7 x8 b1 r1) (oc4 h0 h1 (g0 _ _ h2) h3 on) (ih _ _ _ _ _ h)) fun h0 h =>
   bE h fun r1 h1 h => dS h fk59 (xZ3 x6 x7 x8 b1 r1) (oc2 h0 (xMT h1) on)
theorem vEB {N q0} (g0 : G59 q0) : ∀ a0 r, xG5 N q0 a0 = some r → RE Tryz.f59 I59 (xDW a0) (xBY r) := fun a0 r h =>
 tE fk59 (xZ4 a0) on (vEA g0 _ _ _ _ _ _ h)
theorem xJK {N q0} (g0 : G59 q0) {a0} {r} (h : xG5 N q0 a0 = some r) : AbC 59 (xDW a0) (xBY r) :=
 AbsCalls.of_reach fk59 rfl rfl (Nat.le_of_ble_eq_true rfl) (vEB g0 a0 r h)
theorem xHR {N : Nat} : ∀ d, G59 (xFG N d)
 | 0 => fun _ _ h => nE h
 | d + 1 => fun _ _ h => xJK (N := N) (xHR d) h
theorem xL9 {N : Nat} {a0 : Exp} {r : Bool} (h : xJb N a0 = some r) : AbC 59 (xDW a0) (xBY r) := xHR N _ r h
noncomputable def I32 : Info := { body := (Tryz.f32.body).getD .skip, nt := 15, results := [.tmp 2], keep := [0, 2, 4, 3], live := [], modes := [(1, [(3, .take, false), (8, .take, false)])] }
theorem fk32 : FnOk Tryz.prog 32 Tryz.f32 I32 := ⟨Tryz.func32, by kernel_rfl, by kernel_rfl, by kernel_rfl, by kernel_rfl⟩
def xYs (a0 : Exp) (r1 r2 : Int) (r3 : Bool) : rE I32 (xCR a0) [Y, Y] [xBz r1, xBV r2, xBY r3] = dn (xAY r3) [AbC 57 (xC7 a0) (xBz r1), iY (dc (r1 ≤ 40)), AbC 58 (xDE a0) (xBV r2), iY (dc (r2 ≤ 8)), AbC 59 (xDW a0) (xBY r3)] := by kernel_rfl
def xYt (a0 : Exp) (r1 r2 : Int) : rE I32 (xCR a0) [Y, F] [xBz r1, xBV r2] = dn (xAY false) [AbC 57 (xC7 a0) (xBz r1), iY (dc (r1 ≤ 40)), AbC 58 (xDE a0) (xBV r2), iN (dc (r2 ≤ 8))] := by kernel_rfl
def xYu (a0 : Exp) (r1 : Int) : rE I32 (xCR a0) [F, F] [xBz r1] = dn (xAY false) [AbC 57 (xC7 a0) (xBz r1), iN (dc (r1 ≤ 40)), iN false] := by kernel_rfl
theorem vD4 {N : Nat} : ∀ a0 r, xC0 N a0 = some r → RE Tryz.f32 I32 (xCR a0) (xAY r) := fun a0 r h =>
 bE h fun r1 h0 h => cE h (fun h1 h => bE h fun r2 h2 h => cE h (fun h3 h => bE h fun r3 h4 h => dE h fk32 (xYs a0 r1 r2 r3) (oc5 (xHo h0) h1 (xIW h2) h3 (xL9 h4) on)) fun h3 h =>
 dE h fk32 (xYt a0 r1 r2) (oc4 (xHo h0) h1 (xIW h2) h3 on)) fun h1 h =>
 dE h fk32 (xYu a0 r1) (oc3 (xHo h0) h1 rfl on)
theorem xCS {N : Nat} {a0 : Exp} {r : Bool} (h : xC0 N  a0 = some r) : AbC 32 (xCR a0) (xAY r) :=
 AbsCalls.of_reach fk32 rfl rfl (Nat.le_of_ble_eq_true rfl) (vD4 a0 r h)
noncomputable def I12 : Info := { body := (Tryz.f12.body).getD .skip, nt := 72, results := [.cell 2 25, .tmp 3], keep := [0, 4, 6, 8, 10, 12, 14, 28, 70, 98, 114, 138, 5, 15, 39], live := [], modes := [(1, [(2, .take, false)]), (6, [(5, .take, false)]), (14, [(0, .take, false)])] }
theorem fk12 : FnOk Tryz.prog 12 Tryz.f12 I12 := ⟨Tryz.func12, by kernel_rfl, by kernel_rfl, by kernel_rfl, by kernel_rfl⟩
abbrev xHq (v0 : Str) (v1 : (List Tok) × Int) : Prop := AbC 30 (xF0 v0) (xAV v1)
def xXy (a0 : Str) (r1 : (List Tok) × Int) : rE I12 (xAR a0) [Y] [xAV r1] = dn (xAn ((Exp.mk 0 0 [] []), r1.2)) [xHq a0 r1, iY (dc (r1.2 ≥ 0))] := by kernel_rfl
abbrev xHO (v0 : (List Tok) × Int) (v1 : Exp × Psr) : Prop := AbC 31 (xBr (Psr.mk v0.1 0 (-1))) (xAf v1)
abbrev xJX (v0 : Exp × Psr) : Prop := iY (dc ((Psr.bad v0.2) < 0))
abbrev xJq (v0 : (List Tok) × Int) := (Ln v0.1 : Int)
abbrev xNA (v0 : Exp × Psr) (v1 : (List Tok) × Int) : Prop := iY (dc ((Psr.pos v0.2) < (xJq v1)))
abbrev xPy (v0 : Str) := xAn ((Exp.mk 0 0 [] []), (Ln v0 : Int))
def xXz (a0 : Str) (r1 : (List Tok) × Int) (r2 : Exp × Psr) : rE I12 (xAR a0) [F, Y, Y, Y] [xAV r1, xAf r2] = dn (xPy a0) [xHq a0 r1, xFy r1, xHO r1 r2, xJX r2, xNA r2 r1, iY (dc ((Psr.pos r2.2) ≥ (xJq r1)))] := by kernel_rfl
def xXA (a0 : Str) (r1 : (List Tok) × Int) (r2 : Exp × Psr) : rE I12 (xAR a0) [F, Y, Y, F, Y] [xAV r1, xAf r2] = dn (xAn ((Exp.mk 0 0 [] []), (Tok.pos (gD r1.1 (tN (Psr.pos r2.2)) Ty.tok.dflt)))) [xHq a0 r1, xFy r1, xHO r1 r2, xJX r2, xNA r2 r1, iN (dc ((Psr.pos r2.2) ≥ (xJq r1))), iY (dc ((Psr.pos r2.2) ≥ 0)), (0 : Int) ≤ (Psr.pos r2.2) ∧ (Psr.pos r2.2) < (Ln r1.1)] := by kernel_rfl
abbrev xLG (v0 : Exp × Psr) (v1 : Bool) : Prop := AbC 32 (xCR v0.1) (xAY v1)
def xXB (a0 : Str) (r1 : (List Tok) × Int) (r2 : Exp × Psr) (r3 : Bool) : rE I12 (xAR a0) [F, Y, Y, F, F, Y] [xAV r1, xAf r2, xAY r3] = dn (xAn ((Exp.mk 0 0 [] []), 0)) [xHq a0 r1, xFy r1, xHO r1 r2, xJX r2, xNA r2 r1, iN (dc ((Psr.pos r2.2) ≥ (xJq r1))), iN (dc ((Psr.pos r2.2) ≥ 0)), xLG r2 r3, iY (!r3)] := by kernel_rfl
def xXC (a0 : Str) (r1 : (List Tok) × Int) (r2 : Exp × Psr) (r3 : Bool) : rE I12 (xAR a0) [F, Y, Y, F, F, F] [xAV r1, xAf r2, xAY r3] = dn (xAn (r2.1, (-1))) [xHq a0 r1, xFy r1, xHO r1 r2, xJX r2, xNA r2 r1, iN (dc ((Psr.pos r2.2) ≥ (xJq r1))), iN (dc ((Psr.pos r2.2) ≥ 0)), xLG r2 r3, iN (!r3)] := by kernel_rfl
abbrev xNB (v0 : Exp × Psr) (v1 : (List Tok) × Int) : Prop := iN (dc ((Psr.pos v0.2) < (xJq v1)))
def xXD (a0 : Str) (r1 : (List Tok) × Int) (r2 : Exp × Psr) : rE I12 (xAR a0) [F, Y, F, Y] [xAV r1, xAf r2] = dn (xPy a0) [xHq a0 r1, xFy r1, xHO r1 r2, xJX r2, xNB r2 r1, iY (dc ((Psr.bad r2.2) ≥ (xJq r1)))] := by kernel_rfl
abbrev xLH (v0 : Exp × Psr) (v1 : (List Tok) × Int) : Prop := iN (dc ((Psr.bad v0.2) ≥ (xJq v1)))
def xXE (a0 : Str) (r1 : (List Tok) × Int) (r2 : Exp × Psr) : rE I12 (xAR a0) [F, Y, F, F, Y] [xAV r1, xAf r2] = dn (xAn ((Exp.mk 0 0 [] []), (Tok.pos (gD r1.1 (tN (Psr.bad r2.2)) Ty.tok.dflt)))) [xHq a0 r1, xFy r1, xHO r1 r2, xJX r2, xNB r2 r1, xLH r2 r1, iY (dc ((Psr.bad r2.2) ≥ 0)), (0 : Int) ≤ (Psr.bad r2.2) ∧ (Psr.bad r2.2) < (Ln r1.1)] := by kernel_rfl
abbrev xNC (v0 : Exp × Psr) : Prop := iN (dc ((Psr.bad v0.2) ≥ 0))
def xXF (a0 : Str) (r1 : (List Tok) × Int) (r2 : Exp × Psr) (r3 : Bool) : rE I12 (xAR a0) [F, Y, F, F, F, Y] [xAV r1, xAf r2, xAY r3] = dn (xAn ((Exp.mk 0 0 [] []), 0)) [xHq a0 r1, xFy r1, xHO r1 r2, xJX r2, xNB r2 r1, xLH r2 r1, xNC r2, xLG r2 r3, iY (!r3)] := by kernel_rfl
def xXG (a0 : Str) (r1 : (List Tok) × Int) (r2 : Exp × Psr) (r3 : Bool) : rE I12 (xAR a0) [F, Y, F, F, F, F] [xAV r1, xAf r2, xAY r3] = dn (xAn (r2.1, (-1))) [xHq a0 r1, xFy r1, xHO r1 r2, xJX r2, xNB r2 r1, xLH r2 r1, xNC r2, xLG r2 r3, iN (!r3)] := by kernel_rfl
abbrev xND (v0 : Exp × Psr) : Prop := iN (dc ((Psr.bad v0.2) < 0))
def xXH (a0 : Str) (r1 : (List Tok) × Int) (r2 : Exp × Psr) : rE I12 (xAR a0) [F, F, F, Y] [xAV r1, xAf r2] = dn (xPy a0) [xHq a0 r1, xFy r1, xHO r1 r2, xND r2, iN false, iY (dc ((Psr.bad r2.2) ≥ (xJq r1)))] := by kernel_rfl
def xU5 (a0 : Str) (r1 : (List Tok) × Int) (r2 : Exp × Psr) : rE I12 (xAR a0) [F, F, F, F, Y] [xAV r1, xAf r2] = dn (xAn ((Exp.mk 0 0 [] []), (Tok.pos (gD r1.1 (tN (Psr.bad r2.2)) Ty.tok.dflt)))) [xHq a0 r1, xFy r1, xHO r1 r2, xND r2, iN false, xLH r2 r1, iY (dc ((Psr.bad r2.2) ≥ 0)), (0 : Int) ≤ (Psr.bad r2.2) ∧ (Psr.bad r2.2) < (Ln r1.1)] := by kernel_rfl
def xU6 (a0 : Str) (r1 : (List Tok) × Int) (r2 : Exp × Psr) (r3 : Bool) : rE I12 (xAR a0) [F, F, F, F, F, Y] [xAV r1, xAf r2, xAY r3] = dn (xAn ((Exp.mk 0 0 [] []), 0)) [xHq a0 r1, xFy r1, xHO r1 r2, xND r2, iN false, xLH r2 r1, xNC r2, xLG r2 r3, iY (!r3)] := by kernel_rfl
def xU7 (a0 : Str) (r1 : (List Tok) × Int) (r2 : Exp × Psr) (r3 : Bool) : rE I12 (xAR a0) [F, F, F, F, F, F] [xAV r1, xAf r2, xAY r3] = dn (xAn (r2.1, (-1))) [xHq a0 r1, xFy r1, xHO r1 r2, xND r2, iN false, xLH r2 r1, xNC r2, xLG r2 r3, iN (!r3)] := by kernel_rfl
theorem vDN {N : Nat} : ∀ a0 r, xDm N a0 = some r → RE Tryz.f12 I12 (xAR a0) (xAn r) := fun a0 r h =>
 bE h fun r1 h0 h => cE h (fun h1 h => dE h fk12 (xXy a0 r1) (oc2 (xBX h0) h1 on)) fun h1 h =>
 bE h fun r2 h2 h => cE h (fun h3 h => cE h (fun h4 h => cE h (fun h5 h => dE h fk12 (xXz a0 r1 r2) (oc6 (xBX h0) h1 (xBD h2) h3 h4 h5 on)) fun h5 h =>
 cE h (fun h6 h => iE h fun h7 h => dE h fk12 (xXA a0 r1 r2) (oc8 (xBX h0) h1 (xBD h2) h3 h4 h5 h6 h7 on)) fun h6 h =>
 bE h fun r3 h7 h => cE h (fun h8 h => dE h fk12 (xXB a0 r1 r2 r3) (oc9 (xBX h0) h1 (xBD h2) h3 h4 h5 h6 (xCS h7) h8 on)) fun h8 h =>
 dE h fk12 (xXC a0 r1 r2 r3) (oc9 (xBX h0) h1 (xBD h2) h3 h4 h5 h6 (xCS h7) h8 on)) fun h4 h =>
 cE h (fun h5 h => dE h fk12 (xXD a0 r1 r2) (oc6 (xBX h0) h1 (xBD h2) h3 h4 h5 on)) fun h5 h =>
 cE h (fun h6 h => iE h fun h7 h => dE h fk12 (xXE a0 r1 r2) (oc8 (xBX h0) h1 (xBD h2) h3 h4 h5 h6 h7 on)) fun h6 h =>
 bE h fun r3 h7 h => cE h (fun h8 h => dE h fk12 (xXF a0 r1 r2 r3) (oc9 (xBX h0) h1 (xBD h2) h3 h4 h5 h6 (xCS h7) h8 on)) fun h8 h =>
 dE h fk12 (xXG a0 r1 r2 r3) (oc9 (xBX h0) h1 (xBD h2) h3 h4 h5 h6 (xCS h7) h8 on)) fun h3 h =>
 cE h (fun h5 h => dE h fk12 (xXH a0 r1 r2) (oc6 (xBX h0) h1 (xBD h2) h3 rfl h5 on)) fun h5 h =>
 cE h (fun h6 h => iE h fun h7 h => dE h fk12 (xU5 a0 r1 r2) (oc8 (xBX h0) h1 (xBD h2) h3 rfl h5 h6 h7 on)) fun h6 h =>
 bE h fun r3 h7 h => cE h (fun h8 h => dE h fk12 (xU6 a0 r1 r2 r3) (oc9 (xBX h0) h1 (xBD h2) h3 rfl h5 h6 (xCS h7) h8 on)) fun h8 h =>
 dE h fk12 (xU7 a0 r1 r2 r3) (oc9 (xBX h0) h1 (xBD h2) h3 rfl h5 h6 (xCS h7) h8 on)
theorem xBW {N : Nat} {a0 : Str} {r : Exp × Int} (h : xDm N  a0 = some r) : AbC 12 (xAR a0) (xAn r) :=
 AbsCalls.of_reach fk12 rfl rfl (Nat.le_of_ble_eq_true rfl) (vDN a0 r h)
noncomputable def I10 : Info := { body := (Tryz.f10.body).getD .skip, nt := 12, results := [.tmp 2], keep := [0, 4, 8, 7], live := [], modes := [(1, [(2, .take, false)]), (2, [(0, .take, false)])] }
theorem fk10 : FnOk Tryz.prog 10 Tryz.f10 I10 := ⟨Tryz.func10, by kernel_rfl, by kernel_rfl, by kernel_rfl, by kernel_rfl⟩
abbrev xJY (v0 : Str) (v1 : Exp × Int) : Prop := AbC 12 (xAR v0) (xAn v1)
def xXn (a0 : Str) (r1 : Exp × Int) : rE I10 (xF9 a0) [] [xAn r1] = dn (xFp (dc (r1.2 ≥ 0))) [xJY a0 r1] := by kernel_rfl
theorem vDL {N : Nat} : ∀ a0 r, xGf N a0 = some r → RE Tryz.f10 I10 (xF9 a0) (xFp r) := fun a0 r h =>
 bE h fun r1 h0 h => dE h fk10 (xXn a0 r1) (oc (xBW h0) on)
theorem xK8 {N : Nat} {a0 : Str} {r : Bool} (h : xGf N  a0 = some r) : AbC 10 (xF9 a0) (xFp r) :=
 AbsCalls.of_reach fk10 rfl rfl (Nat.le_of_ble_eq_true rfl) (vDL a0 r h)
end Go.Ab.T
end
section
open Go.Proofs
namespace Go.Ab.T
set_option maxRecDepth 100000
variable [Inhabited Lb]
variable [Nonempty Tab10]
variable [Nonempty ErrVars]
noncomputable def I104 : Info := { body := (Tryz.f104.body).getD .skip, nt := 27, results := [.tmp 4], keep := [0, 2, 8, 10, 12, 22, 30], live := [(3, [0, 2, 10, 12])], modes := [(6, [(0, .take, false)]), (7, [(0, .take, false)])] }
theorem xQ8 : FnOk Tryz.prog 104 Tryz.f104 I104 := ⟨Tryz.func104, by kernel_rfl, by kernel_rfl, by kernel_rfl, by kernel_rfl⟩
def xMh (x0 : List Str) (x1 : Str) (x5 : List Int) (x6 : Int) : St := [(0, .v false [.sl .ro .str x0]), (2, .v false [.str x1]), (10, .v false [.sl .own .byte x5]), (12, .v false [.int .i64 x6])]
def xTp (x0 : List Str) (x1 : Str) (x5 : List Int) (x6 : Int) : rS 3 I104 (xMh x0 x1 x5 x6) [Y, Y] [] = st 3 I104 (xMh x0 x1 ((x5 ++ List.map (fun c => (c.toNat : Int)) x1) ++ List.map (fun c => (c.toNat : Int)) (xLM x0 x6)) (W (x6 + 1))) [iY (dc (x6 < (Ln x0 : Int))), iY (dc (x6 > 0)), Ln x5 + Ln x1 ≤ Lim, (0 : Int) ≤ x6 ∧ x6 < (Ln x0), Ln (x5 ++ List.map (fun c => (c.toNat : Int)) x1) + Ln (xLM x0 x6) ≤ Lim] := by kernel_rfl
def xTq (x0 : List Str) (x1 : Str) (x5 : List Int) (x6 : Int) : rS 3 I104 (xMh x0 x1 x5 x6) [Y, F] [] = st 3 I104 (xMh x0 x1 (x5 ++ List.map (fun c => (c.toNat : Int)) (xLM x0 x6)) (W (x6 + 1))) [iY (dc (x6 < (Ln x0 : Int))), iN (dc (x6 > 0)), (0 : Int) ≤ x6 ∧ x6 < (Ln x0), Ln x5 + Ln (xLM x0 x6) ≤ Lim] := by kernel_rfl
def xTr (x0 : List Str) (x1 : Str) (x5 : List Int) (x6 : Int) : rS 3 I104 (xMh x0 x1 x5 x6) [F] [] = dn (xG0 (List.map (fun n => UInt8.ofNat (tN n)) x5)) [iN (dc (x6 < (Ln x0 : Int)))] := by kernel_rfl
def xTs (a0 : List Str) (a1 : Str) : rE I104 (xIx a0 a1) [] [] = st 3 I104 (xMh a0 a1 [] 0) [] := by kernel_rfl
theorem vCD {N : Nat} : ∀ n x0 x1 x5 x6 r, xEN N n x0 x1 x5 x6 = some r → RS Tryz.f104 I104 3 (xMh x0 x1 x5 x6) (xG0 r) := by
 intro n
 induction n with
 | zero => exact fun _ _ _ _ _ h => nE h
 | succ n ih =>
  exact fun x0 x1 x5 x6 r h =>
   cE h (fun h0 h => cE h (fun h1 h => iE h fun h2 h => iE h fun h3 h => iE h fun h4 h => tS xQ8 (xTp x0 x1 x5 x6) (oc5 h0 h1 h2 h3 h4 on) (ih _ _ _ _ _ h)) fun h1 h =>
   iE h fun h2 h => iE h fun h3 h => tS xQ8 (xTq x0 x1 x5 x6) (oc4 h0 h1 h2 h3 on) (ih _ _ _ _ _ h)) fun h0 h =>
   dS h xQ8 (xTr x0 x1 x5 x6) (oc h0 on)
theorem vCE {N : Nat} : ∀ a0 a1 r, xJ8 N a0 a1 = some r → RE Tryz.f104 I104 (xIx a0 a1) (xG0 r) := fun a0 a1 r h =>
 tE xQ8 (xTs a0 a1) on (vCD _ _ _ _ _ _ h)
theorem xOG {N : Nat} {a0 : List Str} {a1 : Str} {r : Str} (h : xJ8 N  a0 a1 = some r) : AbC 104 (xIx a0 a1) (xG0 r) :=
 AbsCalls.of_reach xQ8 rfl rfl (Nat.le_of_ble_eq_true rfl) (vCE a0 a1 r h)
noncomputable def I74 : Info := { body := (Tryz.f74.body).getD .skip, nt := 21, results := [.tmp 2], keep := [0, 2, 4, 8, 10, 18, 24, 26, 32, 38, 3], live := [], modes := [] }
theorem fk74 : FnOk Tryz.prog 74 Tryz.f74 I74 := ⟨Tryz.func74, by kernel_rfl, by kernel_rfl, by kernel_rfl, by kernel_rfl⟩
def vAG (a0 : Exp) : rE I74 (xBH a0) [Y, Y] [] = dn (xBc 0) [xF7 a0, xF7 a0] := by kernel_rfl
def vAH (a0 : Exp) : rE I74 (xBH a0) [F, Y, Y] [] = dn (xBc 0) [xCv a0, xHM a0, xHM a0] := by kernel_rfl
def vAI (a0 : Exp) : rE I74 (xBH a0) [F, F, Y] [] = dn (xBc 0) [xCv a0, xE0 a0, xIL a0] := by kernel_rfl
def vAJ (a0 : Exp) : rE I74 (xBH a0) [F, F, F, Y, Y, Y] [] = dn (xBc 1) [xCv a0, xE0 a0, xEa a0, xF6 a0, iY ((Exp.n a0) == 4), iY ((Exp.n a0) == 4)] := by kernel_rfl
abbrev xIO (v0 : Exp) : Prop := iN ((Exp.n v0) == 4)
def vAK (a0 : Exp) : rE I74 (xBH a0) [F, F, F, Y, F, Y] [] = dn (xBc 1) [xCv a0, xE0 a0, xEa a0, xF6 a0, xIO a0, iY ((Exp.n a0) == 5)] := by kernel_rfl
abbrev xJZ (v0 : Exp) : Prop := iN ((Exp.n v0) == 5)
def vAL (a0 : Exp) : rE I74 (xBH a0) [F, F, F, Y, F, F, Y, Y] [] = dn (xBc 2) [xCv a0, xE0 a0, xEa a0, xF6 a0, xIO a0, xJZ a0, iY ((Exp.n a0) == 1), iY ((Exp.n a0) == 1)] := by kernel_rfl
abbrev xLI (v0 : Exp) : Prop := iN ((Exp.n v0) == 1)
def vAM (a0 : Exp) : rE I74 (xBH a0) [F, F, F, Y, F, F, F, Y] [] = dn (xBc 2) [xCv a0, xE0 a0, xEa a0, xF6 a0, xIO a0, xJZ a0, xLI a0, iY ((Exp.n a0) == 2)] := by kernel_rfl
def vAN (a0 : Exp) : rE I74 (xBH a0) [F, F, F, Y, F, F, F, F, Y] [] = dn (xBc 3) [xCv a0, xE0 a0, xEa a0, xF6 a0, xIO a0, xJZ a0, xLI a0, iN ((Exp.n a0) == 2), iY ((Exp.n a0) == 3)] := by kernel_rfl
def vAO (a0 : Exp) : rE I74 (xBH a0) [F, F, F, Y, F, F, F, F, F] [] = dn (xBc 4) [xCv a0, xE0 a0, xEa a0, xF6 a0, xIO a0, xJZ a0, xLI a0, iN ((Exp.n a0) == 2), iN ((Exp.n a0) == 3)] := by kernel_rfl
def vAP (a0 : Exp) : rE I74 (xBH a0) [F, F, F, F] [] = dn (xBc 4) [xCv a0, xE0 a0, xEa a0, xFe a0] := by kernel_rfl
theorem vER {N : Nat} : ∀ a0 r, xGj N a0 = some r → RE Tryz.f74 I74 (xBH a0) (xBc r) := fun a0 r h =>
 cE h (fun h0 h => dE h fk74 (vAG a0) (oc2 h0 h0 on)) fun h0 h =>
 cE h (fun h1 h => dE h fk74 (vAH a0) (oc3 h0 h1 h1 on)) fun h1 h =>
 cE h (fun h2 h => dE h fk74 (vAI a0) (oc3 h0 h1 h2 on)) fun h2 h =>
 cE h (fun h3 h => cE h (fun h4 h => dE h fk74 (vAJ a0) (oc6 h0 h1 h2 h3 h4 h4 on)) fun h4 h =>
 cE h (fun h5 h => dE h fk74 (vAK a0) (oc6 h0 h1 h2 h3 h4 h5 on)) fun h5 h =>
 cE h (fun h6 h => dE h fk74 (vAL a0) (oc8 h0 h1 h2 h3 h4 h5 h6 h6 on)) fun h6 h =>
 cE h (fun h7 h => dE h fk74 (vAM a0) (oc8 h0 h1 h2 h3 h4 h5 h6 h7 on)) fun h7 h =>
 cE h (fun h8 h => dE h fk74 (vAN a0) (oc9 h0 h1 h2 h3 h4 h5 h6 h7 h8 on)) fun h8 h =>
 dE h fk74 (vAO a0) (oc9 h0 h1 h2 h3 h4 h5 h6 h7 h8 on)) fun h3 h =>
 dE h fk74 (vAP a0) (oc4 h0 h1 h2 h3 on)
theorem xHd {N : Nat} {a0 : Exp} {r : Int} (h : xGj N  a0 = some r) : AbC 74 (xBH a0) (xBc r) :=
 AbsCalls.of_reach fk74 rfl rfl (Nat.le_of_ble_eq_true rfl) (vER a0 r h)
noncomputable def I76 : Info := { body := (Tryz.f76.body).getD .skip, nt := 10, results := [.tmp 2], keep := [0, 4, 10], live := [], modes := [] }
theorem fk76 : FnOk Tryz.prog 76 Tryz.f76 I76 := ⟨Tryz.func76, by kernel_rfl, by kernel_rfl, by kernel_rfl, by kernel_rfl⟩
def vAS (a0 : Int) (r1 : Bool) : rE I76 (xFh a0) [Y] [xD0 r1] = dn (xDY [63]) [AbC 105 (xFR a0 1 5) (xD0 r1), iY (!r1)] := by kernel_rfl
def vAT (a0 : Int) (r1 : Bool) : rE I76 (xFh a0) [F] [xD0 r1] = dn (xDY (gD [[], [43], [45], [42], [60], [61, 61]] (tN a0) Ty.str.dflt)) [AbC 105 (xFR a0 1 5) (xD0 r1), iN (!r1), (0 : Int) ≤ a0 ∧ a0 < (Ln [[], [43], [45], [42], [60], [61, 61]])] := by kernel_rfl
theorem vET {N : Nat} : ∀ a0 r, xHe N a0 = some r → RE Tryz.f76 I76 (xFh a0) (xDY r) := fun a0 r h =>
 bE h fun r1 h0 h => cE h (fun h1 h => dE h fk76 (vAS a0 r1) (oc2 (xID h0) h1 on)) fun h1 h =>
 iE h fun h2 h => dE h fk76 (vAT a0 r1) (oc3 (xID h0) h1 h2 on)
theorem xJA {N : Nat} {a0 : Int} {r : Str} (h : xHe N  a0 = some r) : AbC 76 (xFh a0) (xDY r) :=
 AbsCalls.of_reach fk76 rfl rfl (Nat.le_of_ble_eq_true rfl) (vET a0 r h)
def G75 (q : Exp → Int → Option (Str)) : Prop := ∀ a0 a1 r, q a0 a1 = some r → AbC 75 (xEK a0 a1) (xDa r)
def G73 (q : (List Exp) → Option (Str)) : Prop := ∀ a0 r, q a0 = some r → AbC 73 (xFM a0) (xDR r)
def G39 (q : Exp → Option (Str)) : Prop := ∀ a0 r, q a0 = some r → AbC 39 (xA4 a0) (xAx r)
noncomputable def I75 : Info := { body := (Tryz.f75.body).getD .skip, nt := 16, results := [.tmp 4], keep := [0, 2, 4, 8, 10, 22, 5], live := [], modes := [] }
theorem fk75 : FnOk Tryz.prog 75 Tryz.f75 I75 := ⟨Tryz.func75, by kernel_rfl, by kernel_rfl, by kernel_rfl, by kernel_rfl⟩
def vAQ (a0 : Exp) (a1 : Int) (r1 : Str) (r2 : Int) : rE I75 (xEK a0 a1) [Y] [xAx r1, xBc r2] = dn (xDa (([40] ++ r1) ++ [41])) [AbC 39 (xA4 a0) (xAx r1), AbC 74 (xBH a0) (xBc r2), xHa r2 a1, Ln [40] + Ln r1 ≤ Lim, Ln ([40] ++ r1) + Ln [41] ≤ Lim] := by kernel_rfl
def vAR (a0 : Exp) (a1 : Int) (r1 : Str) (r2 : Int) : rE I75 (xEK a0 a1) [F] [xAx r1, xBc r2] = dn (xDa r1) [AbC 39 (xA4 a0) (xAx r1), AbC 74 (xBH a0) (xBc r2), xIN r2 a1] := by kernel_rfl
theorem vES {N q0 q1 q2} (g0 : G75 q0) (g1 : G73 q1) (g2 : G39 q2) : ∀ a0 a1 r, xGn N q0 q1 q2 a0 a1 = some r → RE Tryz.f75 I75 (xEK a0 a1) (xDa r) := fun a0 a1 r h =>
 bE h fun r1 h0 h => bE h fun r2 h1 h => cE h (fun h2 h => iE h fun h3 h => iE h fun h4 h => dE h fk75 (vAQ a0 a1 r1 r2) (oc5 (g2 _ _ h0) (xHd h1) h2 h3 h4 on)) fun h2 h =>
 dE h fk75 (vAR a0 a1 r1 r2) (oc3 (g2 _ _ h0) (xHd h1) h2 on)
theorem xLm {N q0 q1 q2} (g0 : G75 q0) (g1 : G73 q1) (g2 : G39 q2) {a0} {a1} {r} (h : xGn N q0 q1 q2 a0 a1 = some r) : AbC 75 (xEK a0 a1) (xDa r) :=
 AbsCalls.of_reach fk75 rfl rfl (Nat.le_of_ble_eq_true rfl) (vES g0 g1 g2 a0 a1 r h)
noncomputable def I73 : Info := { body := (Tryz.f73.body).getD .skip, nt := 22, results := [.tmp 2], keep := [0, 4, 6, 8, 18], live := [(3, [0, 6, 8])], modes := [(5, [(0, .take, false)])] }
theorem fk73 : FnOk Tryz.prog 73 Tryz.f73 I73 := ⟨Tryz.func73, by kernel_rfl, by kernel_rfl, by kernel_rfl, by kernel_rfl⟩
def xQW (x0 : List Exp) (x3 : List Str) (x4 : Int) : St := [(0, .v false [.sl .ro .exp x0]), (6, .v false [.sl .own .str x3]), (8, .v false [.int .i64 x4])]
def vAD (x0 : List Exp) (x3 : List Str) (x4 : Int) (r1 : Str) : rS 3 I73 (xQW x0 x3 x4) [Y] [xAx r1] = st 3 I73 (xQW x0 (x3 ++ [r1]) (W (x4 + 1))) [iY (dc (x4 < (Ln x0 : Int))), xLE x4 x0, AbC 39 (xA4 (xLO x0 x4)) (xAx r1), Ln x3 + Ln [r1] ≤ Lim] := by kernel_rfl
def vAE (x0 : List Exp) (x3 : List Str) (x4 : Int) (r1 : Str) : rS 3 I73 (xQW x0 x3 x4) [F] [xG0 r1] = dn (xDR r1) [iN (dc (x4 < (Ln x0 : Int))), AbC 104 (xIx x3 [44, 32]) (xG0 r1)] := by kernel_rfl
def vAF (a0 : List Exp) : rE I73 (xFM a0) [] [] = st 3 I73 (xQW a0 [] 0) [] := by kernel_rfl
theorem vEP {N q0 q1 q2} (g0 : G75 q0) (g1 : G73 q1) (g2 : G39 q2) : ∀ n x0 x3 x4 r, xFa N q0 q1 q2 n x0 x3 x4 = some r → RS Tryz.f73 I73 3 (xQW x0 x3 x4) (xDR r) := by
 intro n
 induction n with
 | zero => exact fun _ _ _ _ h => nE h
 | succ n ih =>
  exact fun x0 x3 x4 r h =>
   cE h (fun h0 h => iE h fun h1 h => bE h fun r1 h2 h => iE h fun h3 h => tS fk73 (vAD x0 x3 x4 r1) (oc4 h0 h1 (g2 _ _ h2) h3 on) (ih _ _ _ _ h)) fun h0 h =>
   bE h fun r1 h1 h => dS h fk73 (vAE x0 x3 x4 r1) (oc2 h0 (xOG h1) on)
theorem vEQ {N q0 q1 q2} (g0 : G75 q0) (g1 : G73 q1) (g2 : G39 q2) : ∀ a0 r, xHv N q0 q1 q2 a0 = some r → RE Tryz.f73 I73 (xFM a0) (xDR r) := fun a0 r h =>
 tE fk73 (vAF a0) on (vEP g0 g1 g2 _ _ _ _ _ h)
theorem xKw {N q0 q1 q2} (g0 : G75 q0) (g1 : G73 q1) (g2 : G39 q2) {a0} {r} (h : xHv N q0 q1 q2 a0 = some r) : AbC 73 (xFM a0) (xDR r) :=
 AbsCalls.of_reach fk73 rfl rfl (Nat.le_of_ble_eq_true rfl) (vEQ g0 g1 g2 a0 r h)
noncomputable def I39 : Info := { body := (Tryz.f39.body).getD .skip, nt := 124, results := [.tmp 2], keep := [0, 2, 4, 6, 8, 12, 14, 24, 36, 44, 58, 78, 116, 154, 206, 3], live := [], modes := [(22, [(4, .take, false)])] }
theorem fk39 : FnOk Tryz.prog 39 Tryz.f39 I39 := ⟨Tryz.func39, by kernel_rfl, by kernel_rfl, by kernel_rfl, by kernel_rfl⟩
def xYJ (a0 : Exp) (r1 : Str) : rE I39 (xA4 a0) [Y] [xBj r1] = dn (xAx r1) [xL5 a0, AbC 72 (xC8 (Exp.n a0)) (xBj r1)] := by kernel_rfl
def xYK (a0 : Exp) : rE I39 (xA4 a0) [F, Y] [] = dn (xAx (([34] ++ (Exp.text a0)) ++ [34])) [xA2 a0, xJN a0, Ln [34] + Ln (Exp.text a0) ≤ Lim, Ln ([34] ++ (Exp.text a0)) + Ln [34] ≤ Lim] := by kernel_rfl
def xYL (a0 : Exp) : rE I39 (xA4 a0) [F, F, Y] [] = dn (xAx (Exp.text a0)) [xA2 a0, xBk a0, xJO a0] := by kernel_rfl
def xYM (a0 : Exp) (r1 : Str) : rE I39 (xA4 a0) [F, F, F, Y] [xDR r1] = dn (xAx (([91] ++ r1) ++ [93])) [xA2 a0, xBk a0, xBG a0, xJP a0, AbC 73 (xFM (Exp.args a0)) (xDR r1), Ln [91] + Ln r1 ≤ Lim, Ln ([91] ++ r1) + Ln [93] ≤ Lim] := by kernel_rfl
def xYN (a0 : Exp) (r1 : Str) : rE I39 (xA4 a0) [F, F, F, F, Y] [xDR r1] = dn (xAx ((((Exp.text a0) ++ [40]) ++ r1) ++ [41])) [xA2 a0, xBk a0, xBG a0, xCd a0, xLx a0, Ln (Exp.text a0) + Ln [40] ≤ Lim, AbC 73 (xFM (Exp.args a0)) (xDR r1), Ln ((Exp.text a0) ++ [40]) + Ln r1 ≤ Lim, Ln (((Exp.text a0) ++ [40]) ++ r1) + Ln [41] ≤ Lim] := by kernel_rfl
abbrev xRo (v0 : Exp) : Prop := Ln ([108, 101, 116, 32] ++ (Exp.text v0)) + Ln [32, 61, 32] ≤ Lim
abbrev xIP (v0 : Exp) : Prop := (0 : Int) ≤ 0 ∧ (0 : Int) < (Ln (Exp.args v0))
abbrev xLP (v0 : Exp) := gD (Exp.args v0) (tN 0) Ty.exp.dflt
abbrev xO6 (v0 : Exp) (v1 : Str) : Prop := AbC 39 (xA4 (xLP v0)) (xAx v1)
abbrev xRp (v0 : Exp) (v1 : Str) : Prop := Ln (([108, 101, 116, 32] ++ (Exp.text v0)) ++ [32, 61, 32]) + Ln v1 ≤ Lim
abbrev xRq (v0 : Exp) (v1 : Str) : Prop := Ln ((([108, 101, 116, 32] ++ (Exp.text v0)) ++ [32, 61, 32]) ++ v1) + Ln [32, 105, 110, 32] ≤ Lim
abbrev xIQ (v0 : Exp) : Prop := (0 : Int) ≤ 1 ∧ (1 : Int) < (Ln (Exp.args v0))
abbrev xLQ (v0 : Exp) := gD (Exp.args v0) (tN 1) Ty.exp.dflt
abbrev xO7 (v0 : Exp) (v1 : Str) : Prop := AbC 39 (xA4 (xLQ v0)) (xAx v1)
abbrev xRr (v0 : Exp) (v1 v2 : Str) : Prop := Ln (((([108, 101, 116, 32] ++ (Exp.text v0)) ++ [32, 61, 32]) ++ v1) ++ [32, 105, 110, 32]) + Ln v2 ≤ Lim
def xYO (a0 : Exp) (r1 r2 : Str) : rE I39 (xA4 a0) [F, F, F, F, F, Y] [xAx r1, xAx r2] = dn (xAx ((((([108, 101, 116, 32] ++ (Exp.text a0)) ++ [32, 61, 32]) ++ r1) ++ [32, 105, 110, 32]) ++ r2)) [xA2 a0, xBk a0, xBG a0, xCd a0, xCO a0, xF7 a0, Ln [108, 101, 116, 32] + Ln (Exp.text a0) ≤ Lim, xRo a0, xIP a0, xO6 a0 r1, xRp a0 r1, xRq a0 r1, xIQ a0, xO7 a0 r2, xRr a0 r1 r2] := by kernel_rfl
abbrev xRs (v0 : Exp) : Prop := Ln ([102, 111, 114, 32] ++ (Exp.text v0)) + Ln [32, 105, 110, 32] ≤ Lim
abbrev xRt (v0 : Exp) (v1 : Str) : Prop := Ln (([102, 111, 114, 32] ++ (Exp.text v0)) ++ [32, 105, 110, 32]) + Ln v1 ≤ Lim
abbrev xRu (v0 : Exp) (v1 : Str) : Prop := Ln ((([102, 111, 114, 32] ++ (Exp.text v0)) ++ [32, 105, 110, 32]) ++ v1) + Ln [32, 100, 111, 32] ≤ Lim
abbrev xRv (v0 : Exp) (v1 v2 : Str) : Prop := Ln (((([102, 111, 114, 32] ++ (Exp.text v0)) ++ [32, 105, 110, 32]) ++ v1) ++ [32, 100, 111, 32]) + Ln v2 ≤ Lim
def xYP (a0 : Exp) (r1 r2 : Str) : rE I39 (xA4 a0) [F, F, F, F, F, F, Y] [xAx r1, xAx r2] = dn (xAx ((((([102, 111, 114, 32] ++ (Exp.text a0)) ++ [32, 105, 110, 32]) ++ r1) ++ [32, 100, 111, 32]) ++ r2)) [xA2 a0, xBk a0, xBG a0, xCd a0, xCO a0, xCv a0, xIL a0, Ln [102, 111, 114, 32] + Ln (Exp.text a0) ≤ Lim, xRs a0, xIP a0, xO6 a0 r1, xRt a0 r1, xRu a0 r1, xIQ a0, xO7 a0 r2, xRv a0 r1 r2] := by kernel_rfl
abbrev xRw (v0 : Str) : Prop := Ln ([105, 102, 32] ++ v0) + Ln [32, 116, 104, 101, 110, 32] ≤ Lim
abbrev xRx (v0 v1 : Str) : Prop := Ln (([105, 102, 32] ++ v0) ++ [32, 116, 104, 101, 110, 32]) + Ln v1 ≤ Lim
abbrev xRy (v0 v1 : Str) : Prop := Ln ((([105, 102, 32] ++ v0) ++ [32, 116, 104, 101, 110, 32]) ++ v1) + Ln [32, 101, 108, 115, 101, 32] ≤ Lim
abbrev xRz (v0 v1 v2 : Str) : Prop := Ln (((([105, 102, 32] ++ v0) ++ [32, 116, 104, 101, 110, 32]) ++ v1) ++ [32, 101, 108, 115, 101, 32]) + Ln v2 ≤ Lim
def xYQ (a0 : Exp) (r1 r2 r3 : Str) : rE I39 (xA4 a0) [F, F, F, F, F, F, F, Y] [xAx r1, xAx r2, xAx r3] = dn (xAx ((((([105, 102, 32] ++ r1) ++ [32, 116, 104, 101, 110, 32]) ++ r2) ++ [32, 101, 108, 115, 101, 32]) ++ r3)) [xA2 a0, xBk a0, xBG a0, xCd a0, xCO a0, xCv a0, xEa a0, xHM a0, xIP a0, xO6 a0 r1, Ln [105, 102, 32] + Ln r1 ≤ Lim, xRw r1, xIQ a0, xO7 a0 r2, xRx r1 r2, xRy r1 r2, (0 : Int) ≤ 2 ∧ (2 : Int) < (Ln (Exp.args a0)), AbC 39 (xA4 (gD (Exp.args a0) (tN 2) Ty.exp.dflt)) (xAx r3), xRz r1 r2 r3] := by kernel_rfl
abbrev xNE (v0 v1 : Str) : Prop := Ln ((v0 ++ [32]) ++ v1) + Ln [32] ≤ Lim
abbrev xNF (v0 v1 v2 : Str) : Prop := Ln (((v0 ++ [32]) ++ v1) ++ [32]) + Ln v2 ≤ Lim
def xYR (a0 : Exp) (r1 : Int) (r2 r3 r4 : Str) : rE I39 (xA4 a0) [F, F, F, F, F, F, F, F, Y] [xBc r1, xDa r2, xDY r3, xDa r4] = dn (xAx ((((r2 ++ [32]) ++ r3) ++ [32]) ++ r4)) [xA2 a0, xBk a0, xBG a0, xCd a0, xCO a0, xCv a0, xEa a0, xE0 a0, AbC 74 (xBH a0) (xBc r1), iY (r1 == 1), xIP a0, AbC 75 (xEK (xLP a0) 2) (xDa r2), Ln r2 + Ln [32] ≤ Lim, AbC 76 (xFh (Exp.n a0)) (xDY r3), Ln (r2 ++ [32]) + Ln r3 ≤ Lim, xNE r2 r3, xIQ a0, AbC 75 (xEK (xLQ a0) (W (r1 + 1))) (xDa r4), xNF r2 r3 r4] := by kernel_rfl
def xYS (a0 : Exp) (r1 : Int) (r2 r3 r4 : Str) : rE I39 (xA4 a0) [F, F, F, F, F, F, F, F, F] [xBc r1, xDa r2, xDY r3, xDa r4] = dn (xAx ((((r2 ++ [32]) ++ r3) ++ [32]) ++ r4)) [xA2 a0, xBk a0, xBG a0, xCd a0, xCO a0, xCv a0, xEa a0, xE0 a0, AbC 74 (xBH a0) (xBc r1), iN (r1 == 1), xIP a0, AbC 75 (xEK (xLP a0) r1) (xDa r2), Ln r2 + Ln [32] ≤ Lim, AbC 76 (xFh (Exp.n a0)) (xDY r3), Ln (r2 ++ [32]) + Ln r3 ≤ Lim, xNE r2 r3, xIQ a0, AbC 75 (xEK (xLQ a0) (W (r1 + 1))) (xDa r4), xNF r2 r3 r4] := by kernel_rfl
theorem vD8 {N q0 q1 q2} (g0 : G75 q0) (g1 : G73 q1) (g2 : G39 q2) : ∀ a0 r, xB1 N q0 q1 q2 a0 = some r → RE Tryz.f39 I39 (xA4 a0) (xAx r) := fun a0 r h =>
 cE h (fun h0 h => bE h fun r1 h1 h => dE h fk39 (xYJ a0 r1) (oc2 h0 (xFI h1) on)) fun h0 h =>
 cE h (fun h1 h => iE h fun h2 h => iE h fun h3 h => dE h fk39 (xYK a0) (oc4 h0 h1 h2 h3 on)) fun h1 h =>
 cE h (fun h2 h => dE h fk39 (xYL a0) (oc3 h0 h1 h2 on)) fun h2 h =>
 cE h (fun h3 h => bE h fun r1 h4 h => iE h fun h5 h => iE h fun h6 h => dE h fk39 (xYM a0 r1) (oc7 h0 h1 h2 h3 (g1 _ _ h4) h5 h6 on)) fun h3 h =>
 cE h (fun h4 h => iE h fun h5 h => bE h fun r1 h6 h => iE h fun h7 h => iE h fun h8 h => dE h fk39 (xYN a0 r1) (oc9 h0 h1 h2 h3 h4 h5 (g1 _ _ h6) h7 h8 on)) fun h4 h =>
 cE h (fun h5 h => iE h fun h6 h => iE h fun h7 h => iE h fun h8 h => bE h fun r1 h9 h => iE h fun h10 h => iE h fun h11 h => iE h fun h12 h => bE h fun r2 h13 h => iE h fun h14 h => dE h fk39 (xYO a0 r1 r2) (oc12 h0 h1 h2 h3 h4 h5 h6 h7 h8 (g2 _ _ h9) h10 h11 (oc3 h12 (g2 _ _ h13) h14 on))) fun h5 h =>
 cE h (fun h6 h => iE h fun h7 h => iE h fun h8 h => iE h fun h9 h => bE h fun r1 h10 h => iE h fun h11 h => iE h fun h12 h => iE h fun h13 h => bE h fun r2 h14 h => iE h fun h15 h => dE h fk39 (xYP a0 r1 r2) (oc12 h0 h1 h2 h3 h4 h5 h6 h7 h8 h9 (g2 _ _ h10) h11 (oc4 h12 h13 (g2 _ _ h14) h15 on))) fun h6 h =>
 cE h (fun h7 h => iE h fun h8 h => bE h fun r1 h9 h => iE h fun h10 h => iE h fun h11 h => iE h fun h12 h => bE h fun r2 h13 h => iE h fun h14 h => iE h fun h15 h => iE h fun h16 h => bE h fun r3 h17 h => iE h fun h18 h => dE h fk39 (xYQ a0 r1 r2 r3) (oc12 h0 h1 h2 h3 h4 h5 h6 h7 h8 (g2 _ _ h9) h10 h11 (oc7 h12 (g2 _ _ h13) h14 h15 h16 (g2 _ _ h17) h18 on))) fun h7 h =>
 bE h fun r1 h8 h => cE h (fun h9 h => iE h fun h10 h => bE h fun r2 h11 h => iE h fun h12 h => bE h fun r3 h13 h => iE h fun h14 h => iE h fun h15 h => iE h fun h16 h => bE h fun r4 h17 h => iE h fun h18 h => dE h fk39 (xYR a0 r1 r2 r3 r4) (oc12 h0 h1 h2 h3 h4 h5 h6 h7 (xHd h8) h9 h10 (g0 _ _ _ h11) (oc7 h12 (xJA h13) h14 h15 h16 (g0 _ _ _ h17) h18 on))) fun h9 h =>
 iE h fun h10 h => bE h fun r2 h11 h => iE h fun h12 h => bE h fun r3 h13 h => iE h fun h14 h => iE h fun h15 h => iE h fun h16 h => bE h fun r4 h17 h => iE h fun h18 h => dE h fk39 (xYS a0 r1 r2 r3 r4) (oc12 h0 h1 h2 h3 h4 h5 h6 h7 (xHd h8) h9 h10 (g0 _ _ _ h11) (oc7 h12 (xJA h13) h14 h15 h16 (g0 _ _ _ h17) h18 on))
theorem xKx {N q0 q1 q2} (g0 : G75 q0) (g1 : G73 q1) (g2 : G39 q2) {a0} {r} (h : xB1 N q0 q1 q2 a0 = some r) : AbC 39 (xA4 a0) (xAx r) :=
 AbsCalls.of_reach fk39 rfl rfl (Nat.le_of_ble_eq_true rfl) (vD8 g0 g1 g2 a0 r h)
theorem xLU {N : Nat} : ∀ d, G75 (xAw N d).c_spec_l12At ∧ G73 (xAw N d).c_spec_l12List ∧ G39 (xAw N d).c_spec_l12Text := by
 intro d
 induction d with
 | zero => exact ⟨fun _ _ _ h => nE h, fun _ _ h => nE h, fun _ _ h => nE h⟩
 | succ d ih =>
  obtain ⟨ih0, ih1, ih2⟩ := ih
  exact ⟨fun _ _ _ h => xLm (N := N) ih0 ih1 ih2 h, fun _ _ h => xKw (N := N) ih0 ih1 ih2 h, fun _ _ h => xKx (N := N) ih0 ih1 ih2 h⟩
theorem xMM {N : Nat} {a0 : Exp} {r : Str} (h : xKe N a0 = some r) : AbC 39 (xA4 a0) (xAx r) := (xLU N).2.2 _ r h
noncomputable def I21 : Info := { body := (Tryz.f21.body).getD .skip, nt := 8, results := [.tmp 2], keep := [0, 2, 4, 10, 3], live := [], modes := [] }
theorem fk21 : FnOk Tryz.prog 21 Tryz.f21 I21 := ⟨Tryz.func21, by kernel_rfl, by kernel_rfl, by kernel_rfl, by kernel_rfl⟩
def xXP (a0 : Exp) (r1 : Bool) : rE I21 (xDi a0) [Y] [xAF r1] = dn (xBO []) [AbC 22 (xB9 a0) (xAF r1), iY (!r1)] := by kernel_rfl
def xXQ (a0 : Exp) (r1 : Bool) (r2 : Str) : rE I21 (xDi a0) [F] [xAF r1, xAx r2] = dn (xBO r2) [AbC 22 (xB9 a0) (xAF r1), iN (!r1), AbC 39 (xA4 a0) (xAx r2)] := by kernel_rfl
theorem vDS {N : Nat} : ∀ a0 r, xE1 N a0 = some r → RE Tryz.f21 I21 (xDi a0) (xBO r) := fun a0 r h =>
 bE h fun r1 h0 h => cE h (fun h1 h => dE h fk21 (xXP a0 r1) (oc2 (xCa h0) h1 on)) fun h1 h =>
 bE h fun r2 h2 h => dE h fk21 (xXQ a0 r1 r2) (oc3 (xCa h0) h1 (xMM h2) on)
theorem xGb {N : Nat} {a0 : Exp} {r : Str} (h : xE1 N  a0 = some r) : AbC 21 (xDi a0) (xBO r) :=
 AbsCalls.of_reach fk21 rfl rfl (Nat.le_of_ble_eq_true rfl) (vDS a0 r h)
noncomputable def I16 : Info := { body := (Tryz.f16.body).getD .skip, nt := 15, results := [.tmp 2, .tmp 3], keep := [0, 4, 6, 8, 10, 24, 9], live := [], modes := [(1, [(2, .take, false)]), (2, [(0, .take, false)])] }
theorem fk16 : FnOk Tryz.prog 16 Tryz.f16 I16 := ⟨Tryz.func16, by kernel_rfl, by kernel_rfl, by kernel_rfl, by kernel_rfl⟩
def xXI (a0 : Str) (r1 : Exp × Int) : rE I16 (xEp a0) [Y] [xBB r1] = dn (xA1 ([], false)) [AbC 11 (xBA a0) (xBB r1), iY (dc (r1.2 ≥ 0))] := by kernel_rfl
def xXJ (a0 : Str) (r1 : Exp × Int) (r2 : Str) : rE I16 (xEp a0) [F] [xBB r1, xBO r2] = dn (xA1 (r2, true)) [AbC 11 (xBA a0) (xBB r1), iN (dc (r1.2 ≥ 0)), AbC 21 (xDi r1.1) (xBO r2)] := by kernel_rfl
theorem vDO {N : Nat} : ∀ a0 r, xFv N a0 = some r → RE Tryz.f16 I16 (xEp a0) (xA1 r) := fun a0 r h =>
 bE h fun r1 h0 h => cE h (fun h1 h => dE h fk16 (xXI a0 r1) (oc2 (xI6 h0) h1 on)) fun h1 h =>
 bE h fun r2 h2 h => dE h fk16 (xXJ a0 r1 r2) (oc3 (xI6 h0) h1 (xGb h2) on)
theorem xB6 {N : Nat} {a0 : Str} {r : Str × Bool} (h : xFv N  a0 = some r) : AbC 16 (xEp a0) (xA1 r) :=
 AbsCalls.of_reach fk16 rfl rfl (Nat.le_of_ble_eq_true rfl) (vDO a0 r h)
theorem xMO {N : Nat} {a0 : Int} {r : Str} (h : strconv_Itoa N a0 = some r) : AbC 102 (xKf a0) (xIo r) :=
 zId (xQx Tryz.laysM171) (xXb (Any.strconv_Itoa Tryz.laysM171) vDF) h
noncomputable def I68 : Info := { body := (Tryz.f68.body).getD .skip, nt := 5, results := [.tmp 2], keep := [0, 4], live := [], modes := [] }
theorem fk68 : FnOk Tryz.prog 68 Tryz.f68 I68 := ⟨Tryz.func68, by kernel_rfl, by kernel_rfl, by kernel_rfl, by kernel_rfl⟩
def vAh (a0 : Int) (r1 : Str) : rE I68 (xGr a0) [] [xIo r1] = dn (xFF r1) [AbC 102 (xKf a0) (xIo r1)] := by kernel_rfl
theorem vEI {N : Nat} : ∀ a0 r, xGE N a0 = some r → RE Tryz.f68 I68 (xGr a0) (xFF r) := fun a0 r h =>
 bE h fun r1 h0 h => dE h fk68 (vAh a0 r1) (oc (xMO h0) on)
theorem xLu {N : Nat} {a0 : Int} {r : Str} (h : xGE N  a0 = some r) : AbC 68 (xGr a0) (xFF r) :=
 AbsCalls.of_reach fk68 rfl rfl (Nat.le_of_ble_eq_true rfl) (vEI a0 r h)
theorem xMP {N : Nat} {a0 : List Str} {a1 : Str} {r : Str} (h : strings_Join N a0 a1 = some r) : AbC 124 (xKg a0 a1) (xIp r) :=
 zIe (xQy Tryz.lays156) (fun a c s w => Any.strings_Join_none Tryz.lays156 Tryz.Builder_Extra_156 a c s w) (fun b o c xs s w h1 h2 h3 h4 h5 => Any.strings_Join Tryz.lays156 Tryz.Builder_Extra_156 b o c xs s w h1 h2 h3 h4 h5) h
noncomputable def I103 : Info := { body := (Tryz.f103.body).getD .skip, nt := 8, results := [.tmp 4], keep := [0, 2, 8], live := [], modes := [] }
theorem vDf : FnOk Tryz.prog 103 Tryz.f103 I103 := ⟨Tryz.func103, by kernel_rfl, by kernel_rfl, by kernel_rfl, by kernel_rfl⟩
def xTo (a0 : List Str) (a1 r1 : Str) : rE I103 (xIu a0 a1) [] [xIp r1] = dn (xHD r1) [AbC 124 (xKg a0 a1) (xIp r1)] := by kernel_rfl
theorem vCC {N : Nat} : ∀ a0 a1 r, xJI N a0 a1 = some r → RE Tryz.f103 I103 (xIu a0 a1) (xHD r) := fun a0 a1 r h =>
 bE h fun r1 h0 h => dE h vDf (xTo a0 a1 r1) (oc (xMP h0) on)
theorem xOh {N : Nat} {a0 : List Str} {a1 : Str} {r : Str} (h : xJI N  a0 a1 = some r) : AbC 103 (xIu a0 a1) (xHD r) :=
 AbsCalls.of_reach vDf rfl rfl (Nat.le_of_ble_eq_true rfl) (vCC a0 a1 r h)
noncomputable def I70 : Info := { body := (Tryz.f70.body).getD .skip, nt := 21, results := [.tmp 2], keep := [0, 2, 4, 8, 10, 18, 24, 26, 32, 38, 3], live := [], modes := [] }
theorem fk70 : FnOk Tryz.prog 70 Tryz.f70 I70 := ⟨Tryz.func70, by kernel_rfl, by kernel_rfl, by kernel_rfl, by kernel_rfl⟩
def vAl (a0 : Exp) : rE I70 (xBF a0) [Y, Y] [] = dn (xBa 0) [xF7 a0, xF7 a0] := by kernel_rfl
def vAm (a0 : Exp) : rE I70 (xBF a0) [F, Y, Y] [] = dn (xBa 0) [xCv a0, xHM a0, xHM a0] := by kernel_rfl
def vAn (a0 : Exp) : rE I70 (xBF a0) [F, F, Y] [] = dn (xBa 0) [xCv a0, xE0 a0, xIL a0] := by kernel_rfl
def vAo (a0 : Exp) : rE I70 (xBF a0) [F, F, F, Y, Y, Y] [] = dn (xBa 1) [xCv a0, xE0 a0, xEa a0, xF6 a0, iY ((Exp.n a0) == 4), iY ((Exp.n a0) == 4)] := by kernel_rfl
def vAp (a0 : Exp) : rE I70 (xBF a0) [F, F, F, Y, F, Y] [] = dn (xBa 1) [xCv a0, xE0 a0, xEa a0, xF6 a0, xIO a0, iY ((Exp.n a0) == 5)] := by kernel_rfl
def vAq (a0 : Exp) : rE I70 (xBF a0) [F, F, F, Y, F, F, Y, Y] [] = dn (xBa 2) [xCv a0, xE0 a0, xEa a0, xF6 a0, xIO a0, xJZ a0, iY ((Exp.n a0) == 1), iY ((Exp.n a0) == 1)] := by kernel_rfl
def vAr (a0 : Exp) : rE I70 (xBF a0) [F, F, F, Y, F, F, F, Y] [] = dn (xBa 2) [xCv a0, xE0 a0, xEa a0, xF6 a0, xIO a0, xJZ a0, xLI a0, iY ((Exp.n a0) == 2)] := by kernel_rfl
def vAs (a0 : Exp) : rE I70 (xBF a0) [F, F, F, Y, F, F, F, F, Y] [] = dn (xBa 3) [xCv a0, xE0 a0, xEa a0, xF6 a0, xIO a0, xJZ a0, xLI a0, iN ((Exp.n a0) == 2), iY ((Exp.n a0) == 3)] := by kernel_rfl
def vAt (a0 : Exp) : rE I70 (xBF a0) [F, F, F, Y, F, F, F, F, F] [] = dn (xBa 4) [xCv a0, xE0 a0, xEa a0, xF6 a0, xIO a0, xJZ a0, xLI a0, iN ((Exp.n a0) == 2), iN ((Exp.n a0) == 3)] := by kernel_rfl
def vAu (a0 : Exp) : rE I70 (xBF a0) [F, F, F, F] [] = dn (xBa 4) [xCv a0, xE0 a0, xEa a0, xFe a0] := by kernel_rfl
theorem vEL {N : Nat} : ∀ a0 r, xGY N a0 = some r → RE Tryz.f70 I70 (xBF a0) (xBa r) := fun a0 r h =>
 cE h (fun h0 h => dE h fk70 (vAl a0) (oc2 h0 h0 on)) fun h0 h =>
 cE h (fun h1 h => dE h fk70 (vAm a0) (oc3 h0 h1 h1 on)) fun h1 h =>
 cE h (fun h2 h => dE h fk70 (vAn a0) (oc3 h0 h1 h2 on)) fun h2 h =>
 cE h (fun h3 h => cE h (fun h4 h => dE h fk70 (vAo a0) (oc6 h0 h1 h2 h3 h4 h4 on)) fun h4 h =>
 cE h (fun h5 h => dE h fk70 (vAp a0) (oc6 h0 h1 h2 h3 h4 h5 on)) fun h5 h =>
 cE h (fun h6 h => dE h fk70 (vAq a0) (oc8 h0 h1 h2 h3 h4 h5 h6 h6 on)) fun h6 h =>
 cE h (fun h7 h => dE h fk70 (vAr a0) (oc8 h0 h1 h2 h3 h4 h5 h6 h7 on)) fun h7 h =>
 cE h (fun h8 h => dE h fk70 (vAs a0) (oc9 h0 h1 h2 h3 h4 h5 h6 h7 h8 on)) fun h8 h =>
 dE h fk70 (vAt a0) (oc9 h0 h1 h2 h3 h4 h5 h6 h7 h8 on)) fun h3 h =>
 dE h fk70 (vAu a0) (oc4 h0 h1 h2 h3 on)
theorem xG4 {N : Nat} {a0 : Exp} {r : Int} (h : xGY N  a0 = some r) : AbC 70 (xBF a0) (xBa r) :=
 AbsCalls.of_reach fk70 rfl rfl (Nat.le_of_ble_eq_true rfl) (vEL a0 r h)
def G71 (q : Exp → Int → Option (Str)) : Prop := ∀ a0 a1 r, q a0 a1 = some r → AbC 71 (xDy a0 a1) (xBZ r)
def G38 (q : Exp → Option (Str)) : Prop := ∀ a0 r, q a0 = some r → AbC 38 (xBe a0) (xAB r)
def G69 (q : (List Exp) → Option (Str)) : Prop := ∀ a0 r, q a0 = some r → AbC 69 (xFH a0) (xDK r)
noncomputable def I71 : Info := { body := (Tryz.f71.body).getD .skip, nt := 16, results := [.tmp 4], keep := [0, 2, 4, 8, 10, 22, 5], live := [], modes := [] }
theorem fk71 : FnOk Tryz.prog 71 Tryz.f71 I71 := ⟨Tryz.func71, by kernel_rfl, by kernel_rfl, by kernel_rfl, by kernel_rfl⟩
def vAv (a0 : Exp) (a1 : Int) (r1 : Str) (r2 : Int) : rE I71 (xDy a0 a1) [Y] [xAB r1, xBa r2] = dn (xBZ (([40] ++ r1) ++ [41])) [AbC 38 (xBe a0) (xAB r1), AbC 70 (xBF a0) (xBa r2), xHa r2 a1, Ln [40] + Ln r1 ≤ Lim, Ln ([40] ++ r1) + Ln [41] ≤ Lim] := by kernel_rfl
def vAw (a0 : Exp) (a1 : Int) (r1 : Str) (r2 : Int) : rE I71 (xDy a0 a1) [F] [xAB r1, xBa r2] = dn (xBZ r1) [AbC 38 (xBe a0) (xAB r1), AbC 70 (xBF a0) (xBa r2), xIN r2 a1] := by kernel_rfl
theorem vEM {N q0 q1 q2} (g0 : G71 q0) (g1 : G38 q1) (g2 : G69 q2) : ∀ a0 a1 r, xFq N q0 q1 q2 a0 a1 = some r → RE Tryz.f71 I71 (xDy a0 a1) (xBZ r) := fun a0 a1 r h =>
 bE h fun r1 h0 h => bE h fun r2 h1 h => cE h (fun h2 h => iE h fun h3 h => iE h fun h4 h => dE h fk71 (vAv a0 a1 r1 r2) (oc5 (g1 _ _ h0) (xG4 h1) h2 h3 h4 on)) fun h2 h =>
 dE h fk71 (vAw a0 a1 r1 r2) (oc3 (g1 _ _ h0) (xG4 h1) h2 on)
theorem xJL {N q0 q1 q2} (g0 : G71 q0) (g1 : G38 q1) (g2 : G69 q2) {a0} {a1} {r} (h : xFq N q0 q1 q2 a0 a1 = some r) : AbC 71 (xDy a0 a1) (xBZ r) :=
 AbsCalls.of_reach fk71 rfl rfl (Nat.le_of_ble_eq_true rfl) (vEM g0 g1 g2 a0 a1 r h)
noncomputable def I38 : Info := { body := (Tryz.f38.body).getD .skip, nt := 124, results := [.tmp 2], keep := [0, 2, 4, 6, 8, 12, 14, 24, 36, 44, 58, 78, 116, 160, 208, 3], live := [], modes := [(22, [(16, .take, false)])] }
theorem fk38 : FnOk Tryz.prog 38 Tryz.f38 I38 := ⟨Tryz.func38, by kernel_rfl, by kernel_rfl, by kernel_rfl, by kernel_rfl⟩
def xYz (a0 : Exp) (r1 : Str) : rE I38 (xBe a0) [Y] [xFF r1] = dn (xAB r1) [xL5 a0, AbC 68 (xGr (Exp.n a0)) (xFF r1)] := by kernel_rfl
def xYA (a0 : Exp) : rE I38 (xBe a0) [F, Y] [] = dn (xAB (([34] ++ (Exp.text a0)) ++ [34])) [xA2 a0, xJN a0, Ln [34] + Ln (Exp.text a0) ≤ Lim, Ln ([34] ++ (Exp.text a0)) + Ln [34] ≤ Lim] := by kernel_rfl
def xYB (a0 : Exp) : rE I38 (xBe a0) [F, F, Y] [] = dn (xAB (Exp.text a0)) [xA2 a0, xBk a0, xJO a0] := by kernel_rfl
def xYC (a0 : Exp) (r1 : Str) : rE I38 (xBe a0) [F, F, F, Y] [xDK r1] = dn (xAB (([91] ++ r1) ++ [93])) [xA2 a0, xBk a0, xBG a0, xJP a0, AbC 69 (xFH (Exp.args a0)) (xDK r1), Ln [91] + Ln r1 ≤ Lim, Ln ([91] ++ r1) + Ln [93] ≤ Lim] := by kernel_rfl
def xYD (a0 : Exp) (r1 : Str) : rE I38 (xBe a0) [F, F, F, F, Y] [xDK r1] = dn (xAB ((((Exp.text a0) ++ [40]) ++ r1) ++ [41])) [xA2 a0, xBk a0, xBG a0, xCd a0, xLx a0, Ln (Exp.text a0) + Ln [40] ≤ Lim, AbC 69 (xFH (Exp.args a0)) (xDK r1), Ln ((Exp.text a0) ++ [40]) + Ln r1 ≤ Lim, Ln (((Exp.text a0) ++ [40]) ++ r1) + Ln [41] ≤ Lim] := by kernel_rfl
abbrev xO8 (v0 : Exp) (v1 : Str) : Prop := AbC 38 (xBe (xLP v0)) (xAB v1)
abbrev xO9 (v0 : Exp) (v1 : Str) : Prop := AbC 38 (xBe (xLQ v0)) (xAB v1)
def xYE (a0 : Exp) (r1 r2 : Str) : rE I38 (xBe a0) [F, F, F, F, F, Y] [xAB r1, xAB r2] = dn (xAB ((((([108, 101, 116, 32] ++ (Exp.text a0)) ++ [32, 61, 32]) ++ r1) ++ [32, 105, 110, 32]) ++ r2)) [xA2 a0, xBk a0, xBG a0, xCd a0, xCO a0, xF7 a0, Ln [108, 101, 116, 32] + Ln (Exp.text a0) ≤ Lim, xRo a0, xIP a0, xO8 a0 r1, xRp a0 r1, xRq a0 r1, xIQ a0, xO9 a0 r2, xRr a0 r1 r2] := by kernel_rfl
def xYF (a0 : Exp) (r1 r2 r3 : Str) : rE I38 (xBe a0) [F, F, F, F, F, F, Y] [xAB r1, xAB r2, xAB r3] = dn (xAB ((((([105, 102, 32] ++ r1) ++ [32, 116, 104, 101, 110, 32]) ++ r2) ++ [32, 101, 108, 115, 101, 32]) ++ r3)) [xA2 a0, xBk a0, xBG a0, xCd a0, xCO a0, xCv a0, xHM a0, xIP a0, xO8 a0 r1, Ln [105, 102, 32] + Ln r1 ≤ Lim, xRw r1, xIQ a0, xO9 a0 r2, xRx r1 r2, xRy r1 r2, (0 : Int) ≤ 2 ∧ (2 : Int) < (Ln (Exp.args a0)), AbC 38 (xBe (gD (Exp.args a0) (tN 2) Ty.exp.dflt)) (xAB r3), xRz r1 r2 r3] := by kernel_rfl
def xYG (a0 : Exp) (r1 r2 : Str) : rE I38 (xBe a0) [F, F, F, F, F, F, F, Y] [xAB r1, xAB r2] = dn (xAB ((((([102, 111, 114, 32] ++ (Exp.text a0)) ++ [32, 105, 110, 32]) ++ r1) ++ [32, 100, 111, 32]) ++ r2)) [xA2 a0, xBk a0, xBG a0, xCd a0, xCO a0, xCv a0, xE0 a0, xIL a0, Ln [102, 111, 114, 32] + Ln (Exp.text a0) ≤ Lim, xRs a0, xIP a0, xO8 a0 r1, xRt a0 r1, xRu a0 r1, xIQ a0, xO9 a0 r2, xRv a0 r1 r2] := by kernel_rfl
def xYH (a0 : Exp) (r1 : Int) (r2 r3 r4 : Str) : rE I38 (xBe a0) [F, F, F, F, F, F, F, F, Y] [xBa r1, xBZ r2, xCg r3, xBZ r4] = dn (xAB ((((r2 ++ [32]) ++ r3) ++ [32]) ++ r4)) [xA2 a0, xBk a0, xBG a0, xCd a0, xCO a0, xCv a0, xE0 a0, xEa a0, AbC 70 (xBF a0) (xBa r1), iY (r1 == 1), xIP a0, AbC 71 (xDy (xLP a0) 2) (xBZ r2), Ln r2 + Ln [32] ≤ Lim, AbC 56 (xDV (Exp.n a0)) (xCg r3), Ln (r2 ++ [32]) + Ln r3 ≤ Lim, xNE r2 r3, xIQ a0, AbC 71 (xDy (xLQ a0) (W (r1 + 1))) (xBZ r4), xNF r2 r3 r4] := by kernel_rfl
def xYI (a0 : Exp) (r1 : Int) (r2 r3 r4 : Str) : rE I38 (xBe a0) [F, F, F, F, F, F, F, F, F] [xBa r1, xBZ r2, xCg r3, xBZ r4] = dn (xAB ((((r2 ++ [32]) ++ r3) ++ [32]) ++ r4)) [xA2 a0, xBk a0, xBG a0, xCd a0, xCO a0, xCv a0, xE0 a0, xEa a0, AbC 70 (xBF a0) (xBa r1), iN (r1 == 1), xIP a0, AbC 71 (xDy (xLP a0) r1) (xBZ r2), Ln r2 + Ln [32] ≤ Lim, AbC 56 (xDV (Exp.n a0)) (xCg r3), Ln (r2 ++ [32]) + Ln r3 ≤ Lim, xNE r2 r3, xIQ a0, AbC 71 (xDy (xLQ a0) (W (r1 + 1))) (xBZ r4), xNF r2 r3 r4] := by kernel_rfl
theorem vD7 {N q0 q1 q2} (g0 : G71 q0) (g1 : G38 q1) (g2 : G69 q2) : ∀ a0 r, xCj N q0 q1 q2 a0 = some r → RE Tryz.f38 I38 (xBe a0) (xAB r) := fun a0 r h =>
 cE h (fun h0 h => bE h fun r1 h1 h => dE h fk38 (xYz a0 r1) (oc2 h0 (xLu h1) on)) fun h0 h =>
 cE h (fun h1 h => iE h fun h2 h => iE h fun h3 h => dE h fk38 (xYA a0) (oc4 h0 h1 h2 h3 on)) fun h1 h =>
 cE h (fun h2 h => dE h fk38 (xYB a0) (oc3 h0 h1 h2 on)) fun h2 h =>
 cE h (fun h3 h => bE h fun r1 h4 h => iE h fun h5 h => iE h fun h6 h => dE h fk38 (xYC a0 r1) (oc7 h0 h1 h2 h3 (g2 _ _ h4) h5 h6 on)) fun h3 h =>
 cE h (fun h4 h => iE h fun h5 h => bE h fun r1 h6 h => iE h fun h7 h => iE h fun h8 h => dE h fk38 (xYD a0 r1) (oc9 h0 h1 h2 h3 h4 h5 (g2 _ _ h6) h7 h8 on)) fun h4 h =>
 cE h (fun h5 h => iE h fun h6 h => iE h fun h7 h => iE h fun h8 h => bE h fun r1 h9 h => iE h fun h10 h => iE h fun h11 h => iE h fun h12 h => bE h fun r2 h13 h => iE h fun h14 h => dE h fk38 (xYE a0 r1 r2) (oc12 h0 h1 h2 h3 h4 h5 h6 h7 h8 (g1 _ _ h9) h10 h11 (oc3 h12 (g1 _ _ h13) h14 on))) fun h5 h =>
 cE h (fun h6 h => iE h fun h7 h => bE h fun r1 h8 h => iE h fun h9 h => iE h fun h10 h => iE h fun h11 h => bE h fun r2 h12 h => iE h fun h13 h => iE h fun h14 h => iE h fun h15 h => bE h fun r3 h16 h => iE h fun h17 h => dE h fk38 (xYF a0 r1 r2 r3) (oc12 h0 h1 h2 h3 h4 h5 h6 h7 (g1 _ _ h8) h9 h10 h11 (oc6 (g1 _ _ h12) h13 h14 h15 (g1 _ _ h16) h17 on))) fun h6 h =>
 cE h (fun h7 h => iE h fun h8 h => iE h fun h9 h => iE h fun h10 h => bE h fun r1 h11 h => iE h fun h12 h => iE h fun h13 h => iE h fun h14 h => bE h fun r2 h15 h => iE h fun h16 h => dE h fk38 (xYG a0 r1 r2) (oc12 h0 h1 h2 h3 h4 h5 h6 h7 h8 h9 h10 (g1 _ _ h11) (oc5 h12 h13 h14 (g1 _ _ h15) h16 on))) fun h7 h =>
 bE h fun r1 h8 h => cE h (fun h9 h => iE h fun h10 h => bE h fun r2 h11 h => iE h fun h12 h => bE h fun r3 h13 h => iE h fun h14 h => iE h fun h15 h => iE h fun h16 h => bE h fun r4 h17 h => iE h fun h18 h => dE h fk38 (xYH a0 r1 r2 r3 r4) (oc12 h0 h1 h2 h3 h4 h5 h6 h7 (xG4 h8) h9 h10 (g0 _ _ _ h11) (oc7 h12 (xGM h13) h14 h15 h16 (g0 _ _ _ h17) h18 on))) fun h9 h =>
 iE h fun h10 h => bE h fun r2 h11 h => iE h fun h12 h => bE h fun r3 h13 h => iE h fun h14 h => iE h fun h15 h => iE h fun h16 h => bE h fun r4 h17 h => iE h fun h18 h => dE h fk38 (xYI a0 r1 r2 r3 r4) (oc12 h0 h1 h2 h3 h4 h5 h6 h7 (xG4 h8) h9 h10 (g0 _ _ _ h11) (oc7 h12 (xGM h13) h14 h15 h16 (g0 _ _ _ h17) h18 on))
theorem xKK {N q0 q1 q2} (g0 : G71 q0) (g1 : G38 q1) (g2 : G69 q2) {a0} {r} (h : xCj N q0 q1 q2 a0 = some r) : AbC 38 (xBe a0) (xAB r) :=
 AbsCalls.of_reach fk38 rfl rfl (Nat.le_of_ble_eq_true rfl) (vD7 g0 g1 g2 a0 r h)
noncomputable def I69 : Info := { body := (Tryz.f69.body).getD .skip, nt := 21, results := [.tmp 2], keep := [0, 4, 6, 10, 14, 16, 18, 20, 11], live := [(3, [6, 14, 16, 18])], modes := [(5, [(0, .take, false)]), (6, [(1, .take, false)])] }
theorem fk69 : FnOk Tryz.prog 69 Tryz.f69 I69 := ⟨Tryz.func69, by kernel_rfl, by kernel_rfl, by kernel_rfl, by kernel_rfl⟩
def xQV (x3 : List Str) (x7 : List Exp) (x8 x9 : Int) : St := [(6, .v false [.sl .own .str x3]), (14, .v false [.sl .ro .exp x7]), (16, .v false [.int .i64 x8]), (18, .v false [.int .i64 x9])]
def vAi (x3 : List Str) (x7 : List Exp) (x8 x9 : Int) (r1 : Str) : rS 3 I69 (xQV x3 x7 x8 x9) [Y] [xAB r1] = st 3 I69 (xQV (x3 ++ [r1]) x7 x8 (W (x9 + 1))) [xHa x9 x8, xLE x9 x7, AbC 38 (xBe (xLO x7 x9)) (xAB r1), Ln x3 + Ln [r1] ≤ Lim] := by kernel_rfl
def vAj (x3 : List Str) (x7 : List Exp) (x8 x9 : Int) (r1 : Str) : rS 3 I69 (xQV x3 x7 x8 x9) [F] [xHD r1] = dn (xDK r1) [xIN x9 x8, AbC 103 (xIu x3 [44, 32]) (xHD r1)] := by kernel_rfl
def vAk (a0 : List Exp) : rE I69 (xFH a0) [] [] = st 3 I69 (xQV [] a0 (Ln a0 : Int) 0) [] := by kernel_rfl
theorem vEJ {N q0 q1 q2} (g0 : G71 q0) (g1 : G38 q1) (g2 : G69 q2) : ∀ n x3 x7 x8 x9 r, xEZ N q0 q1 q2 n x3 x7 x8 x9 = some r → RS Tryz.f69 I69 3 (xQV x3 x7 x8 x9) (xDK r) := by
 intro n
 induction n with
 | zero => exact fun _ _ _ _ _ h => nE h
 | succ n ih =>
  exact fun x3 x7 x8 x9 r h =>
   cE h (fun h0 h => iE h fun h1 h => bE h fun r1 h2 h => iE h fun h3 h => tS fk69 (vAi x3 x7 x8 x9 r1) (oc4 h0 h1 (g1 _ _ h2) h3 on) (ih _ _ _ _ _ h)) fun h0 h =>
   bE h fun r1 h1 h => dS h fk69 (vAj x3 x7 x8 x9 r1) (oc2 h0 (xOh h1) on)
theorem vEK {N q0 q1 q2} (g0 : G71 q0) (g1 : G38 q1) (g2 : G69 q2) : ∀ a0 r, xHp N q0 q1 q2 a0 = some r → RE Tryz.f69 I69 (xFH a0) (xDK r) := fun a0 r h =>
 tE fk69 (vAk a0) on (vEJ g0 g1 g2 _ _ _ _ _ _ h)
theorem xKo {N q0 q1 q2} (g0 : G71 q0) (g1 : G38 q1) (g2 : G69 q2) {a0} {r} (h : xHp N q0 q1 q2 a0 = some r) : AbC 69 (xFH a0) (xDK r) :=
 AbsCalls.of_reach fk69 rfl rfl (Nat.le_of_ble_eq_true rfl) (vEK g0 g1 g2 a0 r h)
theorem xKn {N : Nat} : ∀ d, G71 (xAk N d).c_impl_enclosed ∧ G38 (xAk N d).c_impl_source ∧ G69 (xAk N d).c_impl_sources := by
 intro d
 induction d with
 | zero => exact ⟨fun _ _ _ h => nE h, fun _ _ h => nE h, fun _ _ h => nE h⟩
 | succ d ih =>
  obtain ⟨ih0, ih1, ih2⟩ := ih
  exact ⟨fun _ _ _ h => xJL (N := N) ih0 ih1 ih2 h, fun _ _ h => xKK (N := N) ih0 ih1 ih2 h, fun _ _ h => xKo (N := N) ih0 ih1 ih2 h⟩
theorem xMV {N : Nat} {a0 : Exp} {r : Str} (h : xKJ N a0 = some r) : AbC 38 (xBe a0) (xAB r) := (xKn N).2.1 _ r h
noncomputable def I20 : Info := { body := (Tryz.f20.body).getD .skip, nt := 8, results := [.tmp 2], keep := [0, 2, 4, 10, 3], live := [], modes := [] }
theorem fk20 : FnOk Tryz.prog 20 Tryz.f20 I20 := ⟨Tryz.func20, by kernel_rfl, by kernel_rfl, by kernel_rfl, by kernel_rfl⟩
def xXN (a0 : Exp) (r1 : Bool) : rE I20 (xEt a0) [Y] [xAY r1] = dn (xDh []) [AbC 32 (xCR a0) (xAY r1), iY (!r1)] := by kernel_rfl
def xXO (a0 : Exp) (r1 : Bool) (r2 : Str) : rE I20 (xEt a0) [F] [xAY r1, xAB r2] = dn (xDh r2) [AbC 32 (xCR a0) (xAY r1), iN (!r1), AbC 38 (xBe a0) (xAB r2)] := by kernel_rfl
theorem vDR {N : Nat} : ∀ a0 r, xEW N a0 = some r → RE Tryz.f20 I20 (xEt a0) (xDh r) := fun a0 r h =>
 bE h fun r1 h0 h => cE h (fun h1 h => dE h fk20 (xXN a0 r1) (oc2 (xCS h0) h1 on)) fun h1 h =>
 bE h fun r2 h2 h => dE h fk20 (xXO a0 r1 r2) (oc3 (xCS h0) h1 (xMV h2) on)
theorem xIt {N : Nat} {a0 : Exp} {r : Str} (h : xEW N  a0 = some r) : AbC 20 (xEt a0) (xDh r) :=
 AbsCalls.of_reach fk20 rfl rfl (Nat.le_of_ble_eq_true rfl) (vDR a0 r h)
noncomputable def I17 : Info := { body := (Tryz.f17.body).getD .skip, nt := 15, results := [.tmp 2, .tmp 3], keep := [0, 4, 6, 8, 10, 24, 9], live := [], modes := [(1, [(2, .take, false)]), (2, [(0, .take, false)])] }
theorem fk17 : FnOk Tryz.prog 17 Tryz.f17 I17 := ⟨Tryz.func17, by kernel_rfl, by kernel_rfl, by kernel_rfl, by kernel_rfl⟩
def xXK (a0 : Str) (r1 : Exp × Int) : rE I17 (xB4 a0) [Y] [xAn r1] = dn (xAr ([], false)) [xJY a0 r1, iY (dc (r1.2 ≥ 0))] := by kernel_rfl
def xXL (a0 : Str) (r1 : Exp × Int) (r2 : Str) : rE I17 (xB4 a0) [F] [xAn r1, xDh r2] = dn (xAr (r2, true)) [xJY a0 r1, iN (dc (r1.2 ≥ 0)), AbC 20 (xEt r1.1) (xDh r2)] := by kernel_rfl
theorem vDP {N : Nat} : ∀ a0 r, xEv N a0 = some r → RE Tryz.f17 I17 (xB4 a0) (xAr r) := fun a0 r h =>
 bE h fun r1 h0 h => cE h (fun h1 h => dE h fk17 (xXK a0 r1) (oc2 (xBW h0) h1 on)) fun h1 h =>
 bE h fun r2 h2 h => dE h fk17 (xXL a0 r1 r2) (oc3 (xBW h0) h1 (xIt h2) on)
theorem xBb {N : Nat} {a0 : Str} {r : Str × Bool} (h : xEv N  a0 = some r) : AbC 17 (xB4 a0) (xAr r) :=
 AbsCalls.of_reach fk17 rfl rfl (Nat.le_of_ble_eq_true rfl) (vDP a0 r h)
noncomputable def I18 : Info := { body := (Tryz.f18.body).getD .skip, nt := 6, results := [.tmp 2], keep := [0, 4], live := [], modes := [] }
theorem fk18 : FnOk Tryz.prog 18 Tryz.f18 I18 := ⟨Tryz.func18, by kernel_rfl, by kernel_rfl, by kernel_rfl, by kernel_rfl⟩
def xXM (a0 : List Int) : rE I18 (xJg a0) [] [] = dn (xDL (dc ((Ln a0 : Int) > 1048576))) [] := by kernel_rfl
theorem vDQ {N : Nat} : ∀ a0 r, xKj N a0 = some r → RE Tryz.f18 I18 (xJg a0) (xDL r) := fun a0 r h =>
 dE h fk18 (xXM a0) on
theorem xFx {N : Nat} {a0 : List Int} {r : Bool} (h : xKj N  a0 = some r) : AbC 18 (xJg a0) (xDL r) :=
 AbsCalls.of_reach fk18 rfl rfl (Nat.le_of_ble_eq_true rfl) (vDQ a0 r h)
noncomputable def I37 : Info := { body := (Tryz.f37.body).getD .skip, nt := 32, results := [.tmp 2], keep := [0, 4, 6, 8, 30, 63], live := [(3, [0, 6, 8])], modes := [(3, [(4, .take, false)])] }
theorem fk37 : FnOk Tryz.prog 37 Tryz.f37 I37 := ⟨Tryz.func37, by kernel_rfl, by kernel_rfl, by kernel_rfl, by kernel_rfl⟩
def xQs (x0 : List Int) (x3 x4 : Int) : St := [(0, .v false [.sl .ro .byte x0]), (6, .v false [.int .i64 x3]), (8, .v false [.int .i64 x4])]
def xYv (x0 : List Int) (x3 x4 : Int) : rS 3 I37 (xQs x0 x3 x4) [Y, Y] [] = st 3 I37 (xQs x0 (andI .i64 (W ((W ((W (x3 * 131)) + (W ((gD x0 (tN x4) Ty.byte.dflt))))) + 7)) 1073741823) (W (x4 + 1))) [iY (dc (x4 < (Ln x0 : Int))), iY (dc (x4 < 4000)), (0 : Int) ≤ x4 ∧ x4 < (Ln x0)] := by kernel_rfl
def xYw (x0 : List Int) (x3 x4 : Int) : rS 3 I37 (xQs x0 x3 x4) [Y, F] [] = dn (xFZ (Cur.mk x0 0 x3)) [iY (dc (x4 < (Ln x0 : Int))), iN (dc (x4 < 4000))] := by kernel_rfl
def xYx (x0 : List Int) (x3 x4 : Int) : rS 3 I37 (xQs x0 x3 x4) [F, F] [] = dn (xFZ (Cur.mk x0 0 x3)) [iN (dc (x4 < (Ln x0 : Int))), iN false] := by kernel_rfl
def xYy (a0 : List Int) : rE I37 (xHX a0) [] [] = st 3 I37 (xQs a0 (W (26583 + (Ln a0 : Int))) 0) [] := by kernel_rfl
theorem vD5 {N : Nat} : ∀ n x0 x3 x4 r, xGx N n x0 x3 x4 = some r → RS Tryz.f37 I37 3 (xQs x0 x3 x4) (xFZ r) := by
 intro n
 induction n with
 | zero => exact fun _ _ _ _ h => nE h
 | succ n ih =>
  exact fun x0 x3 x4 r h =>
   cE h (fun h0 h => cE h (fun h1 h => iE h fun h2 h => tS fk37 (xYv x0 x3 x4) (oc3 h0 h1 h2 on) (ih _ _ _ _ h)) fun h1 h =>
   dS h fk37 (xYw x0 x3 x4) (oc2 h0 h1 on)) fun h0 h =>
   dS h fk37 (xYx x0 x3 x4) (oc2 h0 rfl on)
theorem vD6 {N : Nat} : ∀ a0 r, xHw N a0 = some r → RE Tryz.f37 I37 (xHX a0) (xFZ r) := fun a0 r h =>
 tE fk37 (xYy a0) on (vD5 _ _ _ _ _ h)
theorem xNZ {N : Nat} {a0 : List Int} {r : Cur} (h : xHw N  a0 = some r) : AbC 37 (xHX a0) (xFZ r) :=
 AbsCalls.of_reach fk37 rfl rfl (Nat.le_of_ble_eq_true rfl) (vD6 a0 r h)
noncomputable def I100 : Info := { body := (Tryz.f100.body).getD .skip, nt := 58, results := [.tmp 2], keep := [0, 4, 6, 68, 1], live := [], modes := [], ext := [0] }
theorem xW4 : FnOk Tryz.prog 100 Tryz.f100 I100 := ⟨Tryz.func100, by kernel_rfl, by kernel_rfl, by kernel_rfl, by kernel_rfl⟩
abbrev xRQ (v0 : Cur) := andI .i64 (xorI .i64 (Int.fdiv (W ((W ((Cur.h v0) * 6364136223846793005)) + 1442695040888963407)) ((2 : Int) ^ (tN 33))) (Int.fdiv (W ((W ((Cur.h v0) * 6364136223846793005)) + 1442695040888963407)) ((2 : Int) ^ (tN 45)))) 255
abbrev xRP (v0 : Cur) := W ((W ((Cur.h v0) * 6364136223846793005)) + 1442695040888963407)
def xTl (a0 : Cur) : rE I100 (xEj a0) [Y] [] = dn (xCt ((andI .i64 (W ((xRQ a0) + (W ((gD (Cur.b a0) (tN (Cur.i a0)) Ty.byte.dflt))))) 255), (Cur.mk (Cur.b a0) (W ((Cur.i a0) + 1)) (xRP a0)))) [(0 : Int) ≤ 33 ∧ (33 : Int) < 64, (0 : Int) ≤ 45 ∧ (45 : Int) < 64, iY (dc ((Cur.i a0) < (Ln (Cur.b a0) : Int))), (0 : Int) ≤ (Cur.i a0) ∧ (Cur.i a0) < (Ln (Cur.b a0))] := by kernel_rfl
def xTm (a0 : Cur) : rE I100 (xEj a0) [F] [] = dn (xCt ((xRQ a0), (Cur.mk (Cur.b a0) (Cur.i a0) (xRP a0)))) [(0 : Int) ≤ 33 ∧ (33 : Int) < 64, (0 : Int) ≤ 45 ∧ (45 : Int) < 64, iN (dc ((Cur.i a0) < (Ln (Cur.b a0) : Int)))] := by kernel_rfl
theorem vCA {N : Nat} : ∀ a0 r, xFW N a0 = some r → RE Tryz.f100 I100 (xEj a0) (xCt r) := fun a0 r h =>
 cE h (fun h2 h => iE h fun h3 h => dE h xW4 (xTl a0) (oc4 (by decide) (by decide) h2 h3 on)) fun h2 h =>
 dE h xW4 (xTm a0) (oc3 (by decide) (by decide) h2 on)
theorem xGK {N : Nat} {a0 : Cur} {r : Int × Cur} (h : xFW N  a0 = some r) : AbC 100 (xEj a0) (xCt r) :=
 AbsCalls.of_reach xW4 rfl rfl (Nat.le_of_ble_eq_true rfl) (vCA a0 r h)
noncomputable def I62 : Info := { body := (Tryz.f62.body).getD .skip, nt := 37, results := [.tmp 4], keep := [0, 2, 8, 10, 12, 14, 16, 20, 24, 1], live := [], modes := [(9, [(0, .take, false), (2, .take, false), (5, .take, false), (8, .take, false)])], ext := [0] }
theorem fk62 : FnOk Tryz.prog 62 Tryz.f62 I62 := ⟨Tryz.func62, by kernel_rfl, by kernel_rfl, by kernel_rfl, by kernel_rfl⟩
def xZ7 (a0 : Cur) (a1 : Int) : rE I62 (xAD a0 a1) [Y] [] = dn (xAc (0, a0)) [iY (dc (a1 ≤ 0))] := by kernel_rfl
def xZ8 (a0 : Cur) (a1 : Int) (r1 : Int × Cur) : rE I62 (xAD a0 a1) [F, Y] [xCt r1] = dn (xAc ((Int.tmod r1.1 a1), r1.2)) [iN (dc (a1 ≤ 0)), iY (dc (a1 ≤ 256)), AbC 100 (xEj a0) (xCt r1), a1 ≠ (0 : Int)] := by kernel_rfl
def xZ9 (a0 : Cur) (a1 : Int) (r1 : Int × Cur) (r2 : Int × Cur) (r3 : Int × Cur) (r4 : Int × Cur) : rE I62 (xAD a0 a1) [F, F] [xCt r1, xCt r2, xCt r3, xCt r4] = dn (xAc ((Int.tmod (W ((W ((W ((W (r1.1 * 16777216)) + (W (r2.1 * 65536)))) + (W (r3.1 * 256)))) + r4.1)) a1), r4.2)) [iN (dc (a1 ≤ 0)), iN (dc (a1 ≤ 256)), AbC 100 (xEj a0) (xCt r1), AbC 100 (xEj r1.2) (xCt r2), AbC 100 (xEj r2.2) (xCt r3), AbC 100 (xEj r3.2) (xCt r4), a1 ≠ (0 : Int)] := by kernel_rfl
theorem vED {N : Nat} : ∀ a0 a1 r, xAU N a0 a1 = some r → RE Tryz.f62 I62 (xAD a0 a1) (xAc r) := fun a0 a1 r h =>
 cE h (fun h0 h => dE h fk62 (xZ7 a0 a1) (oc h0 on)) fun h0 h =>
 cE h (fun h1 h => bE h fun r1 h2 h => iE h fun h3 h => dE h fk62 (xZ8 a0 a1 r1) (oc4 h0 h1 (xGK h2) h3 on)) fun h1 h =>
 bE h fun r1 h2 h => bE h fun r2 h3 h => bE h fun r3 h4 h => bE h fun r4 h5 h => iE h fun h6 h => dE h fk62 (xZ9 a0 a1 r1 r2 r3 r4) (oc7 h0 h1 (xGK h2) (xGK h3) (xGK h4) (xGK h5) h6 on)
theorem xAh {N : Nat} {a0 : Cur} {a1 : Int} {r : Int × Cur} (h : xAU N  a0 a1 = some r) : AbC 62 (xAD a0 a1) (xAc r) :=
 AbsCalls.of_reach fk62 rfl rfl (Nat.le_of_ble_eq_true rfl) (vED a0 a1 r h)
noncomputable def I64 : Info := { body := (Tryz.f64.body).getD .skip, nt := 12, results := [.tmp 4], keep := [0, 2, 8, 1], live := [], modes := [], ext := [0] }
theorem fk64 : FnOk Tryz.prog 64 Tryz.f64 I64 := ⟨Tryz.func64, by kernel_rfl, by kernel_rfl, by kernel_rfl, by kernel_rfl⟩
def vAe (a0 : Cur) (a1 : List Str) (r1 : Int × Cur) : rE I64 (xCG a0 a1) [] [xAc r1] = dn (xA5 ((gD a1 (tN r1.1) Ty.str.dflt), r1.2)) [AbC 62 (xAD a0 (Ln a1 : Int)) (xAc r1), (0 : Int) ≤ r1.1 ∧ r1.1 < (Ln a1)] := by kernel_rfl
theorem vEF {N : Nat} : ∀ a0 a1 r, xDf N a0 a1 = some r → RE Tryz.f64 I64 (xCG a0 a1) (xA5 r) := fun a0 a1 r h =>
 bE h fun r1 h0 h => iE h fun h1 h => dE h fk64 (vAe a0 a1 r1) (oc2 (xAh h0) h1 on)
theorem xDI {N : Nat} {a0 : Cur} {a1 : List Str} {r : Str × Cur} (h : xDf N  a0 a1 = some r) : AbC 64 (xCG a0 a1) (xA5 r) :=
 AbsCalls.of_reach fk64 rfl rfl (Nat.le_of_ble_eq_true rfl) (vEF a0 a1 r h)
noncomputable def I63 : Info := { body := (Tryz.f63.body).getD .skip, nt := 23, results := [.cell 4 25], keep := [0, 2, 8, 12, 14, 26, 1, 9], live := [], modes := [(3, [(1, .cp, true)])], ext := [0] }
theorem fk63 : FnOk Tryz.prog 63 Tryz.f63 I63 := ⟨Tryz.func63, by kernel_rfl, by kernel_rfl, by kernel_rfl, by kernel_rfl⟩
abbrev xLJ (v0 : Cur) (v1 : Int × Cur) : Prop := AbC 62 (xAD v0 5) (xAc v1)
def vAa (a0 : Cur) (a1 : List Str) (r1 : Int × Cur) (r2 : Str × Cur) : rE I63 (xDN a0 a1) [Y] [xAc r1, xA5 r2] = dn (xCz ((Exp.mk 2 0 r2.1 []), r2.2)) [xLJ a0 r1, iY (r1.1 == 0), AbC 64 (xCG r1.2 [[97], [97, 98], [], [98]]) (xA5 r2)] := by kernel_rfl
abbrev xFS (v0 : Int × Cur) : Prop := iN (v0.1 == 0)
abbrev xLK (v0 v1 : Int × Cur) : Prop := AbC 62 (xAD v0.2 6) (xAc v1)
abbrev xIR (v0 : Int × Cur) (v1 : Exp) : Prop := AbC 67 (xF5 v0.1) (xBC v1)
def vAb (a0 : Cur) (a1 : List Str) (r1 : Int × Cur) (r2 : Int × Cur) (r3 : Exp) : rE I63 (xDN a0 a1) [F, Y, Y] [xAc r1, xAc r2, xBC r3] = dn (xCz (r3, r2.2)) [xLJ a0 r1, xFS r1, iY (r1.1 == 1), iY (r1.1 == 1), xLK r1 r2, xIR r2 r3] := by kernel_rfl
abbrev xGU (v0 : Int × Cur) : Prop := iN (v0.1 == 1)
def vAc (a0 : Cur) (a1 : List Str) (r1 : Int × Cur) (r2 : Int × Cur) (r3 : Exp) : rE I63 (xDN a0 a1) [F, F, Y] [xAc r1, xAc r2, xBC r3] = dn (xCz (r3, r2.2)) [xLJ a0 r1, xFS r1, xGU r1, iY (r1.1 == 2), xLK r1 r2, xIR r2 r3] := by kernel_rfl
abbrev xIb (v0 : Int × Cur) : Prop := iN (v0.1 == 2)
def vAd (a0 : Cur) (a1 : List Str) (r1 : Int × Cur) (r2 : Str × Cur) (r3 : Exp) : rE I63 (xDN a0 a1) [F, F, F] [xAc r1, xA5 r2, xE7 r3] = dn (xCz (r3, r2.2)) [xLJ a0 r1, xFS r1, xGU r1, xIb r1, AbC 64 (xCG r1.2 a1) (xA5 r2), AbC 101 (xGm r2.1) (xE7 r3)] := by kernel_rfl
theorem vEE {N : Nat} : ∀ a0 a1 r, xG1 N a0 a1 = some r → RE Tryz.f63 I63 (xDN a0 a1) (xCz r) := fun a0 a1 r h =>
 bE h fun r1 h0 h => cE h (fun h1 h => bE h fun r2 h2 h => dE h fk63 (vAa a0 a1 r1 r2) (oc3 (xAh h0) h1 (xDI h2) on)) fun h1 h =>
 cE h (fun h2 h => bE h fun r2 h4 h => bE h fun r3 h5 h => dE h fk63 (vAb a0 a1 r1 r2 r3) (oc6 (xAh h0) h1 h2 h2 (xAh h4) (xC3 h5) on)) fun h2 h =>
 cE h (fun h3 h => bE h fun r2 h4 h => bE h fun r3 h5 h => dE h fk63 (vAc a0 a1 r1 r2 r3) (oc6 (xAh h0) h1 h2 h3 (xAh h4) (xC3 h5) on)) fun h3 h =>
 bE h fun r2 h4 h => bE h fun r3 h5 h => dE h fk63 (vAd a0 a1 r1 r2 r3) (oc6 (xAh h0) h1 h2 h3 (xDI h4) (xKc h5) on)
theorem xIg {N : Nat} {a0 : Cur} {a1 : List Str} {r : Exp × Cur} (h : xG1 N  a0 a1 = some r) : AbC 63 (xDN a0 a1) (xCz r) :=
 AbsCalls.of_reach fk63 rfl rfl (Nat.le_of_ble_eq_true rfl) (vEE a0 a1 r h)
noncomputable def I132 : Info := { body := (Tryz.f132.body).getD .skip, nt := 9, results := [.tmp 4], keep := [0, 2, 8, 1], live := [], modes := [], ext := [0] }
theorem vDk : FnOk Tryz.prog 132 Tryz.f132 I132 := ⟨Tryz.func132, by kernel_rfl, by kernel_rfl, by kernel_rfl, by kernel_rfl⟩
def xVd (a0 : Cur) (a1 : Int) (r1 : Int × Cur) : rE I132 (xFC a0 a1) [] [xAc r1] = dn (xDt ((r1.1 == 0), r1.2)) [AbC 62 (xAD a0 a1) (xAc r1)] := by kernel_rfl
theorem vC5 {N : Nat} : ∀ a0 a1 r, xGo N a0 a1 = some r → RE Tryz.f132 I132 (xFC a0 a1) (xDt r) := fun a0 a1 r h =>
 bE h fun r1 h0 h => dE h vDk (xVd a0 a1 r1) (oc (xAh h0) on)
theorem xHA {N : Nat} {a0 : Cur} {a1 : Int} {r : Bool × Cur} (h : xGo N  a0 a1 = some r) : AbC 132 (xFC a0 a1) (xDt r) :=
 AbsCalls.of_reach vDk rfl rfl (Nat.le_of_ble_eq_true rfl) (vC5 a0 a1 r h)
noncomputable def I118 : Info := { body := (Tryz.f118.body).getD .skip, nt := 34, results := [.cell 4 25], keep := [0, 2, 8, 10, 12, 14, 26, 50, 1, 9, 11], live := [(4, [0, 2, 8, 10, 12, 14, 1, 9, 11])], modes := [(4, [(1, .take, false)]), (6, [(1, .take, false), (6, .take, false)]), (8, [(1, .ref, false)]), (9, [(0, .take, false)])], ext := [0] }
theorem xQ9 : FnOk Tryz.prog 118 Tryz.f118 I118 := ⟨Tryz.func118, by kernel_rfl, by kernel_rfl, by kernel_rfl, by kernel_rfl⟩
def xMi (x1 : List Str) (x6 x7 : Int) (b0 : Cur) (b4 b5 : Exp) : St := [(0, .v false [.ptr 0 0]), (2, .v false [.sl .ro .str x1]), (8, .v false [.ptr 4 0]), (10, .v false [.ptr 5 0]), (12, .v false [.int .i64 x6]), (14, .v false [.int .i64 x7]), (1, .v true [.sl .ro .byte (Cur.b b0), .int .i64 (Cur.i b0), .int .i64 (Cur.h b0)]), (9, .v true [.int .i64 (Exp.kind b4), .int .i64 (Exp.n b4), .str (Exp.text b4), .sl .own .exp (Exp.args b4)]), (11, .v true [.int .i64 (Exp.kind b5), .int .i64 (Exp.n b5), .str (Exp.text b5), .sl .own .exp (Exp.args b5)])]
def xUF (x1 : List Str) (x6 x7 : Int) (b0 : Cur) (b4 b5 : Exp) (r1 : Int × Cur) (r2 : Exp) (r3 : Bool × Cur) (r4 : Exp × Cur) : rS 4 I118 (xMi x1 x6 x7 b0 b4 b5) [Y, Y] [xAc r1, xBC r2, xDt r3, xCz r4] = st 4 I118 (xMi x1 x6 (W (x7 + 1)) r4.2 b4 (Exp.mk (Exp.kind b5) (Exp.n b5) (Exp.text b5) ((fun (z2 : List Exp) => List.set z2 (tN x7) (Exp.re r4.1)) ((Exp.args b5) ++ [(Exp.re r2)])))) [xHa x7 x6, xLJ b0 r1, xIR r1 r2, Ln (Exp.args b5) + Ln [(Exp.re r2)] ≤ Lim, AbC 132 (xFC r1.2 4) (xDt r3), iY r3.1, AbC 63 (xDN r3.2 x1) (xCz r4), (0 : Int) ≤ x7 ∧ x7 < (Ln ((Exp.args b5) ++ [(Exp.re r2)]))] := by kernel_rfl
def xUG (x1 : List Str) (x6 x7 : Int) (b0 : Cur) (b4 b5 : Exp) (r1 : Int × Cur) (r2 : Exp) (r3 : Bool × Cur) : rS 4 I118 (xMi x1 x6 x7 b0 b4 b5) [Y, F] [xAc r1, xBC r2, xDt r3] = st 4 I118 (xMi x1 x6 (W (x7 + 1)) r3.2 b4 (Exp.mk (Exp.kind b5) (Exp.n b5) (Exp.text b5) ((Exp.args b5) ++ [(Exp.re r2)]))) [xHa x7 x6, xLJ b0 r1, xIR r1 r2, Ln (Exp.args b5) + Ln [(Exp.re r2)] ≤ Lim, AbC 132 (xFC r1.2 4) (xDt r3), iN r3.1] := by kernel_rfl
def xUH (x1 : List Str) (x6 x7 : Int) (b0 : Cur) (b4 b5 : Exp) : rS 4 I118 (xMi x1 x6 x7 b0 b4 b5) [F] [] = dn (xCA (b5, b0)) [xIN x7 x6] := by kernel_rfl
def xUI (a0 : Cur) (a1 : List Str) (r1 : Int × Cur) : rE I118 (xE5 a0 a1) [] [xAc r1] = st 4 I118 (xMi a1 r1.1 0 r1.2 (Exp.mk 0 0 [] []) (Exp.mk 4 0 [] [])) [AbC 62 (xAD a0 4) (xAc r1)] := by kernel_rfl
theorem vCS {N : Nat} : ∀ n x1 x6 x7 b0 b4 b5 r, xE6 N n x1 x6 x7 b0 b4 b5 = some r → RS Tryz.f118 I118 4 (xMi x1 x6 x7 b0 b4 b5) (xCA r) := by
 intro n
 induction n with
 | zero => exact fun _ _ _ _ _ _ _ h => nE h
 | succ n ih =>
  exact fun x1 x6 x7 b0 b4 b5 r h =>
   cE h (fun h0 h => bE h fun r1 h1 h => bE h fun r2 h2 h => iE h fun h3 h => bE h fun r3 h4 h => cE h (fun h5 h => bE h fun r4 h6 h => iE h fun h7 h => tS xQ9 (xUF x1 x6 x7 b0 b4 b5 r1 r2 r3 r4) (oc8 h0 (xAh h1) (xC3 h2) h3 (xHA h4) h5 (xIg h6) h7 on) (ih _ _ _ _ _ _ _ h)) fun h5 h =>
   tS xQ9 (xUG x1 x6 x7 b0 b4 b5 r1 r2 r3) (oc6 h0 (xAh h1) (xC3 h2) h3 (xHA h4) h5 on) (ih _ _ _ _ _ _ _ h)) fun h0 h =>
   dS h xQ9 (xUH x1 x6 x7 b0 b4 b5) (oc h0 on)
theorem vCT {N : Nat} : ∀ a0 a1 r, xGl N a0 a1 = some r → RE Tryz.f118 I118 (xE5 a0 a1) (xCA r) := fun a0 a1 r h =>
 bE h fun r1 h0 h => tE xQ9 (xUI a0 a1 r1) (oc (xAh h0) on) (vCS _ _ _ _ _ _ _ _ h)
theorem xHf {N : Nat} {a0 : Cur} {a1 : List Str} {r : Exp × Cur} (h : xGl N  a0 a1 = some r) : AbC 118 (xE5 a0 a1) (xCA r) :=
 AbsCalls.of_reach xQ9 rfl rfl (Nat.le_of_ble_eq_true rfl) (vCT a0 a1 r h)
noncomputable def I120 : Info := { body := (Tryz.f120.body).getD .skip, nt := 11, results := [.cell 6 25], keep := [0, 2, 4, 8, 10, 12, 16, 1, 9, 11, 13], live := [], modes := [], ext := [0] }
theorem xW6 : FnOk Tryz.prog 120 Tryz.f120 I120 := ⟨Tryz.func120, by kernel_rfl, by kernel_rfl, by kernel_rfl, by kernel_rfl⟩
def xUK (a0 : Cur) (a1 a2 : Exp) (r1 : Bool × Cur) : rE I120 (xCu a0 a1 a2) [Y] [xDt r1] = dn (xA9 (a1, r1.2)) [AbC 132 (xFC a0 2) (xDt r1), iY r1.1] := by kernel_rfl
def xUL (a0 : Cur) (a1 a2 : Exp) (r1 : Bool × Cur) : rE I120 (xCu a0 a1 a2) [F] [xDt r1] = dn (xA9 (a2, r1.2)) [AbC 132 (xFC a0 2) (xDt r1), iN r1.1] := by kernel_rfl
theorem vCV {N : Nat} : ∀ a0 a1 a2 r, xDS N a0 a1 a2 = some r → RE Tryz.f120 I120 (xCu a0 a1 a2) (xA9 r) := fun a0 a1 a2 r h =>
 bE h fun r1 h0 h => cE h (fun h1 h => dE h xW6 (xUK a0 a1 a2 r1) (oc2 (xHA h0) h1 on)) fun h1 h =>
 dE h xW6 (xUL a0 a1 a2 r1) (oc2 (xHA h0) h1 on)
theorem xEz {N : Nat} {a0 : Cur} {a1 : Exp} {a2 : Exp} {r : Exp × Cur} (h : xDS N  a0 a1 a2 = some r) : AbC 120 (xCu a0 a1 a2) (xA9 r) :=
 AbsCalls.of_reach xW6 rfl rfl (Nat.le_of_ble_eq_true rfl) (vCV a0 a1 a2 r h)
noncomputable def I119 : Info := { body := (Tryz.f119.body).getD .skip, nt := 8, results := [.cell 4 25], keep := [0, 2, 8, 9], live := [], modes := [] }
theorem vDh : FnOk Tryz.prog 119 Tryz.f119 I119 := ⟨Tryz.func119, by kernel_rfl, by kernel_rfl, by kernel_rfl, by kernel_rfl⟩
def xUJ (a0 : Str) (a1 : List Exp) : rE I119 (xCo a0 a1) [] [] = dn (xAT (Exp.mk 5 0 a0 a1)) [] := by kernel_rfl
theorem vCU {N : Nat} : ∀ a0 a1 r, xDj N a0 a1 = some r → RE Tryz.f119 I119 (xCo a0 a1) (xAT r) := fun a0 a1 r h =>
 dE h vDh (xUJ a0 a1) on
theorem xDp {N : Nat} {a0 : Str} {a1 : List Exp} {r : Exp} (h : xDj N  a0 a1 = some r) : AbC 119 (xCo a0 a1) (xAT r) :=
 AbsCalls.of_reach vDh rfl rfl (Nat.le_of_ble_eq_true rfl) (vCU a0 a1 r h)
noncomputable def I121 : Info := { body := (Tryz.f121.body).getD .skip, nt := 7, results := [.cell 2 25], keep := [0, 4, 1, 5], live := [], modes := [(1, [(1, .cp, true)])], ext := [0] }
theorem vDi : FnOk Tryz.prog 121 Tryz.f121 I121 := ⟨Tryz.func121, by kernel_rfl, by kernel_rfl, by kernel_rfl, by kernel_rfl⟩
def xUM (a0 : Cur) (r1 : Str × Cur) : rE I121 (xEU a0) [] [xA5 r1] = dn (xC9 ((Exp.mk 2 0 r1.1 []), r1.2)) [AbC 64 (xCG a0 [[97], [97], [98], [99], [120]]) (xA5 r1)] := by kernel_rfl
theorem vCW {N : Nat} : ∀ a0 r, xF4 N a0 = some r → RE Tryz.f121 I121 (xEU a0) (xC9 r) := fun a0 r h =>
 bE h fun r1 h0 h => dE h vDi (xUM a0 r1) (oc (xDI h0) on)
theorem xHt {N : Nat} {a0 : Cur} {r : Exp × Cur} (h : xF4 N  a0 = some r) : AbC 121 (xEU a0) (xC9 r) :=
 AbsCalls.of_reach vDi rfl rfl (Nat.le_of_ble_eq_true rfl) (vCW a0 r h)
noncomputable def I122 : Info := { body := (Tryz.f122.body).getD .skip, nt := 31, results := [.cell 2 25], keep := [0, 4, 6, 8, 10, 22, 1, 5, 7], live := [(4, [0, 4, 6, 8, 10, 1, 5, 7])], modes := [(4, [(1, .take, false)]), (6, [(1, .take, false), (11, .take, false)]), (7, [(1, .take, false), (2, .cp, true), (3, .take, false)])], ext := [0] }
theorem xTa : FnOk Tryz.prog 122 Tryz.f122 I122 := ⟨Tryz.func122, by kernel_rfl, by kernel_rfl, by kernel_rfl, by kernel_rfl⟩
def xN5 (x4 x5 : Int) (b0 : Cur) (b2 b3 : Exp) : St := [(0, .v false [.ptr 0 0]), (4, .v false [.ptr 2 0]), (6, .v false [.ptr 3 0]), (8, .v false [.int .i64 x4]), (10, .v false [.int .i64 x5]), (1, .v true [.sl .ro .byte (Cur.b b0), .int .i64 (Cur.i b0), .int .i64 (Cur.h b0)]), (5, .v true [.int .i64 (Exp.kind b2), .int .i64 (Exp.n b2), .str (Exp.text b2), .sl .own .exp (Exp.args b2)]), (7, .v true [.int .i64 (Exp.kind b3), .int .i64 (Exp.n b3), .str (Exp.text b3), .sl .own .exp (Exp.args b3)])]
def xUN (x4 x5 : Int) (b0 : Cur) (b2 b3 : Exp) (r1 : Int × Cur) (r2 : Exp) (r3 : Int × Cur) (r4 : Exp) : rS 4 I122 (xN5 x4 x5 b0 b2 b3) [Y] [xAc r1, xBC r2, xAc r3, xBC r4] = st 4 I122 (xN5 x4 (W (x5 + 1)) r3.2 b2 (Exp.mk (Exp.kind b3) (Exp.n b3) (Exp.text b3) ((Exp.args b3) ++ [(Exp.mk 4 0 [] [(Exp.re r2), (Exp.re r4)])]))) [xHa x5 x4, AbC 62 (xAD b0 3) (xAc r1), xIR r1 r2, AbC 62 (xAD r1.2 4) (xAc r3), xIR r3 r4, Ln (Exp.args b3) + Ln [(Exp.mk 4 0 [] [(Exp.re r2), (Exp.re r4)])] ≤ Lim] := by kernel_rfl
def xUO (x4 x5 : Int) (b0 : Cur) (b2 b3 r1 : Exp) : rS 4 I122 (xN5 x4 x5 b0 b2 b3) [F] [xAT r1] = dn (xC4 (r1, b0)) [xIN x5 x4, AbC 119 (xCo [116, 97, 98, 108, 101] [(Exp.mk 2 0 [97, 32, 98] []), (Exp.re b3)]) (xAT r1)] := by kernel_rfl
def xUP (a0 : Cur) (r1 : Int × Cur) : rE I122 (xFk a0) [] [xAc r1] = st 4 I122 (xN5 r1.1 0 r1.2 (Exp.mk 0 0 [] []) (Exp.mk 4 0 [] [])) [AbC 62 (xAD a0 4) (xAc r1)] := by kernel_rfl
theorem vCX {N : Nat} : ∀ n x4 x5 b0 b2 b3 r, xFl N n x4 x5 b0 b2 b3 = some r → RS Tryz.f122 I122 4 (xN5 x4 x5 b0 b2 b3) (xC4 r) := by
 intro n
 induction n with
 | zero => exact fun _ _ _ _ _ _ h => nE h
 | succ n ih =>
  exact fun x4 x5 b0 b2 b3 r h =>
   cE h (fun h0 h => bE h fun r1 h1 h => bE h fun r2 h2 h => bE h fun r3 h3 h => bE h fun r4 h4 h => iE h fun h5 h => tS xTa (xUN x4 x5 b0 b2 b3 r1 r2 r3 r4) (oc6 h0 (xAh h1) (xC3 h2) (xAh h3) (xC3 h4) h5 on) (ih _ _ _ _ _ _ h)) fun h0 h =>
   bE h fun r1 h1 h => dS h xTa (xUO x4 x5 b0 b2 b3 r1) (oc2 h0 (xDp h1) on)
theorem vCY {N : Nat} : ∀ a0 r, xGv N a0 = some r → RE Tryz.f122 I122 (xFk a0) (xC4 r) := fun a0 r h =>
 bE h fun r1 h0 h => tE xTa (xUP a0 r1) (oc (xAh h0) on) (vCX _ _ _ _ _ _ _ h)
theorem xHQ {N : Nat} {a0 : Cur} {r : Exp × Cur} (h : xGv N  a0 = some r) : AbC 122 (xFk a0) (xC4 r) :=
 AbsCalls.of_reach xTa rfl rfl (Nat.le_of_ble_eq_true rfl) (vCY a0 r h)
def G99 (q : Cur → (List Str) → Int → Option (Exp × Cur)) : Prop := ∀ a0 a1 a2 r, q a0 a1 a2 = some r → AbC 99 (xAG a0 a1 a2) (xAj r)
noncomputable def I99 : Info := { body := (Tryz.f99.body).getD .skip, nt := 209, results := [.cell 6 25], keep := [0, 2, 4, 12, 14, 16, 20, 30, 32, 66, 114, 152, 198, 208, 242, 288, 324, 358, 384, 1, 13], live := [], modes := [(8, [(4, .cp, true), (5, .take, false)]), (9, [(10, .cp, true), (13, .take, false)]), (13, [(4, .cp, true), (5, .take, false)]), (14, [(9, .cp, true), (12, .take, false)]), (18, [(1, .cp, true), (2, .take, false), (6, .cp, true), (12, .take, false), (13, .cp, true), (14, .take, false)]), (20, [(1, .cp, true), (2, .take, false), (9, .cp, true), (16, .cp, true), (17, .take, false), (18, .take, false), (19, .cp, true), (20, .take, false)]), (22, [(14, .cp, true), (15, .take, false)]), (24, [(13, .cp, true), (14, .take, false)]), (26, [(9, .cp, true), (10, .take, false)]), (28, [(4, .cp, true), (5, .take, false)]), (29, [(3, .cp, true), (4, .take, false), (6, .cp, true), (7, .take, false)])], ext := [0], fcast := [(13, 3, true)] }
theorem fk99 : FnOk Tryz.prog 99 Tryz.f99 I99 := ⟨Tryz.func99, by kernel_rfl, by kernel_rfl, by kernel_rfl, by kernel_rfl⟩
def vB8 (a0 : Cur) (a1 : List Str) (a2 : Int) (r1 : Exp × Cur) : rE I99 (xAG a0 a1 a2) [Y] [xCz r1] = dn (xAj (r1.1, r1.2)) [iY (dc (a2 < 2)), AbC 63 (xDN a0 a1) (xCz r1)] := by kernel_rfl
abbrev xHr (v0 : Int) : Prop := iN (dc (v0 < 2))
abbrev xHs (v0 : Cur) (v1 : Int × Cur) : Prop := AbC 62 (xAD v0 13) (xAc v1)
abbrev xJ2 (v0 : Exp × Cur) (v1 : List Str) (v2 : Int) (v3 : Exp × Cur) : Prop := AbC 99 (xAG v0.2 v1 (W (v2 - 1))) (xAj v3)
def vB9 (a0 : Cur) (a1 : List Str) (a2 : Int) (r1 : Int × Cur) (r2 : Int × Cur) (r3 : Exp × Cur) (r4 : Exp × Cur) (r5 : Exp) : rE I99 (xAG a0 a1 a2) [F, Y, Y] [xAc r1, xAc r2, xAj r3, xAj r4, xBv r5] = dn (xAj (r5, r4.2)) [xHr a2, xHs a0 r1, iY (r1.1 == 0), iY (r1.1 == 0), AbC 62 (xAD r1.2 5) (xAc r2), AbC 99 (xAG r2.2 a1 (W (a2 - 1))) (xAj r3), xJ2 r3 a1 a2 r4, AbC 66 (xDB (W (1 + r2.1)) r3.1 r4.1) (xBv r5)] := by kernel_rfl
def vCa (a0 : Cur) (a1 : List Str) (a2 : Int) (r1 : Int × Cur) (r2 : Int × Cur) (r3 : Exp × Cur) (r4 : Exp × Cur) (r5 : Exp) : rE I99 (xAG a0 a1 a2) [F, F, Y] [xAc r1, xAc r2, xAj r3, xAj r4, xBv r5] = dn (xAj (r5, r4.2)) [xHr a2, xHs a0 r1, xFS r1, iY (r1.1 == 1), AbC 62 (xAD r1.2 5) (xAc r2), AbC 99 (xAG r2.2 a1 (W (a2 - 1))) (xAj r3), xJ2 r3 a1 a2 r4, AbC 66 (xDB (W (1 + r2.1)) r3.1 r4.1) (xBv r5)] := by kernel_rfl
def vCb (a0 : Cur) (a1 : List Str) (a2 : Int) (r1 : Int × Cur) (r2 : Str × Cur) (r3 : Exp × Cur) (r4 : Exp × Cur) : rE I99 (xAG a0 a1 a2) [F, F, F, Y] [xAc r1, xA5 r2, xAj r3, xAj r4] = dn (xAj ((Exp.mk 7 0 r2.1 [(Exp.re r3.1), (Exp.re r4.1)]), r4.2)) [xHr a2, xHs a0 r1, xFS r1, xGU r1, iY (r1.1 == 2), (0 : Int) ≤ 0 ∧ (0 : Int) < (Ln a1), AbC 64 (xCG r1.2 [[117], [118], (gD a1 (tN 0) Ty.str.dflt)]) (xA5 r2), AbC 99 (xAG r2.2 a1 (W (a2 - 1))) (xAj r3), Ln [r2.1] + Ln a1 ≤ Lim, AbC 99 (xAG r3.2 ([r2.1] ++ a1) (W (a2 - 1))) (xAj r4)] := by kernel_rfl
def vCc (a0 : Cur) (a1 : List Str) (a2 : Int) (r1 : Int × Cur) (r2 : Exp × Cur) (r3 : Exp × Cur) (r4 : Exp × Cur) : rE I99 (xAG a0 a1 a2) [F, F, F, F, Y] [xAc r1, xAj r2, xAj r3, xAj r4] = dn (xAj ((Exp.mk 8 0 [] [(Exp.re r2.1), (Exp.re r3.1), (Exp.re r4.1)]), r4.2)) [xHr a2, xHs a0 r1, xFS r1, xGU r1, xIb r1, iY (r1.1 == 3), AbC 99 (xAG r1.2 a1 (W (a2 - 1))) (xAj r2), xJ2 r2 a1 a2 r3, xJ2 r3 a1 a2 r4] := by kernel_rfl
abbrev xJm (v0 : Int × Cur) : Prop := iN (v0.1 == 3)
def vCd (a0 : Cur) (a1 : List Str) (a2 : Int) (r1 : Int × Cur) (r2 : Str × Cur) (r3 : Exp × Cur) (r4 : Exp × Cur) : rE I99 (xAG a0 a1 a2) [F, F, F, F, F, Y] [xAc r1, xA5 r2, xCA r3, xAj r4] = dn (xAj ((Exp.mk 9 0 r2.1 [(Exp.re r3.1), (Exp.re r4.1)]), r4.2)) [xHr a2, xHs a0 r1, xFS r1, xGU r1, xIb r1, xJm r1, iY (r1.1 == 4), (0 : Int) ≤ 0 ∧ (0 : Int) < (Ln a1), AbC 64 (xCG r1.2 [[117], [118], (gD a1 (tN 0) Ty.str.dflt)]) (xA5 r2), AbC 118 (xE5 r2.2 a1) (xCA r3), Ln [r2.1, r2.1] + Ln a1 ≤ Lim, AbC 99 (xAG r3.2 ([r2.1, r2.1] ++ a1) (W (a2 - 1))) (xAj r4)] := by kernel_rfl
def vCe (a0 : Cur) (a1 : List Str) (a2 : Int) (r1 : Int × Cur) (r2 : Exp × Cur) : rE I99 (xAG a0 a1 a2) [F, F, F, F, F, F, Y] [xAc r1, xCA r2] = dn (xAj (r2.1, r2.2)) [xHr a2, xHs a0 r1, xFS r1, xGU r1, xIb r1, xJm r1, iN (r1.1 == 4), iY (r1.1 == 5), AbC 118 (xE5 r1.2 a1) (xCA r2)] := by kernel_rfl
def vCf (a0 : Cur) (a1 : List Str) (a2 : Int) (r1 : Int × Cur) (r2 : Str × Cur) (r3 : Exp × Cur) (r4 : Exp × Cur) (r5 : Exp × Cur) (r6 : Exp) : rE I99 (xAG a0 a1 a2) [F, F, F, F, F, F, F, Y] [xAc r1, xA5 r2, xCA r3, xAj r4, xA9 r5, xAT r6] = dn (xAj (r6, r5.2)) [xHr a2, xHs a0 r1, xFS r1, xGU r1, xIb r1, xJm r1, iN (r1.1 == 4), iN (r1.1 == 5), iY (r1.1 == 6), AbC 64 (xCG r1.2 [[108, 101, 110], [115, 117, 109]]) (xA5 r2), AbC 118 (xE5 r2.2 a1) (xCA r3), xJ2 r3 a1 a2 r4, AbC 120 (xCu r4.2 r3.1 r4.1) (xA9 r5), AbC 119 (xCo r2.1 [(Exp.re r5.1)]) (xAT r6)] := by kernel_rfl
def vCg (a0 : Cur) (a1 : List Str) (a2 : Int) (r1 : Int × Cur) (r2 : Str × Cur) (r3 : Int × Cur) (r4 : Exp) (r5 : Exp × Cur) (r6 : Int × Cur) (r7 : Exp) (r8 : Int × Cur) (r9 r10 : Exp) (r11 : Exp × Cur) (r12 : Exp) : rE I99 (xAG a0 a1 a2) [F, F, F, F, F, F, F, F, Y] [xAc r1, xA5 r2, xAc r3, xBC r4, xCA r5, xAc r6, xBC r7, xAc r8, xBC r9, xAT r10, xA9 r11, xAT r12] = dn (xAj (r12, r11.2)) [xHr a2, xHs a0 r1, xFS r1, xGU r1, xIb r1, xJm r1, iN (r1.1 == 4), iN (r1.1 == 5), iN (r1.1 == 6), iY (r1.1 == 7), AbC 64 (xCG r1.2 [[116, 97, 107, 101], [115, 107, 105, 112], [110, 116, 104], [116, 97, 107, 101]]) (xA5 r2), AbC 62 (xAD r2.2 4) (xAc r3), xIR r3 r4, AbC 118 (xE5 r3.2 a1) (xCA r5), AbC 62 (xAD r5.2 9) (xAc r6), xIR r6 r7, AbC 62 (xAD r6.2 4) (xAc r8), xIR r8 r9, AbC 119 (xCo [114, 97, 110, 103, 101] [(Exp.re r7), (Exp.re r9)]) (xAT r10), AbC 120 (xCu r8.2 r5.1 r10) (xA9 r11), AbC 119 (xCo r2.1 [(Exp.re r4), (Exp.re r11.1)]) (xAT r12)] := by kernel_rfl
def vCh (a0 : Cur) (a1 : List Str) (a2 : Int) (r1 : Int × Cur) (r2 : Exp × Cur) (r3 : Int × Cur) (r4 : Exp) (r5 : Exp × Cur) (r6 : Exp × Cur) (r7 : Exp × Cur) (r8 : Exp) : rE I99 (xAG a0 a1 a2) [F, F, F, F, F, F, F, F, F, Y] [xAc r1, xC9 r2, xAc r3, xBC r4, xC4 r5, xAj r6, xA9 r7, xAT r8] = dn (xAj (r8, r7.2)) [xHr a2, xHs a0 r1, xFS r1, xGU r1, xIb r1, xJm r1, iN (r1.1 == 4), iN (r1.1 == 5), iN (r1.1 == 6), iN (r1.1 == 7), iY (r1.1 == 8), AbC 121 (xEU r1.2) (xC9 r2), AbC 62 (xAD r2.2 3) (xAc r3), xIR r3 r4, AbC 122 (xFk r3.2) (xC4 r5), xJ2 r5 a1 a2 r6, AbC 120 (xCu r6.2 r5.1 r6.1) (xA9 r7), AbC 119 (xCo [119, 104, 101, 114, 101] [(Exp.re r2.1), (Exp.re r4), (Exp.re r7.1)]) (xAT r8)] := by kernel_rfl
def xWq (a0 : Cur) (a1 : List Str) (a2 : Int) (r1 : Int × Cur) (r2 : Exp × Cur) (r3 : Exp × Cur) (r4 : Exp × Cur) (r5 : Exp × Cur) (r6 : Exp × Cur) (r7 : Exp) : rE I99 (xAG a0 a1 a2) [F, F, F, F, F, F, F, F, F, F, Y] [xAc r1, xC9 r2, xC9 r3, xC4 r4, xAj r5, xA9 r6, xAT r7] = dn (xAj (r7, r6.2)) [xHr a2, xHs a0 r1, xFS r1, xGU r1, xIb r1, xJm r1, iN (r1.1 == 4), iN (r1.1 == 5), iN (r1.1 == 6), iN (r1.1 == 7), iN (r1.1 == 8), iY (r1.1 == 9), AbC 121 (xEU r1.2) (xC9 r2), AbC 121 (xEU r2.2) (xC9 r3), AbC 122 (xFk r3.2) (xC4 r4), xJ2 r4 a1 a2 r5, AbC 120 (xCu r5.2 r4.1 r5.1) (xA9 r6), AbC 119 (xCo [103, 114, 111, 117, 112] [(Exp.re r2.1), (Exp.re r3.1), (Exp.re r6.1)]) (xAT r7)] := by kernel_rfl
def xWr (a0 : Cur) (a1 : List Str) (a2 : Int) (r1 : Int × Cur) (r2 : Exp × Cur) (r3 : Exp × Cur) (r4 : Exp × Cur) (r5 : Exp) : rE I99 (xAG a0 a1 a2) [F, F, F, F, F, F, F, F, F, F, F, Y] [xAc r1, xC4 r2, xAj r3, xA9 r4, xAT r5] = dn (xAj (r5, r4.2)) [xHr a2, xHs a0 r1, xFS r1, xGU r1, xIb r1, xJm r1, iN (r1.1 == 4), iN (r1.1 == 5), iN (r1.1 == 6), iN (r1.1 == 7), iN (r1.1 == 8), iN (r1.1 == 9), iY (r1.1 == 10), AbC 122 (xFk r1.2) (xC4 r2), xJ2 r2 a1 a2 r3, AbC 120 (xCu r3.2 r2.1 r3.1) (xA9 r4), AbC 119 (xCo [114, 111, 119, 115] [(Exp.re r4.1)]) (xAT r5)] := by kernel_rfl
def xWs (a0 : Cur) (a1 : List Str) (a2 : Int) (r1 : Int × Cur) (r2 : Int × Cur) (r3 r4 : Exp) : rE I99 (xAG a0 a1 a2) [F, F, F, F, F, F, F, F, F, F, F, F, Y] [xAc r1, xAc r2, xBC r3, xAT r4] = dn (xAj (r4, r2.2)) [xHr a2, xHs a0 r1, xFS r1, xGU r1, xIb r1, xJm r1, iN (r1.1 == 4), iN (r1.1 == 5), iN (r1.1 == 6), iN (r1.1 == 7), iN (r1.1 == 8), iN (r1.1 == 9), iN (r1.1 == 10), iY (r1.1 == 11), xLK r1 r2, AbC 67 (xF5 (W (1 + r2.1))) (xBC r3), AbC 119 (xCo [99, 104, 97, 110, 99, 101] [(Exp.re r3)]) (xAT r4)] := by kernel_rfl
def xWt (a0 : Cur) (a1 : List Str) (a2 : Int) (r1 : Int × Cur) (r2 : Exp) (r3 : Str × Cur) (r4 : Exp) (r5 : Exp × Cur) : rE I99 (xAG a0 a1 a2) [F, F, F, F, F, F, F, F, F, F, F, F, F] [xAc r1, xAT r2, xA5 r3, xAT r4, xA9 r5] = dn (xAj (r5.1, r5.2)) [xHr a2, xHs a0 r1, xFS r1, xGU r1, xIb r1, xJm r1, iN (r1.1 == 4), iN (r1.1 == 5), iN (r1.1 == 6), iN (r1.1 == 7), iN (r1.1 == 8), iN (r1.1 == 9), iN (r1.1 == 10), iN (r1.1 == 11), AbC 119 (xCo [99, 108, 111, 99, 107] []) (xAT r2), AbC 64 (xCG r1.2 [[102], [103], [104]]) (xA5 r3), AbC 119 (xCo [102, 105, 108, 101] [(Exp.mk 2 0 r3.1 [])]) (xAT r4), AbC 120 (xCu r3.2 r2 r4) (xA9 r5)] := by kernel_rfl
theorem vFh {N q0} (g0 : G99 q0) : ∀ a0 a1 a2 r, xEb N q0 a0 a1 a2 = some r → RE Tryz.f99 I99 (xAG a0 a1 a2) (xAj r) := fun a0 a1 a2 r h =>
 cE h (fun h0 h => bE h fun r1 h1 h => dE h fk99 (vB8 a0 a1 a2 r1) (oc2 h0 (xIg h1) on)) fun h0 h =>
 bE h fun r1 h1 h => cE h (fun h2 h => bE h fun r2 h4 h => bE h fun r3 h5 h => bE h fun r4 h6 h => bE h fun r5 h7 h => dE h fk99 (vB9 a0 a1 a2 r1 r2 r3 r4 r5) (oc8 h0 (xAh h1) h2 h2 (xAh h4) (g0 _ _ _ _ h5) (g0 _ _ _ _ h6) (xEJ h7) on)) fun h2 h =>
 cE h (fun h3 h => bE h fun r2 h4 h => bE h fun r3 h5 h => bE h fun r4 h6 h => bE h fun r5 h7 h => dE h fk99 (vCa a0 a1 a2 r1 r2 r3 r4 r5) (oc8 h0 (xAh h1) h2 h3 (xAh h4) (g0 _ _ _ _ h5) (g0 _ _ _ _ h6) (xEJ h7) on)) fun h3 h =>
 cE h (fun h4 h => iE h fun h5 h => bE h fun r2 h6 h => bE h fun r3 h7 h => iE h fun h8 h => bE h fun r4 h9 h => dE h fk99 (vCb a0 a1 a2 r1 r2 r3 r4) (oc10 h0 (xAh h1) h2 h3 h4 h5 (xDI h6) (g0 _ _ _ _ h7) h8 (g0 _ _ _ _ h9) on)) fun h4 h =>
 cE h (fun h5 h => bE h fun r2 h6 h => bE h fun r3 h7 h => bE h fun r4 h8 h => dE h fk99 (vCc a0 a1 a2 r1 r2 r3 r4) (oc9 h0 (xAh h1) h2 h3 h4 h5 (g0 _ _ _ _ h6) (g0 _ _ _ _ h7) (g0 _ _ _ _ h8) on)) fun h5 h =>
 cE h (fun h6 h => iE h fun h7 h => bE h fun r2 h8 h => bE h fun r3 h9 h => iE h fun h10 h => bE h fun r4 h11 h => dE h fk99 (vCd a0 a1 a2 r1 r2 r3 r4) (oc12 h0 (xAh h1) h2 h3 h4 h5 h6 h7 (xDI h8) (xHf h9) h10 (g0 _ _ _ _ h11) on)) fun h6 h =>
 cE h (fun h7 h => bE h fun r2 h8 h => dE h fk99 (vCe a0 a1 a2 r1 r2) (oc9 h0 (xAh h1) h2 h3 h4 h5 h6 h7 (xHf h8) on)) fun h7 h =>
 cE h (fun h8 h => bE h fun r2 h9 h => bE h fun r3 h10 h => bE h fun r4 h11 h => bE h fun r5 h12 h => bE h fun r6 h13 h => dE h fk99 (vCf a0 a1 a2 r1 r2 r3 r4 r5 r6) (oc12 h0 (xAh h1) h2 h3 h4 h5 h6 h7 h8 (xDI h9) (xHf h10) (g0 _ _ _ _ h11) (oc2 (xEz h12) (xDp h13) on))) fun h8 h =>
 cE h (fun h9 h => bE h fun r2 h10 h => bE h fun r3 h11 h => bE h fun r4 h12 h => bE h fun r5 h13 h => bE h fun r6 h14 h => bE h fun r7 h15 h => bE h fun r8 h16 h => bE h fun r9 h17 h => bE h fun r10 h18 h => bE h fun r11 h19 h => bE h fun r12 h20 h => dE h fk99 (vCg a0 a1 a2 r1 r2 r3 r4 r5 r6 r7 r8 r9 r10 r11 r12) (oc12 h0 (xAh h1) h2 h3 h4 h5 h6 h7 h8 h9 (xDI h10) (xAh h11) (oc9 (xC3 h12) (xHf h13) (xAh h14) (xC3 h15) (xAh h16) (xC3 h17) (xDp h18) (xEz h19) (xDp h20) on))) fun h9 h =>
 cE h (fun h10 h => bE h fun r2 h11 h => bE h fun r3 h12 h => bE h fun r4 h13 h => bE h fun r5 h14 h => bE h fun r6 h15 h => bE h fun r7 h16 h => bE h fun r8 h17 h => dE h fk99 (vCh a0 a1 a2 r1 r2 r3 r4 r5 r6 r7 r8) (oc12 h0 (xAh h1) h2 h3 h4 h5 h6 h7 h8 h9 h10 (xHt h11) (oc6 (xAh h12) (xC3 h13) (xHQ h14) (g0 _ _ _ _ h15) (xEz h16) (xDp h17) on))) fun h10 h =>
 cE h (fun h11 h => bE h fun r2 h12 h => bE h fun r3 h13 h => bE h fun r4 h14 h => bE h fun r5 h15 h => bE h fun r6 h16 h => bE h fun r7 h17 h => dE h fk99 (xWq a0 a1 a2 r1 r2 r3 r4 r5 r6 r7) (oc12 h0 (xAh h1) h2 h3 h4 h5 h6 h7 h8 h9 h10 h11 (oc6 (xHt h12) (xHt h13) (xHQ h14) (g0 _ _ _ _ h15) (xEz h16) (xDp h17) on))) fun h11 h =>
 cE h (fun h12 h => bE h fun r2 h13 h => bE h fun r3 h14 h => bE h fun r4 h15 h => bE h fun r5 h16 h => dE h fk99 (xWr a0 a1 a2 r1 r2 r3 r4 r5) (oc12 h0 (xAh h1) h2 h3 h4 h5 h6 h7 h8 h9 h10 h11 (oc5 h12 (xHQ h13) (g0 _ _ _ _ h14) (xEz h15) (xDp h16) on))) fun h12 h =>
 cE h (fun h13 h => bE h fun r2 h14 h => bE h fun r3 h15 h => bE h fun r4 h16 h => dE h fk99 (xWs a0 a1 a2 r1 r2 r3 r4) (oc12 h0 (xAh h1) h2 h3 h4 h5 h6 h7 h8 h9 h10 h11 (oc5 h12 h13 (xAh h14) (xC3 h15) (xDp h16) on))) fun h13 h =>
 bE h fun r2 h14 h => bE h fun r3 h15 h => bE h fun r4 h16 h => bE h fun r5 h17 h => dE h fk99 (xWt a0 a1 a2 r1 r2 r3 r4 r5) (oc12 h0 (xAh h1) h2 h3 h4 h5 h6 h7 h8 h9 h10 h11 (oc6 h12 h13 (xDp h14) (xDI h15) (xDp h16) (xEz h17) on))
theorem xKs {N q0} (g0 : G99 q0) {a0} {a1} {a2} {r} (h : xEb N q0 a0 a1 a2 = some r) : AbC 99 (xAG a0 a1 a2) (xAj r) :=
 AbsCalls.of_reach fk99 rfl rfl (Nat.le_of_ble_eq_true rfl) (vFh g0 a0 a1 a2 r h)
theorem xIj {N : Nat} : ∀ d, G99 (xDA N d)
 | 0 => fun _ _ _ _ h => nE h
 | d + 1 => fun _ _ _ _ h => xKs (N := N) (xIj d) h
theorem xKb {N : Nat} {a0 : Cur} {a1 : List Str} {a2 : Int} {r : Exp × Cur} (h : xKa N a0 a1 a2 = some r) : AbC 99 (xAG a0 a1 a2) (xAj r) := xIj N _ _ _ r h
noncomputable def I61 : Info := { body := (Tryz.f61.body).getD .skip, nt := 17, results := [.cell 2 25], keep := [0, 4, 6, 24, 1, 5, 7], live := [], modes := [(1, [(1, .cp, true)]), (3, [(1, .cp, true)])], ext := [0], fcast := [(5, 3, true)] }
theorem fk61 : FnOk Tryz.prog 61 Tryz.f61 I61 := ⟨Tryz.func61, by kernel_rfl, by kernel_rfl, by kernel_rfl, by kernel_rfl⟩
def xZ5 (a0 : Cur) (r1 : Int × Cur) (r2 : Exp × Cur) (r3 : Bool) (r4 : Exp × Cur) : rE I61 (xE4 a0) [Y] [xAc r1, xAj r2, xAF r3, xCz r4] = dn (xDq (r4.1, r4.2)) [AbC 62 (xAD a0 4) (xAc r1), AbC 99 (xAG r1.2 [[97], [98], [99]] (W (1 + r1.1))) (xAj r2), AbC 22 (xB9 r2.1) (xAF r3), iY (!r3), AbC 63 (xDN r2.2 [[97], [98], [99]]) (xCz r4)] := by kernel_rfl
def xZ6 (a0 : Cur) (r1 : Int × Cur) (r2 : Exp × Cur) (r3 : Bool) : rE I61 (xE4 a0) [F] [xAc r1, xAj r2, xAF r3] = dn (xDq (r2.1, r2.2)) [AbC 62 (xAD a0 4) (xAc r1), AbC 99 (xAG r1.2 [[97], [98], [99]] (W (1 + r1.1))) (xAj r2), AbC 22 (xB9 r2.1) (xAF r3), iN (!r3)] := by kernel_rfl
theorem vEC {N : Nat} : ∀ a0 r, xIz N a0 = some r → RE Tryz.f61 I61 (xE4 a0) (xDq r) := fun a0 r h =>
 bE h fun r1 h0 h => bE h fun r2 h1 h => bE h fun r3 h2 h => cE h (fun h3 h => bE h fun r4 h4 h => dE h fk61 (xZ5 a0 r1 r2 r3 r4) (oc5 (xAh h0) (xKb h1) (xCa h2) h3 (xIg h4) on)) fun h3 h =>
 dE h fk61 (xZ6 a0 r1 r2 r3) (oc4 (xAh h0) (xKb h1) (xCa h2) h3 on)
theorem xIf {N : Nat} {a0 : Cur} {r : Exp × Cur} (h : xIz N  a0 = some r) : AbC 61 (xE4 a0) (xDq r) :=
 AbsCalls.of_reach fk61 rfl rfl (Nat.le_of_ble_eq_true rfl) (vEC a0 r h)
noncomputable def I84 : Info := { body := (Tryz.f84.body).getD .skip, nt := 34, results := [.tmp 6], keep := [0, 2, 4, 12, 14, 28, 30, 56, 1], live := [], modes := [], ext := [0] }
theorem fk84 : FnOk Tryz.prog 84 Tryz.f84 I84 := ⟨Tryz.func84, by kernel_rfl, by kernel_rfl, by kernel_rfl, by kernel_rfl⟩
def vBr (a0 : Cur) (a1 : Str) (a2 : List Str) (r1 : Int × Cur) (r2 : Int × Cur) (r3 : Str × Cur) : rE I84 (xFm a0 a1 a2) [Y] [xAc r1, xAc r2, xA5 r3] = dn (xEF ((((List.take (tN r1.1) a1) ++ r3.1) ++ (List.drop (tN r1.1) a1)), r3.2)) [AbC 62 (xAD a0 (W ((Ln a1 : Int) + 1))) (xAc r1), xLK r1 r2, iY (r2.1 == 0), (0 : Int) ≤ r1.1 ∧ r1.1 ≤ (Ln a1), AbC 64 (xCG r2.2 a2) (xA5 r3), Ln (List.take (tN r1.1) a1) + Ln r3.1 ≤ Lim, (0 : Int) ≤ r1.1 ∧ r1.1 ≤ (Ln a1), Ln ((List.take (tN r1.1) a1) ++ r3.1) + Ln (List.drop (tN r1.1) a1) ≤ Lim] := by kernel_rfl
def vBs (a0 : Cur) (a1 : Str) (a2 : List Str) (r1 : Int × Cur) (r2 : Int × Cur) : rE I84 (xFm a0 a1 a2) [F, Y] [xAc r1, xAc r2] = dn (xEF ((List.take (tN r1.1) a1), r2.2)) [AbC 62 (xAD a0 (W ((Ln a1 : Int) + 1))) (xAc r1), xLK r1 r2, xFS r2, iY (r2.1 == 1), (0 : Int) ≤ r1.1 ∧ r1.1 ≤ (Ln a1)] := by kernel_rfl
def vBt (a0 : Cur) (a1 : Str) (a2 : List Str) (r1 : Int × Cur) (r2 : Int × Cur) : rE I84 (xFm a0 a1 a2) [F, F] [xAc r1, xAc r2] = dn (xEF (a1, r2.2)) [AbC 62 (xAD a0 (W ((Ln a1 : Int) + 1))) (xAc r1), xLK r1 r2, xFS r2, xGU r2] := by kernel_rfl
theorem vE2 {N : Nat} : ∀ a0 a1 a2 r, xHh N a0 a1 a2 = some r → RE Tryz.f84 I84 (xFm a0 a1 a2) (xEF r) := fun a0 a1 a2 r h =>
 bE h fun r1 h0 h => bE h fun r2 h1 h => cE h (fun h2 h => iE h fun h3 h => bE h fun r3 h4 h => iE h fun h5 h => iE h fun h7 h => dE h fk84 (vBr a0 a1 a2 r1 r2 r3) (oc8 (xAh h0) (xAh h1) h2 h3 (xDI h4) h5 h3 h7 on)) fun h2 h =>
 cE h (fun h3 h => iE h fun h4 h => dE h fk84 (vBs a0 a1 a2 r1 r2) (oc5 (xAh h0) (xAh h1) h2 h3 h4 on)) fun h3 h =>
 dE h fk84 (vBt a0 a1 a2 r1 r2) (oc4 (xAh h0) (xAh h1) h2 h3 on)
theorem xMc {N : Nat} {a0 : Cur} {a1 : Str} {a2 : List Str} {r : Str × Cur} (h : xHh N  a0 a1 a2 = some r) : AbC 84 (xFm a0 a1 a2) (xEF r) :=
 AbsCalls.of_reach fk84 rfl rfl (Nat.le_of_ble_eq_true rfl) (vE2 a0 a1 a2 r h)
noncomputable def I44 : Info := { body := (Tryz.f44.body).getD .skip, nt := 21, results := [.tmp 2], keep := [0, 4, 6, 16, 18, 30, 1], live := [], modes := [(4, [(2, .cp, true)]), (6, [(1, .cp, true)])], ext := [0] }
theorem fk44 : FnOk Tryz.prog 44 Tryz.f44 I44 := ⟨Tryz.func44, by kernel_rfl, by kernel_rfl, by kernel_rfl, by kernel_rfl⟩
def xZa (a0 : Cur) (r1 : Exp × Cur) (r2 : Str) (r3 : Int × Cur) (r4 : Str × Cur) : rE I44 (xFL a0) [Y] [xDq r1, xBO r2, xAc r3, xEF r4] = dn (xE9 (r4.1, r4.2)) [AbC 61 (xE4 a0) (xDq r1), AbC 21 (xDi r1.1) (xBO r2), AbC 62 (xAD r1.2 5) (xAc r3), iY (r3.1 == 0), AbC 84 (xFm r3.2 r2 [[32], [40], [41], [44], [32, 43, 32], [32, 105, 110, 32], [108, 101, 116, 32], [120], [61], [93]]) (xEF r4)] := by kernel_rfl
def xZb (a0 : Cur) (r1 : Exp × Cur) (r2 : Str) (r3 : Int × Cur) (r4 : Str × Cur) : rE I44 (xFL a0) [F, Y] [xDq r1, xBO r2, xAc r3, xA5 r4] = dn (xE9 (r4.1, r4.2)) [AbC 61 (xE4 a0) (xDq r1), AbC 21 (xDi r1.1) (xBO r2), AbC 62 (xAD r1.2 5) (xAc r3), xFS r3, iY (r3.1 == 1), AbC 64 (xCG r3.2 [[], [49, 32, 43, 32, 50, 32, 42, 32, 51], [40, 49, 32, 43, 32, 50, 41, 32, 42, 32, 51], [49, 32, 60, 32, 50, 32, 60, 32, 51], [97, 32, 45, 32, 98, 32, 45, 32, 99], [108, 101, 116, 32, 120, 32, 61, 32, 49, 32, 105, 110, 32, 120, 32, 43, 32, 120], [102, 111, 114, 32, 117, 32, 105, 110, 32, 91, 49, 44, 32, 50, 93, 32, 100, 111, 32, 117, 32, 42, 32, 117], [105, 102, 32, 97, 32, 116, 104, 101, 110, 32, 98, 32, 101, 108, 115, 101, 32, 99], [115, 117, 109, 40, 49, 44, 32, 50, 41], [102, 40, 49, 41], [108, 101, 116, 32, 108, 101, 116, 32, 61, 32, 49, 32, 105, 110, 32, 50], [115, 117, 109], [49, 32, 50], [91, 49, 44, 93], [91, 93], [40, 40, 97, 41, 41], [49, 32, 43, 32, 108, 101, 116, 32, 120, 32, 61, 32, 49, 32, 105, 110, 32, 120]]) (xA5 r4)] := by kernel_rfl
def xZc (a0 : Cur) (r1 : Exp × Cur) (r2 : Str) (r3 : Int × Cur) : rE I44 (xFL a0) [F, F] [xDq r1, xBO r2, xAc r3] = dn (xE9 (r2, r3.2)) [AbC 61 (xE4 a0) (xDq r1), AbC 21 (xDi r1.1) (xBO r2), AbC 62 (xAD r1.2 5) (xAc r3), xFS r3, xGU r3] := by kernel_rfl
theorem vEh {N : Nat} : ∀ a0 r, xIB N a0 = some r → RE Tryz.f44 I44 (xFL a0) (xE9 r) := fun a0 r h =>
 bE h fun r1 h0 h => bE h fun r2 h1 h => bE h fun r3 h2 h => cE h (fun h3 h => bE h fun r4 h4 h => dE h fk44 (xZa a0 r1 r2 r3 r4) (oc5 (xIf h0) (xGb h1) (xAh h2) h3 (xMc h4) on)) fun h3 h =>
 cE h (fun h4 h => bE h fun r4 h5 h => dE h fk44 (xZb a0 r1 r2 r3 r4) (oc6 (xIf h0) (xGb h1) (xAh h2) h3 h4 (xDI h5) on)) fun h4 h =>
 dE h fk44 (xZc a0 r1 r2 r3) (oc5 (xIf h0) (xGb h1) (xAh h2) h3 h4 on)
theorem xML {N : Nat} {a0 : Cur} {r : Str × Cur} (h : xIB N  a0 = some r) : AbC 44 (xFL a0) (xE9 r) :=
 AbsCalls.of_reach fk44 rfl rfl (Nat.le_of_ble_eq_true rfl) (vEh a0 r h)
end Go.Ab.T
end
section
open Go.Proofs
namespace Go.Ab.T
set_option maxRecDepth 100000
variable [Inhabited Lb]
variable [Nonempty Tab10]
variable [Nonempty ErrVars]
noncomputable def I27 : Info := { body := (Tryz.f27.body).getD .skip, nt := 6, results := [.tmp 2], keep := [0, 4, 9], live := [], modes := [] }
theorem fk27 : FnOk Tryz.prog 27 Tryz.f27 I27 := ⟨Tryz.func27, by kernel_rfl, by kernel_rfl, by kernel_rfl, by kernel_rfl⟩
def xX9 (a0 : List Int) (r1 : Cur) (r2 : Str × Cur) : rE I27 (xEi a0) [] [xFZ r1, xE9 r2] = dn (xAP r2.1) [AbC 37 (xHX a0) (xFZ r1), AbC 44 (xFL r1) (xE9 r2)] := by kernel_rfl
theorem vDY {N : Nat} : ∀ a0 r, xD4 N a0 = some r → RE Tryz.f27 I27 (xEi a0) (xAP r) := fun a0 r h =>
 bE h fun r1 h0 h => bE h fun r2 h1 h => dE h fk27 (xX9 a0 r1 r2) (oc2 (xNZ h0) (xML h1) on)
theorem xBu {N : Nat} {a0 : List Int} {r : Str} (h : xD4 N  a0 = some r) : AbC 27 (xEi a0) (xAP r) :=
 AbsCalls.of_reach fk27 rfl rfl (Nat.le_of_ble_eq_true rfl) (vDY a0 r h)
def G24 (q : Exp → Exp → Option (Bool)) : Prop := ∀ a0 a1 r, q a0 a1 = some r → AbC 24 (xBy a0 a1) (xAN r)
noncomputable def I24 : Info := { body := (Tryz.f24.body).getD .skip, nt := 53, results := [.tmp 4], keep := [0, 2, 4, 6, 8, 10, 66, 72, 74, 76, 102, 5, 7], live := [(4, [4, 6, 72, 74, 5, 7])], modes := [(1, [(5, .take, false), (12, .take, false), (19, .take, false)]), (8, [(1, .take, false)])] }
theorem fk24 : FnOk Tryz.prog 24 Tryz.f24 I24 := ⟨Tryz.func24, by kernel_rfl, by kernel_rfl, by kernel_rfl, by kernel_rfl⟩
def xQr (x36 x37 : Int) (b2 b3 : Exp) : St := [(4, .v false [.ptr 2 0]), (6, .v false [.ptr 3 0]), (72, .v false [.int .i64 x36]), (74, .v false [.int .i64 x37]), (5, .v true [.int .i64 (Exp.kind b2), .int .i64 (Exp.n b2), .str (Exp.text b2), .sl .ro .exp (Exp.args b2)]), (7, .v true [.int .i64 (Exp.kind b3), .int .i64 (Exp.n b3), .str (Exp.text b3), .sl .ro .exp (Exp.args b3)])]
def xX1 (x36 x37 : Int) (b2 b3 : Exp) (r1 : Bool) : rS 4 I24 (xQr x36 x37 b2 b3) [Y, Y] [xAN r1] = dn (xAN false) [xHa x37 x36, xL4 x37 b2, xL4 x37 b3, AbC 24 (xBy (xJ6 b2 x37) (xJ6 b3 x37)) (xAN r1), iY (!r1)] := by kernel_rfl
def xX2 (x36 x37 : Int) (b2 b3 : Exp) (r1 : Bool) : rS 4 I24 (xQr x36 x37 b2 b3) [Y, F] [xAN r1] = st 4 I24 (xQr x36 (W (x37 + 1)) b2 b3) [xHa x37 x36, xL4 x37 b2, xL4 x37 b3, AbC 24 (xBy (xJ6 b2 x37) (xJ6 b3 x37)) (xAN r1), iN (!r1)] := by kernel_rfl
def xX3 (x36 x37 : Int) (b2 b3 : Exp) : rS 4 I24 (xQr x36 x37 b2 b3) [F] [] = dn (xAN true) [xIN x37 x36] := by kernel_rfl
def xX4 (a0 a1 : Exp) : rE I24 (xBy a0 a1) [Y, Y, Y, Y] [] = dn (xAN false) [iY ((Exp.kind a0) != (Exp.kind a1)), iY true, iY true, iY true] := by kernel_rfl
abbrev xNG (v0 v1 : Exp) : Prop := iN ((Exp.kind v0) != (Exp.kind v1))
def xX5 (a0 a1 : Exp) : rE I24 (xBy a0 a1) [F, Y, Y, Y] [] = dn (xAN false) [xNG a0 a1, iY ((Exp.n a0) != (Exp.n a1)), iY true, iY true] := by kernel_rfl
def xX6 (a0 a1 : Exp) : rE I24 (xBy a0 a1) [F, F, Y, Y] [] = dn (xAN false) [xNG a0 a1, iN ((Exp.n a0) != (Exp.n a1)), iY (!(((Exp.text a0) : Str) == (Exp.text a1))), iY true] := by kernel_rfl
def xX7 (a0 a1 : Exp) : rE I24 (xBy a0 a1) [F, F, F, Y] [] = dn (xAN false) [xNG a0 a1, iN ((Exp.n a0) != (Exp.n a1)), iN (!(((Exp.text a0) : Str) == (Exp.text a1))), iY ((xHb a0) != (xHb a1))] := by kernel_rfl
def xX8 (a0 a1 : Exp) : rE I24 (xBy a0 a1) [F, F, F, F] [] = st 4 I24 (xQr (xHb a0) 0 a0 a1) [xNG a0 a1, iN ((Exp.n a0) != (Exp.n a1)), iN (!(((Exp.text a0) : Str) == (Exp.text a1))), iN ((xHb a0) != (xHb a1))] := by kernel_rfl
theorem vDW {N q0} (g0 : G24 q0) : ∀ n x36 x37 b2 b3 r, xEQ N q0 n x36 x37 b2 b3 = some r → RS Tryz.f24 I24 4 (xQr x36 x37 b2 b3) (xAN r) := by
 intro n
 induction n with
 | zero => exact fun _ _ _ _ _ h => nE h
 | succ n ih =>
  exact fun x36 x37 b2 b3 r h =>
   cE h (fun h0 h => iE h fun h1 h => iE h fun h2 h => bE h fun r1 h3 h => cE h (fun h4 h => dS h fk24 (xX1 x36 x37 b2 b3 r1) (oc5 h0 h1 h2 (g0 _ _ _ h3) h4 on)) fun h4 h =>
   tS fk24 (xX2 x36 x37 b2 b3 r1) (oc5 h0 h1 h2 (g0 _ _ _ h3) h4 on) (ih _ _ _ _ _ h)) fun h0 h =>
   dS h fk24 (xX3 x36 x37 b2 b3) (oc h0 on)
theorem vDX {N q0} (g0 : G24 q0) : ∀ a0 a1 r, xEV N q0 a0 a1 = some r → RE Tryz.f24 I24 (xBy a0 a1) (xAN r) := fun a0 a1 r h =>
 cE h (fun h0 h => dE h fk24 (xX4 a0 a1) (oc4 h0 rfl rfl rfl on)) fun h0 h =>
 cE h (fun h1 h => dE h fk24 (xX5 a0 a1) (oc4 h0 h1 rfl rfl on)) fun h1 h =>
 cE h (fun h2 h => dE h fk24 (xX6 a0 a1) (oc4 h0 h1 h2 rfl on)) fun h2 h =>
 cE h (fun h3 h => dE h fk24 (xX7 a0 a1) (oc4 h0 h1 h2 h3 on)) fun h3 h =>
 tE fk24 (xX8 a0 a1) (oc4 h0 h1 h2 h3 on) (vDW g0 _ _ _ _ _ _ h)
theorem xJB {N q0} (g0 : G24 q0) {a0} {a1} {r} (h : xEV N q0 a0 a1 = some r) : AbC 24 (xBy a0 a1) (xAN r) :=
 AbsCalls.of_reach fk24 rfl rfl (Nat.le_of_ble_eq_true rfl) (vDX g0 a0 a1 r h)
theorem xHC {N : Nat} : ∀ d, G24 (xEs N d)
 | 0 => fun _ _ _ h => nE h
 | d + 1 => fun _ _ _ h => xJB (N := N) (xHC d) h
theorem xHn {N : Nat} {a0 : Exp} {a1 : Exp} {r : Bool} (h : xIG N a0 a1 = some r) : AbC 24 (xBy a0 a1) (xAN r) := xHC N _ _ r h
noncomputable def I8 : Info := { body := (Tryz.f8.body).getD .skip, nt := 81, results := [.tmp 2], keep := [0, 4, 6, 8, 10, 12, 14, 16, 20, 22, 24, 26, 30, 70, 74, 102, 17, 21], live := [], modes := [(4, [(2, .take, false)]), (5, [(2, .take, false)]), (6, [(1, .take, false), (3, .take, false), (5, .take, false)]), (9, [(2, .take, false)]), (10, [(2, .take, false)]), (13, [(2, .take, false)]), (14, [(2, .take, false)]), (15, [(0, .take, false), (2, .take, false), (7, .take, false), (8, .take, false), (10, .take, false), (11, .take, false)])] }
theorem fk8 : FnOk Tryz.prog 8 Tryz.f8 I8 := ⟨Tryz.func8, by kernel_rfl, by kernel_rfl, by kernel_rfl, by kernel_rfl⟩
abbrev xIS (v0 : List Int) (v1 : Bool) : Prop := AbC 18 (xJg v0) (xDL v1)
def vDs (a0 : List Int) (r1 : Bool) : rE I8 (xCk a0) [Y] [xDL r1] = dn (xCl true) [xIS a0 r1, iY r1] := by kernel_rfl
abbrev xJn (v0 : List Int) (v1 : Str) : Prop := AbC 27 (xEi v0) (xAP v1)
abbrev xJo (v0 : Str) (v1 : Str × Bool) : Prop := AbC 17 (xB4 v0) (xAr v1)
abbrev xJp (v0 : Str) (v1 : Str × Bool) : Prop := AbC 16 (xEp v0) (xA1 v1)
def vDt (a0 : List Int) (r1 : Bool) (r2 : Str) (r3 : Str × Bool) (r4 : Str × Bool) : rE I8 (xCk a0) [F, Y, Y] [xDL r1, xAP r2, xAr r3, xA1 r4] = dn (xCl false) [xIS a0 r1, iN r1, xJn a0 r2, xJo r2 r3, xJp r2 r4, iY (!((r3.2 : Bool) == r4.2)), iY true] := by kernel_rfl
abbrev xJ4 (v0 v1 : Str × Bool) : Prop := iN (!((v0.2 : Bool) == v1.2))
def vDu (a0 : List Int) (r1 : Bool) (r2 : Str) (r3 : Str × Bool) (r4 : Str × Bool) : rE I8 (xCk a0) [F, F, Y] [xDL r1, xAP r2, xAr r3, xA1 r4] = dn (xCl false) [xIS a0 r1, iN r1, xJn a0 r2, xJo r2 r3, xJp r2 r4, xJ4 r3 r4, iY (!((r3.1 : Str) == r4.1))] := by kernel_rfl
abbrev xKP (v0 v1 : Str × Bool) : Prop := iN (!((v0.1 : Str) == v1.1))
def vDv (a0 : List Int) (r1 : Bool) (r2 : Str) (r3 : Str × Bool) (r4 : Str × Bool) (r5 : Bool) : rE I8 (xCk a0) [F, F, F, Y, Y] [xDL r1, xAP r2, xAr r3, xA1 r4, xFp r5] = dn (xCl r5) [xIS a0 r1, iN r1, xJn a0 r2, xJo r2 r3, xJp r2 r4, xJ4 r3 r4, xKP r3 r4, iY (!r3.2), iY ((r3.1 : Str) == []), AbC 10 (xF9 r2) (xFp r5)] := by kernel_rfl
def vDw (a0 : List Int) (r1 : Bool) (r2 : Str) (r3 : Str × Bool) (r4 : Str × Bool) : rE I8 (xCk a0) [F, F, F, Y, F] [xDL r1, xAP r2, xAr r3, xA1 r4] = dn (xCl false) [xIS a0 r1, iN r1, xJn a0 r2, xJo r2 r3, xJp r2 r4, xJ4 r3 r4, xKP r3 r4, iY (!r3.2), iN ((r3.1 : Str) == [])] := by kernel_rfl
def vDx (a0 : List Int) (r1 : Bool) (r2 : Str) (r3 : Str × Bool) (r4 : Str × Bool) (r5 : Exp × Int) (r6 : Str) : rE I8 (xCk a0) [F, F, F, F, Y] [xDL r1, xAP r2, xAr r3, xA1 r4, xAn r5, xDh r6] = dn (xCl ((r6 : Str) == r3.1)) [xIS a0 r1, iN r1, xJn a0 r2, xJo r2 r3, xJp r2 r4, xJ4 r3 r4, xKP r3 r4, iN (!r3.2), xJY r2 r5, iY (dc ((Ln r3.1 : Int) > 120)), AbC 20 (xEt r5.1) (xDh r6)] := by kernel_rfl
abbrev xNH (v0 : Str × Bool) : Prop := iN (dc ((Ln v0.1 : Int) > 120))
def vDy (a0 : List Int) (r1 : Bool) (r2 : Str) (r3 : Str × Bool) (r4 : Str × Bool) (r5 : Exp × Int) (r6 : Exp × Int) (r7 : Str × Bool) (r8 : Bool) : rE I8 (xCk a0) [F, F, F, F, F, Y, Y, Y] [xDL r1, xAP r2, xAr r3, xA1 r4, xAn r5, xAn r6, xAr r7, xAN r8] = dn (xCl ((r7.1 : Str) == r3.1)) [xIS a0 r1, iN r1, xJn a0 r2, xJo r2 r3, xJp r2 r4, xJ4 r3 r4, xKP r3 r4, iN (!r3.2), xJY r2 r5, xNH r3, AbC 12 (xAR r3.1) (xAn r6), AbC 17 (xB4 r3.1) (xAr r7), iY (r6.2 == (-1)), AbC 24 (xBy r6.1 r5.1) (xAN r8), iY r8, iY r7.2] := by kernel_rfl
def vDz (a0 : List Int) (r1 : Bool) (r2 : Str) (r3 : Str × Bool) (r4 : Str × Bool) (r5 : Exp × Int) (r6 : Exp × Int) (r7 : Str × Bool) (r8 : Bool) : rE I8 (xCk a0) [F, F, F, F, F, Y, Y, F] [xDL r1, xAP r2, xAr r3, xA1 r4, xAn r5, xAn r6, xAr r7, xAN r8] = dn (xCl false) [xIS a0 r1, iN r1, xJn a0 r2, xJo r2 r3, xJp r2 r4, xJ4 r3 r4, xKP r3 r4, iN (!r3.2), xJY r2 r5, xNH r3, AbC 12 (xAR r3.1) (xAn r6), AbC 17 (xB4 r3.1) (xAr r7), iY (r6.2 == (-1)), AbC 24 (xBy r6.1 r5.1) (xAN r8), iY r8, iN r7.2] := by kernel_rfl
def vDA (a0 : List Int) (r1 : Bool) (r2 : Str) (r3 : Str × Bool) (r4 : Str × Bool) (r5 : Exp × Int) (r6 : Exp × Int) (r7 : Str × Bool) (r8 : Bool) : rE I8 (xCk a0) [F, F, F, F, F, Y, F, F] [xDL r1, xAP r2, xAr r3, xA1 r4, xAn r5, xAn r6, xAr r7, xAN r8] = dn (xCl false) [xIS a0 r1, iN r1, xJn a0 r2, xJo r2 r3, xJp r2 r4, xJ4 r3 r4, xKP r3 r4, iN (!r3.2), xJY r2 r5, xNH r3, AbC 12 (xAR r3.1) (xAn r6), AbC 17 (xB4 r3.1) (xAr r7), iY (r6.2 == (-1)), AbC 24 (xBy r6.1 r5.1) (xAN r8), iN r8, iN false] := by kernel_rfl
def vDB (a0 : List Int) (r1 : Bool) (r2 : Str) (r3 : Str × Bool) (r4 : Str × Bool) (r5 : Exp × Int) (r6 : Exp × Int) (r7 : Str × Bool) : rE I8 (xCk a0) [F, F, F, F, F, F, F, F] [xDL r1, xAP r2, xAr r3, xA1 r4, xAn r5, xAn r6, xAr r7] = dn (xCl false) [xIS a0 r1, iN r1, xJn a0 r2, xJo r2 r3, xJp r2 r4, xJ4 r3 r4, xKP r3 r4, iN (!r3.2), xJY r2 r5, xNH r3, AbC 12 (xAR r3.1) (xAn r6), AbC 17 (xB4 r3.1) (xAr r7), iN (r6.2 == (-1)), iN false, iN false] := by kernel_rfl
theorem c8_e {N : Nat} : ∀ a0 r, xG8 N a0 = some r → RE Tryz.f8 I8 (xCk a0) (xCl r) := fun a0 r h =>
 bE h fun r1 h0 h => cE h (fun h1 h => dE h fk8 (vDs a0 r1) (oc2 (xFx h0) h1 on)) fun h1 h =>
 bE h fun r2 h2 h => bE h fun r3 h3 h => bE h fun r4 h4 h => cE h (fun h5 h => dE h fk8 (vDt a0 r1 r2 r3 r4) (oc7 (xFx h0) h1 (xBu h2) (xBb h3) (xB6 h4) h5 rfl on)) fun h5 h =>
 cE h (fun h6 h => dE h fk8 (vDu a0 r1 r2 r3 r4) (oc7 (xFx h0) h1 (xBu h2) (xBb h3) (xB6 h4) h5 h6 on)) fun h6 h =>
 cE h (fun h7 h => cE h (fun h8 h => bE h fun r5 h9 h => dE h fk8 (vDv a0 r1 r2 r3 r4 r5) (oc10 (xFx h0) h1 (xBu h2) (xBb h3) (xB6 h4) h5 h6 h7 h8 (xK8 h9) on)) fun h8 h =>
 dE h fk8 (vDw a0 r1 r2 r3 r4) (oc9 (xFx h0) h1 (xBu h2) (xBb h3) (xB6 h4) h5 h6 h7 h8 on)) fun h7 h =>
 bE h fun r5 h8 h => cE h (fun h9 h => bE h fun r6 h10 h => dE h fk8 (vDx a0 r1 r2 r3 r4 r5 r6) (oc11 (xFx h0) h1 (xBu h2) (xBb h3) (xB6 h4) h5 h6 h7 (xBW h8) h9 (xIt h10) on)) fun h9 h =>
 bE h fun r6 h10 h => bE h fun r7 h11 h => cE h (fun h12 h => bE h fun r8 h13 h => cE h (fun h14 h => cE h (fun h15 h => dE h fk8 (vDy a0 r1 r2 r3 r4 r5 r6 r7 r8) (oc12 (xFx h0) h1 (xBu h2) (xBb h3) (xB6 h4) h5 h6 h7 (xBW h8) h9 (xBW h10) (xBb h11) (oc4 h12 (xHn h13) h14 h15 on))) fun h15 h =>
 dE h fk8 (vDz a0 r1 r2 r3 r4 r5 r6 r7 r8) (oc12 (xFx h0) h1 (xBu h2) (xBb h3) (xB6 h4) h5 h6 h7 (xBW h8) h9 (xBW h10) (xBb h11) (oc4 h12 (xHn h13) h14 h15 on))) fun h14 h =>
 dE h fk8 (vDA a0 r1 r2 r3 r4 r5 r6 r7 r8) (oc12 (xFx h0) h1 (xBu h2) (xBb h3) (xB6 h4) h5 h6 h7 (xBW h8) h9 (xBW h10) (xBb h11) (oc4 h12 (xHn h13) h14 rfl on))) fun h12 h =>
 dE h fk8 (vDB a0 r1 r2 r3 r4 r5 r6 r7) (oc12 (xFx h0) h1 (xBu h2) (xBb h3) (xB6 h4) h5 h6 h7 (xBW h8) h9 (xBW h10) (xBb h11) (oc3 h12 rfl rfl on))
theorem laws_FnNormal_ok {N : Nat} {a0 : List Int} {r : Bool} (h : xG8 N  a0 = some r) : AbC 8 (xCk a0) (xCl r) :=
 AbsCalls.of_reach fk8 rfl rfl (Nat.le_of_ble_eq_true rfl) (c8_e a0 r h)
end Go.Ab.T
end
section
namespace Go.Ab
def Big (p : Nat → Prop) : Prop := ∃ k, ∀ N, k ≤ N → p N
def Big2 (p : Nat → Nat → Prop) : Prop := ∃ k, ∀ N n, k ≤ N → k ≤ n → p N n
theorem Big.imp {p q : Nat → Prop} (h : Big p) (f : ∀ N, p N → q N) : Big q := h.elim fun k hk => ⟨k, fun N hN => f N (hk N hN)⟩
theorem Big2.imp {p q : Nat → Nat → Prop} (h : Big2 p) (f : ∀ N n, p N n → q N n) : Big2 q := h.elim fun k hk => ⟨k, fun N n h1 h2 => f N n (hk N n h1 h2)⟩
theorem Big.of {p : Nat → Prop} (h : ∀ N, p N) : Big p := ⟨0, fun N _ => h N⟩
theorem Big2.of {p : Nat → Nat → Prop} (h : ∀ N n, p N n) : Big2 p := ⟨0, fun N n _ _ => h N n⟩
theorem Big.and {p q : Nat → Prop} (h : Big p) (h' : Big q) : Big fun N => p N ∧ q N := by
 obtain ⟨a, ha⟩ := h; obtain ⟨b, hb⟩ := h'
 exact ⟨max a b, fun N hN => ⟨ha N (by omega), hb N (by omega)⟩⟩
theorem Big2.and {p q : Nat → Nat → Prop} (h : Big2 p) (h' : Big2 q) : Big2 fun N n => p N n ∧ q N n := by
 obtain ⟨a, ha⟩ := h; obtain ⟨b, hb⟩ := h'
 exact ⟨max a b, fun N n h1 h2 => ⟨ha N n (by omega) (by omega), hb N n (by omega) (by omega)⟩⟩
theorem Big.two {p : Nat → Prop} (h : Big p) : Big2 fun N _ => p N := h.elim fun k hk => ⟨k, fun N _ h _ => hk N h⟩
theorem Big2.diag {p : Nat → Nat → Prop} (h : Big2 p) : Big fun N => p N N := h.elim fun k hk => ⟨k, fun N h => hk N N h h⟩
theorem Big2.succ {p : Nat → Nat → Prop} (h : Big2 fun N n => p N (n + 1)) : Big2 p := by
 obtain ⟨k, hk⟩ := h
 refine ⟨k + 1, fun N n h1 h2 => ?_⟩
 obtain ⟨m, rfl⟩ : ∃ m, n = m + 1 := ⟨n - 1, by omega⟩
 exact hk N m (by omega) (by omega)
theorem Big2.list {α : Type} {p : α → Nat → Nat → Prop} {l : List α} (h : ∀ x ∈ l, Big2 (p x)) : Big2 fun N n => ∀ x ∈ l, p x N n := by
 induction l with
 | nil => exact .of fun N n x hx => by cases hx
 | cons a l ih =>
   refine ((h a List.mem_cons_self).and (ih fun x hx => h x (List.mem_cons_of_mem _ hx))).imp fun N n ⟨h1, h2⟩ x hx => ?_
   rcases List.mem_cons.1 hx with rfl | hx
   · exact h1
   · exact h2 x hx
theorem Big.get {p : Nat → Prop} (h : Big p) : ∃ N, p N := h.elim fun k hk => ⟨k, hk k (Nat.le_refl k)⟩
def I64 (x : Int) : Prop := -9223372036854775808 ≤ x ∧ x ≤ 9223372036854775807
theorem xOK (x : Int) : IntKind.i64.wrap x = if x % 18446744073709551616 ≥ 9223372036854775808 then x % 18446744073709551616 - 18446744073709551616 else x % 18446744073709551616 := by
 show (if (true && decide (x % 18446744073709551616 ≥ 9223372036854775808)) = true then x % 18446744073709551616 - 18446744073709551616 else x % 18446744073709551616) = _
 simp only [Bool.true_and, decide_eq_true_eq]
theorem xPJ (x : Int) : IntKind.u8.wrap x = x % 256 := by
 show (if (false && decide (x % 256 ≥ 128)) = true then x % 256 - 256 else x % 256) = _
 simp
theorem xBw {x : Int} (h1 : -9223372036854775808 ≤ x) (h2 : x ≤ 9223372036854775807) : IntKind.i64.wrap x = x := by
 rw [xOK]
 split <;> omega
theorem xPI {x : Int} (h1 : 0 ≤ x) (h2 : x ≤ 255) : IntKind.u8.wrap x = x := by
 rw [xPJ]
 omega
theorem xD2 {α : Type} {xs : List α} {i : Nat} {x : α} {l : List α} (h : xs.drop i = x :: l) : i < xs.length ∧ xs[i]? = some x ∧ xs.drop (i + 1) = l := by
 have h1 : i < xs.length := by
  rcases Nat.lt_or_ge i xs.length with h1 | h1
  · exact h1
  · rw [List.drop_eq_nil_of_le h1] at h; cases h
 rw [List.drop_eq_getElem_cons h1] at h
 cases h
 exact ⟨h1, by simp [h1], rfl⟩
theorem xIs {α : Type} {xs : List α} {i : Nat} (h : xs.drop i = []) : xs.length ≤ i := by simpa using h
end Go.Ab
end
section
namespace Go.Ab
inductive DK (K : Nat) : D → Prop where
 | int {k n} (h : (Lit.int k n).wf = true) : DK K (.int k n)
 | bool (b) : DK K (.bool b)
 | str {s : Str} (h : s.length ≤ K) : DK K (.str s)
 | sl {sz rows} (h : rows.length ≤ K) (hr : ∀ r ∈ rows, ∀ x ∈ r, DK K x) : DK K (.sl sz rows)
theorem xWW {n : Int} : (Lit.int .i64 n).wf = true ↔ I64 n := by
 show (decide (_ ≤ n) && decide (n ≤ _)) = true ↔ _
 rw [Bool.and_eq_true, decide_eq_true_eq, decide_eq_true_eq]
 exact Iff.rfl
theorem DK.i64 {K : Nat} {n : Int} : DK K (.int .i64 n) ↔ I64 n := ⟨fun h => by cases h with | int h => exact xWW.1 h, fun h => .int (xWW.2 h)⟩
theorem DK.str_iff {K : Nat} {s : Str} : DK K (.str s) ↔ s.length ≤ K := ⟨fun h => by cases h; assumption, .str⟩
theorem DK.sl_iff {K sz : Nat} {α : Type} {f : α → List D} {xs : List α} : DK K (.sl sz (xs.map f)) ↔ xs.length ≤ K ∧ ∀ x ∈ xs, ∀ d ∈ f x, DK K d := by
 constructor
 · intro h
   cases h with
   | sl h hr => exact ⟨by simpa using h, fun x hx => hr _ (List.mem_map_of_mem hx)⟩
 · rintro ⟨h, hr⟩
   refine .sl (by simpa using h) fun r hr' => ?_
   obtain ⟨x, hx, rfl⟩ := List.mem_map.1 hr'
   exact hr x hx
def LFit {α : Type} (K : Nat) (p : α → Prop) (l : List α) : Prop := l.length ≤ K ∧ ∀ x ∈ l, p x
def Ty.Fit (K : Nat) (T : Ty) (x : T.den) : Prop := ∀ d ∈ T.toD x, DK K d
def Org.Fit (o : Org) : Prop := I64 o.cell ∧ I64 o.row
def Rowd.Fit (K : Nat) (r : Rowd) : Prop := LFit K I64 r.cells ∧ LFit K Org.Fit r.frm
def Str.Fit (K : Nat) (s : Str) : Prop := s.length ≤ K
def Exp.Fit (K : Nat) (v : Exp) : Prop := ∀ d ∈ Exp.toD v, DK K d
def Fil.Fit (K : Nat) (v : Fil) : Prop := Str.Fit K v.name ∧ I64 v.n
def Tok.Fit (K : Nat) (v : Tok) : Prop := I64 v.kind ∧ I64 v.n ∧ I64 v.pos ∧ Str.Fit K v.text
theorem vDK {K : Nat} {r : Rowd} : (∀ d ∈ Rowd.toD r, DK K d) ↔ r.Fit K := by
 simp only [Rowd.toD, List.mem_cons, List.not_mem_nil, or_false, forall_eq_or_imp, forall_eq, DK.sl_iff, DK.i64, Rowd.Fit, LFit, Org.Fit]
theorem vFl {K : Nat} {r : Fil} : Ty.Fit K .fil r ↔ r.Fit K := by
 simp only [Ty.Fit, Ty.toD, List.mem_cons, List.not_mem_nil, or_false, forall_eq_or_imp, forall_eq, DK.str_iff, DK.i64, Fil.Fit, Str.Fit]
theorem Exp.fit_iff {K : Nat} {v : Exp} : v.Fit K ↔ I64 v.kind ∧ I64 v.n ∧ Str.Fit K v.text ∧ LFit K (Exp.Fit K) v.args := by
 cases v
 simp only [Exp.Fit, Exp.toD, Exp.toDs_eq, List.mem_cons, List.not_mem_nil, or_false, forall_eq_or_imp, forall_eq, DK.sl_iff, DK.i64, DK.str_iff, Str.Fit, LFit, Exp.kind, Exp.n, Exp.text, Exp.args]
theorem xMI {l : List Exp} {x : Exp} (h : x ∈ l) (k n : Int) (t : Str) : SizeOf.sizeOf x < SizeOf.sizeOf (Exp.mk k n t l) := by
 have := List.sizeOf_lt_of_mem h
 simp only [Exp.mk.sizeOf_spec]
 omega
theorem Exp.ind {p : Exp → Prop} (h : ∀ k n t l, (∀ x ∈ l, p x) → p (.mk k n t l)) : ∀ v, p v
 | .mk k n t l => h k n t l fun x hx => Exp.ind h x
termination_by v => SizeOf.sizeOf v
decreasing_by exact xMI hx k n t
end Go.Ab
end
section
namespace Go.Ab
theorem xGQ {α σ ρ : Type} {L : Nat → Int → σ → Option ρ} (x0 : List α) (g : List α → σ → ρ) (Inv : Nat → σ → Prop)
 (hnil : ∀ n s, Inv x0.length s → L (n + 1) (x0.length : Nat) s = some (g [] s))
 (hcons : ∀ i x l s, x0.drop i = x :: l → i < x0.length → x0[i]? = some x → Inv i s →
   (∃ s', Inv (i + 1) s' ∧ g (x :: l) s = g l s' ∧ ∀ n, L (n + 1) (i : Nat) s = L n ((i + 1 : Nat) : Int) s') ∨ (∀ n, L (n + 1) (i : Nat) s = some (g (x :: l) s))) :
 ∀ n i s, Inv i s → i ≤ x0.length → x0.length < n + i → L n (i : Nat) s = some (g (x0.drop i) s) := by
 intro n
 induction n with
 | zero => intro i s _ h1 h2; omega
 | succ n ih =>
   intro i s hs hi hn
   cases hd : x0.drop i with
   | nil =>
     have := xIs hd
     obtain rfl : i = x0.length := by omega
     exact hnil n s hs
   | cons x l =>
     obtain ⟨h1, h2, h3⟩ := xD2 hd
     rcases hcons i x l s hd h1 h2 hs with ⟨s', h4, h5, h6⟩ | h
     · rw [h6, ih (i + 1) s' h4 (by omega) (by omega), h3, h5]
     · exact h n
theorem xCK {α : Type} {xs : List α} {i : Nat} {x : α} (h : xs[i]? = some x) (d : α) : xs.getD i d = x := by simp [List.getD, h]
theorem xBI {i : Nat} {len : Nat} (h : i < len) (hl : len ≤ 9223372036854775807) : IntKind.i64.wrap ((i : Int) + 1) = ((i + 1 : Nat) : Int) := by
 rw [xBw (by omega) (by omega)]; omega
def left (s : Nat) (l : Int) : Int := if (s : Int) ≤ l then l - s else -1
theorem xNq {s : Nat} {l : Int} (h : (s : Int) ≤ l) : left s l = l - s := by unfold left; rw [if_pos h]
theorem xMf {s : Nat} {l : Int} (h : ¬ (s : Int) ≤ l) : left s l = -1 := by unfold left; rw [if_neg h]
section
variable {α : Type} {d : α}
theorem vDd {L : Nat → Int → Option Bool} {x0 : List α} (hend : ∀ n, L (n + 1) (x0.length : Nat) = some true)
 (hcons : ∀ (i : Nat) x n, i < x0.length → x0[i]? = some x → x ∈ x0 → L (n + 1) (i : Nat) = L n ((i + 1 : Nat) : Int)) {n : Nat} (hn : x0.length < n) : L n 0 = some true := by
 have key := xGQ (σ := Unit) (L := fun n i _ => L n i) x0 (fun _ _ => true) (fun _ _ => True) (fun n _ _ => hend n)
  (fun i x r s hd hi hx _ => .inl ⟨(), trivial, rfl, fun n => hcons i x n hi hx (List.mem_of_getElem? hx)⟩) n 0 () trivial (by omega) (by omega)
 exact key
end
end Go.Ab
end
section
namespace Go.Ab
theorem vk (a b c : Int) (t : Str) (l : List Val) (k : List Str) (r : List Rowd) : (Val.mk a b c t l k r).kind = a := rfl
theorem vs (a b c : Int) (t : Str) (l : List Val) (k : List Str) (r : List Rowd) : (Val.mk a b c t l k r).step = c := rfl
theorem vl (a b c : Int) (t : Str) (l : List Val) (k : List Str) (r : List Rowd) : (Val.mk a b c t l k r).list = l := rfl
theorem ek (a b : Int) (t : Str) (l : List Exp) : (Exp.mk a b t l).kind = a := rfl
theorem en (a b : Int) (t : Str) (l : List Exp) : (Exp.mk a b t l).n = b := rfl
theorem et (a b : Int) (t : Str) (l : List Exp) : (Exp.mk a b t l).text = t := rfl
theorem ea (a b : Int) (t : Str) (l : List Exp) : (Exp.mk a b t l).args = l := rfl
mutual
def Exp.size : Exp → Nat
 | .mk _ _ t a => t.length + (a.length + Exp.sizes a)
def Exp.sizes : List Exp → Nat
 | [] => 0
 | x :: r => Exp.size x + Exp.sizes r
end
theorem Exp.sizes_eq (l : List Exp) : Exp.sizes l = (l.map Exp.size).sum := by
 induction l with
 | nil => rfl
 | cons x l ih => simp [Exp.sizes, ih]
theorem xQk {α : Type} {f : α → Nat} {l : List α} {x : α} (h : x ∈ l) : f x ≤ (l.map f).sum := by
 induction l with
 | nil => cases h
 | cons a l ih =>
   simp only [List.map_cons, List.sum_cons]
   rcases List.mem_cons.1 h with rfl | h
   · omega
   · have := ih h; omega
theorem Exp.size_eq (e : Exp) : e.size = e.text.length + (e.args.length + (e.args.map Exp.size).sum) := by
 cases e; simp [Exp.size, Exp.sizes_eq, Exp.text, Exp.args]
theorem xM3 (n : Nat) : Big fun N => n < N := ⟨n + 1, fun N h => by omega⟩
end Go.Ab
end
section
namespace Go.Ab
def xJh (c : UInt8) : Bool := decide ((c.toNat : Int) ≥ 97) && decide ((c.toNat : Int) ≤ 122)
def xK2 (c : UInt8) : Bool := decide ((c.toNat : Int) ≥ 48) && decide ((c.toNat : Int) ≤ 57)
def xHJ : List UInt8 → Bool → Bool
 | [], _ => true
 | x :: r, f => (xJh x || (!f && xK2 x)) && xHJ r false
theorem xMN {N : Nat} {s : Str} (hl : s.length ≤ 9223372036854775807) (hn : s.length < N) : xIE N s = some (xHJ s true && decide ((s.length : Int) > 0)) :=
 xGQ (L := fun n i _ => xDu N n s i) s (fun l f => xHJ l f && decide ((s.length : Int) > 0)) (fun i f => f = (i == 0)) (fun n _ _ => by simp [xDu, xHJ])
  (fun i x l f hd hi hx hf => by
    have hi' : (i : Int) < (s.length : Int) := by omega
    have hi0 : ((i : Int) == 0) = f := by rw [hf]; cases i <;> simp <;> omega
    by_cases h1 : (xJh x || (!f && xK2 x)) = true
    · refine .inl ⟨false, by simp, by simp [xHJ, h1], fun n => ?_⟩
      simp only [xDu, decide_eq_true hi', jT, Int.toNat_natCast, xCK hx, xBI hi hl, hi0]
      rw [if_pos (by omega)]
      unfold xJh xK2 at h1
      by_cases c1 : (x.toNat : Int) ≥ 97 <;> by_cases c2 : (x.toNat : Int) ≤ 122 <;> by_cases c3 : (x.toNat : Int) ≥ 48 <;> by_cases c4 : (x.toNat : Int) ≤ 57 <;> cases f <;>
       simp only [c1, c2, c3, c4, decide_true, decide_false, jT, jF, Bool.not_true, Bool.not_false, Bool.and_true, Bool.and_false, Bool.or_true, Bool.or_false, Bool.false_and, Bool.true_and, Bool.false_or, Bool.false_eq_true] at h1 ⊢
    · refine .inr fun n => ?_
      have h1 := Bool.eq_false_iff.2 h1
      simp only [xDu, decide_eq_true hi', jT, Int.toNat_natCast, xCK hx, xBI hi hl, hi0, xHJ, h1, Bool.false_and]
      rw [if_pos (by omega)]
      unfold xJh xK2 at h1
      by_cases c1 : (x.toNat : Int) ≥ 97 <;> by_cases c2 : (x.toNat : Int) ≤ 122 <;> by_cases c3 : (x.toNat : Int) ≥ 48 <;> by_cases c4 : (x.toNat : Int) ≤ 57 <;> cases f <;>
       simp only [c1, c2, c3, c4, decide_true, decide_false, jT, jF, Bool.not_true, Bool.not_false, Bool.and_true, Bool.and_false, Bool.or_true, Bool.or_false, Bool.false_and, Bool.true_and, Bool.false_or, Bool.true_eq_false] at h1 ⊢) N 0 true rfl (by omega) (by omega)
theorem xKC (N : Nat) (a b c : Int) : xGg N a b c = some (decide (b ≤ a) && decide (a ≤ c)) := by
 unfold xGg
 cases h : decide (b ≤ a) <;> simp
theorem xOH (N : Nat) (a b c : Int) : xIk N a b c = some (decide (b ≤ a) && decide (a ≤ c)) := by
 unfold xIk
 cases h : decide (b ≤ a)
 · rfl
 · rfl
theorem xMU {N : Nat} {s : Str} (hl : s.length ≤ 9223372036854775807) (hn : s.length < N) : xJc N s = some (xHJ s true && (decide ((1 : Int) ≤ s.length) && decide ((s.length : Int) ≤ 8))) :=
 xGQ (L := fun n i _ => xEg N n s i) s (fun l f => xHJ l f && (decide ((1 : Int) ≤ s.length) && decide ((s.length : Int) ≤ 8))) (fun i f => f = (i == 0)) (fun n _ _ => by simp [xEg, xHJ, xKC])
  (fun i x l f hd hi hx hf => by
    have hi' : (i : Int) < (s.length : Int) := by omega
    have hi0 : ((i : Int) == 0) = f := by rw [hf]; cases i <;> simp <;> omega
    have e1 : decide ((x.toNat : Int) < 48) = !decide ((x.toNat : Int) ≥ 48) := by by_cases c : (x.toNat : Int) ≥ 48 <;> simp [c] <;> omega
    have e2 : decide ((x.toNat : Int) > 57) = !decide ((x.toNat : Int) ≤ 57) := by by_cases c : (x.toNat : Int) ≤ 57 <;> simp [c] <;> omega
    by_cases h1 : (xJh x || (!f && xK2 x)) = true
    · refine .inl ⟨false, by simp, by simp [xHJ, h1], fun n => ?_⟩
      simp only [xEg, decide_eq_true hi', jT, Int.toNat_natCast, xCK hx, xBI hi hl, hi0, e1, e2]
      rw [if_pos (by omega)]
      unfold xJh xK2 at h1
      by_cases c1 : (x.toNat : Int) ≥ 97 <;> by_cases c2 : (x.toNat : Int) ≤ 122 <;> by_cases c3 : (x.toNat : Int) ≥ 48 <;> by_cases c4 : (x.toNat : Int) ≤ 57 <;> cases f <;>
       simp only [c1, c2, c3, c4, decide_true, decide_false, jT, jF, Bool.not_true, Bool.not_false, Bool.and_true, Bool.and_false, Bool.or_true, Bool.or_false, Bool.false_and, Bool.true_and, Bool.false_or, Bool.false_eq_true] at h1 ⊢
    · refine .inr fun n => ?_
      have h1 := Bool.eq_false_iff.2 h1
      simp only [xEg, decide_eq_true hi', jT, Int.toNat_natCast, xCK hx, xBI hi hl, hi0, e1, e2, xHJ, h1, Bool.false_and]
      rw [if_pos (by omega)]
      unfold xJh xK2 at h1
      by_cases c1 : (x.toNat : Int) ≥ 97 <;> by_cases c2 : (x.toNat : Int) ≤ 122 <;> by_cases c3 : (x.toNat : Int) ≥ 48 <;> by_cases c4 : (x.toNat : Int) ≤ 57 <;> cases f <;>
       simp only [c1, c2, c3, c4, decide_true, decide_false, jT, jF, Bool.not_true, Bool.not_false, Bool.and_true, Bool.and_false, Bool.or_true, Bool.or_false, Bool.false_and, Bool.true_and, Bool.false_or, Bool.true_eq_false] at h1 ⊢) N 0 true rfl (by omega) (by omega)
def xI2 : List Str := [[108, 101, 116], [105, 110], [105, 102], [116, 104, 101, 110], [101, 108, 115, 101], [102, 111, 114], [100, 111], [108, 101, 110], [115, 117, 109], [116, 97, 107, 101], [115, 107, 105, 112], [114, 97, 110, 103, 101], [110, 116, 104], [119, 104, 101, 114, 101], [107, 101, 101, 112], [97, 100, 100], [103, 114, 111, 117, 112], [106, 111, 105, 110], [99, 111, 108, 117, 109, 110], [114, 111, 119, 115], [99, 108, 111, 99, 107], [99, 104, 97, 110, 99, 101], [102, 105, 108, 101], [116, 97, 98, 108, 101]]
theorem xNW {N : Nat} {xs : List Str} {s : Str} (hl : xs.length ≤ 9223372036854775807) (hn : xs.length < N) : xKm N xs s = some (xs.any (· == s)) :=
 xGQ (σ := Unit) (L := fun n i _ => xFX N n xs s i) xs (fun l _ => l.any (· == s)) (fun _ _ => True) (fun n _ _ => by simp [xFX])
  (fun i x l _ hd hi hx _ => by
    have hi' : (i : Int) < (xs.length : Int) := by omega
    cases h1 : x == s
    · refine .inl ⟨(), trivial, by simp [h1], fun n => ?_⟩
      simp only [xFX, decide_eq_true hi', jT, Int.toNat_natCast, xCK hx, h1, jF, xBI hi hl]
      rw [if_pos (by omega)]
    · refine .inr fun n => ?_
      simp only [xFX, decide_eq_true hi', jT, Int.toNat_natCast, xCK hx, h1]
      rw [if_pos (by omega)]
      simp [h1]) N 0 () trivial (by omega) (by omega)
def xKl (s : Str) : Bool := xI2.any (· == s)
theorem xLk {N : Nat} {s : Str} (hn : 24 < N) : xGi N s = some (xKl s) := by
 unfold xGi xHi
 rw [jS, show ([[108, 101, 116], [105, 110], [105, 102], [116, 104, 101, 110], [101, 108, 115, 101], [102, 111, 114], [100, 111], [108, 101, 110], [115, 117, 109], [116, 97, 107, 101], [115, 107, 105, 112], [114, 97, 110, 103, 101], [110, 116, 104], [119, 104, 101, 114, 101], [107, 101, 101, 112], [97, 100, 100], [103, 114, 111, 117, 112], [106, 111, 105, 110], [99, 111, 108, 117, 109, 110], [114, 111, 119, 115], [99, 108, 111, 99, 107], [99, 104, 97, 110, 99, 101], [102, 105, 108, 101], [116, 97, 98, 108, 101]] : List Str) = xI2 from rfl, xNW (by decide) hn]
 rfl
theorem xK5 (N : Nat) (s : Str) : xGe N s = some (xKl s) := by
 by_cases h : s ∈ xI2
 · have h' : xKl s = true := List.any_eq_true.2 ⟨s, h, by simp⟩
   rw [h']
   simp only [xI2, List.mem_cons, List.not_mem_nil, or_false] at h
   rcases h with h | h | h | h | h | h | h | h | h | h | h | h | h | h | h | h | h | h | h | h | h | h | h | h <;> subst h <;> rfl
 · have h' : xKl s = false := by
    unfold xKl
    rw [List.any_eq_false]
    intro x hx hxs
    exact h (by rw [← eq_of_beq hxs]; exact hx)
   rw [h']
   have hne : ∀ x ∈ xI2, (s == x) = false := by
    intro x hx
    cases hb : s == x
    · rfl
    · exact absurd (by rw [eq_of_beq hb]; exact hx) h
   simp only [xI2, List.mem_cons, List.not_mem_nil, or_false, forall_eq_or_imp, forall_eq] at hne
   simp only [xGe, xDg, hne, jF, jS]
   rfl
def xCc (s : Str) : Bool := xHJ s true && (decide ((1 : Int) ≤ s.length) && decide ((s.length : Int) ≤ 8)) && !xKl s
theorem xGR {N : Nat} {s : Str} (hl : s.length ≤ 9223372036854775807) (hn : s.length < N) : xDw N s = some (xCc s) := by
 unfold xDw xCc
 rw [xMU hl hn, jS]
 cases (xHJ s true && (decide ((1 : Int) ≤ s.length) && decide ((s.length : Int) ≤ 8)))
 · rfl
 · rw [xK5]; rfl
theorem xGV {N : Nat} {s : Str} (hl : s.length ≤ 9223372036854775807) (hn : s.length < N) (hn2 : 24 < N) : xDz N s = some (xCc s) := by
 unfold xDz xCc
 rw [xMN hl hn, jS, xLk hn2]
 have : decide ((s.length : Int) > 0) = decide ((1 : Int) ≤ s.length) := by by_cases c : (s.length : Int) > 0 <;> simp [c] <;> omega
 rw [this]
 cases xHJ s true <;> cases decide ((1 : Int) ≤ s.length) <;> cases decide ((s.length : Int) ≤ 8) <;> rfl
end Go.Ab
end
section
namespace Go.Ab
theorem xQB (N : Nat) (e : Exp) : xGY N e = xGj N e := rfl
end Go.Ab
end
section
namespace Go.Ab
def allI {α : Type} (p : Nat → α → Bool) : List α → Nat → Bool
 | [], _ => true
 | x :: r, i => p i x && allI p r (i + 1)
theorem xWZ {α : Type} {L : Nat → Int → Option Bool} {x0 : List α} {p : Nat → α → Bool} {e : Option Bool} (hend : ∀ n, L (n + 1) (x0.length : Nat) = e)
 (hcons : ∀ (i : Nat) x n, i < x0.length → x0[i]? = some x → x ∈ x0 → L (n + 1) (i : Nat) = bif p i x then L n ((i + 1 : Nat) : Int) else some false) {n : Nat} (hn : x0.length < n) :
 L n 0 = bif allI p x0 0 then e else some false := by
 have key : ∀ (m i : Nat), i ≤ x0.length → x0.length < m + i → L m (i : Nat) = bif allI p (x0.drop i) i then e else some false := by
  intro m
  induction m with
  | zero => intro i h1 h2; omega
  | succ m ih =>
    intro i h1 h2
    cases hd : x0.drop i with
    | nil =>
      have := xIs hd
      obtain rfl : i = x0.length := by omega
      rw [hend]; rfl
    | cons x l =>
      obtain ⟨g1, g2, g3⟩ := xD2 hd
      rw [hcons i x m g1 g2 (List.mem_of_getElem? g2), ih (i + 1) (by omega) (by omega), g3]
      simp only [allI]
      cases p i x <;> rfl
 exact key n 0 (by omega) (by omega)
def xWI (c : UInt8) : Bool := !(decide ((c.toNat : Int) < 32)) && (!(decide ((c.toNat : Int) > 126)) && !((c.toNat : Int) == 34))
def xHV (s : Str) : Bool := allI (fun _ => xWI) s 0 && decide ((s.length : Int) ≤ 20)
theorem xW0 {a b : Bool} : (bif a then some b else some false) = some (a && b) := by cases a <;> rfl
theorem xGW {N : Nat} {s : Str} (hl : s.length ≤ 9223372036854775807) (hn : s.length < N) : xFg N s = some (xHV s) := by
 rw [xHV, ← xW0]
 exact xWZ (L := fun n i => xCX N n s i) (fun n => by simp [xCX]) (fun i x n hi hx hm => by
  have hi' : (i : Int) < (s.length : Int) := by omega
  simp only [xCX, decide_eq_true hi', jT, Int.toNat_natCast, xCK hx, xBI hi hl, xWI]
  rw [if_pos (by omega)]
  cases decide ((x.toNat : Int) < 32) <;> cases decide ((x.toNat : Int) > 126) <;> cases ((x.toNat : Int) == 34) <;> rfl) hn
theorem xJC (N n : Nat) (s : Str) (i : Int) : xEX N n s i = xCX N n s i := by
 induction n generalizing i with
 | zero => rfl
 | succ n ih => simp only [xEX, xCX, ih]
theorem xH4 {N : Nat} {s : Str} (hl : s.length ≤ 9223372036854775807) (hn : s.length < N) : xDx N s = some (xHV s) := (xJC N N s 0).trans (xGW hl hn)
end Go.Ab
end
section
namespace Go.Ab
theorem Big2.up {p : Nat → Nat → Prop} (h : Big2 p) : Big2 fun N d => p N (d + 1) := h.elim fun k hk => ⟨k, fun N d h1 h2 => hk N (d + 1) h1 (by omega)⟩
end Go.Ab
end
section
namespace Go.Ab
def kb : List Val → List Int → Bool
 | [], _ => false
 | _ :: _, [] => false
 | x :: r, k :: ks => (x.kind != k) || kb r ks
end Go.Ab
end
section
namespace Go.Ab
def pick (k : Int) (n : Int) (rs : List Rowd) : List Rowd := rs.filter fun r => r.cells.getD k.toNat Ty.int.dflt == n
end Go.Ab
end
section
namespace Go.Ab
def dd (n : Nat) : Str := if n = 0 then [] else Lib.decDigits n
theorem xOO {n : Nat} (h : n ≠ 0) : dd n = dd (n / 10) ++ [UInt8.ofNat (48 + n % 10)] := by
 unfold dd
 rw [if_neg h]
 by_cases h1 : n < 10
 · rw [Lib.decDigits, dif_pos h1, if_pos (by omega), Nat.mod_eq_of_lt h1]; rfl
 · rw [Lib.decDigits, dif_neg h1, if_neg (by omega)]
theorem xOX {n : Int} (h : n ≠ 0) : Lib.itoa n = (bif decide (n < 0) then [45] else []) ++ dd n.natAbs := by
 have h2 : ¬ n.natAbs = 0 := by omega
 unfold Lib.itoa dd
 by_cases h1 : n < 0
 · rw [if_pos h1, decide_eq_true h1, if_neg h2]; rfl
 · rw [if_neg h1, decide_eq_false h1, if_neg h2, show n.toNat = n.natAbs from by omega]; rfl
theorem xWK : ∀ (k n : Nat), n < 10 ^ k → (dd n).length ≤ k := by
 intro k
 induction k with
 | zero => intro n h; have : n = 0 := by simpa using h
           subst this; exact Nat.le_refl _
 | succ k ih =>
   intro n h
   by_cases h0 : n = 0
   · subst h0; exact Nat.zero_le _
   · rw [xOO h0, jA]
     have := ih (n / 10) (by rw [Nat.pow_succ] at h; omega)
     simp only [jC, jN]; omega
theorem xTd {n : Int} (h : -9223372036854775808 ≤ n ∧ n ≤ 9223372036854775807) : (Lib.itoa n).length ≤ 21 := by
 by_cases h0 : n = 0
 · subst h0
   show (Lib.decDigits 0).length ≤ 21
   rw [Lib.decDigits, dif_pos (by omega)]; simp
 · rw [xOX h0, jA]
   have := xWK 20 n.natAbs (by have : (10 : Nat) ^ 20 = 100000000000000000000 := by decide
                               omega)
   cases decide (n < 0) <;> simp <;> omega
theorem xM4 (s : Str) : List.map (fun n => UInt8.ofNat (Int.toNat n)) (List.map (fun c : UInt8 => (c.toNat : Int)) s) = s := by
 rw [List.map_map]
 have : ((fun n => UInt8.ofNat (Int.toNat n)) ∘ fun c : UInt8 => (c.toNat : Int)) = id := by
  funext c
  simp
 rw [this, List.map_id]
theorem xNo : ∀ (xs : List Str) (sep : Str), (Lib.join xs sep).length ≤ (xs.map List.length).sum + sep.length * xs.length := by
 intro xs sep
 cases xs with
 | nil => simp [Lib.join, List.intercalate]
 | cons x r =>
   rw [Lib.join_cons, jA, Lib.joinTail_length]
   simp only [Lib.lens, List.map_cons, List.sum_cons, jC, Nat.mul_add, Nat.mul_one]
   have e : (List.map (fun x => List.length x) r) = List.map List.length r := rfl
   rw [e]; omega
mutual
def Exp.cnt : Exp → Nat
 | .mk _ _ _ a => 1 + Exp.cnts a
def Exp.cnts : List Exp → Nat
 | [] => 0
 | x :: r => Exp.cnt x + Exp.cnts r
end
theorem Exp.cnts_eq (l : List Exp) : Exp.cnts l = (l.map Exp.cnt).sum := by
 induction l with
 | nil => rfl
 | cons x l ih => simp only [Exp.cnts, List.map_cons, List.sum_cons, ih]
theorem Exp.cnt_eq (e : Exp) : e.cnt = 1 + (e.args.map Exp.cnt).sum := by
 cases e; simp only [Exp.cnt, Exp.cnts_eq, Exp.args]
mutual
def Exp.nest : Exp → Nat
 | .mk _ _ _ a => Exp.nests a + 1
def Exp.nests : List Exp → Nat
 | [] => 0
 | x :: r => max (Exp.nest x) (Exp.nests r)
end
theorem Exp.nest_eq (e : Exp) : e.nest = Exp.nests e.args + 1 := by cases e; rfl
theorem xPG {f g : Exp → Nat} : ∀ {a : List Exp}, (∀ x ∈ a, f x ≤ g x + 1) → (a.map f).sum ≤ a.length + (a.map g).sum
 | [], _ => Nat.le_refl _
 | x :: l, ih => by
   have h1 := ih x List.mem_cons_self
   have h2 := xPG fun y hy => ih y (List.mem_cons_of_mem _ hy)
   simp only [List.map_cons, List.sum_cons, jC]; omega
theorem Exp.cnt_le : ∀ e : Exp, e.cnt ≤ e.size + 1 := by
 refine Exp.ind fun k n t a ih => ?_
 rw [Exp.cnt_eq, Exp.size_eq]
 have := xPG ih
 show 1 + (a.map Exp.cnt).sum ≤ t.length + (a.length + (a.map Exp.size).sum) + 1
 omega
theorem xPS : ∀ {a : List Exp}, (∀ x ∈ a, x.nest ≤ x.cnt) → Exp.nests a ≤ (a.map Exp.cnt).sum
 | [], _ => Nat.le_refl _
 | x :: l, ih => by
   have h1 := ih x List.mem_cons_self
   have h2 := xPS fun y hy => ih y (List.mem_cons_of_mem _ hy)
   simp only [Exp.nests, List.map_cons, List.sum_cons]; omega
theorem Exp.nest_le : ∀ e : Exp, e.nest ≤ e.cnt := by
 refine Exp.ind fun k n t a ih => ?_
 rw [Exp.nest_eq, Exp.cnt_eq]
 have := xPS ih
 show Exp.nests a + 1 ≤ 1 + (a.map Exp.cnt).sum
 omega
def xKq (n : Int) : Str := bif n == 1 then [43] else bif n == 2 then [45] else bif n == 3 then [42] else bif n == 4 then [60] else [61, 61]
def lvl (e : Exp) : Int := bif e.kind == 7 then 0 else bif e.kind == 8 then 0 else bif e.kind == 9 then 0 else bif e.kind == 6 then (bif e.n == 4 then 1 else bif e.n == 5 then 1 else bif e.n == 1 then 2 else bif e.n == 2 then 2 else bif e.n == 3 then 3 else 4) else 4
def encl (l : Int) (x : Exp) (s : Str) : Str := bif decide (lvl x < l) then [40] ++ s ++ [41] else s
def xIq (k n : Int) (t : Str) (a : List Exp) (s : List Str) : Str :=
 bif k == 1 then Lib.itoa n else bif k == 2 then [34] ++ t ++ [34] else bif k == 3 then t else bif k == 4 then [91] ++ Lib.join s [44, 32] ++ [93]
 else bif k == 5 then t ++ [40] ++ Lib.join s [44, 32] ++ [41]
 else bif k == 7 then [108, 101, 116, 32] ++ t ++ [32, 61, 32] ++ s.getD 0 [] ++ [32, 105, 110, 32] ++ s.getD 1 []
 else bif k == 9 then [102, 111, 114, 32] ++ t ++ [32, 105, 110, 32] ++ s.getD 0 [] ++ [32, 100, 111, 32] ++ s.getD 1 []
 else bif k == 8 then [105, 102, 32] ++ s.getD 0 [] ++ [32, 116, 104, 101, 110, 32] ++ s.getD 1 [] ++ [32, 101, 108, 115, 101, 32] ++ s.getD 2 []
 else encl (bif lvl (.mk k n t a) == 1 then 2 else lvl (.mk k n t a)) (a.getD 0 Ty.exp.dflt) (s.getD 0 []) ++ [32] ++ xKq n ++ [32] ++ encl (lvl (.mk k n t a) + 1) (a.getD 1 Ty.exp.dflt) (s.getD 1 [])
mutual
def srcE : Exp → Str
 | .mk k n t a => xIq k n t a (xWB a)
def xWB : List Exp → List Str
 | [] => []
 | x :: r => srcE x :: xWB r
end
theorem xWC (l : List Exp) : xWB l = l.map srcE := by
 induction l with
 | nil => rfl
 | cons x l ih => simp only [xWB, List.map_cons, ih]
theorem xPF (k n : Int) (t : Str) (a : List Exp) : srcE (.mk k n t a) = xIq k n t a (a.map srcE) := by
 simp only [srcE, xWC]
def xF1 (vT vN : Str → Bool) (ac : Str → Int) (k n : Int) (t : Str) (l : Nat) : Bool :=
 bif k == 1 then (decide (0 ≤ n) && decide (n ≤ 1000000000)) && ((t == []) && (l == 0))
 else bif k == 2 then (n == 0) && (vT t && (l == 0))
 else bif k == 3 then (n == 0) && (vN t && (l == 0))
 else bif k == 4 then (n == 0) && ((t == []) && decide (l ≤ 8))
 else bif k == 5 then (n == 0) && ((l : Int) == ac t)
 else bif k == 6 then (decide (1 ≤ n) && decide (n ≤ 5)) && ((t == []) && (l == 2))
 else bif k == 7 then (n == 0) && (vN t && (l == 2))
 else bif k == 9 then (n == 0) && (vN t && (l == 2))
 else bif k == 8 then (n == 0) && ((t == []) && (l == 3)) else false
end Go.Ab
end
section
namespace Go.Ab
theorem xKW {N : Nat} : ∀ (k n : Nat) (x : Int) (b : Bool) (q : Str), x.natAbs < 10 ^ k → k < n → k + q.length ≤ 1000 → (-9223372036854775808 ≤ x ∧ x ≤ 9223372036854775807) →
 xCE N n x b q = some ((bif b then [45] else []) ++ (dd x.natAbs ++ q)) := by
 intro k
 induction k with
 | zero =>
   intro n x b q hx hn hq hi
   obtain ⟨n, rfl⟩ : ∃ m, n = m + 1 := ⟨n - 1, by omega⟩
   have : x = 0 := by have : x.natAbs < 1 := by simpa using hx
                      omega
   subst this
   simp only [xCE, show ((0 : Int) != 0) = false from rfl, jF]
   cases b
   · rfl
   · simp only [jT]
     rw [if_pos (by simp only [jC, jN]; unfold Lim; omega)]; rfl
 | succ k ih =>
   intro n x b q hx hn hq hi
   obtain ⟨n, rfl⟩ : ∃ m, n = m + 1 := ⟨n - 1, by omega⟩
   by_cases h0 : x = 0
   · subst h0
     simp only [xCE, show ((0 : Int) != 0) = false from rfl, jF]
     cases b
     · rfl
     · simp only [jT]
       rw [if_pos (by simp only [jC, jN]; unfold Lim; omega)]; rfl
   · have hne : (x != 0) = true := by simpa using h0
     have hn0 : x.natAbs ≠ 0 := by omega
     have hd : (Int.tdiv x 10).natAbs = x.natAbs / 10 := by rw [Int.natAbs_tdiv]; rfl
     have hm : (Int.tmod x 10).natAbs = x.natAbs % 10 := by rw [Int.natAbs_tmod]; rfl
     have hdi : -9223372036854775808 ≤ Int.tdiv x 10 ∧ Int.tdiv x 10 ≤ 9223372036854775807 := by omega
     have hb : (Int.tdiv x 10).natAbs < 10 ^ k := by rw [hd]; rw [Nat.pow_succ] at hx; omega
     have hw : IntKind.i64.wrap (Int.tdiv x 10) = Int.tdiv x 10 := xBw (by omega) (by omega)
     have fin : ∀ c : Int, c = ((48 + x.natAbs % 10 : Nat) : Int) → xCE N n (Int.tdiv x 10) b ((List.map (fun n => UInt8.ofNat (Int.toNat n)) [c]) ++ q) = some ((bif b then [45] else []) ++ (dd x.natAbs ++ q)) := by
      intro c hc
      rw [ih n _ b _ hb (by omega) (by simp only [jA, List.length_map, jC, jN]; omega) hdi, hd, xOO hn0, hc]
      simp only [List.map_cons, List.map_nil, Int.toNat_natCast, List.append_assoc, List.cons_append, List.nil_append]
     have hlim : ∀ c : Int, List.length (List.map (fun n => UInt8.ofNat (Int.toNat n)) [c]) + List.length q ≤ Lim := fun c => by
      simp only [List.length_map, jC, jN]; unfold Lim; omega
     by_cases hneg : Int.tmod x 10 < 0
     · have e1 : IntKind.i64.wrap (0 - Int.tmod x 10) = 0 - Int.tmod x 10 := xBw (by omega) (by omega)
       have e2 : IntKind.i64.wrap (48 + (0 - Int.tmod x 10)) = 48 + (0 - Int.tmod x 10) := xBw (by omega) (by omega)
       have e3 : IntKind.u8.wrap (48 + (0 - Int.tmod x 10)) = 48 + (0 - Int.tmod x 10) := xPI (by omega) (by omega)
       simp only [xCE, hne, jT, decide_eq_true hneg, e1, e2, e3, hw]
       rw [if_pos (hlim _)]
       exact fin _ (by omega)
     · have e2 : IntKind.i64.wrap (48 + Int.tmod x 10) = 48 + Int.tmod x 10 := xBw (by omega) (by omega)
       have e3 : IntKind.u8.wrap (48 + Int.tmod x 10) = 48 + Int.tmod x 10 := xPI (by omega) (by omega)
       simp only [xCE, hne, jT, decide_eq_false hneg, jF, e2, e3, hw]
       rw [if_pos (hlim _)]
       exact fin _ (by omega)
theorem xI4 {N : Nat} {x : Int} (hN : 100 < N) (hi : -9223372036854775808 ≤ x ∧ x ≤ 9223372036854775807) : xFz N x = some (Lib.itoa x) := by
 unfold xFz
 by_cases h0 : x = 0
 · subst h0
   simp only [beq_self_eq_true, jT]
   show some [48] = some (Lib.decDigits 0)
   rw [Lib.decDigits, dif_pos (by omega)]; rfl
 · have e20 : x.natAbs < 10 ^ 20 := by
    have : (10 : Nat) ^ 20 = 100000000000000000000 := by decide
    omega
   rw [show (x == 0) = false from beq_eq_false_iff_ne.2 h0, jF, xKW 20 N x _ [] e20 (by omega) (by simp) hi, xOX h0, List.append_nil]
theorem xLt {N : Nat} {x : Int} (hi : -9223372036854775808 ≤ x ∧ x ≤ 9223372036854775807) : xGE N x = some (Lib.itoa x) := by
 unfold xGE strconv_Itoa zH1
 rw [if_pos hi.1, if_pos hi.2]; rfl
theorem xOg {N : Nat} {xs : List Str} {sep : Str} (h1 : xs.length ≤ 100000000000) (h2 : (xs.map List.length).sum + sep.length * xs.length ≤ 100000000000) : xJI N xs sep = some (Lib.join xs sep) := by
 have := xNo xs sep
 unfold xJI strings_Join zH2
 rw [if_pos (by omega), if_pos (by omega)]; rfl
theorem xOF {N : Nat} {xs : List Str} {sep : Str} (h1 : xs.length ≤ 100000000000) (h2 : (xs.map List.length).sum + sep.length * xs.length ≤ 100000000000) (hN : xs.length < N) : xJ8 N xs sep = some (Lib.join xs sep) := by
 have key : ∀ (n i : Nat) (q : List Int), 0 < i → i ≤ xs.length → xs.length < n + i → q.length + (((xs.drop i).map List.length).sum + sep.length * (xs.drop i).length) ≤ 100000000000 →
  xEN N n xs sep q (i : Nat) = some (List.map (fun n => UInt8.ofNat (Int.toNat n)) q ++ Lib.joinTail sep (xs.drop i)) := by
  intro n
  induction n with
  | zero => intro i q _ h1 h2; omega
  | succ n ih =>
    intro i q hp hi hn hl
    cases hd : xs.drop i with
    | nil =>
      have hi2 : i = xs.length := by have := xIs hd; omega
      subst hi2
      simp only [xEN, Int.lt_irrefl, decide_false, jF, Lib.joinTail, List.map_nil, List.flatten_nil, List.append_nil]
    | cons x l =>
      obtain ⟨e1, e2, e3⟩ := xD2 hd
      rw [hd] at hl
      simp only [List.map_cons, List.sum_cons, jC, Nat.mul_add, Nat.mul_one] at hl
      have hi' : (i : Int) < (xs.length : Int) := by omega
      have hp' : (i : Int) > 0 := by omega
      have := ih (i + 1) ((q ++ List.map (fun c => (c.toNat : Int)) sep) ++ List.map (fun c => (c.toNat : Int)) x) (by omega) (by omega) (by omega) (by rw [e3]; simp only [jA, List.length_map]; omega)
      rw [e3] at this
      simp only [xEN, decide_eq_true hi', decide_eq_true hp', jT, Int.toNat_natCast, xCK e2, xBI e1 (by omega : xs.length ≤ _), this]
      rw [if_pos (by unfold Lim; omega), if_pos (by omega), if_pos (by simp only [jA, List.length_map]; unfold Lim; omega)]
      simp only [List.map_append, xM4, Lib.joinTail, List.map_cons, List.flatten_cons, List.append_assoc]
 obtain ⟨n, rfl⟩ : ∃ m, N = m + 1 := ⟨N - 1, by omega⟩
 cases xs with
 | nil => simp [xJ8, xEN, Lib.join, List.intercalate]
 | cons x l =>
   have := key n 1 (List.map (fun c => (c.toNat : Int)) x) (by omega) (by simp only [jC]; omega) (by simp only [jC] at hN ⊢; omega) (by
    simp only [List.drop_succ_cons, List.drop_zero, List.length_map]
    simp only [List.map_cons, List.sum_cons, jC, Nat.mul_add, Nat.mul_one] at h2; omega)
   simp only [List.map_cons, List.sum_cons, jC, Nat.mul_add, Nat.mul_one] at h2 h1
   have hi' : ((0 : Nat) : Int) < (((x :: l).length : Nat) : Int) := by simp only [jC]; omega
   have hp' : ¬ ((0 : Nat) : Int) > 0 := by omega
   show xEN (n + 1) (n + 1) (x :: l) sep [] ((0 : Nat) : Int) = _
   simp only [xEN, decide_eq_true hi', decide_eq_false hp', jT, jF, Int.toNat_natCast, List.getD_cons_zero, xBI (show 0 < (x :: l).length by simp) (by simp only [jC]; omega : (x :: l).length ≤ _), List.nil_append]
   rw [if_pos (by simp only [jC]; omega), if_pos (by simp only [jN]; unfold Lim; omega)]
   rw [this, xM4, Lib.join_cons]; rfl
theorem vCy {α : Type} {b : Bool} {x y : Option α} (h1 : ∃ r, x = some r) (h2 : ∃ r, y = some r) : ∃ r, (bif b then x else y) = some r := by cases b <;> assumption
theorem xEI {α : Type} {b : Bool} {x y : Option α} {p q : α} (h1 : x = some p) (h2 : y = some q) : (bif b then x else y) = some (bif b then p else q) := by cases b <;> assumption
def argc (s : Str) : Int := (xB5 0 s).getD 0
theorem xFs (N : Nat) (s : Str) : xB5 N s = some (argc s) := by
 have key : ∃ r, xB5 0 s = some r := by
  unfold xB5
  repeat (first | exact ⟨_, rfl⟩ | refine vCy ⟨_, rfl⟩ ?_)
 obtain ⟨r, hr⟩ := key
 show xB5 0 s = _
 rw [argc, hr]; rfl
theorem xHB (N : Nat) (s : Str) : xDg N s = some (argc s) := (show xDg N s = xB5 N s from rfl).trans (xFs N s)
def xOk (e : Exp) : Bool := xF1 xHV xCc argc e.kind e.n e.text e.args.length
theorem vDn (l : Nat) : ((l : Int) == 0) = (l == 0) := by
 rcases Nat.eq_zero_or_pos l with rfl | h
 · rfl
 · rw [beq_eq_false_iff_ne.2 (by omega : l ≠ 0), beq_eq_false_iff_ne.2 (by omega : (l : Int) ≠ 0)]
theorem vDo (l : Nat) : ((l : Int) == 2) = (l == 2) := by
 rcases Decidable.em (l = 2) with rfl | h
 · rfl
 · rw [beq_eq_false_iff_ne.2 h, beq_eq_false_iff_ne.2 (by omega : (l : Int) ≠ 2)]
theorem vDp (l : Nat) : ((l : Int) == 3) = (l == 3) := by
 rcases Decidable.em (l = 3) with rfl | h
 · rfl
 · rw [beq_eq_false_iff_ne.2 h, beq_eq_false_iff_ne.2 (by omega : (l : Int) ≠ 3)]
theorem vDq (l : Nat) : decide ((l : Int) ≤ 8) = decide (l ≤ 8) := by
 rcases Decidable.em (l ≤ 8) with h | h
 · rw [decide_eq_true h, decide_eq_true (by omega : (l : Int) ≤ 8)]
 · rw [decide_eq_false h, decide_eq_false (by omega : ¬ (l : Int) ≤ 8)]
theorem xMS {N : Nat} {e : Exp} (ht : e.text.length ≤ 9223372036854775807) (hn : e.text.length < N) : xH5 N e = some (xOk e) := by
 simp only [xH5, xOk, xF1, xKC, xH4 ht hn, xGR (N := N) ht hn, xHB, jS, vDn, vDo, vDp, vDq]
 refine xEI ?_ (xEI ?_ (xEI ?_ (xEI ?_ (xEI ?_ (xEI ?_ (xEI ?_ (xEI ?_ (xEI ?_ rfl)))))))) <;>
  first
  | rfl
  | (cases (decide ((0 : Int) ≤ e.n) && decide (e.n ≤ 1000000000)) <;> cases (e.text == []) <;> rfl)
  | (cases (decide ((1 : Int) ≤ e.n) && decide (e.n ≤ 5)) <;> cases (e.text == []) <;> rfl)
  | (cases (e.n == 0) <;> cases (e.text == []) <;> rfl)
  | (cases (e.n == 0) <;> cases (xHV e.text) <;> rfl)
  | (cases (e.n == 0) <;> cases (xCc e.text) <;> rfl)
theorem xMJ {N : Nat} {e : Exp} (ht : e.text.length ≤ 9223372036854775807) (hn : e.text.length < N) (h24 : 24 < N) : xHL N e = some (xOk e) := by
 simp only [xHL, xOk, xF1, xOH, xGW ht hn, xGV (N := N) (s := e.text) ht hn h24, xFs, jS, vDn, vDo, vDp, vDq]
 refine xEI ?_ (xEI ?_ (xEI ?_ (xEI ?_ (xEI ?_ (xEI ?_ (xEI ?_ (xEI ?_ (xEI ?_ rfl)))))))) <;>
  first
  | rfl
  | (cases (e.args.length == 0) <;> cases (e.text == []) <;> cases (decide ((0 : Int) ≤ e.n) && decide (e.n ≤ 1000000000)) <;> rfl)
  | (cases (e.args.length == 0) <;> cases (e.n == 0) <;> cases (xHV e.text) <;> rfl)
  | (cases (e.args.length == 0) <;> cases (e.n == 0) <;> cases (xCc e.text) <;> rfl)
  | (cases (e.n == 0) <;> cases (e.text == []) <;> rfl)
  | (cases (e.args.length == 2) <;> cases (e.text == []) <;> cases (decide ((1 : Int) ≤ e.n) && decide (e.n ≤ 5)) <;> rfl)
  | (cases (e.args.length == 2) <;> cases (e.n == 0) <;> cases (xCc e.text) <;> rfl)
  | (cases (e.args.length == 3) <;> cases (e.n == 0) <;> cases (e.text == []) <;> rfl)
mutual
def okE : Exp → Bool
 | .mk k n t a => okEs a && xOk (.mk k n t a)
def okEs : List Exp → Bool
 | [] => true
 | x :: r => okE x && okEs r
end
theorem xXl (l : List Exp) : okEs l = l.all okE := by
 induction l with
 | nil => rfl
 | cons x l ih => simp only [okEs, List.all_cons, ih]
theorem xOq (e : Exp) : okE e = (e.args.all okE && xOk e) := by
 cases e; simp only [okE, xXl]; rfl
theorem vCw {K : Nat} (hK : K ≤ 1048576) : ∀ e : Exp, e.Fit K → Big2 fun N d => xFG N d e = some (okE e) ∧ xGk N d e = some (okE e) := by
 refine Exp.ind fun k n t a ih h => ?_
 obtain ⟨h1, h2, h3, h4⟩ := Exp.fit_iff.1 h
 refine Big2.succ ?_
 refine ((Big2.list fun x hx => ih x hx (h4.2 x hx)).and (xM3 (K + 30)).two).imp fun N d ⟨hx, hn⟩ => ?_
 have hl : a.length ≤ K := h4.1
 have ht : (Exp.mk k n t a).text.length ≤ K := h3
 rw [xOq]
 refine ⟨?_, ?_⟩
 · exact xGQ (σ := Unit) (L := fun m i _ => xEB N (xFG N d) m a a.length i (.mk k n t a)) a (fun l _ => l.all okE && xOk (.mk k n t a)) (fun _ _ => True) (fun m _ _ => by simp [xEB, xMS (N := N) (e := .mk k n t a) (by omega) (by omega)])
    (fun i x l _ hd hi hxi _ => by
      have hi' : (i : Int) < (a.length : Int) := by omega
      have hm := List.mem_of_getElem? hxi
      cases ho : okE x
      · refine .inr fun m => ?_
        simp only [xEB, decide_eq_true hi', jT, Int.toNat_natCast, xCK hxi, (hx x hm).1, ho, jS, Bool.not_false, List.all_cons, Bool.false_and]
        rw [if_pos (by omega)]
      · refine .inl ⟨(), trivial, by simp [ho], fun m => ?_⟩
        simp only [xEB, decide_eq_true hi', jT, Int.toNat_natCast, xCK hxi, (hx x hm).1, ho, jS, Bool.not_true, jF, xBI hi (by omega : a.length ≤ _)]
        rw [if_pos (by omega)]) N 0 () trivial (by omega) (by omega)
 · exact xGQ (σ := Unit) (L := fun m i _ => xFB N (xGk N d) m i (.mk k n t a)) a (fun l _ => l.all okE && xOk (.mk k n t a)) (fun _ _ => True) (fun m _ _ => by simp [xFB, ea, xMJ (N := N) (e := .mk k n t a) (by omega) (by omega) (by omega)])
    (fun i x l _ hd hi hxi _ => by
      have hi' : (i : Int) < ((Exp.mk k n t a).args.length : Int) := by show (i : Int) < (a.length : Int); omega
      have hi2 : (0 : Int) ≤ (i : Int) ∧ (i : Int) < ((Exp.mk k n t a).args.length : Int) := ⟨by omega, hi'⟩
      have hm := List.mem_of_getElem? hxi
      have hxi2 : (Exp.mk k n t a).args[i]? = some x := hxi
      cases ho : okE x
      · refine .inr fun m => ?_
        simp only [xFB, decide_eq_true hi', if_pos hi2, jT, Int.toNat_natCast, xCK hxi2, (hx x hm).2, ho, jS, Bool.not_false, List.all_cons, Bool.false_and]
      · refine .inl ⟨(), trivial, by simp [ho], fun m => ?_⟩
        simp only [xFB, decide_eq_true hi', if_pos hi2, jT, Int.toNat_natCast, xCK hxi2, (hx x hm).2, ho, jS, Bool.not_true, jF, xBI hi (by omega : a.length ≤ _)]) N 0 () trivial (by omega) (by omega)
end Go.Ab
end
