/- The statement FnParseErrors holds: plain functions, certificates, laws. Conditions: none. -/
import Derived.Test.YthbobcapimmnhaaGreatDoorL2
import Derived.Test.YthbobcapimmnhaaGreatDoorFnParseErrorsP0
set_option linter.all false
section
open Go.Proofs
namespace Go.Ab.T
set_option maxRecDepth 100000
variable [Inhabited Lb]
variable [Nonempty Tab10]
variable [Nonempty ErrVars]
def G137 (q : Rdr → Str → Option ((List Exp) × Rdr)) : Prop := ∀ a0 a1 r, q a0 a1 = some r → AbC 137 (xEK a0 a1) (xCm r)
def G127 (q : Rdr → Option (Exp × Rdr)) : Prop := ∀ a0 r, q a0 = some r → AbC 127 (xBq a0) (xBj r)
def G48 (q : Rdr → Option (Exp × Rdr)) : Prop := ∀ a0 r, q a0 = some r → AbC 48 (xDz a0) (xC3 r)
def G28 (q : Rdr → Option (Exp × Rdr)) : Prop := ∀ a0 r, q a0 = some r → AbC 28 (xCn a0) (xAu r)
def G110 (q : Rdr → Option (Exp × Rdr)) : Prop := ∀ a0 r, q a0 = some r → AbC 110 (xEf a0) (xBG r)
def G88 (q : Rdr → Option (Exp × Rdr)) : Prop := ∀ a0 r, q a0 = some r → AbC 88 (xEv a0) (xCe r)
noncomputable def I137 : Info := { body := (Tryz.f137.body).getD .skip, nt := 44, results := [.tmp 4], keep := [0, 2, 8, 10, 18, 46, 62, 1], live := [(5, [0, 2, 10, 1])], modes := [(4, [(0, .take, false)]), (6, [(0, .take, false), (4, .take, false)]), (10, [(0, .take, false)])], ext := [0], casts := [(5, [(10, 0, false)])], fcast := [(8, 0, false)] }
theorem xPu : FnOk Tryz.prog 137 Tryz.f137 I137 := ⟨Tryz.func137, by kernel_rfl, by kernel_rfl, by kernel_rfl, by kernel_rfl⟩
def xMc (x1 : Str) (x5 : List Exp) (b0 : Rdr) : St := [(0, .v false [.ptr 0 0]), (2, .v false [.str x1]), (10, .v false [.sl .tip .exp x5]), (1, .v true [.sl .ro .tok (Rdr.toks b0), .int .i64 (Rdr.i b0), .int .i64 (Rdr.fin b0), .int .i64 (Rdr.bad b0)])]
abbrev xK5 (v0 : Rdr) (v1 : Exp × Rdr) : Prop := AbC 28 (xCn v0) (xAu v1)
def xT1 (x1 : Str) (x5 : List Exp) (b0 : Rdr) (r1 : Exp × Rdr) (r2 : Bool × Rdr) (r3 : Rdr) : rS 5 I137 (xMc x1 x5 b0) [Y, Y] [xAu r1, xAe r2, xAI r3] = dn (xCm ((x5 ++ [(Exp.re r1.1)]), r3)) [xLN b0, xK5 b0 r1, Ln x5 + Ln [(Exp.re r1.1)] ≤ Lim, AbC 45 (xAG r1.2 [44]) (xAe r2), iY (!r2.1), AbC 47 (xBI r2.2 x1) (xAI r3)] := by kernel_rfl
def xT2 (x1 : Str) (x5 : List Exp) (b0 : Rdr) (r1 : Exp × Rdr) (r2 : Bool × Rdr) : rS 5 I137 (xMc x1 x5 b0) [Y, F] [xAu r1, xAe r2] = st 5 I137 (xMc x1 (x5 ++ [(Exp.re r1.1)]) (xJh r2)) [xLN b0, xK5 b0 r1, Ln x5 + Ln [(Exp.re r1.1)] ≤ Lim, AbC 45 (xAG r1.2 [44]) (xAe r2), iN (!r2.1)] := by kernel_rfl
def xT3 (x1 : Str) (x5 : List Exp) (b0 r1 : Rdr) : rS 5 I137 (xMc x1 x5 b0) [F] [xAI r1] = dn (xCm (x5, r1)) [iN (dc ((Rdr.bad b0) < 0)), AbC 47 (xBI b0 x1) (xAI r1)] := by kernel_rfl
def xT4 (a0 : Rdr) (a1 : Str) (r1 : Bool × Rdr) : rE I137 (xEK a0 a1) [Y] [xAe r1] = dn (xCm ([], (xJh r1))) [AbC 45 (xAG a0 a1) (xAe r1), iY r1.1] := by kernel_rfl
def xT5 (a0 : Rdr) (a1 : Str) (r1 : Bool × Rdr) : rE I137 (xEK a0 a1) [F] [xAe r1] = st 5 I137 (xMc a1 [] r1.2) [AbC 45 (xAG a0 a1) (xAe r1), iN r1.1] := by kernel_rfl
theorem vBj {N q0 q1 q2 q3 q4 q5} (g0 : G137 q0) (g1 : G127 q1) (g2 : G48 q2) (g3 : G28 q3) (g4 : G110 q4) (g5 : G88 q5) : ∀ n x1 x5 b0 r, xFi N q0 q1 q2 q3 q4 q5 n x1 x5 b0 = some r → RS Tryz.f137 I137 5 (xMc x1 x5 b0) (xCm r) := by
 intro n
 induction n with
 | zero => exact fun _ _ _ _ h => nE h
 | succ n ih =>
  exact fun x1 x5 b0 r h =>
   cE h (fun h0 h => bE h fun r1 h1 h => iE h fun h2 h => bE h fun r2 h3 h => cE h (fun h4 h => bE h fun r3 h5 h => dS h xPu (xT1 x1 x5 b0 r1 r2 r3) (oc6 h0 (g3 _ _ h1) h2 (xAq h3) h4 (xCI h5) on)) fun h4 h =>
   tS xPu (xT2 x1 x5 b0 r1 r2) (oc5 h0 (g3 _ _ h1) h2 (xAq h3) h4 on) (ih _ _ _ _ h)) fun h0 h =>
   bE h fun r1 h1 h => dS h xPu (xT3 x1 x5 b0 r1) (oc2 h0 (xCI h1) on)
theorem vBk {N q0 q1 q2 q3 q4 q5} (g0 : G137 q0) (g1 : G127 q1) (g2 : G48 q2) (g3 : G28 q3) (g4 : G110 q4) (g5 : G88 q5) : ∀ a0 a1 r, xDZ N q0 q1 q2 q3 q4 q5 a0 a1 = some r → RE Tryz.f137 I137 (xEK a0 a1) (xCm r) := fun a0 a1 r h =>
 bE h fun r1 h0 h => cE h (fun h1 h => dE h xPu (xT4 a0 a1 r1) (oc2 (xAq h0) h1 on)) fun h1 h =>
 tE xPu (xT5 a0 a1 r1) (oc2 (xAq h0) h1 on) (vBj g0 g1 g2 g3 g4 g5 _ _ _ _ _ h)
theorem xJE {N q0 q1 q2 q3 q4 q5} (g0 : G137 q0) (g1 : G127 q1) (g2 : G48 q2) (g3 : G28 q3) (g4 : G110 q4) (g5 : G88 q5) {a0} {a1} {r} (h : xDZ N q0 q1 q2 q3 q4 q5 a0 a1 = some r) : AbC 137 (xEK a0 a1) (xCm r) :=
 AbsCalls.of_reach xPu rfl rfl (Nat.le_of_ble_eq_true rfl) (vBk g0 g1 g2 g3 g4 g5 a0 a1 r h)
noncomputable def I127 : Info := { body := (Tryz.f127.body).getD .skip, nt := 141, results := [.cell 2 25], keep := [0, 4, 6, 8, 42, 68, 98, 128, 168, 218, 246, 1, 5, 7, 9], live := [], modes := [(1, [(5, .take, false)]), (10, [(3, .take, false)]), (13, [(3, .take, false)])], ext := [0], fcast := [(5, 3, true)] }
theorem xKz : FnOk Tryz.prog 127 Tryz.f127 I127 := ⟨Tryz.func127, by kernel_rfl, by kernel_rfl, by kernel_rfl, by kernel_rfl⟩
def xTI (a0 : Rdr) (r1 : Exp × Rdr) : rE I127 (xBq a0) [Y, Y] [xAU r1] = dn (xBj (r1.1, r1.2)) [iY (dc ((Rdr.bad a0) ≥ 0)), iY true, xK3 a0 r1] := by kernel_rfl
def xTJ (a0 : Rdr) (r1 : Exp × Rdr) : rE I127 (xBq a0) [F, Y] [xAU r1] = dn (xBj (r1.1, r1.2)) [xHD a0, iY (xOi a0), xK3 a0 r1] := by kernel_rfl
abbrev xQp (v0 : Exp) (v1 : Rdr) := xBj (v0, (Rdr.mk (Rdr.toks v1) (W ((Rdr.i v1) + 1)) (Rdr.fin v1) (Rdr.bad v1)))
abbrev xQq (v0 : Rdr) := ((Tok.kind (gD (Rdr.toks v0) (tN (Rdr.i v0)) Ty.tok.dflt)) : Int) == 2
def xTK (a0 : Rdr) (r1 : Exp) : rE I127 (xBq a0) [F, F, Y] [xBs r1] = dn (xQp r1 a0) [xHD a0, xIk a0, xGE a0, iY (xQq a0), AbC 67 (xFB (Tok.n (xJ0 a0))) (xBs r1)] := by kernel_rfl
abbrev xKn (v0 : Rdr) : Prop := iN (xQq v0)
abbrev xQr (v0 : Rdr) := ((Tok.kind (gD (Rdr.toks v0) (tN (Rdr.i v0)) Ty.tok.dflt)) : Int) == 3
def xTL (a0 : Rdr) : rE I127 (xBq a0) [F, F, F, Y] [] = dn (xBj ((Exp.mk 2 0 (xLK a0) []), (xLL a0))) [xHD a0, xIk a0, xGE a0, xKn a0, iY (xQr a0)] := by kernel_rfl
abbrev xK6 (v0 : Rdr) : Prop := iN (xQr v0)
abbrev xQs (v0 : Rdr) := ((Tok.kind (gD (Rdr.toks v0) (tN (Rdr.i v0)) Ty.tok.dflt)) : Int) == 1
abbrev xKo (v0 : Rdr) : Prop := iY (xQs v0)
def xTM (a0 : Rdr) (r1 : Bool) (r2 : Exp) : rE I127 (xBq a0) [F, F, F, F, Y, Y] [xAK r1, xEJ r2] = dn (xQp r2 a0) [xHD a0, xIk a0, xGE a0, xKn a0, xK6 a0, xKo a0, xLO a0 r1, iY r1, AbC 101 (xFU (xLK a0)) (xEJ r2)] := by kernel_rfl
abbrev xO6 (v0 : Rdr) (v1 : Int) : Prop := AbC 106 (xAs (xLK v0)) (xAk v1)
def xTN (a0 : Rdr) (r1 : Bool) (r2 : Int) (r3 : Rdr) (r4 : (List Exp) × Rdr) : rE I127 (xBq a0) [F, F, F, F, Y, F, Y, Y] [xAK r1, xAk r2, xAI r3, xCm r4] = dn (xBj ((Exp.mk 5 0 (xLK a0) r4.1), r4.2)) [xHD a0, xIk a0, xGE a0, xKn a0, xK6 a0, xKo a0, xLO a0 r1, iN r1, xKo a0, xO6 a0 r2, iY (dc (r2 ≥ 0)), AbC 47 (xBI (xLL a0) [40]) (xAI r3), AbC 137 (xEK r3 [41]) (xCm r4)] := by kernel_rfl
abbrev xK7 (v0 : Int) : Prop := iN (dc (v0 ≥ 0))
abbrev xMq (v0 : Rdr) (v1 : Bool) : Prop := AbC 85 (xDI (xJ0 v0) [91]) (xAV v1)
abbrev xVA (v0 : Rdr) (v1 : (List Exp) × Rdr) : Prop := AbC 137 (xEK (xLL v0) [93]) (xCm v1)
def xTO (a0 : Rdr) (r1 : Bool) (r2 : Int) (r3 : Bool) (r4 : (List Exp) × Rdr) : rE I127 (xBq a0) [F, F, F, F, Y, F, Y, F, Y] [xAK r1, xAk r2, xAV r3, xCm r4] = dn (xBj ((Exp.mk 4 0 [] r4.1), r4.2)) [xHD a0, xIk a0, xGE a0, xKn a0, xK6 a0, xKo a0, xLO a0 r1, iN r1, xKo a0, xO6 a0 r2, xK7 r2, xMq a0 r3, iY r3, xVA a0 r4] := by kernel_rfl
abbrev xO7 (v0 : Rdr) (v1 : Bool) : Prop := AbC 85 (xDI (xJ0 v0) [40]) (xAV v1)
abbrev xVB (v0 : Rdr) (v1 : Exp × Rdr) : Prop := AbC 28 (xCn (xLL v0)) (xAu v1)
def xTP (a0 : Rdr) (r1 : Bool) (r2 : Int) (r3 r4 : Bool) (r5 : Exp × Rdr) (r6 : Rdr) : rE I127 (xBq a0) [F, F, F, F, Y, F, Y, F, F, Y] [xAK r1, xAk r2, xAV r3, xAV r4, xAu r5, xAI r6] = dn (xBj (r5.1, r6)) [xHD a0, xIk a0, xGE a0, xKn a0, xK6 a0, xKo a0, xLO a0 r1, iN r1, xKo a0, xO6 a0 r2, xK7 r2, xMq a0 r3, iN r3, xO7 a0 r4, iY r4, xVB a0 r5, AbC 47 (xBI r5.2 [41]) (xAI r6)] := by kernel_rfl
def xTQ (a0 : Rdr) (r1 : Bool) (r2 : Int) (r3 r4 : Bool) (r5 : Exp × Rdr) : rE I127 (xBq a0) [F, F, F, F, Y, F, Y, F, F, F] [xAK r1, xAk r2, xAV r3, xAV r4, xAU r5] = dn (xBj (r5.1, r5.2)) [xHD a0, xIk a0, xGE a0, xKn a0, xK6 a0, xKo a0, xLO a0 r1, iN r1, xKo a0, xO6 a0 r2, xK7 r2, xMq a0 r3, iN r3, xO7 a0 r4, iN r4, xK3 a0 r5] := by kernel_rfl
abbrev xMr (v0 : Rdr) : Prop := iN (xQs v0)
def xTR (a0 : Rdr) (r1 : Bool) (r2 : (List Exp) × Rdr) : rE I127 (xBq a0) [F, F, F, F, F, F, F, F, Y] [xAV r1, xCm r2] = dn (xBj ((Exp.mk 4 0 [] r2.1), r2.2)) [xHD a0, xIk a0, xGE a0, xKn a0, xK6 a0, xMr a0, iN false, xMr a0, iN false, xMq a0 r1, iY r1, xVA a0 r2] := by kernel_rfl
def xQ5 (a0 : Rdr) (r1 r2 : Bool) (r3 : Exp × Rdr) (r4 : Rdr) : rE I127 (xBq a0) [F, F, F, F, F, F, F, F, F, Y] [xAV r1, xAV r2, xAu r3, xAI r4] = dn (xBj (r3.1, r4)) [xHD a0, xIk a0, xGE a0, xKn a0, xK6 a0, xMr a0, iN false, xMr a0, iN false, xMq a0 r1, iN r1, xO7 a0 r2, iY r2, xVB a0 r3, AbC 47 (xBI r3.2 [41]) (xAI r4)] := by kernel_rfl
def xQ6 (a0 : Rdr) (r1 r2 : Bool) (r3 : Exp × Rdr) : rE I127 (xBq a0) [F, F, F, F, F, F, F, F, F, F] [xAV r1, xAV r2, xAU r3] = dn (xBj (r3.1, r3.2)) [xHD a0, xIk a0, xGE a0, xKn a0, xK6 a0, xMr a0, iN false, xMr a0, iN false, xMq a0 r1, iN r1, xO7 a0 r2, iN r2, xK3 a0 r3] := by kernel_rfl
theorem vBf {N q0 q1 q2 q3 q4 q5} (g0 : G137 q0) (g1 : G127 q1) (g2 : G48 q2) (g3 : G28 q3) (g4 : G110 q4) (g5 : G88 q5) : ∀ a0 r, xD0 N q0 q1 q2 q3 q4 q5 a0 = some r → RE Tryz.f127 I127 (xBq a0) (xBj r) := fun a0 r h =>
 cE h (fun h0 h => bE h fun r1 h2 h => dE h xKz (xTI a0 r1) (oc3 h0 rfl (xCo h2) on)) fun h0 h =>
 cE h (fun h1 h => bE h fun r1 h2 h => dE h xKz (xTJ a0 r1) (oc3 h0 h1 (xCo h2) on)) fun h1 h =>
 iE h fun h2 h => cE h (fun h3 h => bE h fun r1 h4 h => dE h xKz (xTK a0 r1) (oc5 h0 h1 h2 h3 (xCN h4) on)) fun h3 h =>
 cE h (fun h4 h => dE h xKz (xTL a0) (oc5 h0 h1 h2 h3 h4 on)) fun h4 h =>
 cE h (fun h5 h => bE h fun r1 h6 h => cE h (fun h7 h => bE h fun r2 h8 h => dE h xKz (xTM a0 r1 r2) (oc9 h0 h1 h2 h3 h4 h5 (xB1 h6) h7 (xJt h8) on)) fun h7 h =>
 bE h fun r2 h9 h => cE h (fun h10 h => bE h fun r3 h11 h => bE h fun r4 h12 h => dE h xKz (xTN a0 r1 r2 r3 r4) (oc12 h0 h1 h2 h3 h4 h5 (xB1 h6) h7 h5 (xD8 h9) h10 (xCI h11) (oc (g0 _ _ _ h12) on))) fun h10 h =>
 bE h fun r3 h11 h => cE h (fun h12 h => bE h fun r4 h13 h => dE h xKz (xTO a0 r1 r2 r3 r4) (oc12 h0 h1 h2 h3 h4 h5 (xB1 h6) h7 h5 (xD8 h9) h10 (xB6 h11) (oc2 h12 (g0 _ _ _ h13) on))) fun h12 h =>
 bE h fun r4 h13 h => cE h (fun h14 h => bE h fun r5 h15 h => bE h fun r6 h16 h => dE h xKz (xTP a0 r1 r2 r3 r4 r5 r6) (oc12 h0 h1 h2 h3 h4 h5 (xB1 h6) h7 h5 (xD8 h9) h10 (xB6 h11) (oc5 h12 (xB6 h13) h14 (g3 _ _ h15) (xCI h16) on))) fun h14 h =>
 bE h fun r5 h15 h => dE h xKz (xTQ a0 r1 r2 r3 r4 r5) (oc12 h0 h1 h2 h3 h4 h5 (xB1 h6) h7 h5 (xD8 h9) h10 (xB6 h11) (oc4 h12 (xB6 h13) h14 (xCo h15) on))) fun h5 h =>
 bE h fun r1 h9 h => cE h (fun h10 h => bE h fun r2 h11 h => dE h xKz (xTR a0 r1 r2) (oc12 h0 h1 h2 h3 h4 h5 rfl h5 rfl (xB6 h9) h10 (g0 _ _ _ h11) on)) fun h10 h =>
 bE h fun r2 h11 h => cE h (fun h12 h => bE h fun r3 h13 h => bE h fun r4 h14 h => dE h xKz (xQ5 a0 r1 r2 r3 r4) (oc12 h0 h1 h2 h3 h4 h5 rfl h5 rfl (xB6 h9) h10 (xB6 h11) (oc3 h12 (g3 _ _ h13) (xCI h14) on))) fun h12 h =>
 bE h fun r3 h13 h => dE h xKz (xQ6 a0 r1 r2 r3) (oc12 h0 h1 h2 h3 h4 h5 rfl h5 rfl (xB6 h9) h10 (xB6 h11) (oc2 h12 (xCo h13) on))
theorem xJF {N q0 q1 q2 q3 q4 q5} (g0 : G137 q0) (g1 : G127 q1) (g2 : G48 q2) (g3 : G28 q3) (g4 : G110 q4) (g5 : G88 q5) {a0} {r} (h : xD0 N q0 q1 q2 q3 q4 q5 a0 = some r) : AbC 127 (xBq a0) (xBj r) :=
 AbsCalls.of_reach xKz rfl rfl (Nat.le_of_ble_eq_true rfl) (vBf g0 g1 g2 g3 g4 g5 a0 r h)
noncomputable def I48 : Info := { body := (Tryz.f48.body).getD .skip, nt := 37, results := [.cell 2 25], keep := [0, 4, 6, 12, 42, 1, 5, 7], live := [], modes := [], ext := [0], fcast := [(5, 3, true)] }
theorem fk48 : FnOk Tryz.prog 48 Tryz.f48 I48 := ⟨Tryz.func48, by kernel_rfl, by kernel_rfl, by kernel_rfl, by kernel_rfl⟩
abbrev xVC (v0 : Bool × Rdr) (v1 : Exp × Rdr) : Prop := AbC 88 (xEv (xJh v0)) (xCe v1)
def xXS (a0 : Rdr) (r1 : Exp × Rdr) (r2 : Bool × Rdr) (r3 : Exp × Rdr) (r4 : Exp) : rE I48 (xDz a0) [Y] [xCe r1, xAe r2, xCe r3, xBp r4] = dn (xC3 (r4, r3.2)) [AbC 88 (xEv a0) (xCe r1), AbC 45 (xAG r1.2 [60]) (xAe r2), iY r2.1, xVC r2 r3, AbC 66 (xDi 4 r1.1 r3.1) (xBp r4)] := by kernel_rfl
def xXT (a0 : Rdr) (r1 : Exp × Rdr) (r2 : Bool × Rdr) (r3 : Bool × Rdr) (r4 : Exp × Rdr) (r5 : Exp) : rE I48 (xDz a0) [F, Y] [xCe r1, xAe r2, xAe r3, xCe r4, xBp r5] = dn (xC3 (r5, r4.2)) [AbC 88 (xEv a0) (xCe r1), AbC 45 (xAG r1.2 [60]) (xAe r2), iN r2.1, AbC 45 (xAG r2.2 [61, 61]) (xAe r3), iY r3.1, xVC r3 r4, AbC 66 (xDi 5 r1.1 r4.1) (xBp r5)] := by kernel_rfl
def xXU (a0 : Rdr) (r1 : Exp × Rdr) (r2 : Bool × Rdr) (r3 : Bool × Rdr) : rE I48 (xDz a0) [F, F] [xCe r1, xAe r2, xAe r3] = dn (xC3 (r1.1, r3.2)) [AbC 88 (xEv a0) (xCe r1), AbC 45 (xAG r1.2 [60]) (xAe r2), iN r2.1, AbC 45 (xAG r2.2 [61, 61]) (xAe r3), iN r3.1] := by kernel_rfl
theorem vCp {N q0 q1 q2 q3 q4 q5} (g0 : G137 q0) (g1 : G127 q1) (g2 : G48 q2) (g3 : G28 q3) (g4 : G110 q4) (g5 : G88 q5) : ∀ a0 r, xCY N q0 q1 q2 q3 q4 q5 a0 = some r → RE Tryz.f48 I48 (xDz a0) (xC3 r) := fun a0 r h =>
 bE h fun r1 h0 h => bE h fun r2 h1 h => cE h (fun h2 h => bE h fun r3 h3 h => bE h fun r4 h4 h => dE h fk48 (xXS a0 r1 r2 r3 r4) (oc5 (g5 _ _ h0) (xAq h1) h2 (g5 _ _ h3) (xEp h4) on)) fun h2 h =>
 bE h fun r3 h3 h => cE h (fun h4 h => bE h fun r4 h5 h => bE h fun r5 h6 h => dE h fk48 (xXT a0 r1 r2 r3 r4 r5) (oc7 (g5 _ _ h0) (xAq h1) h2 (xAq h3) h4 (g5 _ _ h5) (xEp h6) on)) fun h4 h =>
 dE h fk48 (xXU a0 r1 r2 r3) (oc5 (g5 _ _ h0) (xAq h1) h2 (xAq h3) h4 on)
theorem xIL {N q0 q1 q2 q3 q4 q5} (g0 : G137 q0) (g1 : G127 q1) (g2 : G48 q2) (g3 : G28 q3) (g4 : G110 q4) (g5 : G88 q5) {a0} {r} (h : xCY N q0 q1 q2 q3 q4 q5 a0 = some r) : AbC 48 (xDz a0) (xC3 r) :=
 AbsCalls.of_reach fk48 rfl rfl (Nat.le_of_ble_eq_true rfl) (vCp g0 g1 g2 g3 g4 g5 a0 r h)
noncomputable def I28 : Info := { body := (Tryz.f28.body).getD .skip, nt := 86, results := [.cell 2 25], keep := [0, 4, 6, 8, 10, 12, 14, 16, 18, 68, 118, 1, 5, 9, 11, 13, 17], live := [], modes := [(7, [(0, .take, false)]), (21, [(0, .take, false)])], ext := [0], fcast := [(5, 3, true)] }
theorem fk28 : FnOk Tryz.prog 28 Tryz.f28 I28 := ⟨Tryz.func28, by kernel_rfl, by kernel_rfl, by kernel_rfl, by kernel_rfl⟩
abbrev xO8 (v0 : Rdr) (v1 : Bool × Rdr) : Prop := AbC 45 (xAG v0 [108, 101, 116]) (xAe v1)
abbrev xVD (v0 : Bool × Rdr) (v1 : Str × Rdr) : Prop := AbC 46 (xEa (xJh v0)) (xDa v1)
def xWO (a0 : Rdr) (r1 : Bool × Rdr) (r2 : Str × Rdr) (r3 : Rdr) (r4 : Exp × Rdr) (r5 : Rdr) (r6 : Exp × Rdr) : rE I28 (xCn a0) [Y] [xAe r1, xDa r2, xAI r3, xAu r4, xAI r5, xAu r6] = dn (xAu ((Exp.mk 7 0 r2.1 [(Exp.re r4.1), (Exp.re r6.1)]), r6.2)) [xO8 a0 r1, iY r1.1, xVD r1 r2, AbC 47 (xBI r2.2 [61]) (xAI r3), xK5 r3 r4, AbC 47 (xBI r4.2 [105, 110]) (xAI r5), xK5 r5 r6] := by kernel_rfl
def xWP (a0 : Rdr) (r1 : Bool × Rdr) (r2 : Bool × Rdr) (r3 : Exp × Rdr) (r4 : Rdr) (r5 : Exp × Rdr) (r6 : Rdr) (r7 : Exp × Rdr) : rE I28 (xCn a0) [F, Y] [xAe r1, xAe r2, xAu r3, xAI r4, xAu r5, xAI r6, xAu r7] = dn (xAu ((Exp.mk 8 0 [] [(Exp.re r3.1), (Exp.re r5.1), (Exp.re r7.1)]), r7.2)) [xO8 a0 r1, iN r1.1, AbC 45 (xAG r1.2 [105, 102]) (xAe r2), iY r2.1, AbC 28 (xCn (xJh r2)) (xAu r3), AbC 47 (xBI r3.2 [116, 104, 101, 110]) (xAI r4), xK5 r4 r5, AbC 47 (xBI r5.2 [101, 108, 115, 101]) (xAI r6), xK5 r6 r7] := by kernel_rfl
def xWQ (a0 : Rdr) (r1 : Bool × Rdr) (r2 : Bool × Rdr) (r3 : Bool × Rdr) (r4 : Str × Rdr) (r5 : Rdr) (r6 : Exp × Rdr) (r7 : Rdr) (r8 : Exp × Rdr) : rE I28 (xCn a0) [F, F, Y] [xAe r1, xAe r2, xAe r3, xDa r4, xAI r5, xAu r6, xAI r7, xAu r8] = dn (xAu ((Exp.mk 9 0 r4.1 [(Exp.re r6.1), (Exp.re r8.1)]), r8.2)) [xO8 a0 r1, iN r1.1, AbC 45 (xAG r1.2 [105, 102]) (xAe r2), iN r2.1, AbC 45 (xAG r2.2 [102, 111, 114]) (xAe r3), iY r3.1, xVD r3 r4, AbC 47 (xBI r4.2 [105, 110]) (xAI r5), xK5 r5 r6, AbC 47 (xBI r6.2 [100, 111]) (xAI r7), xK5 r7 r8] := by kernel_rfl
def xWR (a0 : Rdr) (r1 : Bool × Rdr) (r2 : Bool × Rdr) (r3 : Bool × Rdr) (r4 : Exp × Rdr) : rE I28 (xCn a0) [F, F, F] [xAe r1, xAe r2, xAe r3, xC3 r4] = dn (xAu (r4.1, r4.2)) [xO8 a0 r1, iN r1.1, AbC 45 (xAG r1.2 [105, 102]) (xAe r2), iN r2.1, AbC 45 (xAG r2.2 [102, 111, 114]) (xAe r3), iN r3.1, AbC 48 (xDz r3.2) (xC3 r4)] := by kernel_rfl
theorem vB4 {N q0 q1 q2 q3 q4 q5} (g0 : G137 q0) (g1 : G127 q1) (g2 : G48 q2) (g3 : G28 q3) (g4 : G110 q4) (g5 : G88 q5) : ∀ a0 r, xD1 N q0 q1 q2 q3 q4 q5 a0 = some r → RE Tryz.f28 I28 (xCn a0) (xAu r) := fun a0 r h =>
 bE h fun r1 h0 h => cE h (fun h1 h => bE h fun r2 h2 h => bE h fun r3 h3 h => bE h fun r4 h4 h => bE h fun r5 h5 h => bE h fun r6 h6 h => dE h fk28 (xWO a0 r1 r2 r3 r4 r5 r6) (oc7 (xAq h0) h1 (xJu h2) (xCI h3) (g3 _ _ h4) (xCI h5) (g3 _ _ h6) on)) fun h1 h =>
 bE h fun r2 h2 h => cE h (fun h3 h => bE h fun r3 h4 h => bE h fun r4 h5 h => bE h fun r5 h6 h => bE h fun r6 h7 h => bE h fun r7 h8 h => dE h fk28 (xWP a0 r1 r2 r3 r4 r5 r6 r7) (oc9 (xAq h0) h1 (xAq h2) h3 (g3 _ _ h4) (xCI h5) (g3 _ _ h6) (xCI h7) (g3 _ _ h8) on)) fun h3 h =>
 bE h fun r3 h4 h => cE h (fun h5 h => bE h fun r4 h6 h => bE h fun r5 h7 h => bE h fun r6 h8 h => bE h fun r7 h9 h => bE h fun r8 h10 h => dE h fk28 (xWQ a0 r1 r2 r3 r4 r5 r6 r7 r8) (oc11 (xAq h0) h1 (xAq h2) h3 (xAq h4) h5 (xJu h6) (xCI h7) (g3 _ _ h8) (xCI h9) (g3 _ _ h10) on)) fun h5 h =>
 bE h fun r4 h6 h => dE h fk28 (xWR a0 r1 r2 r3 r4) (oc7 (xAq h0) h1 (xAq h2) h3 (xAq h4) h5 (g2 _ _ h6) on)
theorem xJG {N q0 q1 q2 q3 q4 q5} (g0 : G137 q0) (g1 : G127 q1) (g2 : G48 q2) (g3 : G28 q3) (g4 : G110 q4) (g5 : G88 q5) {a0} {r} (h : xD1 N q0 q1 q2 q3 q4 q5 a0 = some r) : AbC 28 (xCn a0) (xAu r) :=
 AbsCalls.of_reach fk28 rfl rfl (Nat.le_of_ble_eq_true rfl) (vB4 g0 g1 g2 g3 g4 g5 a0 r h)
noncomputable def I110 : Info := { body := (Tryz.f110.body).getD .skip, nt := 21, results := [.cell 2 25], keep := [0, 4, 6, 14, 1, 5, 7], live := [(2, [0, 4, 6, 1, 5, 7])], modes := [], ext := [0], casts := [(2, [(7, 3, true)])] }
theorem xRV : FnOk Tryz.prog 110 Tryz.f110 I110 := ⟨Tryz.func110, by kernel_rfl, by kernel_rfl, by kernel_rfl, by kernel_rfl⟩
def xNb (b0 : Rdr) (b2 b3 : Exp) : St := [(0, .v false [.ptr 0 0]), (4, .v false [.ptr 2 0]), (6, .v false [.ptr 3 0]), (1, .v true [.sl .ro .tok (Rdr.toks b0), .int .i64 (Rdr.i b0), .int .i64 (Rdr.fin b0), .int .i64 (Rdr.bad b0)]), (5, .v true [.int .i64 (Exp.kind b2), .int .i64 (Exp.n b2), .str (Exp.text b2), .sl .own .exp (Exp.args b2)]), (7, .v true [.int .i64 (Exp.kind b3), .int .i64 (Exp.n b3), .str (Exp.text b3), .sl .ro .exp (Exp.args b3)])]
def xSN (b0 : Rdr) (b2 b3 : Exp) (r1 : Bool × Rdr) (r2 : Exp × Rdr) (r3 : Exp) : rS 2 I110 (xNb b0 b2 b3) [Y] [xAe r1, xBj r2, xBp r3] = st 2 I110 (xNb r2.2 b2 r3) [AbC 45 (xAG b0 [42]) (xAe r1), iY r1.1, AbC 127 (xBq (xJh r1)) (xBj r2), AbC 66 (xDi 3 b3 r2.1) (xBp r3)] := by kernel_rfl
def xSO (b0 : Rdr) (b2 b3 : Exp) (r1 : Bool × Rdr) : rS 2 I110 (xNb b0 b2 b3) [F] [xAe r1] = dn (xBG (b3, r1.2)) [AbC 45 (xAG b0 [42]) (xAe r1), iN r1.1] := by kernel_rfl
def xSP (a0 : Rdr) (r1 : Exp × Rdr) : rE I110 (xEf a0) [] [xBj r1] = st 2 I110 (xNb r1.2 (Exp.mk 0 0 [] []) r1.1) [AbC 127 (xBq a0) (xBj r1)] := by kernel_rfl
theorem vAY {N q0 q1 q2 q3 q4 q5} (g0 : G137 q0) (g1 : G127 q1) (g2 : G48 q2) (g3 : G28 q3) (g4 : G110 q4) (g5 : G88 q5) : ∀ n b0 b2 b3 r, xC4 N q0 q1 q2 q3 q4 q5 n b0 b2 b3 = some r → RS Tryz.f110 I110 2 (xNb b0 b2 b3) (xBG r) := by
 intro n
 induction n with
 | zero => exact fun _ _ _ _ h => nE h
 | succ n ih =>
  exact fun b0 b2 b3 r h =>
   bE h fun r1 h0 h => cE h (fun h1 h => bE h fun r2 h2 h => bE h fun r3 h3 h => tS xRV (xSN b0 b2 b3 r1 r2 r3) (oc4 (xAq h0) h1 (g1 _ _ h2) (xEp h3) on) (ih _ _ _ _ h)) fun h1 h =>
   dS h xRV (xSO b0 b2 b3 r1) (oc2 (xAq h0) h1 on)
theorem vAZ {N q0 q1 q2 q3 q4 q5} (g0 : G137 q0) (g1 : G127 q1) (g2 : G48 q2) (g3 : G28 q3) (g4 : G110 q4) (g5 : G88 q5) : ∀ a0 r, xCZ N q0 q1 q2 q3 q4 q5 a0 = some r → RE Tryz.f110 I110 (xEf a0) (xBG r) := fun a0 r h =>
 bE h fun r1 h0 h => tE xRV (xSP a0 r1) (oc (g1 _ _ h0) on) (vAY g0 g1 g2 g3 g4 g5 _ _ _ _ _ h)
theorem xIM {N q0 q1 q2 q3 q4 q5} (g0 : G137 q0) (g1 : G127 q1) (g2 : G48 q2) (g3 : G28 q3) (g4 : G110 q4) (g5 : G88 q5) {a0} {r} (h : xCZ N q0 q1 q2 q3 q4 q5 a0 = some r) : AbC 110 (xEf a0) (xBG r) :=
 AbsCalls.of_reach xRV rfl rfl (Nat.le_of_ble_eq_true rfl) (vAZ g0 g1 g2 g3 g4 g5 a0 r h)
noncomputable def I88 : Info := { body := (Tryz.f88.body).getD .skip, nt := 29, results := [.cell 2 25], keep := [0, 4, 6, 8, 24, 28, 1, 5, 7], live := [(2, [0, 4, 6, 1, 5, 7])], modes := [(2, [(2, .take, false)]), (7, [(0, .take, false)])], ext := [0], casts := [(2, [(7, 3, true)])] }
theorem fk88 : FnOk Tryz.prog 88 Tryz.f88 I88 := ⟨Tryz.func88, by kernel_rfl, by kernel_rfl, by kernel_rfl, by kernel_rfl⟩
def xLp (b0 : Rdr) (b2 b3 : Exp) : St := [(0, .v false [.ptr 0 0]), (4, .v false [.ptr 2 0]), (6, .v false [.ptr 3 0]), (1, .v true [.sl .ro .tok (Rdr.toks b0), .int .i64 (Rdr.i b0), .int .i64 (Rdr.fin b0), .int .i64 (Rdr.bad b0)]), (5, .v true [.int .i64 (Exp.kind b2), .int .i64 (Exp.n b2), .str (Exp.text b2), .sl .own .exp (Exp.args b2)]), (7, .v true [.int .i64 (Exp.kind b3), .int .i64 (Exp.n b3), .str (Exp.text b3), .sl .ro .exp (Exp.args b3)])]
abbrev xNq (v0 : Rdr) (v1 : Bool × Rdr) : Prop := AbC 45 (xAG v0 [43]) (xAe v1)
abbrev xLP (v0 v1 : Bool × Rdr) : Prop := AbC 45 (xAG v0.2 [45]) (xAe v1)
abbrev xO9 (v0 : Bool × Rdr) (v1 : Exp × Rdr) : Prop := AbC 110 (xEf (xJh v0)) (xBG v1)
def xZP (b0 : Rdr) (b2 b3 : Exp) (r1 : Bool × Rdr) (r2 : Bool × Rdr) (r3 : Exp × Rdr) (r4 : Exp) : rS 2 I88 (xLp b0 b2 b3) [Y, Y, Y] [xAe r1, xAe r2, xBG r3, xBp r4] = st 2 I88 (xLp r3.2 b2 r4) [xNq b0 r1, iY r1.1, iY true, xLP r1 r2, iY r2.1, xO9 r2 r3, AbC 66 (xDi 2 b3 r3.1) (xBp r4)] := by kernel_rfl
def xZQ (b0 : Rdr) (b2 b3 : Exp) (r1 : Bool × Rdr) (r2 : Bool × Rdr) (r3 : Exp × Rdr) (r4 : Exp) : rS 2 I88 (xLp b0 b2 b3) [Y, Y, F] [xAe r1, xAe r2, xBG r3, xBp r4] = st 2 I88 (xLp r3.2 b2 r4) [xNq b0 r1, iY r1.1, iY true, xLP r1 r2, iN r2.1, xO9 r2 r3, AbC 66 (xDi 1 b3 r3.1) (xBp r4)] := by kernel_rfl
def xZR (b0 : Rdr) (b2 b3 : Exp) (r1 : Bool × Rdr) (r2 : Bool × Rdr) (r3 : Bool × Rdr) (r4 : Exp × Rdr) (r5 : Exp) : rS 2 I88 (xLp b0 b2 b3) [F, Y, Y] [xAe r1, xAe r2, xAe r3, xBG r4, xBp r5] = st 2 I88 (xLp r4.2 b2 r5) [xNq b0 r1, iN r1.1, xLP r1 r2, iY r2.1, xLP r2 r3, iY r3.1, xO9 r3 r4, AbC 66 (xDi 2 b3 r4.1) (xBp r5)] := by kernel_rfl
def xZS (b0 : Rdr) (b2 b3 : Exp) (r1 : Bool × Rdr) (r2 : Bool × Rdr) (r3 : Bool × Rdr) (r4 : Exp × Rdr) (r5 : Exp) : rS 2 I88 (xLp b0 b2 b3) [F, Y, F] [xAe r1, xAe r2, xAe r3, xBG r4, xBp r5] = st 2 I88 (xLp r4.2 b2 r5) [xNq b0 r1, iN r1.1, xLP r1 r2, iY r2.1, xLP r2 r3, iN r3.1, xO9 r3 r4, AbC 66 (xDi 1 b3 r4.1) (xBp r5)] := by kernel_rfl
def xZT (b0 : Rdr) (b2 b3 : Exp) (r1 : Bool × Rdr) (r2 : Bool × Rdr) : rS 2 I88 (xLp b0 b2 b3) [F, F] [xAe r1, xAe r2] = dn (xCe (b3, r2.2)) [xNq b0 r1, iN r1.1, xLP r1 r2, iN r2.1] := by kernel_rfl
def xZU (a0 : Rdr) (r1 : Exp × Rdr) : rE I88 (xEv a0) [] [xBG r1] = st 2 I88 (xLp r1.2 (Exp.mk 0 0 [] []) r1.1) [AbC 110 (xEf a0) (xBG r1)] := by kernel_rfl
theorem vC5 {N q0 q1 q2 q3 q4 q5} (g0 : G137 q0) (g1 : G127 q1) (g2 : G48 q2) (g3 : G28 q3) (g4 : G110 q4) (g5 : G88 q5) : ∀ n b0 b2 b3 r, xCP N q0 q1 q2 q3 q4 q5 n b0 b2 b3 = some r → RS Tryz.f88 I88 2 (xLp b0 b2 b3) (xCe r) := by
 intro n
 induction n with
 | zero => exact fun _ _ _ _ h => nE h
 | succ n ih =>
  exact fun b0 b2 b3 r h =>
   bE h fun r1 h0 h => cE h (fun h1 h => bE h fun r2 h3 h => cE h (fun h4 h => bE h fun r3 h5 h => bE h fun r4 h6 h => tS fk88 (xZP b0 b2 b3 r1 r2 r3 r4) (oc7 (xAq h0) h1 rfl (xAq h3) h4 (g4 _ _ h5) (xEp h6) on) (ih _ _ _ _ h)) fun h4 h =>
   bE h fun r3 h5 h => bE h fun r4 h6 h => tS fk88 (xZQ b0 b2 b3 r1 r2 r3 r4) (oc7 (xAq h0) h1 rfl (xAq h3) h4 (g4 _ _ h5) (xEp h6) on) (ih _ _ _ _ h)) fun h1 h =>
   bE h fun r2 h2 h => cE h (fun h3 h => bE h fun r3 h4 h => cE h (fun h5 h => bE h fun r4 h6 h => bE h fun r5 h7 h => tS fk88 (xZR b0 b2 b3 r1 r2 r3 r4 r5) (oc8 (xAq h0) h1 (xAq h2) h3 (xAq h4) h5 (g4 _ _ h6) (xEp h7) on) (ih _ _ _ _ h)) fun h5 h =>
   bE h fun r4 h6 h => bE h fun r5 h7 h => tS fk88 (xZS b0 b2 b3 r1 r2 r3 r4 r5) (oc8 (xAq h0) h1 (xAq h2) h3 (xAq h4) h5 (g4 _ _ h6) (xEp h7) on) (ih _ _ _ _ h)) fun h3 h =>
   dS h fk88 (xZT b0 b2 b3 r1 r2) (oc4 (xAq h0) h1 (xAq h2) h3 on)
theorem vC6 {N q0 q1 q2 q3 q4 q5} (g0 : G137 q0) (g1 : G127 q1) (g2 : G48 q2) (g3 : G28 q3) (g4 : G110 q4) (g5 : G88 q5) : ∀ a0 r, xEk N q0 q1 q2 q3 q4 q5 a0 = some r → RE Tryz.f88 I88 (xEv a0) (xCe r) := fun a0 r h =>
 bE h fun r1 h0 h => tE fk88 (xZU a0 r1) (oc (g4 _ _ h0) on) (vC5 g0 g1 g2 g3 g4 g5 _ _ _ _ _ h)
theorem xKb {N q0 q1 q2 q3 q4 q5} (g0 : G137 q0) (g1 : G127 q1) (g2 : G48 q2) (g3 : G28 q3) (g4 : G110 q4) (g5 : G88 q5) {a0} {r} (h : xEk N q0 q1 q2 q3 q4 q5 a0 = some r) : AbC 88 (xEv a0) (xCe r) :=
 AbsCalls.of_reach fk88 rfl rfl (Nat.le_of_ble_eq_true rfl) (vC6 g0 g1 g2 g3 g4 g5 a0 r h)
theorem xKa {N : Nat} : ∀ d, G137 (xAa N d).c_spec_l11Args ∧ G127 (xAa N d).c_spec_l11Atom ∧ G48 (xAa N d).c_spec_l11Compare ∧ G28 (xAa N d).c_spec_l11Expr ∧ G110 (xAa N d).c_spec_l11Product ∧ G88 (xAa N d).c_spec_l11Sum := by
 intro d
 induction d with
 | zero => exact ⟨fun _ _ _ h => nE h, fun _ _ h => nE h, fun _ _ h => nE h, fun _ _ h => nE h, fun _ _ h => nE h, fun _ _ h => nE h⟩
 | succ d ih =>
  obtain ⟨ih0, ih1, ih2, ih3, ih4, ih5⟩ := ih
  exact ⟨fun _ _ _ h => xJE (N := N) ih0 ih1 ih2 ih3 ih4 ih5 h, fun _ _ h => xJF (N := N) ih0 ih1 ih2 ih3 ih4 ih5 h, fun _ _ h => xIL (N := N) ih0 ih1 ih2 ih3 ih4 ih5 h, fun _ _ h => xJG (N := N) ih0 ih1 ih2 ih3 ih4 ih5 h, fun _ _ h => xIM (N := N) ih0 ih1 ih2 ih3 ih4 ih5 h, fun _ _ h => xKb (N := N) ih0 ih1 ih2 ih3 ih4 ih5 h⟩
theorem xDA {N : Nat} {a0 : Rdr} {r : Exp × Rdr} (h : xH1 N a0 = some r) : AbC 28 (xCn a0) (xAu r) := (xKa N).2.2.2.1 _ r h
def G40 (q : Exp → Int → Option (Int)) : Prop := ∀ a0 a1 r, q a0 a1 = some r → AbC 40 (xDy a0 a1) (xBH r)
noncomputable def I40 : Info := { body := (Tryz.f40.body).getD .skip, nt := 27, results := [.tmp 4], keep := [0, 2, 4, 8, 10, 32, 5], live := [(3, [2, 4, 10, 5])], modes := [(3, [(5, .take, false)])] }
theorem fk40 : FnOk Tryz.prog 40 Tryz.f40 I40 := ⟨Tryz.func40, by kernel_rfl, by kernel_rfl, by kernel_rfl, by kernel_rfl⟩
def xPn (x1 x5 : Int) (b2 : Exp) : St := [(2, .v false [.int .i64 x1]), (4, .v false [.ptr 2 0]), (10, .v false [.int .i64 x5]), (5, .v true [.int .i64 (Exp.kind b2), .int .i64 (Exp.n b2), .str (Exp.text b2), .sl .ro .exp (Exp.args b2)])]
abbrev xGs (v0 : Exp) := (Ln (Exp.args v0) : Int)
abbrev xLQ (v0 : Int) (v1 : Exp) : Prop := iY (dc (v0 < (xGs v1)))
abbrev xK8 (v0 : Int) (v1 : Exp) : Prop := (0 : Int) ≤ v0 ∧ v0 < (Ln (Exp.args v1))
abbrev xJi (v0 : Exp) (v1 : Int) := gD (Exp.args v0) (tN v1) Ty.exp.dflt
def xXn (x1 x5 : Int) (b2 : Exp) (r1 : Int) : rS 3 I40 (xPn x1 x5 b2) [Y, Y] [xBH r1] = st 3 I40 (xPn r1 (W (x5 + 1)) b2) [xLQ x5 b2, iY (dc (x1 ≥ 0)), xK8 x5 b2, AbC 40 (xDy (xJi b2 x5) x1) (xBH r1)] := by kernel_rfl
def xXo (x1 x5 : Int) (b2 : Exp) : rS 3 I40 (xPn x1 x5 b2) [Y, F] [] = dn (xBH x1) [xLQ x5 b2, xK7 x1] := by kernel_rfl
abbrev xPa (v0 : Int) (v1 : Exp) : Prop := iN (dc (v0 < (xGs v1)))
def xXp (x1 x5 : Int) (b2 : Exp) : rS 3 I40 (xPn x1 x5 b2) [F, F] [] = dn (xBH x1) [xPa x5 b2, iN false] := by kernel_rfl
def xXq (a0 : Exp) (a1 : Int) : rE I40 (xDy a0 a1) [] [] = st 3 I40 (xPn (W (a1 - 1)) 0 a0) [] := by kernel_rfl
theorem vCd {N q0} (g0 : G40 q0) : ∀ n x1 x5 b2 r, xD9 N q0 n x1 x5 b2 = some r → RS Tryz.f40 I40 3 (xPn x1 x5 b2) (xBH r) := by
 intro n
 induction n with
 | zero => exact fun _ _ _ _ h => nE h
 | succ n ih =>
  exact fun x1 x5 b2 r h =>
   cE h (fun h0 h => cE h (fun h1 h => iE h fun h2 h => bE h fun r1 h3 h => tS fk40 (xXn x1 x5 b2 r1) (oc4 h0 h1 h2 (g0 _ _ _ h3) on) (ih _ _ _ _ h)) fun h1 h =>
   dS h fk40 (xXo x1 x5 b2) (oc2 h0 h1 on)) fun h0 h =>
   dS h fk40 (xXp x1 x5 b2) (oc2 h0 rfl on)
theorem vCe {N q0} (g0 : G40 q0) : ∀ a0 a1 r, xGW N q0 a0 a1 = some r → RE Tryz.f40 I40 (xDy a0 a1) (xBH r) := fun a0 a1 r h =>
 tE fk40 (xXq a0 a1) on (vCd g0 _ _ _ _ _ h)
theorem xJC {N q0} (g0 : G40 q0) {a0} {a1} {r} (h : xGW N q0 a0 a1 = some r) : AbC 40 (xDy a0 a1) (xBH r) :=
 AbsCalls.of_reach fk40 rfl rfl (Nat.le_of_ble_eq_true rfl) (vCe g0 a0 a1 r h)
theorem xHJ {N : Nat} : ∀ d, G40 (xET N d)
 | 0 => fun _ _ _ h => nE h
 | d + 1 => fun _ _ _ h => xJC (N := N) (xHJ d) h
theorem xHK {N : Nat} {a0 : Exp} {a1 : Int} {r : Int} (h : xJq N a0 a1 = some r) : AbC 40 (xDy a0 a1) (xBH r) := xHJ N _ _ r h
noncomputable def I77 : Info := { body := (Tryz.f77.body).getD .skip, nt := 10, results := [.tmp 4], keep := [0, 2, 8, 14], live := [], modes := [] }
theorem fk77 : FnOk Tryz.prog 77 Tryz.f77 I77 := ⟨Tryz.func77, by kernel_rfl, by kernel_rfl, by kernel_rfl, by kernel_rfl⟩
def xY8 (a0 a1 : Int) : rE I77 (xGJ a0 a1) [Y] [] = dn (xF3 a0) [iY (dc (a0 > a1))] := by kernel_rfl
def xY9 (a0 a1 : Int) : rE I77 (xGJ a0 a1) [F] [] = dn (xF3 a1) [iN (dc (a0 > a1))] := by kernel_rfl
theorem vCT {N : Nat} : ∀ a0 a1 r, xIq N a0 a1 = some r → RE Tryz.f77 I77 (xGJ a0 a1) (xF3 r) := fun a0 a1 r h =>
 cE h (fun h0 h => dE h fk77 (xY8 a0 a1) (oc h0 on)) fun h0 h =>
 dE h fk77 (xY9 a0 a1) (oc h0 on)
theorem xM7 {N : Nat} {a0 : Int} {a1 : Int} {r : Int} (h : xIq N  a0 a1 = some r) : AbC 77 (xGJ a0 a1) (xF3 r) :=
 AbsCalls.of_reach fk77 rfl rfl (Nat.le_of_ble_eq_true rfl) (vCT a0 a1 r h)
def G41 (q : Exp → Option (Int)) : Prop := ∀ a0 r, q a0 = some r → AbC 41 (xDp a0) (xBQ r)
noncomputable def I41 : Info := { body := (Tryz.f41.body).getD .skip, nt := 22, results := [.tmp 2], keep := [0, 2, 4, 6, 8, 18, 3], live := [(3, [2, 6, 8, 3])], modes := [] }
theorem fk41 : FnOk Tryz.prog 41 Tryz.f41 I41 := ⟨Tryz.func41, by kernel_rfl, by kernel_rfl, by kernel_rfl, by kernel_rfl⟩
def xPQ (x3 x4 : Int) (b1 : Exp) : St := [(2, .v false [.ptr 1 0]), (6, .v false [.int .i64 x3]), (8, .v false [.int .i64 x4]), (3, .v true [.int .i64 (Exp.kind b1), .int .i64 (Exp.n b1), .str (Exp.text b1), .sl .ro .exp (Exp.args b1)])]
def xXr (x3 x4 : Int) (b1 : Exp) (r1 r2 : Int) : rS 3 I41 (xPQ x3 x4 b1) [Y] [xBQ r1, xF3 r2] = st 3 I41 (xPQ r2 (W (x4 + 1)) b1) [xLQ x4 b1, xK8 x4 b1, AbC 41 (xDp (xJi b1 x4)) (xBQ r1), AbC 77 (xGJ x3 r1) (xF3 r2)] := by kernel_rfl
def xXs (x3 x4 : Int) (b1 : Exp) : rS 3 I41 (xPQ x3 x4 b1) [F] [] = dn (xBQ (W (x3 + 1))) [xPa x4 b1] := by kernel_rfl
def xXt (a0 : Exp) : rE I41 (xDp a0) [] [] = st 3 I41 (xPQ 0 0 a0) [] := by kernel_rfl
theorem vCf {N q0} (g0 : G41 q0) : ∀ n x3 x4 b1 r, xEz N q0 n x3 x4 b1 = some r → RS Tryz.f41 I41 3 (xPQ x3 x4 b1) (xBQ r) := by
 intro n
 induction n with
 | zero => exact fun _ _ _ _ h => nE h
 | succ n ih =>
  exact fun x3 x4 b1 r h =>
   cE h (fun h0 h => iE h fun h1 h => bE h fun r1 h2 h => bE h fun r2 h3 h => tS fk41 (xXr x3 x4 b1 r1 r2) (oc4 h0 h1 (g0 _ _ h2) (xM7 h3) on) (ih _ _ _ _ h)) fun h0 h =>
   dS h fk41 (xXs x3 x4 b1) (oc h0 on)
theorem vCg {N q0} (g0 : G41 q0) : ∀ a0 r, xGv N q0 a0 = some r → RE Tryz.f41 I41 (xDp a0) (xBQ r) := fun a0 r h =>
 tE fk41 (xXt a0) on (vCf g0 _ _ _ _ _ h)
theorem xIW {N q0} (g0 : G41 q0) {a0} {r} (h : xGv N q0 a0 = some r) : AbC 41 (xDp a0) (xBQ r) :=
 AbsCalls.of_reach fk41 rfl rfl (Nat.le_of_ble_eq_true rfl) (vCg g0 a0 r h)
theorem xG8 {N : Nat} : ∀ d, G41 (xE3 N d)
 | 0 => fun _ _ h => nE h
 | d + 1 => fun _ _ h => xIW (N := N) (xG8 d) h
theorem xIp {N : Nat} {a0 : Exp} {r : Int} (h : xIe N a0 = some r) : AbC 41 (xDp a0) (xBQ r) := xG8 N _ r h
noncomputable def I105 : Info := { body := (Tryz.f105.body).getD .skip, nt := 15, results := [.tmp 6], keep := [0, 2, 4, 12], live := [], modes := [(1, [(3, .take, false)])] }
theorem xVR : FnOk Tryz.prog 105 Tryz.f105 I105 := ⟨Tryz.func105, by kernel_rfl, by kernel_rfl, by kernel_rfl, by kernel_rfl⟩
def xSg (a0 a1 a2 : Int) : rE I105 (xFp a0 a1 a2) [Y] [] = dn (xDL (dc (a0 ≤ a2))) [iY (dc (a0 ≥ a1))] := by kernel_rfl
def xSh (a0 a1 a2 : Int) : rE I105 (xFp a0 a1 a2) [F] [] = dn (xDL false) [iN (dc (a0 ≥ a1))] := by kernel_rfl
theorem vAS {N : Nat} : ∀ a0 a1 a2 r, xHM N a0 a1 a2 = some r → RE Tryz.f105 I105 (xFp a0 a1 a2) (xDL r) := fun a0 a1 a2 r h =>
 cE h (fun h0 h => dE h xVR (xSg a0 a1 a2) (oc h0 on)) fun h0 h =>
 dE h xVR (xSh a0 a1 a2) (oc h0 on)
theorem xH2 {N : Nat} {a0 : Int} {a1 : Int} {a2 : Int} {r : Bool} (h : xHM N  a0 a1 a2 = some r) : AbC 105 (xFp a0 a1 a2) (xDL r) :=
 AbsCalls.of_reach xVR rfl rfl (Nat.le_of_ble_eq_true rfl) (vAS a0 a1 a2 r h)
noncomputable def I78 : Info := { body := (Tryz.f78.body).getD .skip, nt := 120, results := [.tmp 2], keep := [0, 2, 4, 6, 16, 18, 46, 74, 102, 130, 154, 182, 212, 3], live := [], modes := [(4, [(2, .take, false), (7, .take, false)]), (6, [(2, .take, false), (7, .take, false)]), (8, [(2, .take, false), (7, .take, false)]), (10, [(3, .take, false), (8, .take, false)]), (12, [(3, .take, false)]), (14, [(3, .take, false), (7, .take, false)]), (17, [(3, .take, false), (7, .take, false)]), (19, [(3, .take, false), (8, .take, false)])] }
theorem fk78 : FnOk Tryz.prog 78 Tryz.f78 I78 := ⟨Tryz.func78, by kernel_rfl, by kernel_rfl, by kernel_rfl, by kernel_rfl⟩
abbrev xLR (v0 : Exp) : Prop := iY ((Exp.kind v0) == 1)
abbrev xQt (v0 : Exp) := (Ln (Exp.args v0) : Int) == 0
abbrev xKE (v0 : Exp) : Prop := iY (xQt v0)
abbrev xIA (v0 : Exp) : Prop := iY (((Exp.text v0) : Str) == [])
def xZa (a0 : Exp) (r1 : Bool) : rE I78 (xAy a0) [Y, Y, Y] [xDL r1] = dn (xAx r1) [xLR a0, xKE a0, xIA a0, AbC 105 (xFp (Exp.n a0) 0 1000000000) (xDL r1)] := by kernel_rfl
abbrev xI2 (v0 : Exp) : Prop := iN (((Exp.text v0) : Str) == [])
def xZb (a0 : Exp) : rE I78 (xAy a0) [Y, Y, F] [] = dn (xAx false) [xLR a0, xKE a0, xI2 a0] := by kernel_rfl
abbrev xNW (v0 : Exp) : Prop := iN (xQt v0)
def xZc (a0 : Exp) : rE I78 (xAy a0) [Y, F, F] [] = dn (xAx false) [xLR a0, xNW a0, iN false] := by kernel_rfl
abbrev xBf (v0 : Exp) : Prop := iN ((Exp.kind v0) == 1)
abbrev xJT (v0 : Exp) : Prop := iY ((Exp.kind v0) == 2)
abbrev xEn (v0 : Exp) : Prop := iY ((Exp.n v0) == 0)
def xZd (a0 : Exp) (r1 : Bool) : rE I78 (xAy a0) [F, Y, Y, Y] [xA9 r1] = dn (xAx r1) [xBf a0, xJT a0, xKE a0, xEn a0, AbC 82 (xEE (Exp.text a0)) (xA9 r1)] := by kernel_rfl
abbrev xGD (v0 : Exp) : Prop := iN ((Exp.n v0) == 0)
def xZe (a0 : Exp) : rE I78 (xAy a0) [F, Y, Y, F] [] = dn (xAx false) [xBf a0, xJT a0, xKE a0, xGD a0] := by kernel_rfl
def xZf (a0 : Exp) : rE I78 (xAy a0) [F, Y, F, F] [] = dn (xAx false) [xBf a0, xJT a0, xNW a0, iN false] := by kernel_rfl
abbrev xBw (v0 : Exp) : Prop := iN ((Exp.kind v0) == 2)
abbrev xJU (v0 : Exp) : Prop := iY ((Exp.kind v0) == 3)
def xZg (a0 : Exp) (r1 : Bool) : rE I78 (xAy a0) [F, F, Y, Y, Y] [xAK r1] = dn (xAx r1) [xBf a0, xBw a0, xJU a0, xKE a0, xEn a0, AbC 87 (xCi (Exp.text a0)) (xAK r1)] := by kernel_rfl
def xZh (a0 : Exp) : rE I78 (xAy a0) [F, F, Y, Y, F] [] = dn (xAx false) [xBf a0, xBw a0, xJU a0, xKE a0, xGD a0] := by kernel_rfl
def xZi (a0 : Exp) : rE I78 (xAy a0) [F, F, Y, F, F] [] = dn (xAx false) [xBf a0, xBw a0, xJU a0, xNW a0, iN false] := by kernel_rfl
abbrev xBY (v0 : Exp) : Prop := iN ((Exp.kind v0) == 3)
abbrev xJV (v0 : Exp) : Prop := iY ((Exp.kind v0) == 4)
def xZj (a0 : Exp) : rE I78 (xAy a0) [F, F, F, Y, Y, Y] [] = dn (xAx (dc ((xGs a0) ≤ 8))) [xBf a0, xBw a0, xBY a0, xJV a0, xEn a0, xIA a0] := by kernel_rfl
def xUC (a0 : Exp) : rE I78 (xAy a0) [F, F, F, Y, Y, F] [] = dn (xAx false) [xBf a0, xBw a0, xBY a0, xJV a0, xEn a0, xI2 a0] := by kernel_rfl
def xUD (a0 : Exp) : rE I78 (xAy a0) [F, F, F, Y, F, F] [] = dn (xAx false) [xBf a0, xBw a0, xBY a0, xJV a0, xGD a0, iN false] := by kernel_rfl
abbrev xCA (v0 : Exp) : Prop := iN ((Exp.kind v0) == 4)
abbrev xLA (v0 : Exp) : Prop := iY ((Exp.kind v0) == 5)
def xUE (a0 : Exp) (r1 : Int) : rE I78 (xAy a0) [F, F, F, F, Y, Y] [xAk r1] = dn (xAx ((xGs a0) == r1)) [xBf a0, xBw a0, xBY a0, xCA a0, xLA a0, xEn a0, AbC 106 (xAs (Exp.text a0)) (xAk r1)] := by kernel_rfl
def xUF (a0 : Exp) : rE I78 (xAy a0) [F, F, F, F, Y, F] [] = dn (xAx false) [xBf a0, xBw a0, xBY a0, xCA a0, xLA a0, xGD a0] := by kernel_rfl
abbrev xDk (v0 : Exp) : Prop := iN ((Exp.kind v0) == 5)
abbrev xHa (v0 : Exp) : Prop := iY ((Exp.kind v0) == 6)
abbrev xQu (v0 : Exp) := (Ln (Exp.args v0) : Int) == 2
abbrev xNX (v0 : Exp) : Prop := iY (xQu v0)
def xUG (a0 : Exp) (r1 : Bool) : rE I78 (xAy a0) [F, F, F, F, F, Y, Y, Y] [xDL r1] = dn (xAx r1) [xBf a0, xBw a0, xBY a0, xCA a0, xDk a0, xHa a0, xIA a0, xNX a0, AbC 105 (xFp (Exp.n a0) 1 5) (xDL r1)] := by kernel_rfl
abbrev xNY (v0 : Exp) : Prop := iN (xQu v0)
def xUH (a0 : Exp) : rE I78 (xAy a0) [F, F, F, F, F, Y, Y, F] [] = dn (xAx false) [xBf a0, xBw a0, xBY a0, xCA a0, xDk a0, xHa a0, xIA a0, xNY a0] := by kernel_rfl
def xUI (a0 : Exp) : rE I78 (xAy a0) [F, F, F, F, F, Y, F, F] [] = dn (xAx false) [xBf a0, xBw a0, xBY a0, xCA a0, xDk a0, xHa a0, xI2 a0, iN false] := by kernel_rfl
abbrev xE6 (v0 : Exp) : Prop := iN ((Exp.kind v0) == 6)
abbrev xGq (v0 : Exp) : Prop := iY ((Exp.kind v0) == 7)
def xUJ (a0 : Exp) (r1 : Bool) : rE I78 (xAy a0) [F, F, F, F, F, F, Y, Y, Y, Y] [xAK r1] = dn (xAx r1) [xBf a0, xBw a0, xBY a0, xCA a0, xDk a0, xE6 a0, xGq a0, xGq a0, xEn a0, xNX a0, AbC 87 (xCi (Exp.text a0)) (xAK r1)] := by kernel_rfl
def xUK (a0 : Exp) : rE I78 (xAy a0) [F, F, F, F, F, F, Y, Y, Y, F] [] = dn (xAx false) [xBf a0, xBw a0, xBY a0, xCA a0, xDk a0, xE6 a0, xGq a0, xGq a0, xEn a0, xNY a0] := by kernel_rfl
def xUL (a0 : Exp) : rE I78 (xAy a0) [F, F, F, F, F, F, Y, Y, F, F] [] = dn (xAx false) [xBf a0, xBw a0, xBY a0, xCA a0, xDk a0, xE6 a0, xGq a0, xGq a0, xGD a0, iN false] := by kernel_rfl
abbrev xDW (v0 : Exp) : Prop := iN ((Exp.kind v0) == 7)
abbrev xI3 (v0 : Exp) : Prop := iY ((Exp.kind v0) == 9)
def xUM (a0 : Exp) (r1 : Bool) : rE I78 (xAy a0) [F, F, F, F, F, F, F, Y, Y, Y] [xAK r1] = dn (xAx r1) [xBf a0, xBw a0, xBY a0, xCA a0, xDk a0, xE6 a0, xDW a0, xI3 a0, xEn a0, xNX a0, AbC 87 (xCi (Exp.text a0)) (xAK r1)] := by kernel_rfl
def xUN (a0 : Exp) : rE I78 (xAy a0) [F, F, F, F, F, F, F, Y, Y, F] [] = dn (xAx false) [xBf a0, xBw a0, xBY a0, xCA a0, xDk a0, xE6 a0, xDW a0, xI3 a0, xEn a0, xNY a0] := by kernel_rfl
def xUO (a0 : Exp) : rE I78 (xAy a0) [F, F, F, F, F, F, F, Y, F, F] [] = dn (xAx false) [xBf a0, xBw a0, xBY a0, xCA a0, xDk a0, xE6 a0, xDW a0, xI3 a0, xGD a0, iN false] := by kernel_rfl
abbrev xFC (v0 : Exp) : Prop := iN ((Exp.kind v0) == 9)
abbrev xIB (v0 : Exp) : Prop := iY ((Exp.kind v0) == 8)
def xUP (a0 : Exp) : rE I78 (xAy a0) [F, F, F, F, F, F, F, F, Y, Y, Y] [] = dn (xAx ((xGs a0) == 3)) [xBf a0, xBw a0, xBY a0, xCA a0, xDk a0, xE6 a0, xDW a0, xFC a0, xIB a0, xEn a0, xIA a0] := by kernel_rfl
def xUQ (a0 : Exp) : rE I78 (xAy a0) [F, F, F, F, F, F, F, F, Y, Y, F] [] = dn (xAx false) [xBf a0, xBw a0, xBY a0, xCA a0, xDk a0, xE6 a0, xDW a0, xFC a0, xIB a0, xEn a0, xI2 a0] := by kernel_rfl
def xUR (a0 : Exp) : rE I78 (xAy a0) [F, F, F, F, F, F, F, F, Y, F, F] [] = dn (xAx false) [xBf a0, xBw a0, xBY a0, xCA a0, xDk a0, xE6 a0, xDW a0, xFC a0, xIB a0, xGD a0, iN false] := by kernel_rfl
abbrev xHb (v0 : Exp) : Prop := iN ((Exp.kind v0) == 8)
def xUS (a0 : Exp) : rE I78 (xAy a0) [F, F, F, F, F, F, F, F, F] [] = dn (xAx false) [xBf a0, xBw a0, xBY a0, xCA a0, xDk a0, xE6 a0, xDW a0, xFC a0, xHb a0] := by kernel_rfl
theorem vCU {N : Nat} : ∀ a0 r, xG9 N a0 = some r → RE Tryz.f78 I78 (xAy a0) (xAx r) := fun a0 r h =>
 cE h (fun h0 h => cE h (fun h1 h => cE h (fun h2 h => bE h fun r1 h3 h => dE h fk78 (xZa a0 r1) (oc4 h0 h1 h2 (xH2 h3) on)) fun h2 h =>
 dE h fk78 (xZb a0) (oc3 h0 h1 h2 on)) fun h1 h =>
 dE h fk78 (xZc a0) (oc3 h0 h1 rfl on)) fun h0 h =>
 cE h (fun h1 h => cE h (fun h2 h => cE h (fun h3 h => bE h fun r1 h4 h => dE h fk78 (xZd a0 r1) (oc5 h0 h1 h2 h3 (xEF h4) on)) fun h3 h =>
 dE h fk78 (xZe a0) (oc4 h0 h1 h2 h3 on)) fun h2 h =>
 dE h fk78 (xZf a0) (oc4 h0 h1 h2 rfl on)) fun h1 h =>
 cE h (fun h2 h => cE h (fun h3 h => cE h (fun h4 h => bE h fun r1 h5 h => dE h fk78 (xZg a0 r1) (oc6 h0 h1 h2 h3 h4 (xB1 h5) on)) fun h4 h =>
 dE h fk78 (xZh a0) (oc5 h0 h1 h2 h3 h4 on)) fun h3 h =>
 dE h fk78 (xZi a0) (oc5 h0 h1 h2 h3 rfl on)) fun h2 h =>
 cE h (fun h3 h => cE h (fun h4 h => cE h (fun h5 h => dE h fk78 (xZj a0) (oc6 h0 h1 h2 h3 h4 h5 on)) fun h5 h =>
 dE h fk78 (xUC a0) (oc6 h0 h1 h2 h3 h4 h5 on)) fun h4 h =>
 dE h fk78 (xUD a0) (oc6 h0 h1 h2 h3 h4 rfl on)) fun h3 h =>
 cE h (fun h4 h => cE h (fun h5 h => bE h fun r1 h6 h => dE h fk78 (xUE a0 r1) (oc7 h0 h1 h2 h3 h4 h5 (xD8 h6) on)) fun h5 h =>
 dE h fk78 (xUF a0) (oc6 h0 h1 h2 h3 h4 h5 on)) fun h4 h =>
 cE h (fun h5 h => cE h (fun h6 h => cE h (fun h7 h => bE h fun r1 h8 h => dE h fk78 (xUG a0 r1) (oc9 h0 h1 h2 h3 h4 h5 h6 h7 (xH2 h8) on)) fun h7 h =>
 dE h fk78 (xUH a0) (oc8 h0 h1 h2 h3 h4 h5 h6 h7 on)) fun h6 h =>
 dE h fk78 (xUI a0) (oc8 h0 h1 h2 h3 h4 h5 h6 rfl on)) fun h5 h =>
 cE h (fun h6 h => cE h (fun h8 h => cE h (fun h9 h => bE h fun r1 h10 h => dE h fk78 (xUJ a0 r1) (oc11 h0 h1 h2 h3 h4 h5 h6 h6 h8 h9 (xB1 h10) on)) fun h9 h =>
 dE h fk78 (xUK a0) (oc10 h0 h1 h2 h3 h4 h5 h6 h6 h8 h9 on)) fun h8 h =>
 dE h fk78 (xUL a0) (oc10 h0 h1 h2 h3 h4 h5 h6 h6 h8 rfl on)) fun h6 h =>
 cE h (fun h7 h => cE h (fun h8 h => cE h (fun h9 h => bE h fun r1 h10 h => dE h fk78 (xUM a0 r1) (oc11 h0 h1 h2 h3 h4 h5 h6 h7 h8 h9 (xB1 h10) on)) fun h9 h =>
 dE h fk78 (xUN a0) (oc10 h0 h1 h2 h3 h4 h5 h6 h7 h8 h9 on)) fun h8 h =>
 dE h fk78 (xUO a0) (oc10 h0 h1 h2 h3 h4 h5 h6 h7 h8 rfl on)) fun h7 h =>
 cE h (fun h8 h => cE h (fun h9 h => cE h (fun h10 h => dE h fk78 (xUP a0) (oc11 h0 h1 h2 h3 h4 h5 h6 h7 h8 h9 h10 on)) fun h10 h =>
 dE h fk78 (xUQ a0) (oc11 h0 h1 h2 h3 h4 h5 h6 h7 h8 h9 h10 on)) fun h9 h =>
 dE h fk78 (xUR a0) (oc11 h0 h1 h2 h3 h4 h5 h6 h7 h8 h9 rfl on)) fun h8 h =>
 dE h fk78 (xUS a0) (oc9 h0 h1 h2 h3 h4 h5 h6 h7 h8 on)
theorem xLZ {N : Nat} {a0 : Exp} {r : Bool} (h : xG9 N  a0 = some r) : AbC 78 (xAy a0) (xAx r) :=
 AbsCalls.of_reach fk78 rfl rfl (Nat.le_of_ble_eq_true rfl) (vCU a0 r h)
def G42 (q : Exp → Option (Bool)) : Prop := ∀ a0 r, q a0 = some r → AbC 42 (xEu a0) (xCr r)
noncomputable def I42 : Info := { body := (Tryz.f42.body).getD .skip, nt := 20, results := [.tmp 2], keep := [0, 2, 4, 6, 16, 34, 3], live := [(2, [2, 6, 3])], modes := [] }
theorem fk42 : FnOk Tryz.prog 42 Tryz.f42 I42 := ⟨Tryz.func42, by kernel_rfl, by kernel_rfl, by kernel_rfl, by kernel_rfl⟩
def xPo (x3 : Int) (b1 : Exp) : St := [(2, .v false [.ptr 1 0]), (6, .v false [.int .i64 x3]), (3, .v true [.int .i64 (Exp.kind b1), .int .i64 (Exp.n b1), .str (Exp.text b1), .sl .ro .exp (Exp.args b1)])]
def xXu (x3 : Int) (b1 : Exp) (r1 : Bool) : rS 2 I42 (xPo x3 b1) [Y, Y] [xCr r1] = dn (xCr false) [xLQ x3 b1, xK8 x3 b1, AbC 42 (xEu (xJi b1 x3)) (xCr r1), iY (!r1)] := by kernel_rfl
def xXv (x3 : Int) (b1 : Exp) (r1 : Bool) : rS 2 I42 (xPo x3 b1) [Y, F] [xCr r1] = st 2 I42 (xPo (W (x3 + 1)) b1) [xLQ x3 b1, xK8 x3 b1, AbC 42 (xEu (xJi b1 x3)) (xCr r1), iN (!r1)] := by kernel_rfl
def xXw (x3 : Int) (b1 : Exp) (r1 : Bool) : rS 2 I42 (xPo x3 b1) [F] [xAx r1] = dn (xCr r1) [xPa x3 b1, AbC 78 (xAy b1) (xAx r1)] := by kernel_rfl
def xXx (a0 : Exp) : rE I42 (xEu a0) [] [] = st 2 I42 (xPo 0 a0) [] := by kernel_rfl
theorem vCh {N q0} (g0 : G42 q0) : ∀ n x3 b1 r, xFa N q0 n x3 b1 = some r → RS Tryz.f42 I42 2 (xPo x3 b1) (xCr r) := by
 intro n
 induction n with
 | zero => exact fun _ _ _ h => nE h
 | succ n ih =>
  exact fun x3 b1 r h =>
   cE h (fun h0 h => iE h fun h1 h => bE h fun r1 h2 h => cE h (fun h3 h => dS h fk42 (xXu x3 b1 r1) (oc4 h0 h1 (g0 _ _ h2) h3 on)) fun h3 h =>
   tS fk42 (xXv x3 b1 r1) (oc4 h0 h1 (g0 _ _ h2) h3 on) (ih _ _ _ h)) fun h0 h =>
   bE h fun r1 h1 h => dS h fk42 (xXw x3 b1 r1) (oc2 h0 (xLZ h1) on)
theorem vCi {N q0} (g0 : G42 q0) : ∀ a0 r, xHe N q0 a0 = some r → RE Tryz.f42 I42 (xEu a0) (xCr r) := fun a0 r h =>
 tE fk42 (xXx a0) on (vCh g0 _ _ _ _ h)
theorem xJ9 {N q0} (g0 : G42 q0) {a0} {r} (h : xHe N q0 a0 = some r) : AbC 42 (xEu a0) (xCr r) :=
 AbsCalls.of_reach fk42 rfl rfl (Nat.le_of_ble_eq_true rfl) (vCi g0 a0 r h)
theorem xHX {N : Nat} : ∀ d, G42 (xFS N d)
 | 0 => fun _ _ h => nE h
 | d + 1 => fun _ _ h => xJ9 (N := N) (xHX d) h
theorem xL8 {N : Nat} {a0 : Exp} {r : Bool} (h : xJ8 N a0 = some r) : AbC 42 (xEu a0) (xCr r) := xHX N _ r h
noncomputable def I22 : Info := { body := (Tryz.f22.body).getD .skip, nt := 15, results := [.tmp 2], keep := [0, 2, 4, 3], live := [], modes := [(1, [(3, .take, false), (8, .take, false)])] }
theorem fk22 : FnOk Tryz.prog 22 Tryz.f22 I22 := ⟨Tryz.func22, by kernel_rfl, by kernel_rfl, by kernel_rfl, by kernel_rfl⟩
def xWv (a0 : Exp) (r1 r2 : Int) (r3 : Bool) : rE I22 (xBZ a0) [Y, Y] [xBH r1, xBQ r2, xCr r3] = dn (xAE r3) [AbC 40 (xDy a0 40) (xBH r1), iY (dc (r1 ≥ 0)), AbC 41 (xDp a0) (xBQ r2), iY (dc (r2 ≤ 8)), AbC 42 (xEu a0) (xCr r3)] := by kernel_rfl
def xWw (a0 : Exp) (r1 r2 : Int) : rE I22 (xBZ a0) [Y, F] [xBH r1, xBQ r2] = dn (xAE false) [AbC 40 (xDy a0 40) (xBH r1), iY (dc (r1 ≥ 0)), AbC 41 (xDp a0) (xBQ r2), iN (dc (r2 ≤ 8))] := by kernel_rfl
def xWx (a0 : Exp) (r1 : Int) : rE I22 (xBZ a0) [F, F] [xBH r1] = dn (xAE false) [AbC 40 (xDy a0 40) (xBH r1), xK7 r1, iN false] := by kernel_rfl
theorem vBY {N : Nat} : ∀ a0 r, xCj N a0 = some r → RE Tryz.f22 I22 (xBZ a0) (xAE r) := fun a0 r h =>
 bE h fun r1 h0 h => cE h (fun h1 h => bE h fun r2 h2 h => cE h (fun h3 h => bE h fun r3 h4 h => dE h fk22 (xWv a0 r1 r2 r3) (oc5 (xHK h0) h1 (xIp h2) h3 (xL8 h4) on)) fun h3 h =>
 dE h fk22 (xWw a0 r1 r2) (oc4 (xHK h0) h1 (xIp h2) h3 on)) fun h1 h =>
 dE h fk22 (xWx a0 r1) (oc3 (xHK h0) h1 rfl on)
theorem xB0 {N : Nat} {a0 : Exp} {r : Bool} (h : xCj N  a0 = some r) : AbC 22 (xBZ a0) (xAE r) :=
 AbsCalls.of_reach fk22 rfl rfl (Nat.le_of_ble_eq_true rfl) (vBY a0 r h)
noncomputable def I11 : Info := { body := (Tryz.f11.body).getD .skip, nt := 55, results := [.cell 2 25, .tmp 3], keep := [0, 4, 6, 8, 10, 12, 14, 28, 74, 88, 104, 5, 15, 43], live := [], modes := [(1, [(1, .cp, true), (2, .take, false)]), (4, [(0, .take, false)]), (6, [(5, .take, false)])], fcast := [(5, 3, true)] }
theorem fk11 : FnOk Tryz.prog 11 Tryz.f11 I11 := ⟨Tryz.func11, by kernel_rfl, by kernel_rfl, by kernel_rfl, by kernel_rfl⟩
abbrev xH8 (v0 : Str) (v1 : (List Tok) × Int) : Prop := AbC 23 (xFy v0) (xA6 v1)
def xV8 (a0 : Str) (r1 : (List Tok) × Int) : rE I11 (xBD a0) [Y] [xA6 r1] = dn (xAO ((Exp.mk 0 0 [] []), r1.2)) [xH8 a0 r1, iY (dc (r1.2 ≥ 0))] := by kernel_rfl
abbrev xE7 (v0 : (List Tok) × Int) : Prop := iN (dc (v0.2 ≥ 0))
abbrev xIC (v0 : (List Tok) × Int) (v1 : Str) (v2 : Exp × Rdr) : Prop := AbC 28 (xCn (Rdr.mk v0.1 0 (Ln v1 : Int) (-1))) (xAu v2)
abbrev xKF (v0 : Exp × Rdr) : Prop := iY (dc ((Rdr.bad v0.2) < 0))
abbrev xOo (v0 : Exp × Rdr) := xAO ((Exp.mk 0 0 [] []), (Rdr.bad v0.2))
abbrev xKT (v0 : Exp × Rdr) (v1 : (List Tok) × Int) := dc ((Rdr.i v0.2) < (Ln v1.1 : Int))
def xV9 (a0 : Str) (r1 : (List Tok) × Int) (r2 : Exp × Rdr) (r3 : Exp × Rdr) : rE I11 (xBD a0) [F, Y, Y, Y] [xA6 r1, xAu r2, xAU r3] = dn (xOo r3) [xH8 a0 r1, xE7 r1, xIC r1 a0 r2, xKF r2, iY (xKT r2 r1), AbC 29 (xC9 r2.2) (xAU r3), iY (dc ((Rdr.bad r3.2) ≥ 0))] := by kernel_rfl
abbrev xKG (v0 : Exp × Rdr) : Prop := iN (dc ((Rdr.bad v0.2) ≥ 0))
abbrev xKH (v0 : Exp × Rdr) (v1 : Bool) : Prop := AbC 22 (xBZ v0.1) (xAE v1)
def xWa (a0 : Str) (r1 : (List Tok) × Int) (r2 : Exp × Rdr) (r3 : Exp × Rdr) (r4 : Bool) : rE I11 (xBD a0) [F, Y, Y, F, Y] [xA6 r1, xAu r2, xAU r3, xAE r4] = dn (xAO ((Exp.mk 0 0 [] []), 0)) [xH8 a0 r1, xE7 r1, xIC r1 a0 r2, xKF r2, iY (xKT r2 r1), AbC 29 (xC9 r2.2) (xAU r3), xKG r3, xKH r2 r4, iY (!r4)] := by kernel_rfl
def xWb (a0 : Str) (r1 : (List Tok) × Int) (r2 : Exp × Rdr) (r3 : Exp × Rdr) (r4 : Bool) : rE I11 (xBD a0) [F, Y, Y, F, F] [xA6 r1, xAu r2, xAU r3, xAE r4] = dn (xAO (r2.1, (-1))) [xH8 a0 r1, xE7 r1, xIC r1 a0 r2, xKF r2, iY (xKT r2 r1), AbC 29 (xC9 r2.2) (xAU r3), xKG r3, xKH r2 r4, iN (!r4)] := by kernel_rfl
def xWc (a0 : Str) (r1 : (List Tok) × Int) (r2 : Exp × Rdr) : rE I11 (xBD a0) [F, Y, F, Y] [xA6 r1, xAu r2] = dn (xOo r2) [xH8 a0 r1, xE7 r1, xIC r1 a0 r2, xKF r2, iN (xKT r2 r1), iY (dc ((Rdr.bad r2.2) ≥ 0))] := by kernel_rfl
def xWd (a0 : Str) (r1 : (List Tok) × Int) (r2 : Exp × Rdr) (r3 : Bool) : rE I11 (xBD a0) [F, Y, F, F, Y] [xA6 r1, xAu r2, xAE r3] = dn (xAO ((Exp.mk 0 0 [] []), 0)) [xH8 a0 r1, xE7 r1, xIC r1 a0 r2, xKF r2, iN (xKT r2 r1), xKG r2, xKH r2 r3, iY (!r3)] := by kernel_rfl
def xWe (a0 : Str) (r1 : (List Tok) × Int) (r2 : Exp × Rdr) (r3 : Bool) : rE I11 (xBD a0) [F, Y, F, F, F] [xA6 r1, xAu r2, xAE r3] = dn (xAO (r2.1, (-1))) [xH8 a0 r1, xE7 r1, xIC r1 a0 r2, xKF r2, iN (xKT r2 r1), xKG r2, xKH r2 r3, iN (!r3)] := by kernel_rfl
def xWf (a0 : Str) (r1 : (List Tok) × Int) (r2 : Exp × Rdr) : rE I11 (xBD a0) [F, F, F, Y] [xA6 r1, xAu r2] = dn (xOo r2) [xH8 a0 r1, xE7 r1, xIC r1 a0 r2, iN (dc ((Rdr.bad r2.2) < 0)), iN false, iY (dc ((Rdr.bad r2.2) ≥ 0))] := by kernel_rfl
def xWg (a0 : Str) (r1 : (List Tok) × Int) (r2 : Exp × Rdr) (r3 : Bool) : rE I11 (xBD a0) [F, F, F, F, Y] [xA6 r1, xAu r2, xAE r3] = dn (xAO ((Exp.mk 0 0 [] []), 0)) [xH8 a0 r1, xE7 r1, xIC r1 a0 r2, iN (dc ((Rdr.bad r2.2) < 0)), iN false, xKG r2, xKH r2 r3, iY (!r3)] := by kernel_rfl
def xWh (a0 : Str) (r1 : (List Tok) × Int) (r2 : Exp × Rdr) (r3 : Bool) : rE I11 (xBD a0) [F, F, F, F, F] [xA6 r1, xAu r2, xAE r3] = dn (xAO (r2.1, (-1))) [xH8 a0 r1, xE7 r1, xIC r1 a0 r2, iN (dc ((Rdr.bad r2.2) < 0)), iN false, xKG r2, xKH r2 r3, iN (!r3)] := by kernel_rfl
theorem vBU {N : Nat} : ∀ a0 r, xE9 N a0 = some r → RE Tryz.f11 I11 (xBD a0) (xAO r) := fun a0 r h =>
 bE h fun r1 h0 h => cE h (fun h1 h => dE h fk11 (xV8 a0 r1) (oc2 (xCM h0) h1 on)) fun h1 h =>
 bE h fun r2 h2 h => cE h (fun h3 h => cE h (fun h4 h => bE h fun r3 h5 h => cE h (fun h6 h => dE h fk11 (xV9 a0 r1 r2 r3) (oc7 (xCM h0) h1 (xDA h2) h3 h4 (xCo h5) h6 on)) fun h6 h =>
 bE h fun r4 h7 h => cE h (fun h8 h => dE h fk11 (xWa a0 r1 r2 r3 r4) (oc9 (xCM h0) h1 (xDA h2) h3 h4 (xCo h5) h6 (xB0 h7) h8 on)) fun h8 h =>
 dE h fk11 (xWb a0 r1 r2 r3 r4) (oc9 (xCM h0) h1 (xDA h2) h3 h4 (xCo h5) h6 (xB0 h7) h8 on)) fun h4 h =>
 cE h (fun h5 h => dE h fk11 (xWc a0 r1 r2) (oc6 (xCM h0) h1 (xDA h2) h3 h4 h5 on)) fun h5 h =>
 bE h fun r3 h6 h => cE h (fun h7 h => dE h fk11 (xWd a0 r1 r2 r3) (oc8 (xCM h0) h1 (xDA h2) h3 h4 h5 (xB0 h6) h7 on)) fun h7 h =>
 dE h fk11 (xWe a0 r1 r2 r3) (oc8 (xCM h0) h1 (xDA h2) h3 h4 h5 (xB0 h6) h7 on)) fun h3 h =>
 cE h (fun h5 h => dE h fk11 (xWf a0 r1 r2) (oc6 (xCM h0) h1 (xDA h2) h3 rfl h5 on)) fun h5 h =>
 bE h fun r3 h6 h => cE h (fun h7 h => dE h fk11 (xWg a0 r1 r2 r3) (oc8 (xCM h0) h1 (xDA h2) h3 rfl h5 (xB0 h6) h7 on)) fun h7 h =>
 dE h fk11 (xWh a0 r1 r2 r3) (oc8 (xCM h0) h1 (xDA h2) h3 rfl h5 (xB0 h6) h7 on)
theorem xCT {N : Nat} {a0 : Str} {r : Exp × Int} (h : xE9 N  a0 = some r) : AbC 11 (xBD a0) (xAO r) :=
 AbsCalls.of_reach fk11 rfl rfl (Nat.le_of_ble_eq_true rfl) (vBU a0 r h)
theorem xIv {N : Nat} {a0 : Str} {a1 a2 : Int} {r : Int × Bool} (h : xHp N a0 a1 a2 = some r) : AbC 89 (xKi a0 a1 a2) (xGC r) :=
 zIc xNS (fun s lo hi w hs hw => xOx s lo hi hs zHQ vDn xVP w hw) h
theorem xBo {N : Nat} {a0 : Str} {a1 r : Int} (h : strings_IndexByte N a0 a1 = some r) : AbC 90 (xGa a0 a1) (xAX r) :=
 zG6 (xLu Tryz.lays137) (Any.strings_IndexByte Tryz.lays137) h
noncomputable def I91 : Info := { body := (Tryz.f91.body).getD .skip, nt := 29, results := [.tmp 2], keep := [0, 4, 6, 14, 50], live := [(2, [0, 6])], modes := [(4, [(4, .take, false), (10, .take, false)])] }
theorem fk91 : FnOk Tryz.prog 91 Tryz.f91 I91 := ⟨Tryz.func91, by kernel_rfl, by kernel_rfl, by kernel_rfl, by kernel_rfl⟩
def xNh (x0 : Str) (x3 : Int) : St := [(0, .v false [.str x0]), (6, .v false [.int .i64 x3])]
def xZV (x0 : Str) (x3 : Int) : rS 2 I91 (xNh x0 x3) [Y, Y, Y, Y] [] = dn (xAW false) [xDn x3 x0, xAA x3 x0, iY (xN5 x0 x3), iY true, iY true] := by kernel_rfl
def xZW (x0 : Str) (x3 : Int) : rS 2 I91 (xNh x0 x3) [Y, F, Y, Y] [] = dn (xAW false) [xDn x3 x0, xAA x3 x0, xMk x0 x3, xAA x3 x0, iY (xN6 x0 x3), iY true] := by kernel_rfl
def xZX (x0 : Str) (x3 : Int) : rS 2 I91 (xNh x0 x3) [Y, F, F, Y] [] = dn (xAW false) [xDn x3 x0, xAA x3 x0, xMk x0 x3, xAA x3 x0, xOQ x0 x3, xAA x3 x0, xJc x0 x3] := by kernel_rfl
def xZY (x0 : Str) (x3 : Int) : rS 2 I91 (xNh x0 x3) [Y, F, F, F] [] = st 2 I91 (xNh x0 (W (x3 + 1))) [xDn x3 x0, xAA x3 x0, xMk x0 x3, xAA x3 x0, xOQ x0 x3, xAA x3 x0, xJd x0 x3] := by kernel_rfl
def xZZ (x0 : Str) (x3 : Int) : rS 2 I91 (xNh x0 x3) [F] [] = dn (xAW (dc ((Ln x0 : Int) ≤ 20))) [xIl x3 x0] := by kernel_rfl
def xZ0 (a0 : Str) : rE I91 (xDR a0) [] [] = st 2 I91 (xNh a0 0) [] := by kernel_rfl
theorem vC7 {N : Nat} : ∀ n x0 x3 r, xEB N n x0 x3 = some r → RS Tryz.f91 I91 2 (xNh x0 x3) (xAW r) := by
 intro n
 induction n with
 | zero => exact fun _ _ _ h => nE h
 | succ n ih =>
  exact fun x0 x3 r h =>
   cE h (fun h0 h => iE h fun h1 h => cE h (fun h2 h => dS h fk91 (xZV x0 x3) (oc5 h0 h1 h2 rfl rfl on)) fun h2 h =>
   cE h (fun h4 h => dS h fk91 (xZW x0 x3) (oc6 h0 h1 h2 h1 h4 rfl on)) fun h4 h =>
   cE h (fun h6 h => dS h fk91 (xZX x0 x3) (oc7 h0 h1 h2 h1 h4 h1 h6 on)) fun h6 h =>
   tS fk91 (xZY x0 x3) (oc7 h0 h1 h2 h1 h4 h1 h6 on) (ih _ _ _ h)) fun h0 h =>
   dS h fk91 (xZZ x0 x3) (oc h0 on)
theorem vC8 {N : Nat} : ∀ a0 r, xDf N a0 = some r → RE Tryz.f91 I91 (xDR a0) (xAW r) := fun a0 r h =>
 tE fk91 (xZ0 a0) on (vC7 _ _ _ _ h)
theorem xDS {N : Nat} {a0 : Str} {r : Bool} (h : xDf N  a0 = some r) : AbC 91 (xDR a0) (xAW r) :=
 AbsCalls.of_reach fk91 rfl rfl (Nat.le_of_ble_eq_true rfl) (vC8 a0 r h)
theorem xCv {N : Nat} {a0 a1 : Str} {r : Bool} (h : strings_HasPrefix N a0 a1 = some r) : AbC 92 (xHj a0 a1) (xBK r) :=
 zG5 (xLt Tryz.lays99) (Any.strings_HasPrefix Tryz.lays99) h
noncomputable def I49 : Info := { body := (Tryz.f49.body).getD .skip, nt := 152, results := [.cell 4 50, .tmp 5, .tmp 6], keep := [0, 2, 8, 10, 12, 14, 16, 18, 20, 22, 24, 34, 102, 130, 174, 206, 224, 262, 9], live := [(4, [0, 2, 8, 14, 9]), (8, [0, 2, 8, 14, 9])], modes := [(3, [(2, .take, false)]), (4, [(4, .take, false), (9, .take, false), (15, .take, false), (20, .take, false)]), (7, [(2, .take, false)]), (8, [(4, .take, false), (10, .take, false)]), (10, [(5, .take, false)]), (11, [(0, .take, false), (4, .take, false)])] }
theorem fk49 : FnOk Tryz.prog 49 Tryz.f49 I49 := ⟨Tryz.func49, by kernel_rfl, by kernel_rfl, by kernel_rfl, by kernel_rfl⟩
def xKx (x0 : Str) (x1 x7 : Int) (b4 : Tok) : St := [(0, .v false [.str x0]), (2, .v false [.int .i64 x1]), (8, .v false [.ptr 4 0]), (14, .v false [.int .i64 x7]), (9, .v true [.int .i64 (Tok.kind b4), .int .i64 (Tok.n b4), .int .i64 (Tok.pos b4), .str (Tok.text b4)])]
def xNd (x0 : Str) (x1 x7 : Int) (b4 : Tok) : St := [(0, .v false [.str x0]), (2, .v false [.int .i64 x1]), (8, .v false [.ptr 4 0]), (14, .v false [.int .i64 x7]), (9, .v true [.int .i64 (Tok.kind b4), .int .i64 (Tok.n b4), .int .i64 (Tok.pos b4), .str (Tok.text b4)])]
def xXV (x0 : Str) (x1 x7 : Int) (b4 : Tok) : rS 4 I49 (xKx x0 x1 x7 b4) [Y, Y, Y, Y] [] = st 4 I49 (xKx x0 x1 (W (x7 + 1)) b4) [xDn x7 x0, xAA x7 x0, xFn x0 x7, xAA x7 x0, iY (xLI x0 x7), iY true] := by kernel_rfl
abbrev xHc (v0 : Str) (v1 : Int) : Prop := iN (xLI v0 v1)
abbrev xLB (v0 : Str) (v1 : Int) : Prop := iY (xKR v0 v1)
def xXW (x0 : Str) (x1 x7 : Int) (b4 : Tok) : rS 4 I49 (xKx x0 x1 x7 b4) [Y, Y, F, Y, Y] [] = st 4 I49 (xKx x0 x1 (W (x7 + 1)) b4) [xDn x7 x0, xAA x7 x0, xFn x0 x7, xAA x7 x0, xHc x0 x7, xAA x7 x0, xFN x0 x7, xAA x7 x0, xLB x0 x7] := by kernel_rfl
abbrev xHB (v0 : Str) (v1 : Int) : Prop := iN (xKR v0 v1)
abbrev xLM (v0 v1 : Int) (v2 : Str) := xAY ((Tok.mk 1 0 v0 (List.drop (tN v0) (List.take (tN v1) v2))), v1, (dc ((W (v1 - v0)) ≤ 8)))
def xXX (x0 : Str) (x1 x7 : Int) (b4 : Tok) : rS 4 I49 (xKx x0 x1 x7 b4) [Y, Y, F, Y, F] [] = dn (xLM x1 x7 x0) [xDn x7 x0, xAA x7 x0, xFn x0 x7, xAA x7 x0, xHc x0 x7, xAA x7 x0, xFN x0 x7, xAA x7 x0, xHB x0 x7, xGP x1 x7 x0] := by kernel_rfl
def xXY (x0 : Str) (x1 x7 : Int) (b4 : Tok) : rS 4 I49 (xKx x0 x1 x7 b4) [Y, Y, F, F, F] [] = dn (xLM x1 x7 x0) [xDn x7 x0, xAA x7 x0, xFn x0 x7, xAA x7 x0, xHc x0 x7, xAA x7 x0, xHh x0 x7, iN false, xGP x1 x7 x0] := by kernel_rfl
def xXZ (x0 : Str) (x1 x7 : Int) (b4 : Tok) : rS 4 I49 (xKx x0 x1 x7 b4) [Y, F, F, Y, Y] [] = st 4 I49 (xKx x0 x1 (W (x7 + 1)) b4) [xDn x7 x0, xAA x7 x0, xGc x0 x7, iN false, xAA x7 x0, xFN x0 x7, xAA x7 x0, xLB x0 x7] := by kernel_rfl
def xX0 (x0 : Str) (x1 x7 : Int) (b4 : Tok) : rS 4 I49 (xKx x0 x1 x7 b4) [Y, F, F, Y, F] [] = dn (xLM x1 x7 x0) [xDn x7 x0, xAA x7 x0, xGc x0 x7, iN false, xAA x7 x0, xFN x0 x7, xAA x7 x0, xHB x0 x7, xGP x1 x7 x0] := by kernel_rfl
def xX1 (x0 : Str) (x1 x7 : Int) (b4 : Tok) : rS 4 I49 (xKx x0 x1 x7 b4) [Y, F, F, F, F] [] = dn (xLM x1 x7 x0) [xDn x7 x0, xAA x7 x0, xGc x0 x7, iN false, xAA x7 x0, xHh x0 x7, iN false, xGP x1 x7 x0] := by kernel_rfl
def xX2 (x0 : Str) (x1 x7 : Int) (b4 : Tok) : rS 4 I49 (xKx x0 x1 x7 b4) [F, F] [] = dn (xLM x1 x7 x0) [xIl x7 x0, iN false, xGP x1 x7 x0] := by kernel_rfl
def xX3 (x0 : Str) (x1 x7 : Int) (b4 : Tok) : rS 8 I49 (xNd x0 x1 x7 b4) [Y, Y, Y] [] = st 8 I49 (xNd x0 x1 (W (x7 + 1)) b4) [xDn x7 x0, xAA x7 x0, xFN x0 x7, xAA x7 x0, xLB x0 x7] := by kernel_rfl
abbrev xNZ (v0 v1 : Int) (v2 : Str) (v3 : Int × Bool) : Prop := AbC 89 (xKi (xQl v0 v1 v2) 0 1000000000) (xGC v3)
def xX4 (x0 : Str) (x1 x7 : Int) (b4 : Tok) (r1 : Int × Bool) : rS 8 I49 (xNd x0 x1 x7 b4) [Y, Y, F] [xGC r1] = dn (xAY ((Tok.mk 2 r1.1 x1 []), x7, r1.2)) [xDn x7 x0, xAA x7 x0, xFN x0 x7, xAA x7 x0, xHB x0 x7, xGP x1 x7 x0, xNZ x1 x7 x0 r1] := by kernel_rfl
def xUh (x0 : Str) (x1 x7 : Int) (b4 : Tok) (r1 : Int × Bool) : rS 8 I49 (xNd x0 x1 x7 b4) [Y, F, F] [xGC r1] = dn (xAY ((Tok.mk 2 r1.1 x1 []), x7, r1.2)) [xDn x7 x0, xAA x7 x0, xHh x0 x7, iN false, xGP x1 x7 x0, xNZ x1 x7 x0 r1] := by kernel_rfl
def xUi (x0 : Str) (x1 x7 : Int) (b4 : Tok) (r1 : Int × Bool) : rS 8 I49 (xNd x0 x1 x7 b4) [F, F, F] [xGC r1] = dn (xAY ((Tok.mk 2 r1.1 x1 []), x7, r1.2)) [xIl x7 x0, iN false, iN false, xGP x1 x7 x0, xNZ x1 x7 x0 r1] := by kernel_rfl
def xUj (a0 : Str) (a1 : Int) : rE I49 (xAN a0 a1) [Y, Y] [] = st 4 I49 (xKx a0 a1 a1 (Tok.mk 0 0 0 [])) [xAA a1 a0, xFn a0 a1, iY (xLI a0 a1)] := by kernel_rfl
def xUk (a0 : Str) (a1 : Int) : rE I49 (xAN a0 a1) [Y, F, Y, Y] [] = st 8 I49 (xNd a0 a1 a1 (Tok.mk 0 0 0 [])) [xAA a1 a0, xFn a0 a1, xHc a0 a1, xFN a0 a1, xLB a0 a1] := by kernel_rfl
abbrev xI4 (v0 : Int) (v1 : Str) : Prop := (0 : Int) ≤ (W (v0 + 1)) ∧ (W (v0 + 1)) ≤ (Ln v1)
abbrev xI5 (v0 : Int) (v1 : Str) (v2 : Int) : Prop := AbC 90 (xGa (List.drop (xOf v0) v1) 34) (xAX v2)
def xUl (a0 : Str) (a1 r1 : Int) : rE I49 (xAN a0 a1) [Y, F, Y, F, Y, Y] [xAX r1] = dn (xAY ((Tok.mk 0 0 0 []), 0, false)) [xAA a1 a0, xFn a0 a1, xHc a0 a1, xFN a0 a1, xHB a0 a1, xJc a0 a1, xI4 a1 a0, xI5 a1 a0 r1, iY (dc (r1 < 0))] := by kernel_rfl
abbrev xQv (v0 v1 : Int) := W ((W (v0 + 1)) + v1)
abbrev xME (v0 v1 : Int) (v2 : Str) : Prop := (0 : Int) ≤ (W (v0 + 1)) ∧ (W (v0 + 1)) ≤ (xQv v0 v1) ∧ (xQv v0 v1) ≤ (Ln v2)
abbrev xV1 (v0 v1 : Int) (v2 : Str) := List.drop (tN (W (v0 + 1))) (List.take (tN (W ((W (v0 + 1)) + v1))) v2)
abbrev xMF (v0 v1 : Int) (v2 : Str) (v3 : Bool) : Prop := AbC 91 (xDR (xV1 v0 v1 v2)) (xAW v3)
abbrev xMZ (v0 v1 : Int) (v2 : Str) (v3 : Bool) := xAY ((Tok.mk 3 0 v0 (List.drop (tN (W (v0 + 1))) (List.take (tN (W ((W (v0 + 1)) + v1))) v2))), (W ((W (v0 + v1)) + 2)), v3)
def xUm (a0 : Str) (a1 r1 : Int) (r2 : Bool) : rE I49 (xAN a0 a1) [Y, F, Y, F, Y, F] [xAX r1, xAW r2] = dn (xMZ a1 r1 a0 r2) [xAA a1 a0, xFn a0 a1, xHc a0 a1, xFN a0 a1, xHB a0 a1, xJc a0 a1, xI4 a1 a0, xI5 a1 a0 r1, iN (dc (r1 < 0)), xME a1 r1 a0, xMF a1 r1 a0 r2] := by kernel_rfl
abbrev xI6 (v0 : Int) (v1 : Str) : Prop := (0 : Int) ≤ v0 ∧ v0 ≤ (Ln v1)
abbrev xI7 (v0 : Int) (v1 : Str) (v2 : Bool) : Prop := AbC 92 (xHj (List.drop (tN v0) v1) [61, 61]) (xBK v2)
abbrev xM0 (v0 : Int) := xAY ((Tok.mk 4 0 v0 [61, 61]), (W (v0 + 2)), true)
def xUn (a0 : Str) (a1 : Int) (r1 : Bool) : rE I49 (xAN a0 a1) [Y, F, Y, F, F, Y] [xBK r1] = dn (xM0 a1) [xAA a1 a0, xFn a0 a1, xHc a0 a1, xFN a0 a1, xHB a0 a1, xJd a0 a1, xI6 a1 a0, xI7 a1 a0 r1, iY r1] := by kernel_rfl
abbrev xMG (v0 : Int) (v1 : Str) : Prop := (0 : Int) ≤ v0 ∧ v0 ≤ (W (v0 + 1)) ∧ (W (v0 + 1)) ≤ (Ln v1)
abbrev xMH (v0 : Str) (v1 v2 : Int) : Prop := AbC 90 (xGa [40, 41, 91, 93, 44, 43, 45, 42, 60, 61] (xMR v0 v1)) (xAX v2)
abbrev xM1 (v0 : Int) (v1 : Str) (v2 : Int) := xAY ((Tok.mk 4 0 v0 (List.drop (tN v0) (List.take (tN (W (v0 + 1))) v1))), (W (v0 + 1)), (dc (v2 ≥ 0)))
def xUo (a0 : Str) (a1 : Int) (r1 : Bool) (r2 : Int) : rE I49 (xAN a0 a1) [Y, F, Y, F, F, F] [xBK r1, xAX r2] = dn (xM1 a1 a0 r2) [xAA a1 a0, xFn a0 a1, xHc a0 a1, xFN a0 a1, xHB a0 a1, xJd a0 a1, xI6 a1 a0, xI7 a1 a0 r1, iN r1, xMG a1 a0, xMH a0 a1 r2] := by kernel_rfl
def xUp (a0 : Str) (a1 r1 : Int) : rE I49 (xAN a0 a1) [Y, F, F, F, Y, Y] [xAX r1] = dn (xAY ((Tok.mk 0 0 0 []), 0, false)) [xAA a1 a0, xFn a0 a1, xHc a0 a1, xHh a0 a1, iN false, xJc a0 a1, xI4 a1 a0, xI5 a1 a0 r1, iY (dc (r1 < 0))] := by kernel_rfl
def xUq (a0 : Str) (a1 r1 : Int) (r2 : Bool) : rE I49 (xAN a0 a1) [Y, F, F, F, Y, F] [xAX r1, xAW r2] = dn (xMZ a1 r1 a0 r2) [xAA a1 a0, xFn a0 a1, xHc a0 a1, xHh a0 a1, iN false, xJc a0 a1, xI4 a1 a0, xI5 a1 a0 r1, iN (dc (r1 < 0)), xME a1 r1 a0, xMF a1 r1 a0 r2] := by kernel_rfl
def xUr (a0 : Str) (a1 : Int) (r1 : Bool) : rE I49 (xAN a0 a1) [Y, F, F, F, F, Y] [xBK r1] = dn (xM0 a1) [xAA a1 a0, xFn a0 a1, xHc a0 a1, xHh a0 a1, iN false, xJd a0 a1, xI6 a1 a0, xI7 a1 a0 r1, iY r1] := by kernel_rfl
def xUs (a0 : Str) (a1 : Int) (r1 : Bool) (r2 : Int) : rE I49 (xAN a0 a1) [Y, F, F, F, F, F] [xBK r1, xAX r2] = dn (xM1 a1 a0 r2) [xAA a1 a0, xFn a0 a1, xHc a0 a1, xHh a0 a1, iN false, xJd a0 a1, xI6 a1 a0, xI7 a1 a0 r1, iN r1, xMG a1 a0, xMH a0 a1 r2] := by kernel_rfl
def xUt (a0 : Str) (a1 : Int) : rE I49 (xAN a0 a1) [F, F, Y, Y] [] = st 8 I49 (xNd a0 a1 a1 (Tok.mk 0 0 0 [])) [xAA a1 a0, xGc a0 a1, iN false, xFN a0 a1, xLB a0 a1] := by kernel_rfl
def xUu (a0 : Str) (a1 r1 : Int) : rE I49 (xAN a0 a1) [F, F, Y, F, Y, Y] [xAX r1] = dn (xAY ((Tok.mk 0 0 0 []), 0, false)) [xAA a1 a0, xGc a0 a1, iN false, xFN a0 a1, xHB a0 a1, xJc a0 a1, xI4 a1 a0, xI5 a1 a0 r1, iY (dc (r1 < 0))] := by kernel_rfl
def xUv (a0 : Str) (a1 r1 : Int) (r2 : Bool) : rE I49 (xAN a0 a1) [F, F, Y, F, Y, F] [xAX r1, xAW r2] = dn (xMZ a1 r1 a0 r2) [xAA a1 a0, xGc a0 a1, iN false, xFN a0 a1, xHB a0 a1, xJc a0 a1, xI4 a1 a0, xI5 a1 a0 r1, iN (dc (r1 < 0)), xME a1 r1 a0, xMF a1 r1 a0 r2] := by kernel_rfl
def xUw (a0 : Str) (a1 : Int) (r1 : Bool) : rE I49 (xAN a0 a1) [F, F, Y, F, F, Y] [xBK r1] = dn (xM0 a1) [xAA a1 a0, xGc a0 a1, iN false, xFN a0 a1, xHB a0 a1, xJd a0 a1, xI6 a1 a0, xI7 a1 a0 r1, iY r1] := by kernel_rfl
def xUx (a0 : Str) (a1 : Int) (r1 : Bool) (r2 : Int) : rE I49 (xAN a0 a1) [F, F, Y, F, F, F] [xBK r1, xAX r2] = dn (xM1 a1 a0 r2) [xAA a1 a0, xGc a0 a1, iN false, xFN a0 a1, xHB a0 a1, xJd a0 a1, xI6 a1 a0, xI7 a1 a0 r1, iN r1, xMG a1 a0, xMH a0 a1 r2] := by kernel_rfl
def xUy (a0 : Str) (a1 r1 : Int) : rE I49 (xAN a0 a1) [F, F, F, F, Y, Y] [xAX r1] = dn (xAY ((Tok.mk 0 0 0 []), 0, false)) [xAA a1 a0, xGc a0 a1, iN false, xHh a0 a1, iN false, xJc a0 a1, xI4 a1 a0, xI5 a1 a0 r1, iY (dc (r1 < 0))] := by kernel_rfl
def xUz (a0 : Str) (a1 r1 : Int) (r2 : Bool) : rE I49 (xAN a0 a1) [F, F, F, F, Y, F] [xAX r1, xAW r2] = dn (xMZ a1 r1 a0 r2) [xAA a1 a0, xGc a0 a1, iN false, xHh a0 a1, iN false, xJc a0 a1, xI4 a1 a0, xI5 a1 a0 r1, iN (dc (r1 < 0)), xME a1 r1 a0, xMF a1 r1 a0 r2] := by kernel_rfl
def xUA (a0 : Str) (a1 : Int) (r1 : Bool) : rE I49 (xAN a0 a1) [F, F, F, F, F, Y] [xBK r1] = dn (xM0 a1) [xAA a1 a0, xGc a0 a1, iN false, xHh a0 a1, iN false, xJd a0 a1, xI6 a1 a0, xI7 a1 a0 r1, iY r1] := by kernel_rfl
def xUB (a0 : Str) (a1 : Int) (r1 : Bool) (r2 : Int) : rE I49 (xAN a0 a1) [F, F, F, F, F, F] [xBK r1, xAX r2] = dn (xM1 a1 a0 r2) [xAA a1 a0, xGc a0 a1, iN false, xHh a0 a1, iN false, xJd a0 a1, xI6 a1 a0, xI7 a1 a0 r1, iN r1, xMG a1 a0, xMH a0 a1 r2] := by kernel_rfl
theorem vCq {N : Nat} : ∀ n x0 x1 x7 b4 r, xCF N n x0 x1 x7 b4 = some r → RS Tryz.f49 I49 4 (xKx x0 x1 x7 b4) (xAY r) := by
 intro n
 induction n with
 | zero => exact fun _ _ _ _ _ h => nE h
 | succ n ih =>
  exact fun x0 x1 x7 b4 r h =>
   cE h (fun h0 h => iE h fun h1 h => cE h (fun h2 h => cE h (fun h4 h => tS fk49 (xXV x0 x1 x7 b4) (oc6 h0 h1 h2 h1 h4 rfl on) (ih _ _ _ _ _ h)) fun h4 h =>
   cE h (fun h6 h => cE h (fun h8 h => tS fk49 (xXW x0 x1 x7 b4) (oc9 h0 h1 h2 h1 h4 h1 h6 h1 h8 on) (ih _ _ _ _ _ h)) fun h8 h =>
   iE h fun h9 h => dS h fk49 (xXX x0 x1 x7 b4) (oc10 h0 h1 h2 h1 h4 h1 h6 h1 h8 h9 on)) fun h6 h =>
   iE h fun h8 h => dS h fk49 (xXY x0 x1 x7 b4) (oc9 h0 h1 h2 h1 h4 h1 h6 rfl h8 on)) fun h2 h =>
   cE h (fun h5 h => cE h (fun h7 h => tS fk49 (xXZ x0 x1 x7 b4) (oc8 h0 h1 h2 rfl h1 h5 h1 h7 on) (ih _ _ _ _ _ h)) fun h7 h =>
   iE h fun h8 h => dS h fk49 (xX0 x0 x1 x7 b4) (oc9 h0 h1 h2 rfl h1 h5 h1 h7 h8 on)) fun h5 h =>
   iE h fun h7 h => dS h fk49 (xX1 x0 x1 x7 b4) (oc8 h0 h1 h2 rfl h1 h5 rfl h7 on)) fun h0 h =>
   iE h fun h2 h => dS h fk49 (xX2 x0 x1 x7 b4) (oc3 h0 rfl h2 on)
theorem vBo {N : Nat} : ∀ n x0 x1 x7 b4 r, xC5 N n x0 x1 x7 b4 = some r → RS Tryz.f49 I49 8 (xNd x0 x1 x7 b4) (xAY r) := by
 intro n
 induction n with
 | zero => exact fun _ _ _ _ _ h => nE h
 | succ n ih =>
  exact fun x0 x1 x7 b4 r h =>
   cE h (fun h0 h => iE h fun h1 h => cE h (fun h2 h => cE h (fun h4 h => tS fk49 (xX3 x0 x1 x7 b4) (oc5 h0 h1 h2 h1 h4 on) (ih _ _ _ _ _ h)) fun h4 h =>
   iE h fun h5 h => bE h fun r1 h6 h => dS h fk49 (xX4 x0 x1 x7 b4 r1) (oc7 h0 h1 h2 h1 h4 h5 (xIv h6) on)) fun h2 h =>
   iE h fun h4 h => bE h fun r1 h5 h => dS h fk49 (xUh x0 x1 x7 b4 r1) (oc6 h0 h1 h2 rfl h4 (xIv h5) on)) fun h0 h =>
   iE h fun h3 h => bE h fun r1 h4 h => dS h fk49 (xUi x0 x1 x7 b4 r1) (oc5 h0 rfl rfl h3 (xIv h4) on)
theorem vCr {N : Nat} : ∀ a0 a1 r, xG6 N a0 a1 = some r → RE Tryz.f49 I49 (xAN a0 a1) (xAY r) := fun a0 a1 r h =>
 iE h fun h0 h => cE h (fun h1 h => cE h (fun h2 h => tE fk49 (xUj a0 a1) (oc3 h0 h1 h2 on) (vCq _ _ _ _ _ _ h)) fun h2 h =>
 cE h (fun h3 h => cE h (fun h4 h => tE fk49 (xUk a0 a1) (oc5 h0 h1 h2 h3 h4 on) (vBo _ _ _ _ _ _ h)) fun h4 h =>
 cE h (fun h5 h => iE h fun h6 h => bE h fun r1 h7 h => cE h (fun h8 h => dE h fk49 (xUl a0 a1 r1) (oc9 h0 h1 h2 h3 h4 h5 h6 (xBo h7) h8 on)) fun h8 h =>
 iE h fun h9 h => bE h fun r2 h10 h => dE h fk49 (xUm a0 a1 r1 r2) (oc11 h0 h1 h2 h3 h4 h5 h6 (xBo h7) h8 h9 (xDS h10) on)) fun h5 h =>
 iE h fun h6 h => bE h fun r1 h7 h => cE h (fun h8 h => dE h fk49 (xUn a0 a1 r1) (oc9 h0 h1 h2 h3 h4 h5 h6 (xCv h7) h8 on)) fun h8 h =>
 iE h fun h9 h => bE h fun r2 h10 h => dE h fk49 (xUo a0 a1 r1 r2) (oc11 h0 h1 h2 h3 h4 h5 h6 (xCv h7) h8 h9 (xBo h10) on)) fun h3 h =>
 cE h (fun h5 h => iE h fun h6 h => bE h fun r1 h7 h => cE h (fun h8 h => dE h fk49 (xUp a0 a1 r1) (oc9 h0 h1 h2 h3 rfl h5 h6 (xBo h7) h8 on)) fun h8 h =>
 iE h fun h9 h => bE h fun r2 h10 h => dE h fk49 (xUq a0 a1 r1 r2) (oc11 h0 h1 h2 h3 rfl h5 h6 (xBo h7) h8 h9 (xDS h10) on)) fun h5 h =>
 iE h fun h6 h => bE h fun r1 h7 h => cE h (fun h8 h => dE h fk49 (xUr a0 a1 r1) (oc9 h0 h1 h2 h3 rfl h5 h6 (xCv h7) h8 on)) fun h8 h =>
 iE h fun h9 h => bE h fun r2 h10 h => dE h fk49 (xUs a0 a1 r1 r2) (oc11 h0 h1 h2 h3 rfl h5 h6 (xCv h7) h8 h9 (xBo h10) on)) fun h1 h =>
 cE h (fun h3 h => cE h (fun h4 h => tE fk49 (xUt a0 a1) (oc5 h0 h1 rfl h3 h4 on) (vBo _ _ _ _ _ _ h)) fun h4 h =>
 cE h (fun h5 h => iE h fun h6 h => bE h fun r1 h7 h => cE h (fun h8 h => dE h fk49 (xUu a0 a1 r1) (oc9 h0 h1 rfl h3 h4 h5 h6 (xBo h7) h8 on)) fun h8 h =>
 iE h fun h9 h => bE h fun r2 h10 h => dE h fk49 (xUv a0 a1 r1 r2) (oc11 h0 h1 rfl h3 h4 h5 h6 (xBo h7) h8 h9 (xDS h10) on)) fun h5 h =>
 iE h fun h6 h => bE h fun r1 h7 h => cE h (fun h8 h => dE h fk49 (xUw a0 a1 r1) (oc9 h0 h1 rfl h3 h4 h5 h6 (xCv h7) h8 on)) fun h8 h =>
 iE h fun h9 h => bE h fun r2 h10 h => dE h fk49 (xUx a0 a1 r1 r2) (oc11 h0 h1 rfl h3 h4 h5 h6 (xCv h7) h8 h9 (xBo h10) on)) fun h3 h =>
 cE h (fun h5 h => iE h fun h6 h => bE h fun r1 h7 h => cE h (fun h8 h => dE h fk49 (xUy a0 a1 r1) (oc9 h0 h1 rfl h3 rfl h5 h6 (xBo h7) h8 on)) fun h8 h =>
 iE h fun h9 h => bE h fun r2 h10 h => dE h fk49 (xUz a0 a1 r1 r2) (oc11 h0 h1 rfl h3 rfl h5 h6 (xBo h7) h8 h9 (xDS h10) on)) fun h5 h =>
 iE h fun h6 h => bE h fun r1 h7 h => cE h (fun h8 h => dE h fk49 (xUA a0 a1 r1) (oc9 h0 h1 rfl h3 rfl h5 h6 (xCv h7) h8 on)) fun h8 h =>
 iE h fun h9 h => bE h fun r2 h10 h => dE h fk49 (xUB a0 a1 r1 r2) (oc11 h0 h1 rfl h3 rfl h5 h6 (xCv h7) h8 h9 (xBo h10) on)
theorem xHx {N : Nat} {a0 : Str} {a1 : Int} {r : Tok × Int × Bool} (h : xG6 N  a0 a1 = some r) : AbC 49 (xAN a0 a1) (xAY r) :=
 AbsCalls.of_reach fk49 rfl rfl (Nat.le_of_ble_eq_true rfl) (vCr a0 a1 r h)
noncomputable def I30 : Info := { body := (Tryz.f30.body).getD .skip, nt := 44, results := [.tmp 2, .tmp 3], keep := [0, 4, 6, 8, 10, 12, 14, 16, 22, 32, 40, 72, 13], live := [(5, [0, 8, 10])], modes := [(8, [(3, .take, false)]), (9, [(0, .take, false), (2, .take, false)]), (11, [(0, .take, false)]), (12, [(0, .take, false)]), (13, [(0, .take, false)])] }
theorem fk30 : FnOk Tryz.prog 30 Tryz.f30 I30 := ⟨Tryz.func30, by kernel_rfl, by kernel_rfl, by kernel_rfl, by kernel_rfl⟩
def xMz (x0 : Str) (x4 : List Tok) (x5 : Int) : St := [(0, .v false [.str x0]), (8, .v false [.sl .own .tok x4]), (10, .v false [.int .i64 x5])]
def xWV (x0 : Str) (x4 : List Tok) (x5 : Int) : rS 5 I30 (xMz x0 x4 x5) [Y, Y] [] = st 5 I30 (xMz x0 x4 (W (x5 + 1))) [xDn x5 x0, xAA x5 x0, iY (xOg x0 x5)] := by kernel_rfl
def xWW (x0 : Str) (x4 : List Tok) (x5 : Int) (r1 : Tok × Int × Bool) : rS 5 I30 (xMz x0 x4 x5) [Y, F, Y, Y] [xAY r1] = dn (xAS ([], x5)) [xDn x5 x0, xAA x5 x0, xMo x0 x5, AbC 49 (xAN x0 x5) (xAY r1), iY (!r1.2.2), iY true] := by kernel_rfl
def xWX (x0 : Str) (x4 : List Tok) (x5 : Int) (r1 : Tok × Int × Bool) : rS 5 I30 (xMz x0 x4 x5) [Y, F, F, Y] [xAY r1] = dn (xAS ([], x5)) [xDn x5 x0, xAA x5 x0, xMo x0 x5, AbC 49 (xAN x0 x5) (xAY r1), iN (!r1.2.2), iY ((Ln x4 : Int) == 60)] := by kernel_rfl
def xWY (x0 : Str) (x4 : List Tok) (x5 : Int) (r1 : Tok × Int × Bool) : rS 5 I30 (xMz x0 x4 x5) [Y, F, F, F] [xAY r1] = st 5 I30 (xMz x0 (x4 ++ [r1.1]) r1.2.1) [xDn x5 x0, xAA x5 x0, xMo x0 x5, AbC 49 (xAN x0 x5) (xAY r1), iN (!r1.2.2), iN ((Ln x4 : Int) == 60), Ln x4 + Ln [r1.1] ≤ Lim] := by kernel_rfl
def xWZ (x0 : Str) (x4 : List Tok) (x5 : Int) : rS 5 I30 (xMz x0 x4 x5) [F] [] = dn (xAS (x4, (-1))) [xIl x5 x0] := by kernel_rfl
def xW0 (a0 : Str) : rE I30 (xFx a0) [Y] [] = dn (xAS ([], 120)) [iY (xMX a0)] := by kernel_rfl
def xW1 (a0 : Str) : rE I30 (xFx a0) [F] [] = st 5 I30 (xMz a0 [] 0) [iN (xMX a0)] := by kernel_rfl
theorem vB6 {N : Nat} : ∀ n x0 x4 x5 r, xEh N n x0 x4 x5 = some r → RS Tryz.f30 I30 5 (xMz x0 x4 x5) (xAS r) := by
 intro n
 induction n with
 | zero => exact fun _ _ _ _ h => nE h
 | succ n ih =>
  exact fun x0 x4 x5 r h =>
   cE h (fun h0 h => iE h fun h1 h => cE h (fun h2 h => tS fk30 (xWV x0 x4 x5) (oc3 h0 h1 h2 on) (ih _ _ _ _ h)) fun h2 h =>
   bE h fun r1 h3 h => cE h (fun h4 h => dS h fk30 (xWW x0 x4 x5 r1) (oc6 h0 h1 h2 (xHx h3) h4 rfl on)) fun h4 h =>
   cE h (fun h5 h => dS h fk30 (xWX x0 x4 x5 r1) (oc6 h0 h1 h2 (xHx h3) h4 h5 on)) fun h5 h =>
   iE h fun h6 h => tS fk30 (xWY x0 x4 x5 r1) (oc7 h0 h1 h2 (xHx h3) h4 h5 h6 on) (ih _ _ _ _ h)) fun h0 h =>
   dS h fk30 (xWZ x0 x4 x5) (oc h0 on)
theorem vB7 {N : Nat} : ∀ a0 r, xF0 N a0 = some r → RE Tryz.f30 I30 (xFx a0) (xAS r) := fun a0 r h =>
 cE h (fun h0 h => dE h fk30 (xW0 a0) (oc h0 on)) fun h0 h =>
 tE fk30 (xW1 a0) (oc h0 on) (vB6 _ _ _ _ _ h)
theorem xBN {N : Nat} {a0 : Str} {r : (List Tok) × Int} (h : xF0 N  a0 = some r) : AbC 30 (xFx a0) (xAS r) :=
 AbsCalls.of_reach fk30 rfl rfl (Nat.le_of_ble_eq_true rfl) (vB7 a0 r h)
noncomputable def I51 : Info := { body := (Tryz.f51.body).getD .skip, nt := 31, results := [.cell 2 50], keep := [0, 4, 38, 1, 5], live := [], modes := [(1, [(5, .take, false)])], ext := [0] }
theorem fk51 : FnOk Tryz.prog 51 Tryz.f51 I51 := ⟨Tryz.func51, by kernel_rfl, by kernel_rfl, by kernel_rfl, by kernel_rfl⟩
abbrev xI8 (v0 : Psr) : Prop := iY (dc ((Psr.bad v0) < 0))
def xX7 (a0 : Psr) : rE I51 (xDj a0) [Y, Y] [] = dn (xAg ((gD (Psr.list a0) (tN (Psr.pos a0)) Ty.tok.dflt), a0)) [xI8 a0, iY (dc ((Psr.pos a0) < (Ln (Psr.list a0) : Int))), (0 : Int) ≤ (Psr.pos a0) ∧ (Psr.pos a0) < (Ln (Psr.list a0))] := by kernel_rfl
def xX8 (a0 : Psr) : rE I51 (xDj a0) [Y, F] [] = dn (xAg ((Tok.mk 0 0 0 []), a0)) [xI8 a0, iN (dc ((Psr.pos a0) < (Ln (Psr.list a0) : Int)))] := by kernel_rfl
abbrev xMI (v0 : Psr) : Prop := iN (dc ((Psr.bad v0) < 0))
def xX9 (a0 : Psr) : rE I51 (xDj a0) [F, F] [] = dn (xAg ((Tok.mk 0 0 0 []), a0)) [xMI a0, iN false] := by kernel_rfl
theorem vCt {N : Nat} : ∀ a0 r, xBF N a0 = some r → RE Tryz.f51 I51 (xDj a0) (xAg r) := fun a0 r h =>
 cE h (fun h0 h => cE h (fun h1 h => iE h fun h2 h => dE h fk51 (xX7 a0) (oc3 h0 h1 h2 on)) fun h1 h =>
 dE h fk51 (xX8 a0) (oc2 h0 h1 on)) fun h0 h =>
 dE h fk51 (xX9 a0) (oc2 h0 rfl on)
theorem xAl {N : Nat} {a0 : Psr} {r : Tok × Psr} (h : xBF N  a0 = some r) : AbC 51 (xDj a0) (xAg r) :=
 AbsCalls.of_reach fk51 rfl rfl (Nat.le_of_ble_eq_true rfl) (vCt a0 r h)
noncomputable def I50 : Info := { body := (Tryz.f50.body).getD .skip, nt := 14, results := [.tmp 4], keep := [0, 2, 4, 8, 5], live := [], modes := [(1, [(3, .take, false)])] }
theorem fk50 : FnOk Tryz.prog 50 Tryz.f50 I50 := ⟨Tryz.func50, by kernel_rfl, by kernel_rfl, by kernel_rfl, by kernel_rfl⟩
def xX5 (a0 : Tok) (a1 : Str) : rE I50 (xBB a0 a1) [Y] [] = dn (xAz (((Tok.text a0) : Str) == a1)) [iY ((Tok.kind a0) == 1)] := by kernel_rfl
def xX6 (a0 : Tok) (a1 : Str) : rE I50 (xBB a0 a1) [F] [] = dn (xAz false) [iN ((Tok.kind a0) == 1)] := by kernel_rfl
theorem vCs {N : Nat} : ∀ a0 a1 r, xEr N a0 a1 = some r → RE Tryz.f50 I50 (xBB a0 a1) (xAz r) := fun a0 a1 r h =>
 cE h (fun h0 h => dE h fk50 (xX5 a0 a1) (oc h0 on)) fun h0 h =>
 dE h fk50 (xX6 a0 a1) (oc h0 on)
theorem xBL {N : Nat} {a0 : Tok} {a1 : Str} {r : Bool} (h : xEr N  a0 a1 = some r) : AbC 50 (xBB a0 a1) (xAz r) :=
 AbsCalls.of_reach fk50 rfl rfl (Nat.le_of_ble_eq_true rfl) (vCs a0 a1 r h)
noncomputable def I97 : Info := { body := (Tryz.f97.body).getD .skip, nt := 15, results := [.tmp 6], keep := [0, 2, 4, 12], live := [], modes := [(1, [(3, .take, false)])] }
theorem fk97 : FnOk Tryz.prog 97 Tryz.f97 I97 := ⟨Tryz.func97, by kernel_rfl, by kernel_rfl, by kernel_rfl, by kernel_rfl⟩
def vAa (a0 a1 a2 : Int) : rE I97 (xC6 a0 a1 a2) [Y] [] = dn (xBg (dc (a0 ≤ a2))) [iY (dc (a1 ≤ a0))] := by kernel_rfl
def vAb (a0 a1 a2 : Int) : rE I97 (xC6 a0 a1 a2) [F] [] = dn (xBg false) [iN (dc (a1 ≤ a0))] := by kernel_rfl
theorem vDe {N : Nat} : ∀ a0 a1 a2 r, xFM N a0 a1 a2 = some r → RE Tryz.f97 I97 (xC6 a0 a1 a2) (xBg r) := fun a0 a1 a2 r h =>
 cE h (fun h0 h => dE h fk97 (vAa a0 a1 a2) (oc h0 on)) fun h0 h =>
 dE h fk97 (vAb a0 a1 a2) (oc h0 on)
theorem xD3 {N : Nat} {a0 : Int} {a1 : Int} {a2 : Int} {r : Bool} (h : xFM N  a0 a1 a2 = some r) : AbC 97 (xC6 a0 a1 a2) (xBg r) :=
 AbsCalls.of_reach fk97 rfl rfl (Nat.le_of_ble_eq_true rfl) (vDe a0 a1 a2 r h)
noncomputable def I114 : Info := { body := (Tryz.f114.body).getD .skip, nt := 42, results := [.tmp 2], keep := [0, 4, 6, 8, 16, 76], live := [(2, [0, 6])], modes := [(4, [(4, .take, false)]), (5, [(0, .take, false), (2, .take, false), (5, .take, false), (11, .take, false)])] }
theorem xLc : FnOk Tryz.prog 114 Tryz.f114 I114 := ⟨Tryz.func114, by kernel_rfl, by kernel_rfl, by kernel_rfl, by kernel_rfl⟩
def xHr (x0 : Str) (x3 : Int) : St := [(0, .v false [.str x0]), (6, .v false [.int .i64 x3])]
def xSQ (x0 : Str) (x3 : Int) : rS 2 I114 (xHr x0 x3) [Y, Y, Y, Y, Y, Y] [] = dn (xB9 false) [xDn x3 x0, xAA x3 x0, xFn x0 x3, xAA x3 x0, xKm x0 x3, iY (x3 == 0), iY true, iY true] := by kernel_rfl
def xSR (x0 : Str) (x3 : Int) : rS 2 I114 (xHr x0 x3) [Y, Y, Y, F, Y, Y] [] = dn (xB9 false) [xDn x3 x0, xAA x3 x0, xFn x0 x3, xAA x3 x0, xKm x0 x3, xKD x3, xAA x3 x0, xV2 x0 x3, iY true] := by kernel_rfl
def xSS (x0 : Str) (x3 : Int) : rS 2 I114 (xHr x0 x3) [Y, Y, Y, F, F, Y] [] = dn (xB9 false) [xDn x3 x0, xAA x3 x0, xFn x0 x3, xAA x3 x0, xKm x0 x3, xKD x3, xAA x3 x0, xPx x0 x3, xAA x3 x0, xV3 x0 x3] := by kernel_rfl
def xST (x0 : Str) (x3 : Int) : rS 2 I114 (xHr x0 x3) [Y, Y, Y, F, F, F] [] = st 2 I114 (xHr x0 (W (x3 + 1))) [xDn x3 x0, xAA x3 x0, xFn x0 x3, xAA x3 x0, xKm x0 x3, xKD x3, xAA x3 x0, xPx x0 x3, xAA x3 x0, xV4 x0 x3] := by kernel_rfl
def xSU (x0 : Str) (x3 : Int) : rS 2 I114 (xHr x0 x3) [Y, Y, F, F] [] = st 2 I114 (xHr x0 (W (x3 + 1))) [xDn x3 x0, xAA x3 x0, xFn x0 x3, xAA x3 x0, xQC x0 x3, iN false] := by kernel_rfl
def xSV (x0 : Str) (x3 : Int) : rS 2 I114 (xHr x0 x3) [Y, F, Y, Y, Y, Y] [] = dn (xB9 false) [xDn x3 x0, xAA x3 x0, xGc x0 x3, iY (!false), iY (x3 == 0), iY true, iY true] := by kernel_rfl
def xSW (x0 : Str) (x3 : Int) : rS 2 I114 (xHr x0 x3) [Y, F, Y, F, Y, Y] [] = dn (xB9 false) [xDn x3 x0, xAA x3 x0, xGc x0 x3, iY (!false), xKD x3, xAA x3 x0, xV2 x0 x3, iY true] := by kernel_rfl
def xSX (x0 : Str) (x3 : Int) : rS 2 I114 (xHr x0 x3) [Y, F, Y, F, F, Y] [] = dn (xB9 false) [xDn x3 x0, xAA x3 x0, xGc x0 x3, iY (!false), xKD x3, xAA x3 x0, xPx x0 x3, xAA x3 x0, xV3 x0 x3] := by kernel_rfl
def xSY (x0 : Str) (x3 : Int) : rS 2 I114 (xHr x0 x3) [Y, F, Y, F, F, F] [] = st 2 I114 (xHr x0 (W (x3 + 1))) [xDn x3 x0, xAA x3 x0, xGc x0 x3, iY (!false), xKD x3, xAA x3 x0, xPx x0 x3, xAA x3 x0, xV4 x0 x3] := by kernel_rfl
def xSZ (x0 : Str) (x3 : Int) (r1 : Bool) : rS 2 I114 (xHr x0 x3) [F] [xBg r1] = dn (xB9 r1) [xIl x3 x0, AbC 97 (xC6 (Ln x0 : Int) 1 8) (xBg r1)] := by kernel_rfl
def xQW (a0 : Str) : rE I114 (xGb a0) [] [] = st 2 I114 (xHr a0 0) [] := by kernel_rfl
theorem vA0 {N : Nat} : ∀ n x0 x3 r, xD2 N n x0 x3 = some r → RS Tryz.f114 I114 2 (xHr x0 x3) (xB9 r) := by
 intro n
 induction n with
 | zero => exact fun _ _ _ h => nE h
 | succ n ih =>
  exact fun x0 x3 r h =>
   cE h (fun h0 h => iE h fun h1 h => cE h (fun h2 h => cE h (fun h4 h => cE h (fun h5 h => dS h xLc (xSQ x0 x3) (oc8 h0 h1 h2 h1 h4 h5 rfl rfl on)) fun h5 h =>
   cE h (fun h7 h => dS h xLc (xSR x0 x3) (oc9 h0 h1 h2 h1 h4 h5 h1 h7 rfl on)) fun h7 h =>
   cE h (fun h9 h => dS h xLc (xSS x0 x3) (oc10 h0 h1 h2 h1 h4 h5 h1 h7 h1 h9 on)) fun h9 h =>
   tS xLc (xST x0 x3) (oc10 h0 h1 h2 h1 h4 h5 h1 h7 h1 h9 on) (ih _ _ _ h)) fun h4 h =>
   tS xLc (xSU x0 x3) (oc6 h0 h1 h2 h1 h4 rfl on) (ih _ _ _ h)) fun h2 h =>
   cE h (fun h4 h => dS h xLc (xSV x0 x3) (oc7 h0 h1 h2 rfl h4 rfl rfl on)) fun h4 h =>
   cE h (fun h6 h => dS h xLc (xSW x0 x3) (oc8 h0 h1 h2 rfl h4 h1 h6 rfl on)) fun h6 h =>
   cE h (fun h8 h => dS h xLc (xSX x0 x3) (oc9 h0 h1 h2 rfl h4 h1 h6 h1 h8 on)) fun h8 h =>
   tS xLc (xSY x0 x3) (oc9 h0 h1 h2 rfl h4 h1 h6 h1 h8 on) (ih _ _ _ h)) fun h0 h =>
   bE h fun r1 h1 h => dS h xLc (xSZ x0 x3 r1) (oc2 h0 (xD3 h1) on)
theorem vA1 {N : Nat} : ∀ a0 r, xIu N a0 = some r → RE Tryz.f114 I114 (xGb a0) (xB9 r) := fun a0 r h =>
 tE xLc (xQW a0) on (vA0 _ _ _ _ h)
theorem xJL {N : Nat} {a0 : Str} {r : Bool} (h : xIu N  a0 = some r) : AbC 114 (xGb a0) (xB9 r) :=
 AbsCalls.of_reach xLc rfl rfl (Nat.le_of_ble_eq_true rfl) (vA1 a0 r h)
end Go.Ab.T
end
section
open Go.Proofs
namespace Go.Ab.T
set_option maxRecDepth 100000
variable [Inhabited Lb]
variable [Nonempty Tab10]
variable [Nonempty ErrVars]
noncomputable def I117 : Info := { body := (Tryz.f117.body).getD .skip, nt := 26, results := [.tmp 2], keep := [0, 4, 6, 8, 12, 24, 40, 48], live := [], modes := [] }
theorem xIs : FnOk Tryz.prog 117 Tryz.f117 I117 := ⟨Tryz.func117, by kernel_rfl, by kernel_rfl, by kernel_rfl, by kernel_rfl⟩
def xTi (a0 : Str) : rE I117 (xAo a0) [Y] [] = dn (xAi 0) [iY (xOk a0)] := by kernel_rfl
def xTj (a0 : Str) : rE I117 (xAo a0) [F, Y, Y] [] = dn (xAi 1) [xEd a0, xOT a0, xOT a0] := by kernel_rfl
def xTk (a0 : Str) : rE I117 (xAo a0) [F, F, Y, Y] [] = dn (xAi 1) [xEd a0, xEs a0, xOU a0, xOU a0] := by kernel_rfl
def xTl (a0 : Str) : rE I117 (xAo a0) [F, F, F, Y, Y] [] = dn (xAi 1) [xEd a0, xEs a0, xEN a0, xOV a0, xOV a0] := by kernel_rfl
def xTm (a0 : Str) : rE I117 (xAo a0) [F, F, F, F, Y, Y] [] = dn (xAi 1) [xEd a0, xEs a0, xEN a0, xFc a0, xOW a0, xOW a0] := by kernel_rfl
def xTn (a0 : Str) : rE I117 (xAo a0) [F, F, F, F, F, Y] [] = dn (xAi 1) [xEd a0, xEs a0, xEN a0, xFc a0, xFo a0, iY (xOl a0)] := by kernel_rfl
def xTo (a0 : Str) : rE I117 (xAo a0) [F, F, F, F, F, F, Y, Y] [] = dn (xAi 2) [xEd a0, xEs a0, xEN a0, xFc a0, xFo a0, xFF a0, xOX a0, xOX a0] := by kernel_rfl
def xTp (a0 : Str) : rE I117 (xAo a0) [F, F, F, F, F, F, F, Y, Y] [] = dn (xAi 2) [xEd a0, xEs a0, xEN a0, xFc a0, xFo a0, xFF a0, xF7 a0, xOY a0, xOY a0] := by kernel_rfl
def xTq (a0 : Str) : rE I117 (xAo a0) [F, F, F, F, F, F, F, F, Y, Y] [] = dn (xAi 2) [xEd a0, xEs a0, xEN a0, xFc a0, xFo a0, xFF a0, xF7 a0, xGw a0, xOZ a0, xOZ a0] := by kernel_rfl
def xTr (a0 : Str) : rE I117 (xAo a0) [F, F, F, F, F, F, F, F, F, Y, Y] [] = dn (xAi 2) [xEd a0, xEs a0, xEN a0, xFc a0, xFo a0, xFF a0, xF7 a0, xGw a0, xGQ a0, xO0 a0, xO0 a0] := by kernel_rfl
def xQX (a0 : Str) : rE I117 (xAo a0) [F, F, F, F, F, F, F, F, F, F, Y, Y] [] = dn (xAi 2) [xEd a0, xEs a0, xEN a0, xFc a0, xFo a0, xFF a0, xF7 a0, xGw a0, xGQ a0, xHi a0, xO1 a0, xO1 a0] := by kernel_rfl
def xQY (a0 : Str) : rE I117 (xAo a0) [F, F, F, F, F, F, F, F, F, F, F, Y, Y] [] = dn (xAi 2) [xEd a0, xEs a0, xEN a0, xFc a0, xFo a0, xFF a0, xF7 a0, xGw a0, xGQ a0, xHi a0, xHU a0, xO2 a0, xO2 a0] := by kernel_rfl
def xQZ (a0 : Str) : rE I117 (xAo a0) [F, F, F, F, F, F, F, F, F, F, F, F, Y] [] = dn (xAi 2) [xEd a0, xEs a0, xEN a0, xFc a0, xFo a0, xFF a0, xF7 a0, xGw a0, xGQ a0, xHi a0, xHU a0, xIQ a0, iY (xOm a0)] := by kernel_rfl
def xQ0 (a0 : Str) : rE I117 (xAo a0) [F, F, F, F, F, F, F, F, F, F, F, F, F, Y, Y] [] = dn (xAi 3) [xEd a0, xEs a0, xEN a0, xFc a0, xFo a0, xFF a0, xF7 a0, xGw a0, xGQ a0, xHi a0, xHU a0, xIQ a0, xJP a0, xO3 a0, xO3 a0] := by kernel_rfl
def xQ1 (a0 : Str) : rE I117 (xAo a0) [F, F, F, F, F, F, F, F, F, F, F, F, F, F, Y, Y] [] = dn (xAi 3) [xEd a0, xEs a0, xEN a0, xFc a0, xFo a0, xFF a0, xF7 a0, xGw a0, xGQ a0, xHi a0, xHU a0, xIQ a0, xJP a0, xK4 a0, xO4 a0, xO4 a0] := by kernel_rfl
def xQ2 (a0 : Str) : rE I117 (xAo a0) [F, F, F, F, F, F, F, F, F, F, F, F, F, F, F, Y] [] = dn (xAi 3) [xEd a0, xEs a0, xEN a0, xFc a0, xFo a0, xFF a0, xF7 a0, xGw a0, xGQ a0, xHi a0, xHU a0, xIQ a0, xJP a0, xK4 a0, xMp a0, iY (xOn a0)] := by kernel_rfl
def xQ3 (a0 : Str) : rE I117 (xAo a0) [F, F, F, F, F, F, F, F, F, F, F, F, F, F, F, F, Y] [] = dn (xAi 4) [xEd a0, xEs a0, xEN a0, xFc a0, xFo a0, xFF a0, xF7 a0, xGw a0, xGQ a0, xHi a0, xHU a0, xIQ a0, xJP a0, xK4 a0, xMp a0, xO5 a0, iY (xMY a0)] := by kernel_rfl
def xQ4 (a0 : Str) : rE I117 (xAo a0) [F, F, F, F, F, F, F, F, F, F, F, F, F, F, F, F, F] [] = dn (xAi (-1)) [xEd a0, xEs a0, xEN a0, xFc a0, xFo a0, xFF a0, xF7 a0, xGw a0, xGQ a0, xHi a0, xHU a0, xIQ a0, xJP a0, xK4 a0, xMp a0, xO5 a0, iN (xMY a0)] := by kernel_rfl
theorem vA4 {N : Nat} : ∀ a0 r, xC1 N a0 = some r → RE Tryz.f117 I117 (xAo a0) (xAi r) := fun a0 r h =>
 cE h (fun h0 h => dE h xIs (xTi a0) (oc h0 on)) fun h0 h =>
 cE h (fun h1 h => dE h xIs (xTj a0) (oc3 h0 h1 h1 on)) fun h1 h =>
 cE h (fun h2 h => dE h xIs (xTk a0) (oc4 h0 h1 h2 h2 on)) fun h2 h =>
 cE h (fun h3 h => dE h xIs (xTl a0) (oc5 h0 h1 h2 h3 h3 on)) fun h3 h =>
 cE h (fun h4 h => dE h xIs (xTm a0) (oc6 h0 h1 h2 h3 h4 h4 on)) fun h4 h =>
 cE h (fun h5 h => dE h xIs (xTn a0) (oc6 h0 h1 h2 h3 h4 h5 on)) fun h5 h =>
 cE h (fun h6 h => dE h xIs (xTo a0) (oc8 h0 h1 h2 h3 h4 h5 h6 h6 on)) fun h6 h =>
 cE h (fun h7 h => dE h xIs (xTp a0) (oc9 h0 h1 h2 h3 h4 h5 h6 h7 h7 on)) fun h7 h =>
 cE h (fun h8 h => dE h xIs (xTq a0) (oc10 h0 h1 h2 h3 h4 h5 h6 h7 h8 h8 on)) fun h8 h =>
 cE h (fun h9 h => dE h xIs (xTr a0) (oc11 h0 h1 h2 h3 h4 h5 h6 h7 h8 h9 h9 on)) fun h9 h =>
 cE h (fun h10 h => dE h xIs (xQX a0) (oc12 h0 h1 h2 h3 h4 h5 h6 h7 h8 h9 h10 h10 on)) fun h10 h =>
 cE h (fun h11 h => dE h xIs (xQY a0) (oc12 h0 h1 h2 h3 h4 h5 h6 h7 h8 h9 h10 h11 (oc h11 on))) fun h11 h =>
 cE h (fun h12 h => dE h xIs (xQZ a0) (oc12 h0 h1 h2 h3 h4 h5 h6 h7 h8 h9 h10 h11 (oc h12 on))) fun h12 h =>
 cE h (fun h13 h => dE h xIs (xQ0 a0) (oc12 h0 h1 h2 h3 h4 h5 h6 h7 h8 h9 h10 h11 (oc3 h12 h13 h13 on))) fun h13 h =>
 cE h (fun h14 h => dE h xIs (xQ1 a0) (oc12 h0 h1 h2 h3 h4 h5 h6 h7 h8 h9 h10 h11 (oc4 h12 h13 h14 h14 on))) fun h14 h =>
 cE h (fun h15 h => dE h xIs (xQ2 a0) (oc12 h0 h1 h2 h3 h4 h5 h6 h7 h8 h9 h10 h11 (oc4 h12 h13 h14 h15 on))) fun h15 h =>
 cE h (fun h16 h => dE h xIs (xQ3 a0) (oc12 h0 h1 h2 h3 h4 h5 h6 h7 h8 h9 h10 h11 (oc5 h12 h13 h14 h15 h16 on))) fun h16 h =>
 dE h xIs (xQ4 a0) (oc12 h0 h1 h2 h3 h4 h5 h6 h7 h8 h9 h10 h11 (oc5 h12 h13 h14 h15 h16 on))
theorem xDl {N : Nat} {a0 : Str} {r : Int} (h : xC1 N  a0 = some r) : AbC 117 (xAo a0) (xAi r) :=
 AbsCalls.of_reach xIs rfl rfl (Nat.le_of_ble_eq_true rfl) (vA4 a0 r h)
noncomputable def I115 : Info := { body := (Tryz.f115.body).getD .skip, nt := 15, results := [.tmp 2], keep := [0, 4, 6, 8], live := [], modes := [] }
theorem xMB : FnOk Tryz.prog 115 Tryz.f115 I115 := ⟨Tryz.func115, by kernel_rfl, by kernel_rfl, by kernel_rfl, by kernel_rfl⟩
def xS0 (a0 : Str) : rE I115 (xBT a0) [Y, Y] [] = dn (xBE true) [iY ((a0 : Str) == [108, 101, 116]), iY ((a0 : Str) == [108, 101, 116])] := by kernel_rfl
abbrev xJW (v0 : Str) : Prop := iN ((v0 : Str) == [108, 101, 116])
def xS1 (a0 : Str) : rE I115 (xBT a0) [F, Y, Y] [] = dn (xBE true) [xJW a0, iY ((a0 : Str) == [105, 110]), iY ((a0 : Str) == [105, 110])] := by kernel_rfl
abbrev xKI (v0 : Str) : Prop := iN ((v0 : Str) == [105, 110])
def xS2 (a0 : Str) : rE I115 (xBT a0) [F, F, Y, Y] [] = dn (xBE true) [xJW a0, xKI a0, iY ((a0 : Str) == [105, 102]), iY ((a0 : Str) == [105, 102])] := by kernel_rfl
abbrev xLC (v0 : Str) : Prop := iN ((v0 : Str) == [105, 102])
abbrev xOp (v0 : Str) := (v0 : Str) == [116, 104, 101, 110]
def xS3 (a0 : Str) : rE I115 (xBT a0) [F, F, F, Y, Y] [] = dn (xBE true) [xJW a0, xKI a0, xLC a0, iY (xOp a0), iY (xOp a0)] := by kernel_rfl
abbrev xMJ (v0 : Str) : Prop := iN (xOp v0)
abbrev xOq (v0 : Str) := (v0 : Str) == [101, 108, 115, 101]
def xS4 (a0 : Str) : rE I115 (xBT a0) [F, F, F, F, Y, Y] [] = dn (xBE true) [xJW a0, xKI a0, xLC a0, xMJ a0, iY (xOq a0), iY (xOq a0)] := by kernel_rfl
abbrev xN0 (v0 : Str) : Prop := iN (xOq v0)
abbrev xM2 (v0 : Str) := (v0 : Str) == [102, 111, 114]
def xS5 (a0 : Str) : rE I115 (xBT a0) [F, F, F, F, F, Y, Y] [] = dn (xBE true) [xJW a0, xKI a0, xLC a0, xMJ a0, xN0 a0, iY (xM2 a0), iY (xM2 a0)] := by kernel_rfl
def xS6 (a0 : Str) : rE I115 (xBT a0) [F, F, F, F, F, F, Y] [] = dn (xBE true) [xJW a0, xKI a0, xLC a0, xMJ a0, xN0 a0, iN (xM2 a0), iY ((a0 : Str) == [100, 111])] := by kernel_rfl
def xS7 (a0 : Str) (r1 : Int) : rE I115 (xBT a0) [F, F, F, F, F, F, F] [xAi r1] = dn (xBE (dc (r1 ≥ 0))) [xJW a0, xKI a0, xLC a0, xMJ a0, xN0 a0, iN (xM2 a0), iN ((a0 : Str) == [100, 111]), AbC 117 (xAo a0) (xAi r1)] := by kernel_rfl
theorem vA2 {N : Nat} : ∀ a0 r, xFK N a0 = some r → RE Tryz.f115 I115 (xBT a0) (xBE r) := fun a0 r h =>
 cE h (fun h0 h => dE h xMB (xS0 a0) (oc2 h0 h0 on)) fun h0 h =>
 cE h (fun h1 h => dE h xMB (xS1 a0) (oc3 h0 h1 h1 on)) fun h1 h =>
 cE h (fun h2 h => dE h xMB (xS2 a0) (oc4 h0 h1 h2 h2 on)) fun h2 h =>
 cE h (fun h3 h => dE h xMB (xS3 a0) (oc5 h0 h1 h2 h3 h3 on)) fun h3 h =>
 cE h (fun h4 h => dE h xMB (xS4 a0) (oc6 h0 h1 h2 h3 h4 h4 on)) fun h4 h =>
 cE h (fun h5 h => dE h xMB (xS5 a0) (oc7 h0 h1 h2 h3 h4 h5 h5 on)) fun h5 h =>
 cE h (fun h6 h => dE h xMB (xS6 a0) (oc7 h0 h1 h2 h3 h4 h5 h6 on)) fun h6 h =>
 bE h fun r1 h7 h => dE h xMB (xS7 a0 r1) (oc8 h0 h1 h2 h3 h4 h5 h6 (xDl h7) on)
theorem xKg {N : Nat} {a0 : Str} {r : Bool} (h : xFK N  a0 = some r) : AbC 115 (xBT a0) (xBE r) :=
 AbsCalls.of_reach xMB rfl rfl (Nat.le_of_ble_eq_true rfl) (vA2 a0 r h)
noncomputable def I93 : Info := { body := (Tryz.f93.body).getD .skip, nt := 10, results := [.tmp 2], keep := [0, 4], live := [], modes := [(1, [(2, .take, false)])] }
theorem fk93 : FnOk Tryz.prog 93 Tryz.f93 I93 := ⟨Tryz.func93, by kernel_rfl, by kernel_rfl, by kernel_rfl, by kernel_rfl⟩
def xZ1 (a0 : Str) (r1 r2 : Bool) : rE I93 (xDQ a0) [Y] [xB9 r1, xBE r2] = dn (xAJ (!r2)) [AbC 114 (xGb a0) (xB9 r1), iY r1, AbC 115 (xBT a0) (xBE r2)] := by kernel_rfl
def xZ2 (a0 : Str) (r1 : Bool) : rE I93 (xDQ a0) [F] [xB9 r1] = dn (xAJ false) [AbC 114 (xGb a0) (xB9 r1), iN r1] := by kernel_rfl
theorem vC9 {N : Nat} : ∀ a0 r, xDe N a0 = some r → RE Tryz.f93 I93 (xDQ a0) (xAJ r) := fun a0 r h =>
 bE h fun r1 h0 h => cE h (fun h1 h => bE h fun r2 h2 h => dE h fk93 (xZ1 a0 r1 r2) (oc3 (xJL h0) h1 (xKg h2) on)) fun h1 h =>
 dE h fk93 (xZ2 a0 r1) (oc2 (xJL h0) h1 on)
theorem xBl {N : Nat} {a0 : Str} {r : Bool} (h : xDe N  a0 = some r) : AbC 93 (xDQ a0) (xAJ r) :=
 AbsCalls.of_reach fk93 rfl rfl (Nat.le_of_ble_eq_true rfl) (vC9 a0 r h)
noncomputable def I94 : Info := { body := (Tryz.f94.body).getD .skip, nt := 16, results := [.cell 2 25], keep := [0, 4, 14, 1, 5], live := [], modes := [], ext := [0] }
theorem fk94 : FnOk Tryz.prog 94 Tryz.f94 I94 := ⟨Tryz.func94, by kernel_rfl, by kernel_rfl, by kernel_rfl, by kernel_rfl⟩
def xZ3 (a0 : Psr) : rE I94 (xCh a0) [Y] [] = dn (xA8 ((Exp.mk 0 0 [] []), (Psr.mk (Psr.list a0) (Psr.pos a0) (Psr.pos a0)))) [xI8 a0] := by kernel_rfl
def xZ4 (a0 : Psr) : rE I94 (xCh a0) [F] [] = dn (xA8 ((Exp.mk 0 0 [] []), a0)) [xMI a0] := by kernel_rfl
theorem vDa {N : Nat} : ∀ a0 r, xB4 N a0 = some r → RE Tryz.f94 I94 (xCh a0) (xA8 r) := fun a0 r h =>
 cE h (fun h0 h => dE h fk94 (xZ3 a0) (oc h0 on)) fun h0 h =>
 dE h fk94 (xZ4 a0) (oc h0 on)
theorem xEC {N : Nat} {a0 : Psr} {r : Exp × Psr} (h : xB4 N  a0 = some r) : AbC 94 (xCh a0) (xA8 r) :=
 AbsCalls.of_reach fk94 rfl rfl (Nat.le_of_ble_eq_true rfl) (vDa a0 r h)
noncomputable def I52 : Info := { body := (Tryz.f52.body).getD .skip, nt := 26, results := [.tmp 2], keep := [0, 4, 6, 28, 1, 7], live := [], modes := [(2, [(3, .take, false)])], ext := [0] }
theorem fk52 : FnOk Tryz.prog 52 Tryz.f52 I52 := ⟨Tryz.func52, by kernel_rfl, by kernel_rfl, by kernel_rfl, by kernel_rfl⟩
abbrev xEO (v0 : Psr) (v1 : Tok × Psr) : Prop := AbC 51 (xDj v0) (xAg v1)
def xYa (a0 : Psr) (r1 : Tok × Psr) (r2 : Exp × Psr) : rE I52 (xDU a0) [Y, Y] [xAg r1, xA8 r2] = dn (xCE ([], r2.2)) [xEO a0 r1, iY ((Tok.kind r1.1) != 1), iY true, AbC 94 (xCh r1.2) (xA8 r2)] := by kernel_rfl
abbrev xJX (v0 : Tok × Psr) (v1 : Bool) : Prop := AbC 93 (xDQ (Tok.text v0.1)) (xAJ v1)
def xYb (a0 : Psr) (r1 : Tok × Psr) (r2 : Bool) (r3 : Exp × Psr) : rE I52 (xDU a0) [F, Y] [xAg r1, xAJ r2, xA8 r3] = dn (xCE ([], r3.2)) [xEO a0 r1, iN ((Tok.kind r1.1) != 1), xJX r1 r2, iY (!r2), AbC 94 (xCh r1.2) (xA8 r3)] := by kernel_rfl
abbrev xJj (v0 : Tok × Psr) := Psr.mk (Psr.list v0.2) (W ((Psr.pos v0.2) + 1)) (Psr.bad v0.2)
def xYc (a0 : Psr) (r1 : Tok × Psr) (r2 : Bool) : rE I52 (xDU a0) [F, F] [xAg r1, xAJ r2] = dn (xCE ((Tok.text r1.1), (xJj r1))) [xEO a0 r1, iN ((Tok.kind r1.1) != 1), xJX r1 r2, iN (!r2)] := by kernel_rfl
theorem vCu {N : Nat} : ∀ a0 r, xB5 N a0 = some r → RE Tryz.f52 I52 (xDU a0) (xCE r) := fun a0 r h =>
 bE h fun r1 h0 h => cE h (fun h1 h => bE h fun r2 h3 h => dE h fk52 (xYa a0 r1 r2) (oc4 (xAl h0) h1 rfl (xEC h3) on)) fun h1 h =>
 bE h fun r2 h2 h => cE h (fun h3 h => bE h fun r3 h4 h => dE h fk52 (xYb a0 r1 r2 r3) (oc5 (xAl h0) h1 (xBl h2) h3 (xEC h4) on)) fun h3 h =>
 dE h fk52 (xYc a0 r1 r2) (oc4 (xAl h0) h1 (xBl h2) h3 on)
theorem xHv {N : Nat} {a0 : Psr} {r : Str × Psr} (h : xB5 N  a0 = some r) : AbC 52 (xDU a0) (xCE r) :=
 AbsCalls.of_reach fk52 rfl rfl (Nat.le_of_ble_eq_true rfl) (vCu a0 r h)
noncomputable def I95 : Info := { body := (Tryz.f95.body).getD .skip, nt := 14, results := [.tmp 4], keep := [0, 2, 4, 8, 5], live := [], modes := [(1, [(3, .take, false)])] }
theorem fk95 : FnOk Tryz.prog 95 Tryz.f95 I95 := ⟨Tryz.func95, by kernel_rfl, by kernel_rfl, by kernel_rfl, by kernel_rfl⟩
def xZ5 (a0 : Tok) (a1 : Str) : rE I95 (xDF a0 a1) [Y] [] = dn (xB3 (((Tok.text a0) : Str) == a1)) [iY ((Tok.kind a0) == 4)] := by kernel_rfl
def xZ6 (a0 : Tok) (a1 : Str) : rE I95 (xDF a0 a1) [F] [] = dn (xB3 false) [iN ((Tok.kind a0) == 4)] := by kernel_rfl
theorem vDb {N : Nat} : ∀ a0 a1 r, xFZ N a0 a1 = some r → RE Tryz.f95 I95 (xDF a0 a1) (xB3 r) := fun a0 a1 r h =>
 cE h (fun h0 h => dE h fk95 (xZ5 a0 a1) (oc h0 on)) fun h0 h =>
 dE h fk95 (xZ6 a0 a1) (oc h0 on)
theorem xGg {N : Nat} {a0 : Tok} {a1 : Str} {r : Bool} (h : xFZ N  a0 a1 = some r) : AbC 95 (xDF a0 a1) (xB3 r) :=
 AbsCalls.of_reach fk95 rfl rfl (Nat.le_of_ble_eq_true rfl) (vDb a0 a1 r h)
noncomputable def I53 : Info := { body := (Tryz.f53.body).getD .skip, nt := 23, results := [], keep := [0, 2, 26, 1], live := [], modes := [(0, [(4, .take, false)])], ext := [0] }
theorem fk53 : FnOk Tryz.prog 53 Tryz.f53 I53 := ⟨Tryz.func53, by kernel_rfl, by kernel_rfl, by kernel_rfl, by kernel_rfl⟩
abbrev xQx (v0 : Tok × Psr) := xAt (Psr.mk (Psr.list v0.2) (W ((Psr.pos v0.2) + 1)) (Psr.bad v0.2))
def xYd (a0 : Psr) (a1 : Str) (r1 : Tok × Psr) (r2 : Bool) : rE I53 (xA2 a0 a1) [Y, Y] [xAg r1, xAz r2] = dn (xQx r1) [xEO a0 r1, AbC 50 (xBB r1.1 a1) (xAz r2), iY r2, iY true] := by kernel_rfl
abbrev xJY (v0 v1 : Tok × Psr) : Prop := AbC 51 (xDj v0.2) (xAg v1)
def xYe (a0 : Psr) (a1 : Str) (r1 : Tok × Psr) (r2 : Bool) (r3 : Tok × Psr) (r4 : Bool) : rE I53 (xA2 a0 a1) [F, Y] [xAg r1, xAz r2, xAg r3, xB3 r4] = dn (xQx r3) [xEO a0 r1, AbC 50 (xBB r1.1 a1) (xAz r2), iN r2, xJY r1 r3, AbC 95 (xDF r3.1 a1) (xB3 r4), iY r4] := by kernel_rfl
def xYf (a0 : Psr) (a1 : Str) (r1 : Tok × Psr) (r2 : Bool) (r3 : Tok × Psr) (r4 : Bool) (r5 : Exp × Psr) : rE I53 (xA2 a0 a1) [F, F] [xAg r1, xAz r2, xAg r3, xB3 r4, xA8 r5] = dn (xAt r5.2) [xEO a0 r1, AbC 50 (xBB r1.1 a1) (xAz r2), iN r2, xJY r1 r3, AbC 95 (xDF r3.1 a1) (xB3 r4), iN r4, AbC 94 (xCh r3.2) (xA8 r5)] := by kernel_rfl
theorem vCv {N : Nat} : ∀ a0 a1 r, xAH N a0 a1 = some r → RE Tryz.f53 I53 (xA2 a0 a1) (xAt r) := fun a0 a1 r h =>
 bE h fun r1 h0 h => bE h fun r2 h1 h => cE h (fun h2 h => dE h fk53 (xYd a0 a1 r1 r2) (oc4 (xAl h0) (xBL h1) h2 rfl on)) fun h2 h =>
 bE h fun r3 h3 h => bE h fun r4 h4 h => cE h (fun h5 h => dE h fk53 (xYe a0 a1 r1 r2 r3 r4) (oc6 (xAl h0) (xBL h1) h2 (xAl h3) (xGg h4) h5 on)) fun h5 h =>
 bE h fun r5 h6 h => dE h fk53 (xYf a0 a1 r1 r2 r3 r4 r5) (oc7 (xAl h0) (xBL h1) h2 (xAl h3) (xGg h4) h5 (xEC h6) on)
theorem xBX {N : Nat} {a0 : Psr} {a1 : Str} {r : Psr} (h : xAH N  a0 a1 = some r) : AbC 53 (xA2 a0 a1) (xAt r) :=
 AbsCalls.of_reach fk53 rfl rfl (Nat.le_of_ble_eq_true rfl) (vCv a0 a1 r h)
noncomputable def I55 : Info := { body := (Tryz.f55.body).getD .skip, nt := 16, results := [.tmp 4], keep := [0, 2, 8, 16, 1], live := [], modes := [], ext := [0] }
theorem fk55 : FnOk Tryz.prog 55 Tryz.f55 I55 := ⟨Tryz.func55, by kernel_rfl, by kernel_rfl, by kernel_rfl, by kernel_rfl⟩
def xYl (a0 : Psr) (a1 : Str) (r1 : Tok × Psr) (r2 : Bool) : rE I55 (xAr a0 a1) [Y] [xAg r1, xB3 r2] = dn (xAd (true, (xJj r1))) [xEO a0 r1, AbC 95 (xDF r1.1 a1) (xB3 r2), iY r2] := by kernel_rfl
def xYm (a0 : Psr) (a1 : Str) (r1 : Tok × Psr) (r2 : Bool) : rE I55 (xAr a0 a1) [F] [xAg r1, xB3 r2] = dn (xAd (false, r1.2)) [xEO a0 r1, AbC 95 (xDF r1.1 a1) (xB3 r2), iN r2] := by kernel_rfl
theorem vCy {N : Nat} : ∀ a0 a1 r, xAL N a0 a1 = some r → RE Tryz.f55 I55 (xAr a0 a1) (xAd r) := fun a0 a1 r h =>
 bE h fun r1 h0 h => bE h fun r2 h1 h => cE h (fun h2 h => dE h fk55 (xYl a0 a1 r1 r2) (oc3 (xAl h0) (xGg h1) h2 on)) fun h2 h =>
 dE h fk55 (xYm a0 a1 r1 r2) (oc3 (xAl h0) (xGg h1) h2 on)
theorem xAp {N : Nat} {a0 : Psr} {a1 : Str} {r : Bool × Psr} (h : xAL N  a0 a1 = some r) : AbC 55 (xAr a0 a1) (xAd r) :=
 AbsCalls.of_reach fk55 rfl rfl (Nat.le_of_ble_eq_true rfl) (vCy a0 a1 r h)
noncomputable def I56 : Info := { body := (Tryz.f56.body).getD .skip, nt := 11, results := [.tmp 2], keep := [0, 4, 10], live := [], modes := [] }
theorem fk56 : FnOk Tryz.prog 56 Tryz.f56 I56 := ⟨Tryz.func56, by kernel_rfl, by kernel_rfl, by kernel_rfl, by kernel_rfl⟩
def xYn (a0 : Int) (r1 : Bool) : rE I56 (xEP a0) [Y] [xBg r1] = dn (xDG [63]) [AbC 97 (xC6 a0 1 5) (xBg r1), iY (!r1)] := by kernel_rfl
def xYo (a0 : Int) (r1 : Bool) : rE I56 (xEP a0) [F] [xBg r1] = dn (xDG (gD [[43], [45], [42], [60], [61, 61]] (tN (W (a0 - 1))) Ty.str.dflt)) [AbC 97 (xC6 a0 1 5) (xBg r1), iN (!r1), (0 : Int) ≤ (W (a0 - 1)) ∧ (W (a0 - 1)) < (Ln [[43], [45], [42], [60], [61, 61]])] := by kernel_rfl
theorem vCz {N : Nat} : ∀ a0 r, xEY N a0 = some r → RE Tryz.f56 I56 (xEP a0) (xDG r) := fun a0 r h =>
 bE h fun r1 h0 h => cE h (fun h1 h => dE h fk56 (xYn a0 r1) (oc2 (xD3 h0) h1 on)) fun h1 h =>
 iE h fun h2 h => dE h fk56 (xYo a0 r1) (oc3 (xD3 h0) h1 h2 on)
theorem xIO {N : Nat} {a0 : Int} {r : Str} (h : xEY N  a0 = some r) : AbC 56 (xEP a0) (xDG r) :=
 AbsCalls.of_reach fk56 rfl rfl (Nat.le_of_ble_eq_true rfl) (vCz a0 r h)
def G116 (q : Psr → Option (Exp × Psr)) : Prop := ∀ a0 r, q a0 = some r → AbC 116 (xA1 a0) (xAP r)
def G31 (q : Psr → Option (Exp × Psr)) : Prop := ∀ a0 r, q a0 = some r → AbC 31 (xBm a0) (xAf r)
def G131 (q : Psr → Str → Option ((List Exp) × Psr)) : Prop := ∀ a0 a1 r, q a0 a1 = some r → AbC 131 (xCt a0 a1) (xBa r)
def G96 (q : Psr → Option (Exp × Psr)) : Prop := ∀ a0 r, q a0 = some r → AbC 96 (xCy a0) (xBi r)
def G54 (q : Psr → Option (Exp × Psr)) : Prop := ∀ a0 r, q a0 = some r → AbC 54 (xEc a0) (xCb r)
noncomputable def I116 : Info := { body := (Tryz.f116.body).getD .skip, nt := 94, results := [.cell 2 25], keep := [0, 4, 6, 8, 14, 42, 70, 108, 156, 168, 1, 5, 7, 9], live := [], modes := [(8, [(3, .take, false)]), (11, [(3, .take, false)]), (20, [(0, .take, false)])], ext := [0] }
theorem xLv : FnOk Tryz.prog 116 Tryz.f116 I116 := ⟨Tryz.func116, by kernel_rfl, by kernel_rfl, by kernel_rfl, by kernel_rfl⟩
def xS8 (a0 : Psr) (r1 : Tok × Psr) : rE I116 (xA1 a0) [Y] [xAg r1] = dn (xAP ((Exp.mk 1 (Tok.n r1.1) [] []), (xJj r1))) [xEO a0 r1, iY ((Tok.kind r1.1) == 2)] := by kernel_rfl
abbrev xID (v0 : Tok × Psr) : Prop := iN ((Tok.kind v0.1) == 2)
def xS9 (a0 : Psr) (r1 : Tok × Psr) : rE I116 (xA1 a0) [F, Y] [xAg r1] = dn (xAP ((Exp.mk 2 0 (Tok.text r1.1) []), (xJj r1))) [xEO a0 r1, xID r1, iY ((Tok.kind r1.1) == 3)] := by kernel_rfl
abbrev xI9 (v0 : Tok × Psr) : Prop := iN ((Tok.kind v0.1) == 3)
abbrev xIE (v0 : Tok × Psr) : Prop := iY ((Tok.kind v0.1) == 1)
def xTa (a0 : Psr) (r1 : Tok × Psr) (r2 : Bool) : rE I116 (xA1 a0) [F, F, Y, Y] [xAg r1, xAJ r2] = dn (xAP ((Exp.mk 3 0 (Tok.text r1.1) []), (xJj r1))) [xEO a0 r1, xID r1, xI9 r1, xIE r1, xJX r1 r2, iY r2] := by kernel_rfl
abbrev xMK (v0 : Tok × Psr) (v1 : Int) : Prop := AbC 117 (xAo (Tok.text v0.1)) (xAi v1)
def xTb (a0 : Psr) (r1 : Tok × Psr) (r2 : Bool) (r3 : Int) (r4 : Psr) (r5 : (List Exp) × Psr) : rE I116 (xA1 a0) [F, F, Y, F, Y, Y] [xAg r1, xAJ r2, xAi r3, xAt r4, xBa r5] = dn (xAP ((Exp.mk 5 0 (Tok.text r1.1) r5.1), r5.2)) [xEO a0 r1, xID r1, xI9 r1, xIE r1, xJX r1 r2, iN r2, xIE r1, xMK r1 r3, iY (dc (r3 ≥ 0)), AbC 53 (xA2 (xJj r1) [40]) (xAt r4), AbC 131 (xCt r4 [41]) (xBa r5)] := by kernel_rfl
abbrev xKJ (v0 : Tok × Psr) (v1 : Bool × Psr) : Prop := AbC 55 (xAr v0.2 [91]) (xAd v1)
def xTc (a0 : Psr) (r1 : Tok × Psr) (r2 : Bool) (r3 : Int) (r4 : Bool × Psr) (r5 : (List Exp) × Psr) : rE I116 (xA1 a0) [F, F, Y, F, Y, F, Y] [xAg r1, xAJ r2, xAi r3, xAd r4, xBa r5] = dn (xAP ((Exp.mk 4 0 [] r5.1), r5.2)) [xEO a0 r1, xID r1, xI9 r1, xIE r1, xJX r1 r2, iN r2, xIE r1, xMK r1 r3, xK7 r3, xKJ r1 r4, iY r4.1, AbC 131 (xCt r4.2 [93]) (xBa r5)] := by kernel_rfl
def xTd (a0 : Psr) (r1 : Tok × Psr) (r2 : Bool) (r3 : Int) (r4 : Bool × Psr) (r5 : Bool × Psr) (r6 : Exp × Psr) (r7 : Psr) : rE I116 (xA1 a0) [F, F, Y, F, Y, F, F, Y] [xAg r1, xAJ r2, xAi r3, xAd r4, xAd r5, xAf r6, xAt r7] = dn (xAP (r6.1, r7)) [xEO a0 r1, xID r1, xI9 r1, xIE r1, xJX r1 r2, iN r2, xIE r1, xMK r1 r3, xK7 r3, xKJ r1 r4, iN r4.1, AbC 55 (xAr r4.2 [40]) (xAd r5), iY r5.1, AbC 31 (xBm r5.2) (xAf r6), AbC 53 (xA2 r6.2 [41]) (xAt r7)] := by kernel_rfl
def xTe (a0 : Psr) (r1 : Tok × Psr) (r2 : Bool) (r3 : Int) (r4 : Bool × Psr) (r5 : Bool × Psr) (r6 : Exp × Psr) : rE I116 (xA1 a0) [F, F, Y, F, Y, F, F, F] [xAg r1, xAJ r2, xAi r3, xAd r4, xAd r5, xA8 r6] = dn (xAP (r6.1, r6.2)) [xEO a0 r1, xID r1, xI9 r1, xIE r1, xJX r1 r2, iN r2, xIE r1, xMK r1 r3, xK7 r3, xKJ r1 r4, iN r4.1, AbC 55 (xAr r4.2 [40]) (xAd r5), iN r5.1, AbC 94 (xCh r5.2) (xA8 r6)] := by kernel_rfl
abbrev xKK (v0 : Tok × Psr) : Prop := iN ((Tok.kind v0.1) == 1)
def xTf (a0 : Psr) (r1 : Tok × Psr) (r2 : Bool × Psr) (r3 : (List Exp) × Psr) : rE I116 (xA1 a0) [F, F, F, F, F, F, Y] [xAg r1, xAd r2, xBa r3] = dn (xAP ((Exp.mk 4 0 [] r3.1), r3.2)) [xEO a0 r1, xID r1, xI9 r1, xKK r1, iN false, xKK r1, iN false, xKJ r1 r2, iY r2.1, AbC 131 (xCt r2.2 [93]) (xBa r3)] := by kernel_rfl
def xTg (a0 : Psr) (r1 : Tok × Psr) (r2 : Bool × Psr) (r3 : Bool × Psr) (r4 : Exp × Psr) (r5 : Psr) : rE I116 (xA1 a0) [F, F, F, F, F, F, F, Y] [xAg r1, xAd r2, xAd r3, xAf r4, xAt r5] = dn (xAP (r4.1, r5)) [xEO a0 r1, xID r1, xI9 r1, xKK r1, iN false, xKK r1, iN false, xKJ r1 r2, iN r2.1, AbC 55 (xAr r2.2 [40]) (xAd r3), iY r3.1, AbC 31 (xBm r3.2) (xAf r4), AbC 53 (xA2 r4.2 [41]) (xAt r5)] := by kernel_rfl
def xTh (a0 : Psr) (r1 : Tok × Psr) (r2 : Bool × Psr) (r3 : Bool × Psr) (r4 : Exp × Psr) : rE I116 (xA1 a0) [F, F, F, F, F, F, F, F] [xAg r1, xAd r2, xAd r3, xA8 r4] = dn (xAP (r4.1, r4.2)) [xEO a0 r1, xID r1, xI9 r1, xKK r1, iN false, xKK r1, iN false, xKJ r1 r2, iN r2.1, AbC 55 (xAr r2.2 [40]) (xAd r3), iN r3.1, AbC 94 (xCh r3.2) (xA8 r4)] := by kernel_rfl
theorem vA3 {N q0 q1 q2 q3 q4} (g0 : G116 q0) (g1 : G31 q1) (g2 : G131 q2) (g3 : G96 q3) (g4 : G54 q4) : ∀ a0 r, xCC N q0 q1 q2 q3 q4 a0 = some r → RE Tryz.f116 I116 (xA1 a0) (xAP r) := fun a0 r h =>
 bE h fun r1 h0 h => cE h (fun h1 h => dE h xLv (xS8 a0 r1) (oc2 (xAl h0) h1 on)) fun h1 h =>
 cE h (fun h2 h => dE h xLv (xS9 a0 r1) (oc3 (xAl h0) h1 h2 on)) fun h2 h =>
 cE h (fun h3 h => bE h fun r2 h4 h => cE h (fun h5 h => dE h xLv (xTa a0 r1 r2) (oc6 (xAl h0) h1 h2 h3 (xBl h4) h5 on)) fun h5 h =>
 bE h fun r3 h7 h => cE h (fun h8 h => bE h fun r4 h9 h => bE h fun r5 h10 h => dE h xLv (xTb a0 r1 r2 r3 r4 r5) (oc11 (xAl h0) h1 h2 h3 (xBl h4) h5 h3 (xDl h7) h8 (xBX h9) (g2 _ _ _ h10) on)) fun h8 h =>
 bE h fun r4 h9 h => cE h (fun h10 h => bE h fun r5 h11 h => dE h xLv (xTc a0 r1 r2 r3 r4 r5) (oc12 (xAl h0) h1 h2 h3 (xBl h4) h5 h3 (xDl h7) h8 (xAp h9) h10 (g2 _ _ _ h11) on)) fun h10 h =>
 bE h fun r5 h11 h => cE h (fun h12 h => bE h fun r6 h13 h => bE h fun r7 h14 h => dE h xLv (xTd a0 r1 r2 r3 r4 r5 r6 r7) (oc12 (xAl h0) h1 h2 h3 (xBl h4) h5 h3 (xDl h7) h8 (xAp h9) h10 (xAp h11) (oc3 h12 (g1 _ _ h13) (xBX h14) on))) fun h12 h =>
 bE h fun r6 h13 h => dE h xLv (xTe a0 r1 r2 r3 r4 r5 r6) (oc12 (xAl h0) h1 h2 h3 (xBl h4) h5 h3 (xDl h7) h8 (xAp h9) h10 (xAp h11) (oc2 h12 (xEC h13) on))) fun h3 h =>
 bE h fun r2 h7 h => cE h (fun h8 h => bE h fun r3 h9 h => dE h xLv (xTf a0 r1 r2 r3) (oc10 (xAl h0) h1 h2 h3 rfl h3 rfl (xAp h7) h8 (g2 _ _ _ h9) on)) fun h8 h =>
 bE h fun r3 h9 h => cE h (fun h10 h => bE h fun r4 h11 h => bE h fun r5 h12 h => dE h xLv (xTg a0 r1 r2 r3 r4 r5) (oc12 (xAl h0) h1 h2 h3 rfl h3 rfl (xAp h7) h8 (xAp h9) h10 (g1 _ _ h11) (oc (xBX h12) on))) fun h10 h =>
 bE h fun r4 h11 h => dE h xLv (xTh a0 r1 r2 r3 r4) (oc12 (xAl h0) h1 h2 h3 rfl h3 rfl (xAp h7) h8 (xAp h9) h10 (xEC h11) on)
theorem xIi {N q0 q1 q2 q3 q4} (g0 : G116 q0) (g1 : G31 q1) (g2 : G131 q2) (g3 : G96 q3) (g4 : G54 q4) {a0} {r} (h : xCC N q0 q1 q2 q3 q4 a0 = some r) : AbC 116 (xA1 a0) (xAP r) :=
 AbsCalls.of_reach xLv rfl rfl (Nat.le_of_ble_eq_true rfl) (vA3 g0 g1 g2 g3 g4 a0 r h)
noncomputable def I31 : Info := { body := (Tryz.f31.body).getD .skip, nt := 133, results := [.cell 2 25], keep := [0, 4, 6, 8, 10, 12, 16, 18, 84, 160, 230, 232, 234, 236, 248, 1, 5, 7, 9, 11, 13], live := [(28, [0, 4, 12, 230, 232, 234, 1, 5, 13])], modes := [(5, [(1, .take, false), (5, .take, false)]), (7, [(1, .take, false), (5, .take, false)]), (8, [(0, .take, false)]), (12, [(1, .take, false), (5, .take, false)]), (14, [(1, .take, false), (5, .take, false)]), (16, [(1, .take, false), (5, .take, false)]), (17, [(0, .take, false)]), (22, [(1, .take, false), (5, .take, false)]), (24, [(1, .take, false), (5, .take, false)]), (25, [(0, .take, false)]), (31, [(1, .take, false)]), (32, [(1, .take, false)]), (33, [(0, .take, false)])], ext := [0] }
theorem fk31 : FnOk Tryz.prog 31 Tryz.f31 I31 := ⟨Tryz.func31, by kernel_rfl, by kernel_rfl, by kernel_rfl, by kernel_rfl⟩
def xMd (x115 : List Int) (x116 x117 : Int) (b0 : Psr) (b2 b6 : Exp) : St := [(0, .v false [.ptr 0 0]), (4, .v false [.ptr 2 0]), (12, .v false [.ptr 6 0]), (230, .v false [.sl .own .int x115]), (232, .v false [.int .i64 x116]), (234, .v false [.int .i64 x117]), (1, .v true [.sl .ro .tok (Psr.list b0), .int .i64 (Psr.pos b0), .int .i64 (Psr.bad b0)]), (5, .v true [.int .i64 (Exp.kind b2), .int .i64 (Exp.n b2), .str (Exp.text b2), .sl .own .exp (Exp.args b2)]), (13, .v true [.int .i64 (Exp.kind b6), .int .i64 (Exp.n b6), .str (Exp.text b6), .sl .own .exp (Exp.args b6)])]
abbrev xH9 (v0 v1 : Int) : Prop := iY (dc (v0 < v1))
def xT6 (x115 : List Int) (x116 x117 : Int) (b0 : Psr) (b2 b6 : Exp) (r1 : Str) (r2 : Bool × Psr) (r3 : Exp × Psr) : rS 28 I31 (xMd x115 x116 x117 b0 b2 b6) [Y, Y] [xDG r1, xAd r2, xCb r3] = dn (xAf ((Exp.mk 6 (gD x115 (tN x117) Ty.int.dflt) [] [(Exp.re b6), (Exp.re r3.1)]), r3.2)) [xH9 x117 x116, (0 : Int) ≤ x117 ∧ x117 < (Ln x115), AbC 56 (xEP (gD x115 (tN x117) Ty.int.dflt)) (xDG r1), AbC 55 (xAr b0 r1) (xAd r2), iY r2.1, AbC 54 (xEc r2.2) (xCb r3)] := by kernel_rfl
def xT7 (x115 : List Int) (x116 x117 : Int) (b0 : Psr) (b2 b6 : Exp) (r1 : Str) (r2 : Bool × Psr) : rS 28 I31 (xMd x115 x116 x117 b0 b2 b6) [Y, F] [xDG r1, xAd r2] = st 28 I31 (xMd x115 x116 (W (x117 + 1)) r2.2 b2 b6) [xH9 x117 x116, (0 : Int) ≤ x117 ∧ x117 < (Ln x115), AbC 56 (xEP (gD x115 (tN x117) Ty.int.dflt)) (xDG r1), AbC 55 (xAr b0 r1) (xAd r2), iN r2.1] := by kernel_rfl
def xT8 (x115 : List Int) (x116 x117 : Int) (b0 : Psr) (b2 b6 : Exp) : rS 28 I31 (xMd x115 x116 x117 b0 b2 b6) [F] [] = dn (xAf (b6, b0)) [iN (dc (x117 < x116))] := by kernel_rfl
abbrev xML (v0 : Tok × Psr) (v1 : Bool) : Prop := AbC 50 (xBB v0.1 [108, 101, 116]) (xAz v1)
abbrev xQi (v0 : Tok × Psr) (v1 : Str × Psr) : Prop := AbC 52 (xDU (xJj v0)) (xCE v1)
abbrev xJa (v0 : Psr) (v1 : Exp × Psr) : Prop := AbC 31 (xBm v0) (xAf v1)
abbrev xN1 (v0 v1 : Exp × Psr) : Prop := Ln ([] ++ [(Exp.re v0.1)]) + Ln [(Exp.re v1.1)] ≤ Lim
def xW2 (a0 : Psr) (r1 : Tok × Psr) (r2 : Bool) (r3 : Str × Psr) (r4 : Psr) (r5 : Exp × Psr) (r6 : Psr) (r7 : Exp × Psr) : rE I31 (xBm a0) [Y] [xAg r1, xAz r2, xCE r3, xAt r4, xAf r5, xAt r6, xAf r7] = dn (xAf ((Exp.mk 7 0 r3.1 (([] ++ [(Exp.re r5.1)]) ++ [(Exp.re r7.1)])), r7.2)) [xEO a0 r1, xML r1 r2, iY r2, xQi r1 r3, AbC 53 (xA2 r3.2 [61]) (xAt r4), xJa r4 r5, 0 + Ln [(Exp.re r5.1)] ≤ Lim, AbC 53 (xA2 r5.2 [105, 110]) (xAt r6), xJa r6 r7, xN1 r5 r7] := by kernel_rfl
def xW3 (a0 : Psr) (r1 : Tok × Psr) (r2 : Bool) (r3 : Tok × Psr) (r4 : Bool) (r5 : Exp × Psr) (r6 : Psr) (r7 : Exp × Psr) (r8 : Psr) (r9 : Exp × Psr) : rE I31 (xBm a0) [F, Y] [xAg r1, xAz r2, xAg r3, xAz r4, xAf r5, xAt r6, xAf r7, xAt r8, xAf r9] = dn (xAf ((Exp.mk 8 0 [] ((([] ++ [(Exp.re r5.1)]) ++ [(Exp.re r7.1)]) ++ [(Exp.re r9.1)])), r9.2)) [xEO a0 r1, xML r1 r2, iN r2, xJY r1 r3, AbC 50 (xBB r3.1 [105, 102]) (xAz r4), iY r4, AbC 31 (xBm (xJj r3)) (xAf r5), 0 + Ln [(Exp.re r5.1)] ≤ Lim, AbC 53 (xA2 r5.2 [116, 104, 101, 110]) (xAt r6), xJa r6 r7, xN1 r5 r7, AbC 53 (xA2 r7.2 [101, 108, 115, 101]) (xAt r8), xJa r8 r9, Ln (([] ++ [(Exp.re r5.1)]) ++ [(Exp.re r7.1)]) + Ln [(Exp.re r9.1)] ≤ Lim] := by kernel_rfl
def xW4 (a0 : Psr) (r1 : Tok × Psr) (r2 : Bool) (r3 : Tok × Psr) (r4 : Bool) (r5 : Tok × Psr) (r6 : Bool) (r7 : Str × Psr) (r8 : Psr) (r9 : Exp × Psr) (r10 : Psr) (r11 : Exp × Psr) : rE I31 (xBm a0) [F, F, Y] [xAg r1, xAz r2, xAg r3, xAz r4, xAg r5, xAz r6, xCE r7, xAt r8, xAf r9, xAt r10, xAf r11] = dn (xAf ((Exp.mk 9 0 r7.1 (([] ++ [(Exp.re r9.1)]) ++ [(Exp.re r11.1)])), r11.2)) [xEO a0 r1, xML r1 r2, iN r2, xJY r1 r3, AbC 50 (xBB r3.1 [105, 102]) (xAz r4), iN r4, xJY r3 r5, AbC 50 (xBB r5.1 [102, 111, 114]) (xAz r6), iY r6, xQi r5 r7, AbC 53 (xA2 r7.2 [105, 110]) (xAt r8), xJa r8 r9, 0 + Ln [(Exp.re r9.1)] ≤ Lim, AbC 53 (xA2 r9.2 [100, 111]) (xAt r10), xJa r10 r11, xN1 r9 r11] := by kernel_rfl
def xW5 (a0 : Psr) (r1 : Tok × Psr) (r2 : Bool) (r3 : Tok × Psr) (r4 : Bool) (r5 : Tok × Psr) (r6 : Bool) (r7 : Exp × Psr) : rE I31 (xBm a0) [F, F, F] [xAg r1, xAz r2, xAg r3, xAz r4, xAg r5, xAz r6, xCb r7] = st 28 I31 (xMd [4, 5] (Ln [4, 5] : Int) 0 r7.2 (Exp.mk 0 0 [] []) r7.1) [xEO a0 r1, xML r1 r2, iN r2, xJY r1 r3, AbC 50 (xBB r3.1 [105, 102]) (xAz r4), iN r4, xJY r3 r5, AbC 50 (xBB r5.1 [102, 111, 114]) (xAz r6), iN r6, AbC 54 (xEc r5.2) (xCb r7)] := by kernel_rfl
theorem vBl {N q0 q1 q2 q3 q4} (g0 : G116 q0) (g1 : G31 q1) (g2 : G131 q2) (g3 : G96 q3) (g4 : G54 q4) : ∀ n x115 x116 x117 b0 b2 b6 r, xCW N q0 q1 q2 q3 q4 n x115 x116 x117 b0 b2 b6 = some r → RS Tryz.f31 I31 28 (xMd x115 x116 x117 b0 b2 b6) (xAf r) := by
 intro n
 induction n with
 | zero => exact fun _ _ _ _ _ _ _ h => nE h
 | succ n ih =>
  exact fun x115 x116 x117 b0 b2 b6 r h =>
   cE h (fun h0 h => iE h fun h1 h => bE h fun r1 h2 h => bE h fun r2 h3 h => cE h (fun h4 h => bE h fun r3 h5 h => dS h fk31 (xT6 x115 x116 x117 b0 b2 b6 r1 r2 r3) (oc6 h0 h1 (xIO h2) (xAp h3) h4 (g4 _ _ h5) on)) fun h4 h =>
   tS fk31 (xT7 x115 x116 x117 b0 b2 b6 r1 r2) (oc5 h0 h1 (xIO h2) (xAp h3) h4 on) (ih _ _ _ _ _ _ _ h)) fun h0 h =>
   dS h fk31 (xT8 x115 x116 x117 b0 b2 b6) (oc h0 on)
theorem vB8 {N q0 q1 q2 q3 q4} (g0 : G116 q0) (g1 : G31 q1) (g2 : G131 q2) (g3 : G96 q3) (g4 : G54 q4) : ∀ a0 r, xCD N q0 q1 q2 q3 q4 a0 = some r → RE Tryz.f31 I31 (xBm a0) (xAf r) := fun a0 r h =>
 bE h fun r1 h0 h => bE h fun r2 h1 h => cE h (fun h2 h => bE h fun r3 h3 h => bE h fun r4 h4 h => bE h fun r5 h5 h => iE h fun h6 h => bE h fun r6 h7 h => bE h fun r7 h8 h => iE h fun h9 h => dE h fk31 (xW2 a0 r1 r2 r3 r4 r5 r6 r7) (oc10 (xAl h0) (xBL h1) h2 (xHv h3) (xBX h4) (g1 _ _ h5) h6 (xBX h7) (g1 _ _ h8) h9 on)) fun h2 h =>
 bE h fun r3 h3 h => bE h fun r4 h4 h => cE h (fun h5 h => bE h fun r5 h6 h => iE h fun h7 h => bE h fun r6 h8 h => bE h fun r7 h9 h => iE h fun h10 h => bE h fun r8 h11 h => bE h fun r9 h12 h => iE h fun h13 h => dE h fk31 (xW3 a0 r1 r2 r3 r4 r5 r6 r7 r8 r9) (oc12 (xAl h0) (xBL h1) h2 (xAl h3) (xBL h4) h5 (g1 _ _ h6) h7 (xBX h8) (g1 _ _ h9) h10 (xBX h11) (oc2 (g1 _ _ h12) h13 on))) fun h5 h =>
 bE h fun r5 h6 h => bE h fun r6 h7 h => cE h (fun h8 h => bE h fun r7 h9 h => bE h fun r8 h10 h => bE h fun r9 h11 h => iE h fun h12 h => bE h fun r10 h13 h => bE h fun r11 h14 h => iE h fun h15 h => dE h fk31 (xW4 a0 r1 r2 r3 r4 r5 r6 r7 r8 r9 r10 r11) (oc12 (xAl h0) (xBL h1) h2 (xAl h3) (xBL h4) h5 (xAl h6) (xBL h7) h8 (xHv h9) (xBX h10) (g1 _ _ h11) (oc4 h12 (xBX h13) (g1 _ _ h14) h15 on))) fun h8 h =>
 bE h fun r7 h9 h => tE fk31 (xW5 a0 r1 r2 r3 r4 r5 r6 r7) (oc10 (xAl h0) (xBL h1) h2 (xAl h3) (xBL h4) h5 (xAl h6) (xBL h7) h8 (g4 _ _ h9) on) (vBl g0 g1 g2 g3 g4 _ _ _ _ _ _ _ _ h)
theorem xIj {N q0 q1 q2 q3 q4} (g0 : G116 q0) (g1 : G31 q1) (g2 : G131 q2) (g3 : G96 q3) (g4 : G54 q4) {a0} {r} (h : xCD N q0 q1 q2 q3 q4 a0 = some r) : AbC 31 (xBm a0) (xAf r) :=
 AbsCalls.of_reach fk31 rfl rfl (Nat.le_of_ble_eq_true rfl) (vB8 g0 g1 g2 g3 g4 a0 r h)
noncomputable def I131 : Info := { body := (Tryz.f131.body).getD .skip, nt := 27, results := [.tmp 4], keep := [0, 2, 8, 10, 18, 30, 46, 1], live := [(4, [0, 2, 10, 1])], modes := [(3, [(0, .take, false)]), (5, [(0, .take, false), (4, .take, false)]), (8, [(0, .take, false)])], ext := [0] }
theorem xPt : FnOk Tryz.prog 131 Tryz.f131 I131 := ⟨Tryz.func131, by kernel_rfl, by kernel_rfl, by kernel_rfl, by kernel_rfl⟩
def xMb (x1 : Str) (x5 : List Exp) (b0 : Psr) : St := [(0, .v false [.ptr 0 0]), (2, .v false [.str x1]), (10, .v false [.sl .own .exp x5]), (1, .v true [.sl .ro .tok (Psr.list b0), .int .i64 (Psr.pos b0), .int .i64 (Psr.bad b0)])]
def xTV (x1 : Str) (x5 : List Exp) (b0 : Psr) (r1 : Exp × Psr) (r2 : Bool × Psr) : rS 4 I131 (xMb x1 x5 b0) [Y, Y] [xAf r1, xAd r2] = dn (xBa ((x5 ++ [(Exp.re r1.1)]), r2.2)) [xI8 b0, xJa b0 r1, Ln x5 + Ln [(Exp.re r1.1)] ≤ Lim, AbC 55 (xAr r1.2 x1) (xAd r2), iY r2.1] := by kernel_rfl
def xTW (x1 : Str) (x5 : List Exp) (b0 : Psr) (r1 : Exp × Psr) (r2 : Bool × Psr) (r3 : Psr) : rS 4 I131 (xMb x1 x5 b0) [Y, F] [xAf r1, xAd r2, xAt r3] = st 4 I131 (xMb x1 (x5 ++ [(Exp.re r1.1)]) r3) [xI8 b0, xJa b0 r1, Ln x5 + Ln [(Exp.re r1.1)] ≤ Lim, AbC 55 (xAr r1.2 x1) (xAd r2), iN r2.1, AbC 53 (xA2 r2.2 [44]) (xAt r3)] := by kernel_rfl
def xTX (x1 : Str) (x5 : List Exp) (b0 : Psr) : rS 4 I131 (xMb x1 x5 b0) [F] [] = dn (xBa (x5, b0)) [xMI b0] := by kernel_rfl
def xTY (a0 : Psr) (a1 : Str) (r1 : Bool × Psr) : rE I131 (xCt a0 a1) [Y] [xAd r1] = dn (xBa ([], r1.2)) [AbC 55 (xAr a0 a1) (xAd r1), iY r1.1] := by kernel_rfl
def xTZ (a0 : Psr) (a1 : Str) (r1 : Bool × Psr) : rE I131 (xCt a0 a1) [F] [xAd r1] = st 4 I131 (xMb a1 [] r1.2) [AbC 55 (xAr a0 a1) (xAd r1), iN r1.1] := by kernel_rfl
theorem vBg {N q0 q1 q2 q3 q4} (g0 : G116 q0) (g1 : G31 q1) (g2 : G131 q2) (g3 : G96 q3) (g4 : G54 q4) : ∀ n x1 x5 b0 r, xCu N q0 q1 q2 q3 q4 n x1 x5 b0 = some r → RS Tryz.f131 I131 4 (xMb x1 x5 b0) (xBa r) := by
 intro n
 induction n with
 | zero => exact fun _ _ _ _ h => nE h
 | succ n ih =>
  exact fun x1 x5 b0 r h =>
   cE h (fun h0 h => bE h fun r1 h1 h => iE h fun h2 h => bE h fun r2 h3 h => cE h (fun h4 h => dS h xPt (xTV x1 x5 b0 r1 r2) (oc5 h0 (g1 _ _ h1) h2 (xAp h3) h4 on)) fun h4 h =>
   bE h fun r3 h5 h => tS xPt (xTW x1 x5 b0 r1 r2 r3) (oc6 h0 (g1 _ _ h1) h2 (xAp h3) h4 (xBX h5) on) (ih _ _ _ _ h)) fun h0 h =>
   dS h xPt (xTX x1 x5 b0) (oc h0 on)
theorem vBh {N q0 q1 q2 q3 q4} (g0 : G116 q0) (g1 : G31 q1) (g2 : G131 q2) (g3 : G96 q3) (g4 : G54 q4) : ∀ a0 a1 r, xCx N q0 q1 q2 q3 q4 a0 a1 = some r → RE Tryz.f131 I131 (xCt a0 a1) (xBa r) := fun a0 a1 r h =>
 bE h fun r1 h0 h => cE h (fun h1 h => dE h xPt (xTY a0 a1 r1) (oc2 (xAp h0) h1 on)) fun h1 h =>
 tE xPt (xTZ a0 a1 r1) (oc2 (xAp h0) h1 on) (vBg g0 g1 g2 g3 g4 _ _ _ _ _ h)
theorem xH7 {N q0 q1 q2 q3 q4} (g0 : G116 q0) (g1 : G31 q1) (g2 : G131 q2) (g3 : G96 q3) (g4 : G54 q4) {a0} {a1} {r} (h : xCx N q0 q1 q2 q3 q4 a0 a1 = some r) : AbC 131 (xCt a0 a1) (xBa r) :=
 AbsCalls.of_reach xPt rfl rfl (Nat.le_of_ble_eq_true rfl) (vBh g0 g1 g2 g3 g4 a0 a1 r h)
noncomputable def I96 : Info := { body := (Tryz.f96.body).getD .skip, nt := 14, results := [.cell 2 25], keep := [0, 4, 6, 14, 1, 5, 7], live := [(2, [0, 4, 6, 1, 5, 7])], modes := [(3, [(0, .take, false)]), (4, [(0, .take, false)])], ext := [0] }
theorem fk96 : FnOk Tryz.prog 96 Tryz.f96 I96 := ⟨Tryz.func96, by kernel_rfl, by kernel_rfl, by kernel_rfl, by kernel_rfl⟩
def xPU (b0 : Psr) (b2 b3 : Exp) : St := [(0, .v false [.ptr 0 0]), (4, .v false [.ptr 2 0]), (6, .v false [.ptr 3 0]), (1, .v true [.sl .ro .tok (Psr.list b0), .int .i64 (Psr.pos b0), .int .i64 (Psr.bad b0)]), (5, .v true [.int .i64 (Exp.kind b2), .int .i64 (Exp.n b2), .str (Exp.text b2), .sl .own .exp (Exp.args b2)]), (7, .v true [.int .i64 (Exp.kind b3), .int .i64 (Exp.n b3), .str (Exp.text b3), .sl .own .exp (Exp.args b3)])]
def xZ7 (b0 : Psr) (b2 b3 : Exp) (r1 : Bool × Psr) (r2 : Exp × Psr) : rS 2 I96 (xPU b0 b2 b3) [Y] [xAd r1, xAP r2] = st 2 I96 (xPU r2.2 b2 (Exp.mk 6 3 [] [(Exp.re b3), (Exp.re r2.1)])) [AbC 55 (xAr b0 [42]) (xAd r1), iY r1.1, AbC 116 (xA1 r1.2) (xAP r2)] := by kernel_rfl
def xZ8 (b0 : Psr) (b2 b3 : Exp) (r1 : Bool × Psr) : rS 2 I96 (xPU b0 b2 b3) [F] [xAd r1] = dn (xBi (b3, r1.2)) [AbC 55 (xAr b0 [42]) (xAd r1), iN r1.1] := by kernel_rfl
def xZ9 (a0 : Psr) (r1 : Exp × Psr) : rE I96 (xCy a0) [] [xAP r1] = st 2 I96 (xPU r1.2 (Exp.mk 0 0 [] []) r1.1) [AbC 116 (xA1 a0) (xAP r1)] := by kernel_rfl
theorem vDc {N q0 q1 q2 q3 q4} (g0 : G116 q0) (g1 : G31 q1) (g2 : G131 q2) (g3 : G96 q3) (g4 : G54 q4) : ∀ n b0 b2 b3 r, xB2 N q0 q1 q2 q3 q4 n b0 b2 b3 = some r → RS Tryz.f96 I96 2 (xPU b0 b2 b3) (xBi r) := by
 intro n
 induction n with
 | zero => exact fun _ _ _ _ h => nE h
 | succ n ih =>
  exact fun b0 b2 b3 r h =>
   bE h fun r1 h0 h => cE h (fun h1 h => bE h fun r2 h2 h => tS fk96 (xZ7 b0 b2 b3 r1 r2) (oc3 (xAp h0) h1 (g0 _ _ h2) on) (ih _ _ _ _ h)) fun h1 h =>
   dS h fk96 (xZ8 b0 b2 b3 r1) (oc2 (xAp h0) h1 on)
theorem vDd {N q0 q1 q2 q3 q4} (g0 : G116 q0) (g1 : G31 q1) (g2 : G131 q2) (g3 : G96 q3) (g4 : G54 q4) : ∀ a0 r, xB7 N q0 q1 q2 q3 q4 a0 = some r → RE Tryz.f96 I96 (xCy a0) (xBi r) := fun a0 r h =>
 bE h fun r1 h0 h => tE fk96 (xZ9 a0 r1) (oc (g0 _ _ h0) on) (vDc g0 g1 g2 g3 g4 _ _ _ _ _ h)
theorem xHw {N q0 q1 q2 q3 q4} (g0 : G116 q0) (g1 : G31 q1) (g2 : G131 q2) (g3 : G96 q3) (g4 : G54 q4) {a0} {r} (h : xB7 N q0 q1 q2 q3 q4 a0 = some r) : AbC 96 (xCy a0) (xBi r) :=
 AbsCalls.of_reach fk96 rfl rfl (Nat.le_of_ble_eq_true rfl) (vDd g0 g1 g2 g3 g4 a0 r h)
noncomputable def I54 : Info := { body := (Tryz.f54.body).getD .skip, nt := 25, results := [.cell 2 25], keep := [0, 4, 6, 8, 22, 28, 34, 1, 5, 7], live := [(2, [0, 4, 6, 1, 5, 7])], modes := [(7, [(0, .take, false), (1, .take, false)]), (8, [(0, .take, false)])], ext := [0] }
theorem fk54 : FnOk Tryz.prog 54 Tryz.f54 I54 := ⟨Tryz.func54, by kernel_rfl, by kernel_rfl, by kernel_rfl, by kernel_rfl⟩
def xNe (b0 : Psr) (b2 b3 : Exp) : St := [(0, .v false [.ptr 0 0]), (4, .v false [.ptr 2 0]), (6, .v false [.ptr 3 0]), (1, .v true [.sl .ro .tok (Psr.list b0), .int .i64 (Psr.pos b0), .int .i64 (Psr.bad b0)]), (5, .v true [.int .i64 (Exp.kind b2), .int .i64 (Exp.n b2), .str (Exp.text b2), .sl .own .exp (Exp.args b2)]), (7, .v true [.int .i64 (Exp.kind b3), .int .i64 (Exp.n b3), .str (Exp.text b3), .sl .own .exp (Exp.args b3)])]
def xYg (b0 : Psr) (b2 b3 : Exp) (r1 : Bool × Psr) (r2 : Bool × Psr) : rS 2 I54 (xNe b0 b2 b3) [Y, Y, Y] [xAd r1, xAd r2] = dn (xCb (b3, r2.2)) [xI8 b0, AbC 55 (xAr b0 [43]) (xAd r1), iY (!r1.1), AbC 55 (xAr r1.2 [45]) (xAd r2), iY (!r2.1)] := by kernel_rfl
def xYh (b0 : Psr) (b2 b3 : Exp) (r1 : Bool × Psr) (r2 : Bool × Psr) (r3 : Exp × Psr) : rS 2 I54 (xNe b0 b2 b3) [Y, Y, F] [xAd r1, xAd r2, xBi r3] = st 2 I54 (xNe r3.2 b2 (Exp.mk 6 2 [] [(Exp.re b3), (Exp.re r3.1)])) [xI8 b0, AbC 55 (xAr b0 [43]) (xAd r1), iY (!r1.1), AbC 55 (xAr r1.2 [45]) (xAd r2), iN (!r2.1), AbC 96 (xCy r2.2) (xBi r3)] := by kernel_rfl
def xYi (b0 : Psr) (b2 b3 : Exp) (r1 : Bool × Psr) (r2 : Exp × Psr) : rS 2 I54 (xNe b0 b2 b3) [Y, F] [xAd r1, xBi r2] = st 2 I54 (xNe r2.2 b2 (Exp.mk 6 1 [] [(Exp.re b3), (Exp.re r2.1)])) [xI8 b0, AbC 55 (xAr b0 [43]) (xAd r1), iN (!r1.1), AbC 96 (xCy r1.2) (xBi r2)] := by kernel_rfl
def xYj (b0 : Psr) (b2 b3 : Exp) : rS 2 I54 (xNe b0 b2 b3) [F] [] = dn (xCb (b3, b0)) [xMI b0] := by kernel_rfl
def xYk (a0 : Psr) (r1 : Exp × Psr) : rE I54 (xEc a0) [] [xBi r1] = st 2 I54 (xNe r1.2 (Exp.mk 0 0 [] []) r1.1) [AbC 96 (xCy a0) (xBi r1)] := by kernel_rfl
theorem vCw {N q0 q1 q2 q3 q4} (g0 : G116 q0) (g1 : G31 q1) (g2 : G131 q2) (g3 : G96 q3) (g4 : G54 q4) : ∀ n b0 b2 b3 r, xCa N q0 q1 q2 q3 q4 n b0 b2 b3 = some r → RS Tryz.f54 I54 2 (xNe b0 b2 b3) (xCb r) := by
 intro n
 induction n with
 | zero => exact fun _ _ _ _ h => nE h
 | succ n ih =>
  exact fun b0 b2 b3 r h =>
   cE h (fun h0 h => bE h fun r1 h1 h => cE h (fun h2 h => bE h fun r2 h3 h => cE h (fun h4 h => dS h fk54 (xYg b0 b2 b3 r1 r2) (oc5 h0 (xAp h1) h2 (xAp h3) h4 on)) fun h4 h =>
   bE h fun r3 h5 h => tS fk54 (xYh b0 b2 b3 r1 r2 r3) (oc6 h0 (xAp h1) h2 (xAp h3) h4 (g3 _ _ h5) on) (ih _ _ _ _ h)) fun h2 h =>
   bE h fun r2 h3 h => tS fk54 (xYi b0 b2 b3 r1 r2) (oc4 h0 (xAp h1) h2 (g3 _ _ h3) on) (ih _ _ _ _ h)) fun h0 h =>
   dS h fk54 (xYj b0 b2 b3) (oc h0 on)
theorem vCx {N q0 q1 q2 q3 q4} (g0 : G116 q0) (g1 : G31 q1) (g2 : G131 q2) (g3 : G96 q3) (g4 : G54 q4) : ∀ a0 r, xCX N q0 q1 q2 q3 q4 a0 = some r → RE Tryz.f54 I54 (xEc a0) (xCb r) := fun a0 r h =>
 bE h fun r1 h0 h => tE fk54 (xYk a0 r1) (oc (g3 _ _ h0) on) (vCw g0 g1 g2 g3 g4 _ _ _ _ _ h)
theorem xIx {N q0 q1 q2 q3 q4} (g0 : G116 q0) (g1 : G31 q1) (g2 : G131 q2) (g3 : G96 q3) (g4 : G54 q4) {a0} {r} (h : xCX N q0 q1 q2 q3 q4 a0 = some r) : AbC 54 (xEc a0) (xCb r) :=
 AbsCalls.of_reach fk54 rfl rfl (Nat.le_of_ble_eq_true rfl) (vCx g0 g1 g2 g3 g4 a0 r h)
theorem xIw {N : Nat} : ∀ d, G116 (xAb N d).c_impl_parser_atom ∧ G31 (xAb N d).c_impl_parser_expr ∧ G131 (xAb N d).c_impl_parser_list2 ∧ G96 (xAb N d).c_impl_parser_product ∧ G54 (xAb N d).c_impl_parser_sum := by
 intro d
 induction d with
 | zero => exact ⟨fun _ _ h => nE h, fun _ _ h => nE h, fun _ _ _ h => nE h, fun _ _ h => nE h, fun _ _ h => nE h⟩
 | succ d ih =>
  obtain ⟨ih0, ih1, ih2, ih3, ih4⟩ := ih
  exact ⟨fun _ _ h => xIi (N := N) ih0 ih1 ih2 ih3 ih4 h, fun _ _ h => xIj (N := N) ih0 ih1 ih2 ih3 ih4 h, fun _ _ _ h => xH7 (N := N) ih0 ih1 ih2 ih3 ih4 h, fun _ _ h => xHw (N := N) ih0 ih1 ih2 ih3 ih4 h, fun _ _ h => xIx (N := N) ih0 ih1 ih2 ih3 ih4 h⟩
theorem xBu {N : Nat} {a0 : Psr} {r : Exp × Psr} (h : xGh N a0 = some r) : AbC 31 (xBm a0) (xAf r) := (xIw N).2.1 _ r h
def G57 (q : Exp → Option (Int)) : Prop := ∀ a0 r, q a0 = some r → AbC 57 (xCR a0) (xBr r)
noncomputable def I57 : Info := { body := (Tryz.f57.body).getD .skip, nt := 19, results := [.tmp 2], keep := [0, 2, 4, 6, 10, 14, 16, 18, 20, 3, 11], live := [(3, [6, 14, 16, 18])], modes := [(6, [(1, .take, false)])] }
theorem fk57 : FnOk Tryz.prog 57 Tryz.f57 I57 := ⟨Tryz.func57, by kernel_rfl, by kernel_rfl, by kernel_rfl, by kernel_rfl⟩
def xPR (x3 : Int) (x7 : List Exp) (x8 x9 : Int) : St := [(6, .v false [.int .i64 x3]), (14, .v false [.sl .ro .exp x7]), (16, .v false [.int .i64 x8]), (18, .v false [.int .i64 x9])]
abbrev xLD (v0 : Int) (v1 : List Exp) : Prop := (0 : Int) ≤ v0 ∧ v0 < (Ln v1)
def xYp (x3 : Int) (x7 : List Exp) (x8 x9 r1 : Int) : rS 3 I57 (xPR x3 x7 x8 x9) [Y] [xBr r1] = st 3 I57 (xPR (W (x3 + r1)) x7 x8 (W (x9 + 1))) [xH9 x9 x8, xLD x9 x7, AbC 57 (xCR (gD x7 (tN x9) Ty.exp.dflt)) (xBr r1)] := by kernel_rfl
def xYq (x3 : Int) (x7 : List Exp) (x8 x9 : Int) : rS 3 I57 (xPR x3 x7 x8 x9) [F] [] = dn (xBr x3) [iN (dc (x9 < x8))] := by kernel_rfl
def xYr (a0 : Exp) : rE I57 (xCR a0) [] [] = st 3 I57 (xPR 1 (Exp.args a0) (xGs a0) 0) [] := by kernel_rfl
theorem vCA {N q0} (g0 : G57 q0) : ∀ n x3 x7 x8 x9 r, xDT N q0 n x3 x7 x8 x9 = some r → RS Tryz.f57 I57 3 (xPR x3 x7 x8 x9) (xBr r) := by
 intro n
 induction n with
 | zero => exact fun _ _ _ _ _ h => nE h
 | succ n ih =>
  exact fun x3 x7 x8 x9 r h =>
   cE h (fun h0 h => iE h fun h1 h => bE h fun r1 h2 h => tS fk57 (xYp x3 x7 x8 x9 r1) (oc3 h0 h1 (g0 _ _ h2) on) (ih _ _ _ _ _ h)) fun h0 h =>
   dS h fk57 (xYq x3 x7 x8 x9) (oc h0 on)
theorem vCB {N q0} (g0 : G57 q0) : ∀ a0 r, xGp N q0 a0 = some r → RE Tryz.f57 I57 (xCR a0) (xBr r) := fun a0 r h =>
 tE fk57 (xYr a0) on (vCA g0 _ _ _ _ _ _ h)
theorem xIU {N q0} (g0 : G57 q0) {a0} {r} (h : xGp N q0 a0 = some r) : AbC 57 (xCR a0) (xBr r) :=
 AbsCalls.of_reach fk57 rfl rfl (Nat.le_of_ble_eq_true rfl) (vCB g0 a0 r h)
theorem xG5 {N : Nat} : ∀ d, G57 (xEb N d)
 | 0 => fun _ _ h => nE h
 | d + 1 => fun _ _ h => xIU (N := N) (xG5 d) h
theorem xGR {N : Nat} {a0 : Exp} {r : Int} (h : xH6 N a0 = some r) : AbC 57 (xCR a0) (xBr r) := xG5 N _ r h
def G58 (q : Exp → Option (Int)) : Prop := ∀ a0 r, q a0 = some r → AbC 58 (xDm a0) (xBM r)
noncomputable def I58 : Info := { body := (Tryz.f58.body).getD .skip, nt := 20, results := [.tmp 2], keep := [0, 2, 4, 6, 10, 14, 16, 18, 20, 3, 11], live := [(3, [6, 14, 16, 18])], modes := [(6, [(1, .take, false)])] }
theorem fk58 : FnOk Tryz.prog 58 Tryz.f58 I58 := ⟨Tryz.func58, by kernel_rfl, by kernel_rfl, by kernel_rfl, by kernel_rfl⟩
def xPS (x3 : Int) (x7 : List Exp) (x8 x9 : Int) : St := [(6, .v false [.int .i64 x3]), (14, .v false [.sl .ro .exp x7]), (16, .v false [.int .i64 x8]), (18, .v false [.int .i64 x9])]
def xYs (x3 : Int) (x7 : List Exp) (x8 x9 r1 : Int) : rS 3 I58 (xPS x3 x7 x8 x9) [Y] [xBM r1] = st 3 I58 (xPS (if r1 > x3 then r1 else x3) x7 x8 (W (x9 + 1))) [xH9 x9 x8, xLD x9 x7, AbC 58 (xDm (gD x7 (tN x9) Ty.exp.dflt)) (xBM r1)] := by kernel_rfl
def xYt (x3 : Int) (x7 : List Exp) (x8 x9 : Int) : rS 3 I58 (xPS x3 x7 x8 x9) [F] [] = dn (xBM (W (x3 + 1))) [iN (dc (x9 < x8))] := by kernel_rfl
def xYu (a0 : Exp) : rE I58 (xDm a0) [] [] = st 3 I58 (xPS 0 (Exp.args a0) (xGs a0) 0) [] := by kernel_rfl
theorem vCC {N q0} (g0 : G58 q0) : ∀ n x3 x7 x8 x9 r, xEw N q0 n x3 x7 x8 x9 = some r → RS Tryz.f58 I58 3 (xPS x3 x7 x8 x9) (xBM r) := by
 intro n
 induction n with
 | zero => exact fun _ _ _ _ _ h => nE h
 | succ n ih =>
  exact fun x3 x7 x8 x9 r h =>
   cE h (fun h0 h => iE h fun h1 h => bE h fun r1 h2 h => tS fk58 (xYs x3 x7 x8 x9 r1) (oc3 h0 h1 (g0 _ _ h2) on) (ih _ _ _ _ _ h)) fun h0 h =>
   dS h fk58 (xYt x3 x7 x8 x9) (oc h0 on)
theorem vCD {N q0} (g0 : G58 q0) : ∀ a0 r, xGo N q0 a0 = some r → RE Tryz.f58 I58 (xDm a0) (xBM r) := fun a0 r h =>
 tE fk58 (xYu a0) on (vCC g0 _ _ _ _ _ _ h)
theorem xIT {N q0} (g0 : G58 q0) {a0} {r} (h : xGo N q0 a0 = some r) : AbC 58 (xDm a0) (xBM r) :=
 AbsCalls.of_reach fk58 rfl rfl (Nat.le_of_ble_eq_true rfl) (vCD g0 a0 r h)
theorem xG4 {N : Nat} : ∀ d, G58 (xEX N d)
 | 0 => fun _ _ h => nE h
 | d + 1 => fun _ _ h => xIT (N := N) (xG4 d) h
theorem xIh {N : Nat} {a0 : Exp} {r : Int} (h : xH5 N a0 = some r) : AbC 58 (xDm a0) (xBM r) := xG4 N _ r h
noncomputable def I98 : Info := { body := (Tryz.f98.body).getD .skip, nt := 120, results := [.tmp 2], keep := [0, 2, 4, 6, 16, 18, 46, 74, 102, 130, 154, 182, 212, 3], live := [], modes := [(4, [(3, .take, false), (8, .take, false)]), (6, [(3, .take, false), (8, .take, false)]), (8, [(3, .take, false), (8, .take, false)]), (10, [(3, .take, false), (8, .take, false)]), (12, [(3, .take, false)]), (14, [(3, .take, false), (8, .take, false)]), (17, [(3, .take, false), (8, .take, false)]), (19, [(3, .take, false), (8, .take, false)])] }
theorem fk98 : FnOk Tryz.prog 98 Tryz.f98 I98 := ⟨Tryz.func98, by kernel_rfl, by kernel_rfl, by kernel_rfl, by kernel_rfl⟩
abbrev xN2 (v0 : Exp) (v1 : Bool) : Prop := AbC 97 (xC6 (Exp.n v0) 0 1000000000) (xBg v1)
abbrev xOr (v0 : Exp) := xAM ((Ln (Exp.args v0) : Int) == 0)
def vAc (a0 : Exp) (r1 : Bool) : rE I98 (xAD a0) [Y, Y, Y] [xBg r1] = dn (xOr a0) [xLR a0, xN2 a0 r1, iY r1, xIA a0] := by kernel_rfl
def vAd (a0 : Exp) (r1 : Bool) : rE I98 (xAD a0) [Y, Y, F] [xBg r1] = dn (xAM false) [xLR a0, xN2 a0 r1, iY r1, xI2 a0] := by kernel_rfl
def vAe (a0 : Exp) (r1 : Bool) : rE I98 (xAD a0) [Y, F, F] [xBg r1] = dn (xAM false) [xLR a0, xN2 a0 r1, iN r1, iN false] := by kernel_rfl
def vAf (a0 : Exp) (r1 : Bool) : rE I98 (xAD a0) [F, Y, Y, Y] [xAW r1] = dn (xOr a0) [xBf a0, xJT a0, xEn a0, AbC 91 (xDR (Exp.text a0)) (xAW r1), iY r1] := by kernel_rfl
def vAg (a0 : Exp) (r1 : Bool) : rE I98 (xAD a0) [F, Y, Y, F] [xAW r1] = dn (xAM false) [xBf a0, xJT a0, xEn a0, AbC 91 (xDR (Exp.text a0)) (xAW r1), iN r1] := by kernel_rfl
def vAh (a0 : Exp) : rE I98 (xAD a0) [F, Y, F, F] [] = dn (xAM false) [xBf a0, xJT a0, xGD a0, iN false] := by kernel_rfl
abbrev xKL (v0 : Exp) (v1 : Bool) : Prop := AbC 93 (xDQ (Exp.text v0)) (xAJ v1)
def vAi (a0 : Exp) (r1 : Bool) : rE I98 (xAD a0) [F, F, Y, Y, Y] [xAJ r1] = dn (xOr a0) [xBf a0, xBw a0, xJU a0, xEn a0, xKL a0 r1, iY r1] := by kernel_rfl
def vAj (a0 : Exp) (r1 : Bool) : rE I98 (xAD a0) [F, F, Y, Y, F] [xAJ r1] = dn (xAM false) [xBf a0, xBw a0, xJU a0, xEn a0, xKL a0 r1, iN r1] := by kernel_rfl
def vAk (a0 : Exp) : rE I98 (xAD a0) [F, F, Y, F, F] [] = dn (xAM false) [xBf a0, xBw a0, xJU a0, xGD a0, iN false] := by kernel_rfl
def vAl (a0 : Exp) : rE I98 (xAD a0) [F, F, F, Y, Y, Y] [] = dn (xAM (dc ((xGs a0) ≤ 8))) [xBf a0, xBw a0, xBY a0, xJV a0, xEn a0, xIA a0] := by kernel_rfl
def xUW (a0 : Exp) : rE I98 (xAD a0) [F, F, F, Y, Y, F] [] = dn (xAM false) [xBf a0, xBw a0, xBY a0, xJV a0, xEn a0, xI2 a0] := by kernel_rfl
def xUX (a0 : Exp) : rE I98 (xAD a0) [F, F, F, Y, F, F] [] = dn (xAM false) [xBf a0, xBw a0, xBY a0, xJV a0, xGD a0, iN false] := by kernel_rfl
def xUY (a0 : Exp) (r1 : Int) : rE I98 (xAD a0) [F, F, F, F, Y, Y] [xAi r1] = dn (xAM ((xGs a0) == r1)) [xBf a0, xBw a0, xBY a0, xCA a0, xLA a0, xEn a0, AbC 117 (xAo (Exp.text a0)) (xAi r1)] := by kernel_rfl
def xUZ (a0 : Exp) : rE I98 (xAD a0) [F, F, F, F, Y, F] [] = dn (xAM false) [xBf a0, xBw a0, xBY a0, xCA a0, xLA a0, xGD a0] := by kernel_rfl
abbrev xOs (v0 : Exp) := xAM ((Ln (Exp.args v0) : Int) == 2)
def xU0 (a0 : Exp) (r1 : Bool) : rE I98 (xAD a0) [F, F, F, F, F, Y, Y, Y] [xBg r1] = dn (xOs a0) [xBf a0, xBw a0, xBY a0, xCA a0, xDk a0, xHa a0, AbC 97 (xC6 (Exp.n a0) 1 5) (xBg r1), iY r1, xIA a0] := by kernel_rfl
def xU1 (a0 : Exp) (r1 : Bool) : rE I98 (xAD a0) [F, F, F, F, F, Y, Y, F] [xBg r1] = dn (xAM false) [xBf a0, xBw a0, xBY a0, xCA a0, xDk a0, xHa a0, AbC 97 (xC6 (Exp.n a0) 1 5) (xBg r1), iY r1, xI2 a0] := by kernel_rfl
def xU2 (a0 : Exp) (r1 : Bool) : rE I98 (xAD a0) [F, F, F, F, F, Y, F, F] [xBg r1] = dn (xAM false) [xBf a0, xBw a0, xBY a0, xCA a0, xDk a0, xHa a0, AbC 97 (xC6 (Exp.n a0) 1 5) (xBg r1), iN r1, iN false] := by kernel_rfl
def xU3 (a0 : Exp) (r1 : Bool) : rE I98 (xAD a0) [F, F, F, F, F, F, Y, Y, Y, Y] [xAJ r1] = dn (xOs a0) [xBf a0, xBw a0, xBY a0, xCA a0, xDk a0, xE6 a0, xGq a0, xGq a0, xEn a0, xKL a0 r1, iY r1] := by kernel_rfl
def xU4 (a0 : Exp) (r1 : Bool) : rE I98 (xAD a0) [F, F, F, F, F, F, Y, Y, Y, F] [xAJ r1] = dn (xAM false) [xBf a0, xBw a0, xBY a0, xCA a0, xDk a0, xE6 a0, xGq a0, xGq a0, xEn a0, xKL a0 r1, iN r1] := by kernel_rfl
def xU5 (a0 : Exp) : rE I98 (xAD a0) [F, F, F, F, F, F, Y, Y, F, F] [] = dn (xAM false) [xBf a0, xBw a0, xBY a0, xCA a0, xDk a0, xE6 a0, xGq a0, xGq a0, xGD a0, iN false] := by kernel_rfl
def xU6 (a0 : Exp) (r1 : Bool) : rE I98 (xAD a0) [F, F, F, F, F, F, F, Y, Y, Y] [xAJ r1] = dn (xOs a0) [xBf a0, xBw a0, xBY a0, xCA a0, xDk a0, xE6 a0, xDW a0, xI3 a0, xEn a0, xKL a0 r1, iY r1] := by kernel_rfl
def xU7 (a0 : Exp) (r1 : Bool) : rE I98 (xAD a0) [F, F, F, F, F, F, F, Y, Y, F] [xAJ r1] = dn (xAM false) [xBf a0, xBw a0, xBY a0, xCA a0, xDk a0, xE6 a0, xDW a0, xI3 a0, xEn a0, xKL a0 r1, iN r1] := by kernel_rfl
def xU8 (a0 : Exp) : rE I98 (xAD a0) [F, F, F, F, F, F, F, Y, F, F] [] = dn (xAM false) [xBf a0, xBw a0, xBY a0, xCA a0, xDk a0, xE6 a0, xDW a0, xI3 a0, xGD a0, iN false] := by kernel_rfl
def xU9 (a0 : Exp) : rE I98 (xAD a0) [F, F, F, F, F, F, F, F, Y, Y, Y] [] = dn (xAM ((xGs a0) == 3)) [xBf a0, xBw a0, xBY a0, xCA a0, xDk a0, xE6 a0, xDW a0, xFC a0, xIB a0, xEn a0, xIA a0] := by kernel_rfl
def xVa (a0 : Exp) : rE I98 (xAD a0) [F, F, F, F, F, F, F, F, Y, Y, F] [] = dn (xAM false) [xBf a0, xBw a0, xBY a0, xCA a0, xDk a0, xE6 a0, xDW a0, xFC a0, xIB a0, xEn a0, xI2 a0] := by kernel_rfl
def xVb (a0 : Exp) : rE I98 (xAD a0) [F, F, F, F, F, F, F, F, Y, F, F] [] = dn (xAM false) [xBf a0, xBw a0, xBY a0, xCA a0, xDk a0, xE6 a0, xDW a0, xFC a0, xIB a0, xGD a0, iN false] := by kernel_rfl
def xVc (a0 : Exp) : rE I98 (xAD a0) [F, F, F, F, F, F, F, F, F] [] = dn (xAM false) [xBf a0, xBw a0, xBY a0, xCA a0, xDk a0, xE6 a0, xDW a0, xFC a0, xHb a0] := by kernel_rfl
theorem vDf {N : Nat} : ∀ a0 r, xHu N a0 = some r → RE Tryz.f98 I98 (xAD a0) (xAM r) := fun a0 r h =>
 cE h (fun h0 h => bE h fun r1 h1 h => cE h (fun h2 h => cE h (fun h3 h => dE h fk98 (vAc a0 r1) (oc4 h0 (xD3 h1) h2 h3 on)) fun h3 h =>
 dE h fk98 (vAd a0 r1) (oc4 h0 (xD3 h1) h2 h3 on)) fun h2 h =>
 dE h fk98 (vAe a0 r1) (oc4 h0 (xD3 h1) h2 rfl on)) fun h0 h =>
 cE h (fun h1 h => cE h (fun h2 h => bE h fun r1 h3 h => cE h (fun h4 h => dE h fk98 (vAf a0 r1) (oc5 h0 h1 h2 (xDS h3) h4 on)) fun h4 h =>
 dE h fk98 (vAg a0 r1) (oc5 h0 h1 h2 (xDS h3) h4 on)) fun h2 h =>
 dE h fk98 (vAh a0) (oc4 h0 h1 h2 rfl on)) fun h1 h =>
 cE h (fun h2 h => cE h (fun h3 h => bE h fun r1 h4 h => cE h (fun h5 h => dE h fk98 (vAi a0 r1) (oc6 h0 h1 h2 h3 (xBl h4) h5 on)) fun h5 h =>
 dE h fk98 (vAj a0 r1) (oc6 h0 h1 h2 h3 (xBl h4) h5 on)) fun h3 h =>
 dE h fk98 (vAk a0) (oc5 h0 h1 h2 h3 rfl on)) fun h2 h =>
 cE h (fun h3 h => cE h (fun h4 h => cE h (fun h5 h => dE h fk98 (vAl a0) (oc6 h0 h1 h2 h3 h4 h5 on)) fun h5 h =>
 dE h fk98 (xUW a0) (oc6 h0 h1 h2 h3 h4 h5 on)) fun h4 h =>
 dE h fk98 (xUX a0) (oc6 h0 h1 h2 h3 h4 rfl on)) fun h3 h =>
 cE h (fun h4 h => cE h (fun h5 h => bE h fun r1 h6 h => dE h fk98 (xUY a0 r1) (oc7 h0 h1 h2 h3 h4 h5 (xDl h6) on)) fun h5 h =>
 dE h fk98 (xUZ a0) (oc6 h0 h1 h2 h3 h4 h5 on)) fun h4 h =>
 cE h (fun h5 h => bE h fun r1 h6 h => cE h (fun h7 h => cE h (fun h8 h => dE h fk98 (xU0 a0 r1) (oc9 h0 h1 h2 h3 h4 h5 (xD3 h6) h7 h8 on)) fun h8 h =>
 dE h fk98 (xU1 a0 r1) (oc9 h0 h1 h2 h3 h4 h5 (xD3 h6) h7 h8 on)) fun h7 h =>
 dE h fk98 (xU2 a0 r1) (oc9 h0 h1 h2 h3 h4 h5 (xD3 h6) h7 rfl on)) fun h5 h =>
 cE h (fun h6 h => cE h (fun h8 h => bE h fun r1 h9 h => cE h (fun h10 h => dE h fk98 (xU3 a0 r1) (oc11 h0 h1 h2 h3 h4 h5 h6 h6 h8 (xBl h9) h10 on)) fun h10 h =>
 dE h fk98 (xU4 a0 r1) (oc11 h0 h1 h2 h3 h4 h5 h6 h6 h8 (xBl h9) h10 on)) fun h8 h =>
 dE h fk98 (xU5 a0) (oc10 h0 h1 h2 h3 h4 h5 h6 h6 h8 rfl on)) fun h6 h =>
 cE h (fun h7 h => cE h (fun h8 h => bE h fun r1 h9 h => cE h (fun h10 h => dE h fk98 (xU6 a0 r1) (oc11 h0 h1 h2 h3 h4 h5 h6 h7 h8 (xBl h9) h10 on)) fun h10 h =>
 dE h fk98 (xU7 a0 r1) (oc11 h0 h1 h2 h3 h4 h5 h6 h7 h8 (xBl h9) h10 on)) fun h8 h =>
 dE h fk98 (xU8 a0) (oc10 h0 h1 h2 h3 h4 h5 h6 h7 h8 rfl on)) fun h7 h =>
 cE h (fun h8 h => cE h (fun h9 h => cE h (fun h10 h => dE h fk98 (xU9 a0) (oc11 h0 h1 h2 h3 h4 h5 h6 h7 h8 h9 h10 on)) fun h10 h =>
 dE h fk98 (xVa a0) (oc11 h0 h1 h2 h3 h4 h5 h6 h7 h8 h9 h10 on)) fun h9 h =>
 dE h fk98 (xVb a0) (oc11 h0 h1 h2 h3 h4 h5 h6 h7 h8 h9 rfl on)) fun h8 h =>
 dE h fk98 (xVc a0) (oc9 h0 h1 h2 h3 h4 h5 h6 h7 h8 on)
theorem xL6 {N : Nat} {a0 : Exp} {r : Bool} (h : xHu N  a0 = some r) : AbC 98 (xAD a0) (xAM r) :=
 AbsCalls.of_reach fk98 rfl rfl (Nat.le_of_ble_eq_true rfl) (vDf a0 r h)
def G59 (q : Exp → Option (Bool)) : Prop := ∀ a0 r, q a0 = some r → AbC 59 (xDH a0) (xBO r)
noncomputable def I59 : Info := { body := (Tryz.f59.body).getD .skip, nt := 18, results := [.tmp 2], keep := [0, 2, 4, 8, 12, 14, 16, 18, 28, 3, 9], live := [(2, [2, 12, 14, 16, 3])], modes := [(6, [(1, .take, false)])] }
theorem fk59 : FnOk Tryz.prog 59 Tryz.f59 I59 := ⟨Tryz.func59, by kernel_rfl, by kernel_rfl, by kernel_rfl, by kernel_rfl⟩
def xPp (x6 : List Exp) (x7 x8 : Int) (b1 : Exp) : St := [(2, .v false [.ptr 1 0]), (12, .v false [.sl .ro .exp x6]), (14, .v false [.int .i64 x7]), (16, .v false [.int .i64 x8]), (3, .v true [.int .i64 (Exp.kind b1), .int .i64 (Exp.n b1), .str (Exp.text b1), .sl .ro .exp (Exp.args b1)])]
def xYv (x6 : List Exp) (x7 x8 : Int) (b1 : Exp) (r1 : Bool) : rS 2 I59 (xPp x6 x7 x8 b1) [Y, Y] [xBO r1] = dn (xBO false) [xH9 x8 x7, xLD x8 x6, AbC 59 (xDH (gD x6 (tN x8) Ty.exp.dflt)) (xBO r1), iY (!r1)] := by kernel_rfl
def xYw (x6 : List Exp) (x7 x8 : Int) (b1 : Exp) (r1 : Bool) : rS 2 I59 (xPp x6 x7 x8 b1) [Y, F] [xBO r1] = st 2 I59 (xPp x6 x7 (W (x8 + 1)) b1) [xH9 x8 x7, xLD x8 x6, AbC 59 (xDH (gD x6 (tN x8) Ty.exp.dflt)) (xBO r1), iN (!r1)] := by kernel_rfl
def xYx (x6 : List Exp) (x7 x8 : Int) (b1 : Exp) (r1 : Bool) : rS 2 I59 (xPp x6 x7 x8 b1) [F] [xAM r1] = dn (xBO r1) [iN (dc (x8 < x7)), AbC 98 (xAD b1) (xAM r1)] := by kernel_rfl
def xYy (a0 : Exp) : rE I59 (xDH a0) [] [] = st 2 I59 (xPp (Exp.args a0) (xGs a0) 0 a0) [] := by kernel_rfl
theorem vCE {N q0} (g0 : G59 q0) : ∀ n x6 x7 x8 b1 r, xEi N q0 n x6 x7 x8 b1 = some r → RS Tryz.f59 I59 2 (xPp x6 x7 x8 b1) (xBO r) := by
 intro n
 induction n with
 | zero => exact fun _ _ _ _ _ h => nE h
 | succ n ih =>
  exact fun x6 x7 x8 b1 r h =>
   cE h (fun h0 h => iE h fun h1 h => bE h fun r1 h2 h => cE h (fun h3 h => dS h fk59 (xYv x6 x7 x8 b1 r1) (oc4 h0 h1 (g0 _ _ h2) h3 on)) fun h3 h =>
   tS fk59 (xYw x6 x7 x8 b1 r1) (oc4 h0 h1 (g0 _ _ h2) h3 on) (ih _ _ _ _ _ h)) fun h0 h =>
   bE h fun r1 h1 h => dS h fk59 (xYx x6 x7 x8 b1 r1) (oc2 h0 (xL6 h1) on)
theorem vCF {N q0} (g0 : G59 q0) : ∀ a0 r, xGA N q0 a0 = some r → RE Tryz.f59 I59 (xDH a0) (xBO r) := fun a0 r h =>
 tE fk59 (xYy a0) on (vCE g0 _ _ _ _ _ _ h)
theorem xI0 {N q0} (g0 : G59 q0) {a0} {r} (h : xGA N q0 a0 = some r) : AbC 59 (xDH a0) (xBO r) :=
 AbsCalls.of_reach fk59 rfl rfl (Nat.le_of_ble_eq_true rfl) (vCF g0 a0 r h)
theorem xHg {N : Nat} : ∀ d, G59 (xFd N d)
 | 0 => fun _ _ h => nE h
 | d + 1 => fun _ _ h => xI0 (N := N) (xHg d) h
theorem xLe {N : Nat} {a0 : Exp} {r : Bool} (h : xIt N a0 = some r) : AbC 59 (xDH a0) (xBO r) := xHg N _ r h
noncomputable def I32 : Info := { body := (Tryz.f32.body).getD .skip, nt := 15, results := [.tmp 2], keep := [0, 2, 4, 3], live := [], modes := [(1, [(3, .take, false), (8, .take, false)])] }
theorem fk32 : FnOk Tryz.prog 32 Tryz.f32 I32 := ⟨Tryz.func32, by kernel_rfl, by kernel_rfl, by kernel_rfl, by kernel_rfl⟩
def xW6 (a0 : Exp) (r1 r2 : Int) (r3 : Bool) : rE I32 (xDO a0) [Y, Y] [xBr r1, xBM r2, xBO r3] = dn (xBt r3) [AbC 57 (xCR a0) (xBr r1), iY (dc (r1 ≤ 40)), AbC 58 (xDm a0) (xBM r2), iY (dc (r2 ≤ 8)), AbC 59 (xDH a0) (xBO r3)] := by kernel_rfl
def xW7 (a0 : Exp) (r1 r2 : Int) : rE I32 (xDO a0) [Y, F] [xBr r1, xBM r2] = dn (xBt false) [AbC 57 (xCR a0) (xBr r1), iY (dc (r1 ≤ 40)), AbC 58 (xDm a0) (xBM r2), iN (dc (r2 ≤ 8))] := by kernel_rfl
def xW8 (a0 : Exp) (r1 : Int) : rE I32 (xDO a0) [F, F] [xBr r1] = dn (xBt false) [AbC 57 (xCR a0) (xBr r1), iN (dc (r1 ≤ 40)), iN false] := by kernel_rfl
theorem vB9 {N : Nat} : ∀ a0 r, xCJ N a0 = some r → RE Tryz.f32 I32 (xDO a0) (xBt r) := fun a0 r h =>
 bE h fun r1 h0 h => cE h (fun h1 h => bE h fun r2 h2 h => cE h (fun h3 h => bE h fun r3 h4 h => dE h fk32 (xW6 a0 r1 r2 r3) (oc5 (xGR h0) h1 (xIh h2) h3 (xLe h4) on)) fun h3 h =>
 dE h fk32 (xW7 a0 r1 r2) (oc4 (xGR h0) h1 (xIh h2) h3 on)) fun h1 h =>
 dE h fk32 (xW8 a0 r1) (oc3 (xGR h0) h1 rfl on)
theorem xDP {N : Nat} {a0 : Exp} {r : Bool} (h : xCJ N  a0 = some r) : AbC 32 (xDO a0) (xBt r) :=
 AbsCalls.of_reach fk32 rfl rfl (Nat.le_of_ble_eq_true rfl) (vB9 a0 r h)
noncomputable def I12 : Info := { body := (Tryz.f12.body).getD .skip, nt := 72, results := [.cell 2 25, .tmp 3], keep := [0, 4, 6, 8, 10, 12, 14, 28, 70, 98, 114, 138, 5, 15, 39], live := [], modes := [(1, [(2, .take, false)]), (6, [(5, .take, false)]), (14, [(0, .take, false)])] }
theorem fk12 : FnOk Tryz.prog 12 Tryz.f12 I12 := ⟨Tryz.func12, by kernel_rfl, by kernel_rfl, by kernel_rfl, by kernel_rfl⟩
abbrev xGS (v0 : Str) (v1 : (List Tok) × Int) : Prop := AbC 30 (xFx v0) (xAS v1)
def xWi (a0 : Str) (r1 : (List Tok) × Int) : rE I12 (xAT a0) [Y] [xAS r1] = dn (xAn ((Exp.mk 0 0 [] []), r1.2)) [xGS a0 r1, iY (dc (r1.2 ≥ 0))] := by kernel_rfl
abbrev xHd (v0 : (List Tok) × Int) (v1 : Exp × Psr) : Prop := AbC 31 (xBm (Psr.mk v0.1 0 (-1))) (xAf v1)
abbrev xJb (v0 : Exp × Psr) : Prop := iY (dc ((Psr.bad v0.2) < 0))
abbrev xII (v0 : (List Tok) × Int) := (Ln v0.1 : Int)
abbrev xMM (v0 : Exp × Psr) (v1 : (List Tok) × Int) : Prop := iY (dc ((Psr.pos v0.2) < (xII v1)))
abbrev xOt (v0 : Str) := xAn ((Exp.mk 0 0 [] []), (Ln v0 : Int))
def xWj (a0 : Str) (r1 : (List Tok) × Int) (r2 : Exp × Psr) : rE I12 (xAT a0) [F, Y, Y, Y] [xAS r1, xAf r2] = dn (xOt a0) [xGS a0 r1, xE7 r1, xHd r1 r2, xJb r2, xMM r2 r1, iY (dc ((Psr.pos r2.2) ≥ (xII r1)))] := by kernel_rfl
def xWk (a0 : Str) (r1 : (List Tok) × Int) (r2 : Exp × Psr) : rE I12 (xAT a0) [F, Y, Y, F, Y] [xAS r1, xAf r2] = dn (xAn ((Exp.mk 0 0 [] []), (Tok.pos (gD r1.1 (tN (Psr.pos r2.2)) Ty.tok.dflt)))) [xGS a0 r1, xE7 r1, xHd r1 r2, xJb r2, xMM r2 r1, iN (dc ((Psr.pos r2.2) ≥ (xII r1))), iY (dc ((Psr.pos r2.2) ≥ 0)), (0 : Int) ≤ (Psr.pos r2.2) ∧ (Psr.pos r2.2) < (Ln r1.1)] := by kernel_rfl
abbrev xKM (v0 : Exp × Psr) (v1 : Bool) : Prop := AbC 32 (xDO v0.1) (xBt v1)
def xWl (a0 : Str) (r1 : (List Tok) × Int) (r2 : Exp × Psr) (r3 : Bool) : rE I12 (xAT a0) [F, Y, Y, F, F, Y] [xAS r1, xAf r2, xBt r3] = dn (xAn ((Exp.mk 0 0 [] []), 0)) [xGS a0 r1, xE7 r1, xHd r1 r2, xJb r2, xMM r2 r1, iN (dc ((Psr.pos r2.2) ≥ (xII r1))), iN (dc ((Psr.pos r2.2) ≥ 0)), xKM r2 r3, iY (!r3)] := by kernel_rfl
def xWm (a0 : Str) (r1 : (List Tok) × Int) (r2 : Exp × Psr) (r3 : Bool) : rE I12 (xAT a0) [F, Y, Y, F, F, F] [xAS r1, xAf r2, xBt r3] = dn (xAn (r2.1, (-1))) [xGS a0 r1, xE7 r1, xHd r1 r2, xJb r2, xMM r2 r1, iN (dc ((Psr.pos r2.2) ≥ (xII r1))), iN (dc ((Psr.pos r2.2) ≥ 0)), xKM r2 r3, iN (!r3)] := by kernel_rfl
abbrev xMN (v0 : Exp × Psr) (v1 : (List Tok) × Int) : Prop := iN (dc ((Psr.pos v0.2) < (xII v1)))
def xWn (a0 : Str) (r1 : (List Tok) × Int) (r2 : Exp × Psr) : rE I12 (xAT a0) [F, Y, F, Y] [xAS r1, xAf r2] = dn (xOt a0) [xGS a0 r1, xE7 r1, xHd r1 r2, xJb r2, xMN r2 r1, iY (dc ((Psr.bad r2.2) ≥ (xII r1)))] := by kernel_rfl
abbrev xKN (v0 : Exp × Psr) (v1 : (List Tok) × Int) : Prop := iN (dc ((Psr.bad v0.2) ≥ (xII v1)))
def xWo (a0 : Str) (r1 : (List Tok) × Int) (r2 : Exp × Psr) : rE I12 (xAT a0) [F, Y, F, F, Y] [xAS r1, xAf r2] = dn (xAn ((Exp.mk 0 0 [] []), (Tok.pos (gD r1.1 (tN (Psr.bad r2.2)) Ty.tok.dflt)))) [xGS a0 r1, xE7 r1, xHd r1 r2, xJb r2, xMN r2 r1, xKN r2 r1, iY (dc ((Psr.bad r2.2) ≥ 0)), (0 : Int) ≤ (Psr.bad r2.2) ∧ (Psr.bad r2.2) < (Ln r1.1)] := by kernel_rfl
abbrev xMO (v0 : Exp × Psr) : Prop := iN (dc ((Psr.bad v0.2) ≥ 0))
def xWp (a0 : Str) (r1 : (List Tok) × Int) (r2 : Exp × Psr) (r3 : Bool) : rE I12 (xAT a0) [F, Y, F, F, F, Y] [xAS r1, xAf r2, xBt r3] = dn (xAn ((Exp.mk 0 0 [] []), 0)) [xGS a0 r1, xE7 r1, xHd r1 r2, xJb r2, xMN r2 r1, xKN r2 r1, xMO r2, xKM r2 r3, iY (!r3)] := by kernel_rfl
def xWq (a0 : Str) (r1 : (List Tok) × Int) (r2 : Exp × Psr) (r3 : Bool) : rE I12 (xAT a0) [F, Y, F, F, F, F] [xAS r1, xAf r2, xBt r3] = dn (xAn (r2.1, (-1))) [xGS a0 r1, xE7 r1, xHd r1 r2, xJb r2, xMN r2 r1, xKN r2 r1, xMO r2, xKM r2 r3, iN (!r3)] := by kernel_rfl
abbrev xMP (v0 : Exp × Psr) : Prop := iN (dc ((Psr.bad v0.2) < 0))
def xWr (a0 : Str) (r1 : (List Tok) × Int) (r2 : Exp × Psr) : rE I12 (xAT a0) [F, F, F, Y] [xAS r1, xAf r2] = dn (xOt a0) [xGS a0 r1, xE7 r1, xHd r1 r2, xMP r2, iN false, iY (dc ((Psr.bad r2.2) ≥ (xII r1)))] := by kernel_rfl
def xTS (a0 : Str) (r1 : (List Tok) × Int) (r2 : Exp × Psr) : rE I12 (xAT a0) [F, F, F, F, Y] [xAS r1, xAf r2] = dn (xAn ((Exp.mk 0 0 [] []), (Tok.pos (gD r1.1 (tN (Psr.bad r2.2)) Ty.tok.dflt)))) [xGS a0 r1, xE7 r1, xHd r1 r2, xMP r2, iN false, xKN r2 r1, iY (dc ((Psr.bad r2.2) ≥ 0)), (0 : Int) ≤ (Psr.bad r2.2) ∧ (Psr.bad r2.2) < (Ln r1.1)] := by kernel_rfl
def xTT (a0 : Str) (r1 : (List Tok) × Int) (r2 : Exp × Psr) (r3 : Bool) : rE I12 (xAT a0) [F, F, F, F, F, Y] [xAS r1, xAf r2, xBt r3] = dn (xAn ((Exp.mk 0 0 [] []), 0)) [xGS a0 r1, xE7 r1, xHd r1 r2, xMP r2, iN false, xKN r2 r1, xMO r2, xKM r2 r3, iY (!r3)] := by kernel_rfl
def xTU (a0 : Str) (r1 : (List Tok) × Int) (r2 : Exp × Psr) (r3 : Bool) : rE I12 (xAT a0) [F, F, F, F, F, F] [xAS r1, xAf r2, xBt r3] = dn (xAn (r2.1, (-1))) [xGS a0 r1, xE7 r1, xHd r1 r2, xMP r2, iN false, xKN r2 r1, xMO r2, xKM r2 r3, iN (!r3)] := by kernel_rfl
theorem vBV {N : Nat} : ∀ a0 r, xDq N a0 = some r → RE Tryz.f12 I12 (xAT a0) (xAn r) := fun a0 r h =>
 bE h fun r1 h0 h => cE h (fun h1 h => dE h fk12 (xWi a0 r1) (oc2 (xBN h0) h1 on)) fun h1 h =>
 bE h fun r2 h2 h => cE h (fun h3 h => cE h (fun h4 h => cE h (fun h5 h => dE h fk12 (xWj a0 r1 r2) (oc6 (xBN h0) h1 (xBu h2) h3 h4 h5 on)) fun h5 h =>
 cE h (fun h6 h => iE h fun h7 h => dE h fk12 (xWk a0 r1 r2) (oc8 (xBN h0) h1 (xBu h2) h3 h4 h5 h6 h7 on)) fun h6 h =>
 bE h fun r3 h7 h => cE h (fun h8 h => dE h fk12 (xWl a0 r1 r2 r3) (oc9 (xBN h0) h1 (xBu h2) h3 h4 h5 h6 (xDP h7) h8 on)) fun h8 h =>
 dE h fk12 (xWm a0 r1 r2 r3) (oc9 (xBN h0) h1 (xBu h2) h3 h4 h5 h6 (xDP h7) h8 on)) fun h4 h =>
 cE h (fun h5 h => dE h fk12 (xWn a0 r1 r2) (oc6 (xBN h0) h1 (xBu h2) h3 h4 h5 on)) fun h5 h =>
 cE h (fun h6 h => iE h fun h7 h => dE h fk12 (xWo a0 r1 r2) (oc8 (xBN h0) h1 (xBu h2) h3 h4 h5 h6 h7 on)) fun h6 h =>
 bE h fun r3 h7 h => cE h (fun h8 h => dE h fk12 (xWp a0 r1 r2 r3) (oc9 (xBN h0) h1 (xBu h2) h3 h4 h5 h6 (xDP h7) h8 on)) fun h8 h =>
 dE h fk12 (xWq a0 r1 r2 r3) (oc9 (xBN h0) h1 (xBu h2) h3 h4 h5 h6 (xDP h7) h8 on)) fun h3 h =>
 cE h (fun h5 h => dE h fk12 (xWr a0 r1 r2) (oc6 (xBN h0) h1 (xBu h2) h3 rfl h5 on)) fun h5 h =>
 cE h (fun h6 h => iE h fun h7 h => dE h fk12 (xTS a0 r1 r2) (oc8 (xBN h0) h1 (xBu h2) h3 rfl h5 h6 h7 on)) fun h6 h =>
 bE h fun r3 h7 h => cE h (fun h8 h => dE h fk12 (xTT a0 r1 r2 r3) (oc9 (xBN h0) h1 (xBu h2) h3 rfl h5 h6 (xDP h7) h8 on)) fun h8 h =>
 dE h fk12 (xTU a0 r1 r2 r3) (oc9 (xBN h0) h1 (xBu h2) h3 rfl h5 h6 (xDP h7) h8 on)
theorem xBC {N : Nat} {a0 : Str} {r : Exp × Int} (h : xDq N  a0 = some r) : AbC 12 (xAT a0) (xAn r) :=
 AbsCalls.of_reach fk12 rfl rfl (Nat.le_of_ble_eq_true rfl) (vBV a0 r h)
noncomputable def I10 : Info := { body := (Tryz.f10.body).getD .skip, nt := 12, results := [.tmp 2], keep := [0, 4, 8, 7], live := [], modes := [(1, [(2, .take, false)]), (2, [(0, .take, false)])] }
theorem fk10 : FnOk Tryz.prog 10 Tryz.f10 I10 := ⟨Tryz.func10, by kernel_rfl, by kernel_rfl, by kernel_rfl, by kernel_rfl⟩
abbrev xIa (v0 : Str) (v1 : Exp × Int) : Prop := AbC 12 (xAT v0) (xAn v1)
def xV7 (a0 : Str) (r1 : Exp × Int) : rE I10 (xFE a0) [] [xAn r1] = dn (xBU (dc (r1.2 ≥ 0))) [xIa a0 r1] := by kernel_rfl
theorem vBT {N : Nat} : ∀ a0 r, xFL N a0 = some r → RE Tryz.f10 I10 (xFE a0) (xBU r) := fun a0 r h =>
 bE h fun r1 h0 h => dE h fk10 (xV7 a0 r1) (oc (xBC h0) on)
theorem xDt {N : Nat} {a0 : Str} {r : Bool} (h : xFL N  a0 = some r) : AbC 10 (xFE a0) (xBU r) :=
 AbsCalls.of_reach fk10 rfl rfl (Nat.le_of_ble_eq_true rfl) (vBT a0 r h)
end Go.Ab.T
end
section
open Go.Proofs
namespace Go.Ab.T
set_option maxRecDepth 100000
variable [Inhabited Lb]
variable [Nonempty Tab10]
variable [Nonempty ErrVars]
noncomputable def I104 : Info := { body := (Tryz.f104.body).getD .skip, nt := 27, results := [.tmp 4], keep := [0, 2, 8, 10, 12, 22, 30], live := [(3, [0, 2, 10, 12])], modes := [(6, [(0, .take, false)]), (7, [(0, .take, false)])] }
theorem xP1 : FnOk Tryz.prog 104 Tryz.f104 I104 := ⟨Tryz.func104, by kernel_rfl, by kernel_rfl, by kernel_rfl, by kernel_rfl⟩
def xLn (x0 : List Str) (x1 : Str) (x5 : List Int) (x6 : Int) : St := [(0, .v false [.sl .ro .str x0]), (2, .v false [.str x1]), (10, .v false [.sl .own .byte x5]), (12, .v false [.int .i64 x6])]
def xSc (x0 : List Str) (x1 : Str) (x5 : List Int) (x6 : Int) : rS 3 I104 (xLn x0 x1 x5 x6) [Y, Y] [] = st 3 I104 (xLn x0 x1 ((x5 ++ List.map (fun c => (c.toNat : Int)) x1) ++ List.map (fun c => (c.toNat : Int)) (xKS x0 x6)) (W (x6 + 1))) [iY (dc (x6 < (Ln x0 : Int))), iY (dc (x6 > 0)), Ln x5 + Ln x1 ≤ Lim, (0 : Int) ≤ x6 ∧ x6 < (Ln x0), Ln (x5 ++ List.map (fun c => (c.toNat : Int)) x1) + Ln (xKS x0 x6) ≤ Lim] := by kernel_rfl
def xSd (x0 : List Str) (x1 : Str) (x5 : List Int) (x6 : Int) : rS 3 I104 (xLn x0 x1 x5 x6) [Y, F] [] = st 3 I104 (xLn x0 x1 (x5 ++ List.map (fun c => (c.toNat : Int)) (xKS x0 x6)) (W (x6 + 1))) [iY (dc (x6 < (Ln x0 : Int))), iN (dc (x6 > 0)), (0 : Int) ≤ x6 ∧ x6 < (Ln x0), Ln x5 + Ln (xKS x0 x6) ≤ Lim] := by kernel_rfl
def xSe (x0 : List Str) (x1 : Str) (x5 : List Int) (x6 : Int) : rS 3 I104 (xLn x0 x1 x5 x6) [F] [] = dn (xGx (List.map (fun n => UInt8.ofNat (tN n)) x5)) [iN (dc (x6 < (Ln x0 : Int)))] := by kernel_rfl
def xSf (a0 : List Str) (a1 : Str) : rE I104 (xHW a0 a1) [] [] = st 3 I104 (xLn a0 a1 [] 0) [] := by kernel_rfl
theorem vAQ {N : Nat} : ∀ n x0 x1 x5 x6 r, xEt N n x0 x1 x5 x6 = some r → RS Tryz.f104 I104 3 (xLn x0 x1 x5 x6) (xGx r) := by
 intro n
 induction n with
 | zero => exact fun _ _ _ _ _ h => nE h
 | succ n ih =>
  exact fun x0 x1 x5 x6 r h =>
   cE h (fun h0 h => cE h (fun h1 h => iE h fun h2 h => iE h fun h3 h => iE h fun h4 h => tS xP1 (xSc x0 x1 x5 x6) (oc5 h0 h1 h2 h3 h4 on) (ih _ _ _ _ _ h)) fun h1 h =>
   iE h fun h2 h => iE h fun h3 h => tS xP1 (xSd x0 x1 x5 x6) (oc4 h0 h1 h2 h3 on) (ih _ _ _ _ _ h)) fun h0 h =>
   dS h xP1 (xSe x0 x1 x5 x6) (oc h0 on)
theorem vAR {N : Nat} : ∀ a0 a1 r, xJp N a0 a1 = some r → RE Tryz.f104 I104 (xHW a0 a1) (xGx r) := fun a0 a1 r h =>
 tE xP1 (xSf a0 a1) on (vAQ _ _ _ _ _ _ h)
theorem xNH {N : Nat} {a0 : List Str} {a1 : Str} {r : Str} (h : xJp N  a0 a1 = some r) : AbC 104 (xHW a0 a1) (xGx r) :=
 AbsCalls.of_reach xP1 rfl rfl (Nat.le_of_ble_eq_true rfl) (vAR a0 a1 r h)
noncomputable def I74 : Info := { body := (Tryz.f74.body).getD .skip, nt := 21, results := [.tmp 2], keep := [0, 2, 4, 8, 10, 18, 24, 26, 32, 38, 3], live := [], modes := [] }
theorem fk74 : FnOk Tryz.prog 74 Tryz.f74 I74 := ⟨Tryz.func74, by kernel_rfl, by kernel_rfl, by kernel_rfl, by kernel_rfl⟩
def xYU (a0 : Exp) : rE I74 (xBx a0) [Y, Y] [] = dn (xA5 0) [xGq a0, xGq a0] := by kernel_rfl
def xYV (a0 : Exp) : rE I74 (xBx a0) [F, Y, Y] [] = dn (xA5 0) [xDW a0, xIB a0, xIB a0] := by kernel_rfl
def xYW (a0 : Exp) : rE I74 (xBx a0) [F, F, Y] [] = dn (xA5 0) [xDW a0, xHb a0, xI3 a0] := by kernel_rfl
def xYX (a0 : Exp) : rE I74 (xBx a0) [F, F, F, Y, Y, Y] [] = dn (xA5 1) [xDW a0, xHb a0, xFC a0, xHa a0, iY ((Exp.n a0) == 4), iY ((Exp.n a0) == 4)] := by kernel_rfl
abbrev xLE (v0 : Exp) : Prop := iN ((Exp.n v0) == 4)
def xYY (a0 : Exp) : rE I74 (xBx a0) [F, F, F, Y, F, Y] [] = dn (xA5 1) [xDW a0, xHb a0, xFC a0, xHa a0, xLE a0, iY ((Exp.n a0) == 5)] := by kernel_rfl
def xYZ (a0 : Exp) : rE I74 (xBx a0) [F, F, F, Y, F, F, Y, Y] [] = dn (xA5 2) [xDW a0, xHb a0, xFC a0, xHa a0, xLE a0, iN ((Exp.n a0) == 5), iY ((Exp.n a0) == 1), iY ((Exp.n a0) == 1)] := by kernel_rfl
def xY0 (a0 : Exp) : rE I74 (xBx a0) [F, F, F, Y, F, F, F, Y] [] = dn (xA5 2) [xDW a0, xHb a0, xFC a0, xHa a0, xLE a0, iN ((Exp.n a0) == 5), iN ((Exp.n a0) == 1), iY ((Exp.n a0) == 2)] := by kernel_rfl
def xY1 (a0 : Exp) : rE I74 (xBx a0) [F, F, F, Y, F, F, F, F, Y] [] = dn (xA5 3) [xDW a0, xHb a0, xFC a0, xHa a0, xLE a0, iN ((Exp.n a0) == 5), iN ((Exp.n a0) == 1), iN ((Exp.n a0) == 2), iY ((Exp.n a0) == 3)] := by kernel_rfl
def xY2 (a0 : Exp) : rE I74 (xBx a0) [F, F, F, Y, F, F, F, F, F] [] = dn (xA5 4) [xDW a0, xHb a0, xFC a0, xHa a0, xLE a0, iN ((Exp.n a0) == 5), iN ((Exp.n a0) == 1), iN ((Exp.n a0) == 2), iN ((Exp.n a0) == 3)] := by kernel_rfl
def xY3 (a0 : Exp) : rE I74 (xBx a0) [F, F, F, F] [] = dn (xA5 4) [xDW a0, xHb a0, xFC a0, xE6 a0] := by kernel_rfl
theorem vCQ {N : Nat} : ∀ a0 r, xFR N a0 = some r → RE Tryz.f74 I74 (xBx a0) (xA5 r) := fun a0 r h =>
 cE h (fun h0 h => dE h fk74 (xYU a0) (oc2 h0 h0 on)) fun h0 h =>
 cE h (fun h1 h => dE h fk74 (xYV a0) (oc3 h0 h1 h1 on)) fun h1 h =>
 cE h (fun h2 h => dE h fk74 (xYW a0) (oc3 h0 h1 h2 on)) fun h2 h =>
 cE h (fun h3 h => cE h (fun h4 h => dE h fk74 (xYX a0) (oc6 h0 h1 h2 h3 h4 h4 on)) fun h4 h =>
 cE h (fun h5 h => dE h fk74 (xYY a0) (oc6 h0 h1 h2 h3 h4 h5 on)) fun h5 h =>
 cE h (fun h6 h => dE h fk74 (xYZ a0) (oc8 h0 h1 h2 h3 h4 h5 h6 h6 on)) fun h6 h =>
 cE h (fun h7 h => dE h fk74 (xY0 a0) (oc8 h0 h1 h2 h3 h4 h5 h6 h7 on)) fun h7 h =>
 cE h (fun h8 h => dE h fk74 (xY1 a0) (oc9 h0 h1 h2 h3 h4 h5 h6 h7 h8 on)) fun h8 h =>
 dE h fk74 (xY2 a0) (oc9 h0 h1 h2 h3 h4 h5 h6 h7 h8 on)) fun h3 h =>
 dE h fk74 (xY3 a0) (oc4 h0 h1 h2 h3 on)
theorem xGG {N : Nat} {a0 : Exp} {r : Int} (h : xFR N  a0 = some r) : AbC 74 (xBx a0) (xA5 r) :=
 AbsCalls.of_reach fk74 rfl rfl (Nat.le_of_ble_eq_true rfl) (vCQ a0 r h)
noncomputable def I76 : Info := { body := (Tryz.f76.body).getD .skip, nt := 10, results := [.tmp 2], keep := [0, 4, 10], live := [], modes := [] }
theorem fk76 : FnOk Tryz.prog 76 Tryz.f76 I76 := ⟨Tryz.func76, by kernel_rfl, by kernel_rfl, by kernel_rfl, by kernel_rfl⟩
def xY6 (a0 : Int) (r1 : Bool) : rE I76 (xER a0) [Y] [xDL r1] = dn (xDJ [63]) [AbC 105 (xFp a0 1 5) (xDL r1), iY (!r1)] := by kernel_rfl
def xY7 (a0 : Int) (r1 : Bool) : rE I76 (xER a0) [F] [xDL r1] = dn (xDJ (gD [[], [43], [45], [42], [60], [61, 61]] (tN a0) Ty.str.dflt)) [AbC 105 (xFp a0 1 5) (xDL r1), iN (!r1), (0 : Int) ≤ a0 ∧ a0 < (Ln [[], [43], [45], [42], [60], [61, 61]])] := by kernel_rfl
theorem vCS {N : Nat} : ∀ a0 r, xGH N a0 = some r → RE Tryz.f76 I76 (xER a0) (xDJ r) := fun a0 r h =>
 bE h fun r1 h0 h => cE h (fun h1 h => dE h fk76 (xY6 a0 r1) (oc2 (xH2 h0) h1 on)) fun h1 h =>
 iE h fun h2 h => dE h fk76 (xY7 a0 r1) (oc3 (xH2 h0) h1 h2 on)
theorem xIR {N : Nat} {a0 : Int} {r : Str} (h : xGH N  a0 = some r) : AbC 76 (xER a0) (xDJ r) :=
 AbsCalls.of_reach fk76 rfl rfl (Nat.le_of_ble_eq_true rfl) (vCS a0 r h)
def G75 (q : Exp → Int → Option (Str)) : Prop := ∀ a0 a1 r, q a0 a1 = some r → AbC 75 (xEq a0 a1) (xCV r)
def G73 (q : (List Exp) → Option (Str)) : Prop := ∀ a0 r, q a0 = some r → AbC 73 (xFk a0) (xDB r)
def G39 (q : Exp → Option (Str)) : Prop := ∀ a0 r, q a0 = some r → AbC 39 (xAZ a0) (xAw r)
noncomputable def I75 : Info := { body := (Tryz.f75.body).getD .skip, nt := 16, results := [.tmp 4], keep := [0, 2, 4, 8, 10, 22, 5], live := [], modes := [] }
theorem fk75 : FnOk Tryz.prog 75 Tryz.f75 I75 := ⟨Tryz.func75, by kernel_rfl, by kernel_rfl, by kernel_rfl, by kernel_rfl⟩
def xY4 (a0 : Exp) (a1 : Int) (r1 : Str) (r2 : Int) : rE I75 (xEq a0 a1) [Y] [xAw r1, xA5 r2] = dn (xCV (([40] ++ r1) ++ [41])) [AbC 39 (xAZ a0) (xAw r1), AbC 74 (xBx a0) (xA5 r2), xH9 r2 a1, Ln [40] + Ln r1 ≤ Lim, Ln ([40] ++ r1) + Ln [41] ≤ Lim] := by kernel_rfl
def xY5 (a0 : Exp) (a1 : Int) (r1 : Str) (r2 : Int) : rE I75 (xEq a0 a1) [F] [xAw r1, xA5 r2] = dn (xCV r1) [AbC 39 (xAZ a0) (xAw r1), AbC 74 (xBx a0) (xA5 r2), iN (dc (r2 < a1))] := by kernel_rfl
theorem vCR {N q0 q1 q2} (g0 : G75 q0) (g1 : G73 q1) (g2 : G39 q2) : ∀ a0 a1 r, xFV N q0 q1 q2 a0 a1 = some r → RE Tryz.f75 I75 (xEq a0 a1) (xCV r) := fun a0 a1 r h =>
 bE h fun r1 h0 h => bE h fun r2 h1 h => cE h (fun h2 h => iE h fun h3 h => iE h fun h4 h => dE h fk75 (xY4 a0 a1 r1 r2) (oc5 (g2 _ _ h0) (xGG h1) h2 h3 h4 on)) fun h2 h =>
 dE h fk75 (xY5 a0 a1 r1 r2) (oc3 (g2 _ _ h0) (xGG h1) h2 on)
theorem xKt {N q0 q1 q2} (g0 : G75 q0) (g1 : G73 q1) (g2 : G39 q2) {a0} {a1} {r} (h : xFV N q0 q1 q2 a0 a1 = some r) : AbC 75 (xEq a0 a1) (xCV r) :=
 AbsCalls.of_reach fk75 rfl rfl (Nat.le_of_ble_eq_true rfl) (vCR g0 g1 g2 a0 a1 r h)
noncomputable def I73 : Info := { body := (Tryz.f73.body).getD .skip, nt := 22, results := [.tmp 2], keep := [0, 4, 6, 8, 18], live := [(3, [0, 6, 8])], modes := [(5, [(0, .take, false)])] }
theorem fk73 : FnOk Tryz.prog 73 Tryz.f73 I73 := ⟨Tryz.func73, by kernel_rfl, by kernel_rfl, by kernel_rfl, by kernel_rfl⟩
def xPT (x0 : List Exp) (x3 : List Str) (x4 : Int) : St := [(0, .v false [.sl .ro .exp x0]), (6, .v false [.sl .own .str x3]), (8, .v false [.int .i64 x4])]
def xYR (x0 : List Exp) (x3 : List Str) (x4 : Int) (r1 : Str) : rS 3 I73 (xPT x0 x3 x4) [Y] [xAw r1] = st 3 I73 (xPT x0 (x3 ++ [r1]) (W (x4 + 1))) [iY (dc (x4 < (Ln x0 : Int))), xLD x4 x0, AbC 39 (xAZ (gD x0 (tN x4) Ty.exp.dflt)) (xAw r1), Ln x3 + Ln [r1] ≤ Lim] := by kernel_rfl
def xYS (x0 : List Exp) (x3 : List Str) (x4 : Int) (r1 : Str) : rS 3 I73 (xPT x0 x3 x4) [F] [xGx r1] = dn (xDB r1) [iN (dc (x4 < (Ln x0 : Int))), AbC 104 (xHW x3 [44, 32]) (xGx r1)] := by kernel_rfl
def xYT (a0 : List Exp) : rE I73 (xFk a0) [] [] = st 3 I73 (xPT a0 [] 0) [] := by kernel_rfl
theorem vCO {N q0 q1 q2} (g0 : G75 q0) (g1 : G73 q1) (g2 : G39 q2) : ∀ n x0 x3 x4 r, xEM N q0 q1 q2 n x0 x3 x4 = some r → RS Tryz.f73 I73 3 (xPT x0 x3 x4) (xDB r) := by
 intro n
 induction n with
 | zero => exact fun _ _ _ _ h => nE h
 | succ n ih =>
  exact fun x0 x3 x4 r h =>
   cE h (fun h0 h => iE h fun h1 h => bE h fun r1 h2 h => iE h fun h3 h => tS fk73 (xYR x0 x3 x4 r1) (oc4 h0 h1 (g2 _ _ h2) h3 on) (ih _ _ _ _ h)) fun h0 h =>
   bE h fun r1 h1 h => dS h fk73 (xYS x0 x3 x4 r1) (oc2 h0 (xNH h1) on)
theorem vCP {N q0 q1 q2} (g0 : G75 q0) (g1 : G73 q1) (g2 : G39 q2) : ∀ a0 r, xGX N q0 q1 q2 a0 = some r → RE Tryz.f73 I73 (xFk a0) (xDB r) := fun a0 r h =>
 tE fk73 (xYT a0) on (vCO g0 g1 g2 _ _ _ _ _ h)
theorem xJH {N q0 q1 q2} (g0 : G75 q0) (g1 : G73 q1) (g2 : G39 q2) {a0} {r} (h : xGX N q0 q1 q2 a0 = some r) : AbC 73 (xFk a0) (xDB r) :=
 AbsCalls.of_reach fk73 rfl rfl (Nat.le_of_ble_eq_true rfl) (vCP g0 g1 g2 a0 r h)
noncomputable def I39 : Info := { body := (Tryz.f39.body).getD .skip, nt := 124, results := [.tmp 2], keep := [0, 2, 4, 6, 8, 12, 14, 24, 36, 44, 58, 78, 116, 154, 206, 3], live := [], modes := [(22, [(4, .take, false)])] }
theorem fk39 : FnOk Tryz.prog 39 Tryz.f39 I39 := ⟨Tryz.func39, by kernel_rfl, by kernel_rfl, by kernel_rfl, by kernel_rfl⟩
def xXd (a0 : Exp) (r1 : Str) : rE I39 (xAZ a0) [Y] [xBb r1] = dn (xAw r1) [xLR a0, AbC 72 (xCS (Exp.n a0)) (xBb r1)] := by kernel_rfl
def xXe (a0 : Exp) : rE I39 (xAZ a0) [F, Y] [] = dn (xAw (([34] ++ (Exp.text a0)) ++ [34])) [xBf a0, xJT a0, Ln [34] + Ln (Exp.text a0) ≤ Lim, Ln ([34] ++ (Exp.text a0)) + Ln [34] ≤ Lim] := by kernel_rfl
def xXf (a0 : Exp) : rE I39 (xAZ a0) [F, F, Y] [] = dn (xAw (Exp.text a0)) [xBf a0, xBw a0, xJU a0] := by kernel_rfl
def xXg (a0 : Exp) (r1 : Str) : rE I39 (xAZ a0) [F, F, F, Y] [xDB r1] = dn (xAw (([91] ++ r1) ++ [93])) [xBf a0, xBw a0, xBY a0, xJV a0, AbC 73 (xFk (Exp.args a0)) (xDB r1), Ln [91] + Ln r1 ≤ Lim, Ln ([91] ++ r1) + Ln [93] ≤ Lim] := by kernel_rfl
def xXh (a0 : Exp) (r1 : Str) : rE I39 (xAZ a0) [F, F, F, F, Y] [xDB r1] = dn (xAw ((((Exp.text a0) ++ [40]) ++ r1) ++ [41])) [xBf a0, xBw a0, xBY a0, xCA a0, xLA a0, Ln (Exp.text a0) + Ln [40] ≤ Lim, AbC 73 (xFk (Exp.args a0)) (xDB r1), Ln ((Exp.text a0) ++ [40]) + Ln r1 ≤ Lim, Ln (((Exp.text a0) ++ [40]) ++ r1) + Ln [41] ≤ Lim] := by kernel_rfl
abbrev xLF (v0 : Exp) : Prop := (0 : Int) ≤ 0 ∧ (0 : Int) < (Ln (Exp.args v0))
abbrev xOu (v0 : Exp) := gD (Exp.args v0) (tN 0) Ty.exp.dflt
abbrev xN3 (v0 : Exp) (v1 : Str) : Prop := AbC 39 (xAZ (xOu v0)) (xAw v1)
abbrev xLG (v0 : Exp) : Prop := (0 : Int) ≤ 1 ∧ (1 : Int) < (Ln (Exp.args v0))
abbrev xOv (v0 : Exp) := gD (Exp.args v0) (tN 1) Ty.exp.dflt
abbrev xN4 (v0 : Exp) (v1 : Str) : Prop := AbC 39 (xAZ (xOv v0)) (xAw v1)
def xXi (a0 : Exp) (r1 r2 : Str) : rE I39 (xAZ a0) [F, F, F, F, F, Y] [xAw r1, xAw r2] = dn (xAw ((((([108, 101, 116, 32] ++ (Exp.text a0)) ++ [32, 61, 32]) ++ r1) ++ [32, 105, 110, 32]) ++ r2)) [xBf a0, xBw a0, xBY a0, xCA a0, xDk a0, xGq a0, Ln [108, 101, 116, 32] + Ln (Exp.text a0) ≤ Lim, Ln ([108, 101, 116, 32] ++ (Exp.text a0)) + Ln [32, 61, 32] ≤ Lim, xLF a0, xN3 a0 r1, Ln (([108, 101, 116, 32] ++ (Exp.text a0)) ++ [32, 61, 32]) + Ln r1 ≤ Lim, Ln ((([108, 101, 116, 32] ++ (Exp.text a0)) ++ [32, 61, 32]) ++ r1) + Ln [32, 105, 110, 32] ≤ Lim, xLG a0, xN4 a0 r2, Ln (((([108, 101, 116, 32] ++ (Exp.text a0)) ++ [32, 61, 32]) ++ r1) ++ [32, 105, 110, 32]) + Ln r2 ≤ Lim] := by kernel_rfl
def xXj (a0 : Exp) (r1 r2 : Str) : rE I39 (xAZ a0) [F, F, F, F, F, F, Y] [xAw r1, xAw r2] = dn (xAw ((((([102, 111, 114, 32] ++ (Exp.text a0)) ++ [32, 105, 110, 32]) ++ r1) ++ [32, 100, 111, 32]) ++ r2)) [xBf a0, xBw a0, xBY a0, xCA a0, xDk a0, xDW a0, xI3 a0, Ln [102, 111, 114, 32] + Ln (Exp.text a0) ≤ Lim, Ln ([102, 111, 114, 32] ++ (Exp.text a0)) + Ln [32, 105, 110, 32] ≤ Lim, xLF a0, xN3 a0 r1, Ln (([102, 111, 114, 32] ++ (Exp.text a0)) ++ [32, 105, 110, 32]) + Ln r1 ≤ Lim, Ln ((([102, 111, 114, 32] ++ (Exp.text a0)) ++ [32, 105, 110, 32]) ++ r1) + Ln [32, 100, 111, 32] ≤ Lim, xLG a0, xN4 a0 r2, Ln (((([102, 111, 114, 32] ++ (Exp.text a0)) ++ [32, 105, 110, 32]) ++ r1) ++ [32, 100, 111, 32]) + Ln r2 ≤ Lim] := by kernel_rfl
def xXk (a0 : Exp) (r1 r2 r3 : Str) : rE I39 (xAZ a0) [F, F, F, F, F, F, F, Y] [xAw r1, xAw r2, xAw r3] = dn (xAw ((((([105, 102, 32] ++ r1) ++ [32, 116, 104, 101, 110, 32]) ++ r2) ++ [32, 101, 108, 115, 101, 32]) ++ r3)) [xBf a0, xBw a0, xBY a0, xCA a0, xDk a0, xDW a0, xFC a0, xIB a0, xLF a0, xN3 a0 r1, Ln [105, 102, 32] + Ln r1 ≤ Lim, Ln ([105, 102, 32] ++ r1) + Ln [32, 116, 104, 101, 110, 32] ≤ Lim, xLG a0, xN4 a0 r2, Ln (([105, 102, 32] ++ r1) ++ [32, 116, 104, 101, 110, 32]) + Ln r2 ≤ Lim, Ln ((([105, 102, 32] ++ r1) ++ [32, 116, 104, 101, 110, 32]) ++ r2) + Ln [32, 101, 108, 115, 101, 32] ≤ Lim, (0 : Int) ≤ 2 ∧ (2 : Int) < (Ln (Exp.args a0)), AbC 39 (xAZ (gD (Exp.args a0) (tN 2) Ty.exp.dflt)) (xAw r3), Ln (((([105, 102, 32] ++ r1) ++ [32, 116, 104, 101, 110, 32]) ++ r2) ++ [32, 101, 108, 115, 101, 32]) + Ln r3 ≤ Lim] := by kernel_rfl
def xXl (a0 : Exp) (r1 : Int) (r2 r3 r4 : Str) : rE I39 (xAZ a0) [F, F, F, F, F, F, F, F, Y] [xA5 r1, xCV r2, xDJ r3, xCV r4] = dn (xAw ((((r2 ++ [32]) ++ r3) ++ [32]) ++ r4)) [xBf a0, xBw a0, xBY a0, xCA a0, xDk a0, xDW a0, xFC a0, xHb a0, AbC 74 (xBx a0) (xA5 r1), iY (r1 == 1), xLF a0, AbC 75 (xEq (xOu a0) 2) (xCV r2), Ln r2 + Ln [32] ≤ Lim, AbC 76 (xER (Exp.n a0)) (xDJ r3), Ln (r2 ++ [32]) + Ln r3 ≤ Lim, Ln ((r2 ++ [32]) ++ r3) + Ln [32] ≤ Lim, xLG a0, AbC 75 (xEq (xOv a0) (W (r1 + 1))) (xCV r4), Ln (((r2 ++ [32]) ++ r3) ++ [32]) + Ln r4 ≤ Lim] := by kernel_rfl
def xXm (a0 : Exp) (r1 : Int) (r2 r3 r4 : Str) : rE I39 (xAZ a0) [F, F, F, F, F, F, F, F, F] [xA5 r1, xCV r2, xDJ r3, xCV r4] = dn (xAw ((((r2 ++ [32]) ++ r3) ++ [32]) ++ r4)) [xBf a0, xBw a0, xBY a0, xCA a0, xDk a0, xDW a0, xFC a0, xHb a0, AbC 74 (xBx a0) (xA5 r1), iN (r1 == 1), xLF a0, AbC 75 (xEq (xOu a0) r1) (xCV r2), Ln r2 + Ln [32] ≤ Lim, AbC 76 (xER (Exp.n a0)) (xDJ r3), Ln (r2 ++ [32]) + Ln r3 ≤ Lim, Ln ((r2 ++ [32]) ++ r3) + Ln [32] ≤ Lim, xLG a0, AbC 75 (xEq (xOv a0) (W (r1 + 1))) (xCV r4), Ln (((r2 ++ [32]) ++ r3) ++ [32]) + Ln r4 ≤ Lim] := by kernel_rfl
theorem vCc {N q0 q1 q2} (g0 : G75 q0) (g1 : G73 q1) (g2 : G39 q2) : ∀ a0 r, xBR N q0 q1 q2 a0 = some r → RE Tryz.f39 I39 (xAZ a0) (xAw r) := fun a0 r h =>
 cE h (fun h0 h => bE h fun r1 h1 h => dE h fk39 (xXd a0 r1) (oc2 h0 (xFg h1) on)) fun h0 h =>
 cE h (fun h1 h => iE h fun h2 h => iE h fun h3 h => dE h fk39 (xXe a0) (oc4 h0 h1 h2 h3 on)) fun h1 h =>
 cE h (fun h2 h => dE h fk39 (xXf a0) (oc3 h0 h1 h2 on)) fun h2 h =>
 cE h (fun h3 h => bE h fun r1 h4 h => iE h fun h5 h => iE h fun h6 h => dE h fk39 (xXg a0 r1) (oc7 h0 h1 h2 h3 (g1 _ _ h4) h5 h6 on)) fun h3 h =>
 cE h (fun h4 h => iE h fun h5 h => bE h fun r1 h6 h => iE h fun h7 h => iE h fun h8 h => dE h fk39 (xXh a0 r1) (oc9 h0 h1 h2 h3 h4 h5 (g1 _ _ h6) h7 h8 on)) fun h4 h =>
 cE h (fun h5 h => iE h fun h6 h => iE h fun h7 h => iE h fun h8 h => bE h fun r1 h9 h => iE h fun h10 h => iE h fun h11 h => iE h fun h12 h => bE h fun r2 h13 h => iE h fun h14 h => dE h fk39 (xXi a0 r1 r2) (oc12 h0 h1 h2 h3 h4 h5 h6 h7 h8 (g2 _ _ h9) h10 h11 (oc3 h12 (g2 _ _ h13) h14 on))) fun h5 h =>
 cE h (fun h6 h => iE h fun h7 h => iE h fun h8 h => iE h fun h9 h => bE h fun r1 h10 h => iE h fun h11 h => iE h fun h12 h => iE h fun h13 h => bE h fun r2 h14 h => iE h fun h15 h => dE h fk39 (xXj a0 r1 r2) (oc12 h0 h1 h2 h3 h4 h5 h6 h7 h8 h9 (g2 _ _ h10) h11 (oc4 h12 h13 (g2 _ _ h14) h15 on))) fun h6 h =>
 cE h (fun h7 h => iE h fun h8 h => bE h fun r1 h9 h => iE h fun h10 h => iE h fun h11 h => iE h fun h12 h => bE h fun r2 h13 h => iE h fun h14 h => iE h fun h15 h => iE h fun h16 h => bE h fun r3 h17 h => iE h fun h18 h => dE h fk39 (xXk a0 r1 r2 r3) (oc12 h0 h1 h2 h3 h4 h5 h6 h7 h8 (g2 _ _ h9) h10 h11 (oc7 h12 (g2 _ _ h13) h14 h15 h16 (g2 _ _ h17) h18 on))) fun h7 h =>
 bE h fun r1 h8 h => cE h (fun h9 h => iE h fun h10 h => bE h fun r2 h11 h => iE h fun h12 h => bE h fun r3 h13 h => iE h fun h14 h => iE h fun h15 h => iE h fun h16 h => bE h fun r4 h17 h => iE h fun h18 h => dE h fk39 (xXl a0 r1 r2 r3 r4) (oc12 h0 h1 h2 h3 h4 h5 h6 h7 (xGG h8) h9 h10 (g0 _ _ _ h11) (oc7 h12 (xIR h13) h14 h15 h16 (g0 _ _ _ h17) h18 on))) fun h9 h =>
 iE h fun h10 h => bE h fun r2 h11 h => iE h fun h12 h => bE h fun r3 h13 h => iE h fun h14 h => iE h fun h15 h => iE h fun h16 h => bE h fun r4 h17 h => iE h fun h18 h => dE h fk39 (xXm a0 r1 r2 r3 r4) (oc12 h0 h1 h2 h3 h4 h5 h6 h7 (xGG h8) h9 h10 (g0 _ _ _ h11) (oc7 h12 (xIR h13) h14 h15 h16 (g0 _ _ _ h17) h18 on))
theorem xJI {N q0 q1 q2} (g0 : G75 q0) (g1 : G73 q1) (g2 : G39 q2) {a0} {r} (h : xBR N q0 q1 q2 a0 = some r) : AbC 39 (xAZ a0) (xAw r) :=
 AbsCalls.of_reach fk39 rfl rfl (Nat.le_of_ble_eq_true rfl) (vCc g0 g1 g2 a0 r h)
theorem xKX {N : Nat} : ∀ d, G75 (xAv N d).c_spec_l12At ∧ G73 (xAv N d).c_spec_l12List ∧ G39 (xAv N d).c_spec_l12Text := by
 intro d
 induction d with
 | zero => exact ⟨fun _ _ _ h => nE h, fun _ _ h => nE h, fun _ _ h => nE h⟩
 | succ d ih =>
  obtain ⟨ih0, ih1, ih2⟩ := ih
  exact ⟨fun _ _ _ h => xKt (N := N) ih0 ih1 ih2 h, fun _ _ h => xJH (N := N) ih0 ih1 ih2 h, fun _ _ h => xJI (N := N) ih0 ih1 ih2 h⟩
theorem xL1 {N : Nat} {a0 : Exp} {r : Str} (h : xJv N a0 = some r) : AbC 39 (xAZ a0) (xAw r) := (xKX N).2.2 _ r h
noncomputable def I21 : Info := { body := (Tryz.f21.body).getD .skip, nt := 8, results := [.tmp 2], keep := [0, 2, 4, 10, 3], live := [], modes := [] }
theorem fk21 : FnOk Tryz.prog 21 Tryz.f21 I21 := ⟨Tryz.func21, by kernel_rfl, by kernel_rfl, by kernel_rfl, by kernel_rfl⟩
def xWt (a0 : Exp) (r1 : Bool) : rE I21 (xDv a0) [Y] [xAE r1] = dn (xCd []) [AbC 22 (xBZ a0) (xAE r1), iY (!r1)] := by kernel_rfl
def xWu (a0 : Exp) (r1 : Bool) (r2 : Str) : rE I21 (xDv a0) [F] [xAE r1, xAw r2] = dn (xCd r2) [AbC 22 (xBZ a0) (xAE r1), iN (!r1), AbC 39 (xAZ a0) (xAw r2)] := by kernel_rfl
theorem vBX {N : Nat} : ∀ a0 r, xFf N a0 = some r → RE Tryz.f21 I21 (xDv a0) (xCd r) := fun a0 r h =>
 bE h fun r1 h0 h => cE h (fun h1 h => dE h fk21 (xWt a0 r1) (oc2 (xB0 h0) h1 on)) fun h1 h =>
 bE h fun r2 h2 h => dE h fk21 (xWu a0 r1 r2) (oc3 (xB0 h0) h1 (xL1 h2) on)
theorem xGF {N : Nat} {a0 : Exp} {r : Str} (h : xFf N  a0 = some r) : AbC 21 (xDv a0) (xCd r) :=
 AbsCalls.of_reach fk21 rfl rfl (Nat.le_of_ble_eq_true rfl) (vBX a0 r h)
noncomputable def I18 : Info := { body := (Tryz.f18.body).getD .skip, nt := 6, results := [.tmp 2], keep := [0, 4], live := [], modes := [] }
theorem fk18 : FnOk Tryz.prog 18 Tryz.f18 I18 := ⟨Tryz.func18, by kernel_rfl, by kernel_rfl, by kernel_rfl, by kernel_rfl⟩
def xWs (a0 : List Int) : rE I18 (xIz a0) [] [] = dn (xDu (dc ((Ln a0 : Int) > 1048576))) [] := by kernel_rfl
theorem vBW {N : Nat} : ∀ a0 r, xJz N a0 = some r → RE Tryz.f18 I18 (xIz a0) (xDu r) := fun a0 r h =>
 dE h fk18 (xWs a0) on
theorem xE5 {N : Nat} {a0 : List Int} {r : Bool} (h : xJz N  a0 = some r) : AbC 18 (xIz a0) (xDu r) :=
 AbsCalls.of_reach fk18 rfl rfl (Nat.le_of_ble_eq_true rfl) (vBW a0 r h)
noncomputable def I37 : Info := { body := (Tryz.f37.body).getD .skip, nt := 32, results := [.tmp 2], keep := [0, 4, 6, 8, 30, 63], live := [(3, [0, 6, 8])], modes := [(3, [(4, .take, false)])] }
theorem fk37 : FnOk Tryz.prog 37 Tryz.f37 I37 := ⟨Tryz.func37, by kernel_rfl, by kernel_rfl, by kernel_rfl, by kernel_rfl⟩
def xPm (x0 : List Int) (x3 x4 : Int) : St := [(0, .v false [.sl .ro .byte x0]), (6, .v false [.int .i64 x3]), (8, .v false [.int .i64 x4])]
def xW9 (x0 : List Int) (x3 x4 : Int) : rS 3 I37 (xPm x0 x3 x4) [Y, Y] [] = st 3 I37 (xPm x0 (andI .i64 (W ((W ((W (x3 * 131)) + (W ((gD x0 (tN x4) Ty.byte.dflt))))) + 7)) 1073741823) (W (x4 + 1))) [iY (dc (x4 < (Ln x0 : Int))), iY (dc (x4 < 4000)), (0 : Int) ≤ x4 ∧ x4 < (Ln x0)] := by kernel_rfl
def xXa (x0 : List Int) (x3 x4 : Int) : rS 3 I37 (xPm x0 x3 x4) [Y, F] [] = dn (xFw (Cur.mk x0 0 x3)) [iY (dc (x4 < (Ln x0 : Int))), iN (dc (x4 < 4000))] := by kernel_rfl
def xXb (x0 : List Int) (x3 x4 : Int) : rS 3 I37 (xPm x0 x3 x4) [F, F] [] = dn (xFw (Cur.mk x0 0 x3)) [iN (dc (x4 < (Ln x0 : Int))), iN false] := by kernel_rfl
def xXc (a0 : List Int) : rE I37 (xHl a0) [] [] = st 3 I37 (xPm a0 (W (26583 + (Ln a0 : Int))) 0) [] := by kernel_rfl
theorem vCa {N : Nat} : ∀ n x0 x3 x4 r, xF4 N n x0 x3 x4 = some r → RS Tryz.f37 I37 3 (xPm x0 x3 x4) (xFw r) := by
 intro n
 induction n with
 | zero => exact fun _ _ _ _ h => nE h
 | succ n ih =>
  exact fun x0 x3 x4 r h =>
   cE h (fun h0 h => cE h (fun h1 h => iE h fun h2 h => tS fk37 (xW9 x0 x3 x4) (oc3 h0 h1 h2 on) (ih _ _ _ _ h)) fun h1 h =>
   dS h fk37 (xXa x0 x3 x4) (oc2 h0 h1 on)) fun h0 h =>
   dS h fk37 (xXb x0 x3 x4) (oc2 h0 rfl on)
theorem vCb {N : Nat} : ∀ a0 r, xGY N a0 = some r → RE Tryz.f37 I37 (xHl a0) (xFw r) := fun a0 r h =>
 tE fk37 (xXc a0) on (vCa _ _ _ _ _ h)
theorem xM8 {N : Nat} {a0 : List Int} {r : Cur} (h : xGY N  a0 = some r) : AbC 37 (xHl a0) (xFw r) :=
 AbsCalls.of_reach fk37 rfl rfl (Nat.le_of_ble_eq_true rfl) (vCb a0 r h)
noncomputable def I100 : Info := { body := (Tryz.f100.body).getD .skip, nt := 58, results := [.tmp 2], keep := [0, 4, 6, 68, 1], live := [], modes := [], ext := [0] }
theorem xVQ : FnOk Tryz.prog 100 Tryz.f100 I100 := ⟨Tryz.func100, by kernel_rfl, by kernel_rfl, by kernel_rfl, by kernel_rfl⟩
abbrev xQz (v0 : Cur) := andI .i64 (xorI .i64 (Int.fdiv (W ((W ((Cur.h v0) * 6364136223846793005)) + 1442695040888963407)) ((2 : Int) ^ (tN 33))) (Int.fdiv (W ((W ((Cur.h v0) * 6364136223846793005)) + 1442695040888963407)) ((2 : Int) ^ (tN 45)))) 255
abbrev xQy (v0 : Cur) := W ((W ((Cur.h v0) * 6364136223846793005)) + 1442695040888963407)
def xR9 (a0 : Cur) : rE I100 (xD4 a0) [Y] [] = dn (xCf ((andI .i64 (W ((xQz a0) + (W ((gD (Cur.b a0) (tN (Cur.i a0)) Ty.byte.dflt))))) 255), (Cur.mk (Cur.b a0) (W ((Cur.i a0) + 1)) (xQy a0)))) [(0 : Int) ≤ 33 ∧ (33 : Int) < 64, (0 : Int) ≤ 45 ∧ (45 : Int) < 64, iY (dc ((Cur.i a0) < (Ln (Cur.b a0) : Int))), (0 : Int) ≤ (Cur.i a0) ∧ (Cur.i a0) < (Ln (Cur.b a0))] := by kernel_rfl
def xSa (a0 : Cur) : rE I100 (xD4 a0) [F] [] = dn (xCf ((xQz a0), (Cur.mk (Cur.b a0) (Cur.i a0) (xQy a0)))) [(0 : Int) ≤ 33 ∧ (33 : Int) < 64, (0 : Int) ≤ 45 ∧ (45 : Int) < 64, iN (dc ((Cur.i a0) < (Ln (Cur.b a0) : Int)))] := by kernel_rfl
theorem vAO {N : Nat} : ∀ a0 r, xFt N a0 = some r → RE Tryz.f100 I100 (xD4 a0) (xCf r) := fun a0 r h =>
 cE h (fun h2 h => iE h fun h3 h => dE h xVQ (xR9 a0) (oc4 (by decide) (by decide) h2 h3 on)) fun h2 h =>
 dE h xVQ (xSa a0) (oc3 (by decide) (by decide) h2 on)
theorem xGf {N : Nat} {a0 : Cur} {r : Int × Cur} (h : xFt N  a0 = some r) : AbC 100 (xD4 a0) (xCf r) :=
 AbsCalls.of_reach xVQ rfl rfl (Nat.le_of_ble_eq_true rfl) (vAO a0 r h)
noncomputable def I62 : Info := { body := (Tryz.f62.body).getD .skip, nt := 37, results := [.tmp 4], keep := [0, 2, 8, 10, 12, 14, 16, 20, 24, 1], live := [], modes := [(9, [(0, .take, false), (2, .take, false), (5, .take, false), (8, .take, false)])], ext := [0] }
theorem fk62 : FnOk Tryz.prog 62 Tryz.f62 I62 := ⟨Tryz.func62, by kernel_rfl, by kernel_rfl, by kernel_rfl, by kernel_rfl⟩
def xYB (a0 : Cur) (a1 : Int) : rE I62 (xAC a0 a1) [Y] [] = dn (xAc (0, a0)) [iY (dc (a1 ≤ 0))] := by kernel_rfl
def xYC (a0 : Cur) (a1 : Int) (r1 : Int × Cur) : rE I62 (xAC a0 a1) [F, Y] [xCf r1] = dn (xAc ((Int.tmod r1.1 a1), r1.2)) [iN (dc (a1 ≤ 0)), iY (dc (a1 ≤ 256)), AbC 100 (xD4 a0) (xCf r1), a1 ≠ (0 : Int)] := by kernel_rfl
def xYD (a0 : Cur) (a1 : Int) (r1 : Int × Cur) (r2 : Int × Cur) (r3 : Int × Cur) (r4 : Int × Cur) : rE I62 (xAC a0 a1) [F, F] [xCf r1, xCf r2, xCf r3, xCf r4] = dn (xAc ((Int.tmod (W ((W ((W ((W (r1.1 * 16777216)) + (W (r2.1 * 65536)))) + (W (r3.1 * 256)))) + r4.1)) a1), r4.2)) [iN (dc (a1 ≤ 0)), iN (dc (a1 ≤ 256)), AbC 100 (xD4 a0) (xCf r1), AbC 100 (xD4 r1.2) (xCf r2), AbC 100 (xD4 r2.2) (xCf r3), AbC 100 (xD4 r3.2) (xCf r4), a1 ≠ (0 : Int)] := by kernel_rfl
theorem vCH {N : Nat} : ∀ a0 a1 r, xAR N a0 a1 = some r → RE Tryz.f62 I62 (xAC a0 a1) (xAc r) := fun a0 a1 r h =>
 cE h (fun h0 h => dE h fk62 (xYB a0 a1) (oc h0 on)) fun h0 h =>
 cE h (fun h1 h => bE h fun r1 h2 h => iE h fun h3 h => dE h fk62 (xYC a0 a1 r1) (oc4 h0 h1 (xGf h2) h3 on)) fun h1 h =>
 bE h fun r1 h2 h => bE h fun r2 h3 h => bE h fun r3 h4 h => bE h fun r4 h5 h => iE h fun h6 h => dE h fk62 (xYD a0 a1 r1 r2 r3 r4) (oc7 h0 h1 (xGf h2) (xGf h3) (xGf h4) (xGf h5) h6 on)
theorem xAh {N : Nat} {a0 : Cur} {a1 : Int} {r : Int × Cur} (h : xAR N  a0 a1 = some r) : AbC 62 (xAC a0 a1) (xAc r) :=
 AbsCalls.of_reach fk62 rfl rfl (Nat.le_of_ble_eq_true rfl) (vCH a0 a1 r h)
noncomputable def I64 : Info := { body := (Tryz.f64.body).getD .skip, nt := 12, results := [.tmp 4], keep := [0, 2, 8, 1], live := [], modes := [], ext := [0] }
theorem fk64 : FnOk Tryz.prog 64 Tryz.f64 I64 := ⟨Tryz.func64, by kernel_rfl, by kernel_rfl, by kernel_rfl, by kernel_rfl⟩
def xYI (a0 : Cur) (a1 : List Str) (r1 : Int × Cur) : rE I64 (xCs a0 a1) [] [xAc r1] = dn (xA0 ((gD a1 (tN r1.1) Ty.str.dflt), r1.2)) [AbC 62 (xAC a0 (Ln a1 : Int)) (xAc r1), (0 : Int) ≤ r1.1 ∧ r1.1 < (Ln a1)] := by kernel_rfl
theorem vCJ {N : Nat} : ∀ a0 a1 r, xC0 N a0 a1 = some r → RE Tryz.f64 I64 (xCs a0 a1) (xA0 r) := fun a0 a1 r h =>
 bE h fun r1 h0 h => iE h fun h1 h => dE h fk64 (xYI a0 a1 r1) (oc2 (xAh h0) h1 on)
theorem xDr {N : Nat} {a0 : Cur} {a1 : List Str} {r : Str × Cur} (h : xC0 N  a0 a1 = some r) : AbC 64 (xCs a0 a1) (xA0 r) :=
 AbsCalls.of_reach fk64 rfl rfl (Nat.le_of_ble_eq_true rfl) (vCJ a0 a1 r h)
noncomputable def I63 : Info := { body := (Tryz.f63.body).getD .skip, nt := 23, results := [.cell 4 25], keep := [0, 2, 8, 12, 14, 26, 1, 9], live := [], modes := [(3, [(1, .cp, true)])], ext := [0] }
theorem fk63 : FnOk Tryz.prog 63 Tryz.f63 I63 := ⟨Tryz.func63, by kernel_rfl, by kernel_rfl, by kernel_rfl, by kernel_rfl⟩
abbrev xKO (v0 : Cur) (v1 : Int × Cur) : Prop := AbC 62 (xAC v0 5) (xAc v1)
def xYE (a0 : Cur) (a1 : List Str) (r1 : Int × Cur) (r2 : Str × Cur) : rE I63 (xDx a0 a1) [Y] [xAc r1, xA0 r2] = dn (xCk ((Exp.mk 2 0 r2.1 []), r2.2)) [xKO a0 r1, iY (r1.1 == 0), AbC 64 (xCs r1.2 [[97], [97, 98], [], [98]]) (xA0 r2)] := by kernel_rfl
abbrev xFq (v0 : Int × Cur) : Prop := iN (v0.1 == 0)
abbrev xKP (v0 v1 : Int × Cur) : Prop := AbC 62 (xAC v0.2 6) (xAc v1)
abbrev xIb (v0 : Int × Cur) (v1 : Exp) : Prop := AbC 67 (xFB v0.1) (xBs v1)
def xYF (a0 : Cur) (a1 : List Str) (r1 : Int × Cur) (r2 : Int × Cur) (r3 : Exp) : rE I63 (xDx a0 a1) [F, Y, Y] [xAc r1, xAc r2, xBs r3] = dn (xCk (r3, r2.2)) [xKO a0 r1, xFq r1, iY (r1.1 == 1), iY (r1.1 == 1), xKP r1 r2, xIb r2 r3] := by kernel_rfl
abbrev xGr (v0 : Int × Cur) : Prop := iN (v0.1 == 1)
def xYG (a0 : Cur) (a1 : List Str) (r1 : Int × Cur) (r2 : Int × Cur) (r3 : Exp) : rE I63 (xDx a0 a1) [F, F, Y] [xAc r1, xAc r2, xBs r3] = dn (xCk (r3, r2.2)) [xKO a0 r1, xFq r1, xGr r1, iY (r1.1 == 2), xKP r1 r2, xIb r2 r3] := by kernel_rfl
abbrev xHC (v0 : Int × Cur) : Prop := iN (v0.1 == 2)
def xYH (a0 : Cur) (a1 : List Str) (r1 : Int × Cur) (r2 : Str × Cur) (r3 : Exp) : rE I63 (xDx a0 a1) [F, F, F] [xAc r1, xA0 r2, xEJ r3] = dn (xCk (r3, r2.2)) [xKO a0 r1, xFq r1, xGr r1, xHC r1, AbC 64 (xCs r1.2 a1) (xA0 r2), AbC 101 (xFU r2.1) (xEJ r3)] := by kernel_rfl
theorem vCI {N : Nat} : ∀ a0 a1 r, xGy N a0 a1 = some r → RE Tryz.f63 I63 (xDx a0 a1) (xCk r) := fun a0 a1 r h =>
 bE h fun r1 h0 h => cE h (fun h1 h => bE h fun r2 h2 h => dE h fk63 (xYE a0 a1 r1 r2) (oc3 (xAh h0) h1 (xDr h2) on)) fun h1 h =>
 cE h (fun h2 h => bE h fun r2 h4 h => bE h fun r3 h5 h => dE h fk63 (xYF a0 a1 r1 r2 r3) (oc6 (xAh h0) h1 h2 h2 (xAh h4) (xCN h5) on)) fun h2 h =>
 cE h (fun h3 h => bE h fun r2 h4 h => bE h fun r3 h5 h => dE h fk63 (xYG a0 a1 r1 r2 r3) (oc6 (xAh h0) h1 h2 h3 (xAh h4) (xCN h5) on)) fun h3 h =>
 bE h fun r2 h4 h => bE h fun r3 h5 h => dE h fk63 (xYH a0 a1 r1 r2 r3) (oc6 (xAh h0) h1 h2 h3 (xDr h4) (xJt h5) on)
theorem xHI {N : Nat} {a0 : Cur} {a1 : List Str} {r : Exp × Cur} (h : xGy N  a0 a1 = some r) : AbC 63 (xDx a0 a1) (xCk r) :=
 AbsCalls.of_reach fk63 rfl rfl (Nat.le_of_ble_eq_true rfl) (vCI a0 a1 r h)
noncomputable def I132 : Info := { body := (Tryz.f132.body).getD .skip, nt := 9, results := [.tmp 4], keep := [0, 2, 8, 1], live := [], modes := [], ext := [0] }
theorem vBv : FnOk Tryz.prog 132 Tryz.f132 I132 := ⟨Tryz.func132, by kernel_rfl, by kernel_rfl, by kernel_rfl, by kernel_rfl⟩
def xT0 (a0 : Cur) (a1 : Int) (r1 : Int × Cur) : rE I132 (xFb a0 a1) [] [xAc r1] = dn (xDb ((r1.1 == 0), r1.2)) [AbC 62 (xAC a0 a1) (xAc r1)] := by kernel_rfl
theorem vBi {N : Nat} : ∀ a0 a1 r, xFW N a0 a1 = some r → RE Tryz.f132 I132 (xFb a0 a1) (xDb r) := fun a0 a1 r h =>
 bE h fun r1 h0 h => dE h vBv (xT0 a0 a1 r1) (oc (xAh h0) on)
theorem xG2 {N : Nat} {a0 : Cur} {a1 : Int} {r : Bool × Cur} (h : xFW N  a0 a1 = some r) : AbC 132 (xFb a0 a1) (xDb r) :=
 AbsCalls.of_reach vBv rfl rfl (Nat.le_of_ble_eq_true rfl) (vBi a0 a1 r h)
noncomputable def I118 : Info := { body := (Tryz.f118.body).getD .skip, nt := 34, results := [.cell 4 25], keep := [0, 2, 8, 10, 12, 14, 26, 50, 1, 9, 11], live := [(4, [0, 2, 8, 10, 12, 14, 1, 9, 11])], modes := [(4, [(1, .take, false)]), (6, [(1, .take, false), (6, .take, false)]), (8, [(1, .ref, false)]), (9, [(0, .take, false)])], ext := [0] }
theorem xP2 : FnOk Tryz.prog 118 Tryz.f118 I118 := ⟨Tryz.func118, by kernel_rfl, by kernel_rfl, by kernel_rfl, by kernel_rfl⟩
def xLo (x1 : List Str) (x6 x7 : Int) (b0 : Cur) (b4 b5 : Exp) : St := [(0, .v false [.ptr 0 0]), (2, .v false [.sl .ro .str x1]), (8, .v false [.ptr 4 0]), (10, .v false [.ptr 5 0]), (12, .v false [.int .i64 x6]), (14, .v false [.int .i64 x7]), (1, .v true [.sl .ro .byte (Cur.b b0), .int .i64 (Cur.i b0), .int .i64 (Cur.h b0)]), (9, .v true [.int .i64 (Exp.kind b4), .int .i64 (Exp.n b4), .str (Exp.text b4), .sl .own .exp (Exp.args b4)]), (11, .v true [.int .i64 (Exp.kind b5), .int .i64 (Exp.n b5), .str (Exp.text b5), .sl .own .exp (Exp.args b5)])]
def xTs (x1 : List Str) (x6 x7 : Int) (b0 : Cur) (b4 b5 : Exp) (r1 : Int × Cur) (r2 : Exp) (r3 : Bool × Cur) (r4 : Exp × Cur) : rS 4 I118 (xLo x1 x6 x7 b0 b4 b5) [Y, Y] [xAc r1, xBs r2, xDb r3, xCk r4] = st 4 I118 (xLo x1 x6 (W (x7 + 1)) r4.2 b4 (Exp.mk (Exp.kind b5) (Exp.n b5) (Exp.text b5) ((fun (z2 : List Exp) => List.set z2 (tN x7) (Exp.re r4.1)) ((Exp.args b5) ++ [(Exp.re r2)])))) [xH9 x7 x6, xKO b0 r1, xIb r1 r2, Ln (Exp.args b5) + Ln [(Exp.re r2)] ≤ Lim, AbC 132 (xFb r1.2 4) (xDb r3), iY r3.1, AbC 63 (xDx r3.2 x1) (xCk r4), (0 : Int) ≤ x7 ∧ x7 < (Ln ((Exp.args b5) ++ [(Exp.re r2)]))] := by kernel_rfl
def xTt (x1 : List Str) (x6 x7 : Int) (b0 : Cur) (b4 b5 : Exp) (r1 : Int × Cur) (r2 : Exp) (r3 : Bool × Cur) : rS 4 I118 (xLo x1 x6 x7 b0 b4 b5) [Y, F] [xAc r1, xBs r2, xDb r3] = st 4 I118 (xLo x1 x6 (W (x7 + 1)) r3.2 b4 (Exp.mk (Exp.kind b5) (Exp.n b5) (Exp.text b5) ((Exp.args b5) ++ [(Exp.re r2)]))) [xH9 x7 x6, xKO b0 r1, xIb r1 r2, Ln (Exp.args b5) + Ln [(Exp.re r2)] ≤ Lim, AbC 132 (xFb r1.2 4) (xDb r3), iN r3.1] := by kernel_rfl
def xTu (x1 : List Str) (x6 x7 : Int) (b0 : Cur) (b4 b5 : Exp) : rS 4 I118 (xLo x1 x6 x7 b0 b4 b5) [F] [] = dn (xCl (b5, b0)) [iN (dc (x7 < x6))] := by kernel_rfl
def xTv (a0 : Cur) (a1 : List Str) (r1 : Int × Cur) : rE I118 (xEH a0 a1) [] [xAc r1] = st 4 I118 (xLo a1 r1.1 0 r1.2 (Exp.mk 0 0 [] []) (Exp.mk 4 0 [] [])) [AbC 62 (xAC a0 4) (xAc r1)] := by kernel_rfl
theorem vA5 {N : Nat} : ∀ n x1 x6 x7 b0 b4 b5 r, xEI N n x1 x6 x7 b0 b4 b5 = some r → RS Tryz.f118 I118 4 (xLo x1 x6 x7 b0 b4 b5) (xCl r) := by
 intro n
 induction n with
 | zero => exact fun _ _ _ _ _ _ _ h => nE h
 | succ n ih =>
  exact fun x1 x6 x7 b0 b4 b5 r h =>
   cE h (fun h0 h => bE h fun r1 h1 h => bE h fun r2 h2 h => iE h fun h3 h => bE h fun r3 h4 h => cE h (fun h5 h => bE h fun r4 h6 h => iE h fun h7 h => tS xP2 (xTs x1 x6 x7 b0 b4 b5 r1 r2 r3 r4) (oc8 h0 (xAh h1) (xCN h2) h3 (xG2 h4) h5 (xHI h6) h7 on) (ih _ _ _ _ _ _ _ h)) fun h5 h =>
   tS xP2 (xTt x1 x6 x7 b0 b4 b5 r1 r2 r3) (oc6 h0 (xAh h1) (xCN h2) h3 (xG2 h4) h5 on) (ih _ _ _ _ _ _ _ h)) fun h0 h =>
   dS h xP2 (xTu x1 x6 x7 b0 b4 b5) (oc h0 on)
theorem vA6 {N : Nat} : ∀ a0 a1 r, xFT N a0 a1 = some r → RE Tryz.f118 I118 (xEH a0 a1) (xCl r) := fun a0 a1 r h =>
 bE h fun r1 h0 h => tE xP2 (xTv a0 a1 r1) (oc (xAh h0) on) (vA5 _ _ _ _ _ _ _ _ h)
theorem xGI {N : Nat} {a0 : Cur} {a1 : List Str} {r : Exp × Cur} (h : xFT N  a0 a1 = some r) : AbC 118 (xEH a0 a1) (xCl r) :=
 AbsCalls.of_reach xP2 rfl rfl (Nat.le_of_ble_eq_true rfl) (vA6 a0 a1 r h)
noncomputable def I120 : Info := { body := (Tryz.f120.body).getD .skip, nt := 11, results := [.cell 6 25], keep := [0, 2, 4, 8, 10, 12, 16, 1, 9, 11, 13], live := [], modes := [], ext := [0] }
theorem xVS : FnOk Tryz.prog 120 Tryz.f120 I120 := ⟨Tryz.func120, by kernel_rfl, by kernel_rfl, by kernel_rfl, by kernel_rfl⟩
def xTx (a0 : Cur) (a1 a2 : Exp) (r1 : Bool × Cur) : rE I120 (xCg a0 a1 a2) [Y] [xDb r1] = dn (xA3 (a1, r1.2)) [AbC 132 (xFb a0 2) (xDb r1), iY r1.1] := by kernel_rfl
def xTy (a0 : Cur) (a1 a2 : Exp) (r1 : Bool × Cur) : rE I120 (xCg a0 a1 a2) [F] [xDb r1] = dn (xA3 (a2, r1.2)) [AbC 132 (xFb a0 2) (xDb r1), iN r1.1] := by kernel_rfl
theorem vA8 {N : Nat} : ∀ a0 a1 a2 r, xDC N a0 a1 a2 = some r → RE Tryz.f120 I120 (xCg a0 a1 a2) (xA3 r) := fun a0 a1 a2 r h =>
 bE h fun r1 h0 h => cE h (fun h1 h => dE h xVS (xTx a0 a1 a2 r1) (oc2 (xG2 h0) h1 on)) fun h1 h =>
 dE h xVS (xTy a0 a1 a2 r1) (oc2 (xG2 h0) h1 on)
theorem xEg {N : Nat} {a0 : Cur} {a1 : Exp} {a2 : Exp} {r : Exp × Cur} (h : xDC N  a0 a1 a2 = some r) : AbC 120 (xCg a0 a1 a2) (xA3 r) :=
 AbsCalls.of_reach xVS rfl rfl (Nat.le_of_ble_eq_true rfl) (vA8 a0 a1 a2 r h)
noncomputable def I119 : Info := { body := (Tryz.f119.body).getD .skip, nt := 8, results := [.cell 4 25], keep := [0, 2, 8, 9], live := [], modes := [] }
theorem vBs : FnOk Tryz.prog 119 Tryz.f119 I119 := ⟨Tryz.func119, by kernel_rfl, by kernel_rfl, by kernel_rfl, by kernel_rfl⟩
def xTw (a0 : Str) (a1 : List Exp) : rE I119 (xB8 a0 a1) [] [] = dn (xAQ (Exp.mk 5 0 a0 a1)) [] := by kernel_rfl
theorem vA7 {N : Nat} : ∀ a0 a1 r, xC2 N a0 a1 = some r → RE Tryz.f119 I119 (xB8 a0 a1) (xAQ r) := fun a0 a1 r h =>
 dE h vBs (xTw a0 a1) on
theorem xC7 {N : Nat} {a0 : Str} {a1 : List Exp} {r : Exp} (h : xC2 N  a0 a1 = some r) : AbC 119 (xB8 a0 a1) (xAQ r) :=
 AbsCalls.of_reach vBs rfl rfl (Nat.le_of_ble_eq_true rfl) (vA7 a0 a1 r h)
noncomputable def I121 : Info := { body := (Tryz.f121.body).getD .skip, nt := 7, results := [.cell 2 25], keep := [0, 4, 1, 5], live := [], modes := [(1, [(1, .cp, true)])], ext := [0] }
theorem vBt : FnOk Tryz.prog 121 Tryz.f121 I121 := ⟨Tryz.func121, by kernel_rfl, by kernel_rfl, by kernel_rfl, by kernel_rfl⟩
def xTz (a0 : Cur) (r1 : Str × Cur) : rE I121 (xEA a0) [] [xA0 r1] = dn (xCU ((Exp.mk 2 0 r1.1 []), r1.2)) [AbC 64 (xCs a0 [[97], [97], [98], [99], [120]]) (xA0 r1)] := by kernel_rfl
theorem vA9 {N : Nat} : ∀ a0 r, xFA N a0 = some r → RE Tryz.f121 I121 (xEA a0) (xCU r) := fun a0 r h =>
 bE h fun r1 h0 h => dE h vBt (xTz a0 r1) (oc (xDr h0) on)
theorem xGV {N : Nat} {a0 : Cur} {r : Exp × Cur} (h : xFA N  a0 = some r) : AbC 121 (xEA a0) (xCU r) :=
 AbsCalls.of_reach vBt rfl rfl (Nat.le_of_ble_eq_true rfl) (vA9 a0 r h)
noncomputable def I122 : Info := { body := (Tryz.f122.body).getD .skip, nt := 31, results := [.cell 2 25], keep := [0, 4, 6, 8, 10, 22, 1, 5, 7], live := [(4, [0, 4, 6, 8, 10, 1, 5, 7])], modes := [(4, [(1, .take, false)]), (6, [(1, .take, false), (11, .take, false)]), (7, [(1, .take, false), (2, .cp, true), (3, .take, false)])], ext := [0] }
theorem xRW : FnOk Tryz.prog 122 Tryz.f122 I122 := ⟨Tryz.func122, by kernel_rfl, by kernel_rfl, by kernel_rfl, by kernel_rfl⟩
def xNc (x4 x5 : Int) (b0 : Cur) (b2 b3 : Exp) : St := [(0, .v false [.ptr 0 0]), (4, .v false [.ptr 2 0]), (6, .v false [.ptr 3 0]), (8, .v false [.int .i64 x4]), (10, .v false [.int .i64 x5]), (1, .v true [.sl .ro .byte (Cur.b b0), .int .i64 (Cur.i b0), .int .i64 (Cur.h b0)]), (5, .v true [.int .i64 (Exp.kind b2), .int .i64 (Exp.n b2), .str (Exp.text b2), .sl .own .exp (Exp.args b2)]), (7, .v true [.int .i64 (Exp.kind b3), .int .i64 (Exp.n b3), .str (Exp.text b3), .sl .own .exp (Exp.args b3)])]
def xTA (x4 x5 : Int) (b0 : Cur) (b2 b3 : Exp) (r1 : Int × Cur) (r2 : Exp) (r3 : Int × Cur) (r4 : Exp) : rS 4 I122 (xNc x4 x5 b0 b2 b3) [Y] [xAc r1, xBs r2, xAc r3, xBs r4] = st 4 I122 (xNc x4 (W (x5 + 1)) r3.2 b2 (Exp.mk (Exp.kind b3) (Exp.n b3) (Exp.text b3) ((Exp.args b3) ++ [(Exp.mk 4 0 [] [(Exp.re r2), (Exp.re r4)])]))) [xH9 x5 x4, AbC 62 (xAC b0 3) (xAc r1), xIb r1 r2, AbC 62 (xAC r1.2 4) (xAc r3), xIb r3 r4, Ln (Exp.args b3) + Ln [(Exp.mk 4 0 [] [(Exp.re r2), (Exp.re r4)])] ≤ Lim] := by kernel_rfl
def xTB (x4 x5 : Int) (b0 : Cur) (b2 b3 r1 : Exp) : rS 4 I122 (xNc x4 x5 b0 b2 b3) [F] [xAQ r1] = dn (xCO (r1, b0)) [iN (dc (x5 < x4)), AbC 119 (xB8 [116, 97, 98, 108, 101] [(Exp.mk 2 0 [97, 32, 98] []), (Exp.re b3)]) (xAQ r1)] := by kernel_rfl
def xTC (a0 : Cur) (r1 : Int × Cur) : rE I122 (xEU a0) [] [xAc r1] = st 4 I122 (xNc r1.1 0 r1.2 (Exp.mk 0 0 [] []) (Exp.mk 4 0 [] [])) [AbC 62 (xAC a0 4) (xAc r1)] := by kernel_rfl
theorem vBa {N : Nat} : ∀ n x4 x5 b0 b2 b3 r, xEV N n x4 x5 b0 b2 b3 = some r → RS Tryz.f122 I122 4 (xNc x4 x5 b0 b2 b3) (xCO r) := by
 intro n
 induction n with
 | zero => exact fun _ _ _ _ _ _ h => nE h
 | succ n ih =>
  exact fun x4 x5 b0 b2 b3 r h =>
   cE h (fun h0 h => bE h fun r1 h1 h => bE h fun r2 h2 h => bE h fun r3 h3 h => bE h fun r4 h4 h => iE h fun h5 h => tS xRW (xTA x4 x5 b0 b2 b3 r1 r2 r3 r4) (oc6 h0 (xAh h1) (xCN h2) (xAh h3) (xCN h4) h5 on) (ih _ _ _ _ _ _ h)) fun h0 h =>
   bE h fun r1 h1 h => dS h xRW (xTB x4 x5 b0 b2 b3 r1) (oc2 h0 (xC7 h1) on)
theorem vBb {N : Nat} : ∀ a0 r, xF2 N a0 = some r → RE Tryz.f122 I122 (xEU a0) (xCO r) := fun a0 r h =>
 bE h fun r1 h0 h => tE xRW (xTC a0 r1) (oc (xAh h0) on) (vBa _ _ _ _ _ _ _ h)
theorem xHf {N : Nat} {a0 : Cur} {r : Exp × Cur} (h : xF2 N  a0 = some r) : AbC 122 (xEU a0) (xCO r) :=
 AbsCalls.of_reach xRW rfl rfl (Nat.le_of_ble_eq_true rfl) (vBb a0 r h)
def G99 (q : Cur → (List Str) → Int → Option (Exp × Cur)) : Prop := ∀ a0 a1 a2 r, q a0 a1 a2 = some r → AbC 99 (xAF a0 a1 a2) (xAj r)
noncomputable def I99 : Info := { body := (Tryz.f99.body).getD .skip, nt := 209, results := [.cell 6 25], keep := [0, 2, 4, 12, 14, 16, 20, 30, 32, 66, 114, 152, 198, 208, 242, 288, 324, 358, 384, 1, 13], live := [], modes := [(8, [(4, .cp, true), (5, .take, false)]), (9, [(10, .cp, true), (13, .take, false)]), (13, [(4, .cp, true), (5, .take, false)]), (14, [(9, .cp, true), (12, .take, false)]), (18, [(1, .cp, true), (2, .take, false), (6, .cp, true), (12, .take, false), (13, .cp, true), (14, .take, false)]), (20, [(1, .cp, true), (2, .take, false), (9, .cp, true), (16, .cp, true), (17, .take, false), (18, .take, false), (19, .cp, true), (20, .take, false)]), (22, [(14, .cp, true), (15, .take, false)]), (24, [(13, .cp, true), (14, .take, false)]), (26, [(9, .cp, true), (10, .take, false)]), (28, [(4, .cp, true), (5, .take, false)]), (29, [(3, .cp, true), (4, .take, false), (6, .cp, true), (7, .take, false)])], ext := [0], fcast := [(13, 3, true)] }
theorem fk99 : FnOk Tryz.prog 99 Tryz.f99 I99 := ⟨Tryz.func99, by kernel_rfl, by kernel_rfl, by kernel_rfl, by kernel_rfl⟩
def vAm (a0 : Cur) (a1 : List Str) (a2 : Int) (r1 : Exp × Cur) : rE I99 (xAF a0 a1 a2) [Y] [xCk r1] = dn (xAj (r1.1, r1.2)) [iY (dc (a2 < 2)), AbC 63 (xDx a0 a1) (xCk r1)] := by kernel_rfl
abbrev xGT (v0 : Int) : Prop := iN (dc (v0 < 2))
abbrev xGU (v0 : Cur) (v1 : Int × Cur) : Prop := AbC 62 (xAC v0 13) (xAc v1)
abbrev xJe (v0 : Exp × Cur) (v1 : List Str) (v2 : Int) (v3 : Exp × Cur) : Prop := AbC 99 (xAF v0.2 v1 (W (v2 - 1))) (xAj v3)
def vAn (a0 : Cur) (a1 : List Str) (a2 : Int) (r1 : Int × Cur) (r2 : Int × Cur) (r3 : Exp × Cur) (r4 : Exp × Cur) (r5 : Exp) : rE I99 (xAF a0 a1 a2) [F, Y, Y] [xAc r1, xAc r2, xAj r3, xAj r4, xBp r5] = dn (xAj (r5, r4.2)) [xGT a2, xGU a0 r1, iY (r1.1 == 0), iY (r1.1 == 0), AbC 62 (xAC r1.2 5) (xAc r2), AbC 99 (xAF r2.2 a1 (W (a2 - 1))) (xAj r3), xJe r3 a1 a2 r4, AbC 66 (xDi (W (1 + r2.1)) r3.1 r4.1) (xBp r5)] := by kernel_rfl
def vAo (a0 : Cur) (a1 : List Str) (a2 : Int) (r1 : Int × Cur) (r2 : Int × Cur) (r3 : Exp × Cur) (r4 : Exp × Cur) (r5 : Exp) : rE I99 (xAF a0 a1 a2) [F, F, Y] [xAc r1, xAc r2, xAj r3, xAj r4, xBp r5] = dn (xAj (r5, r4.2)) [xGT a2, xGU a0 r1, xFq r1, iY (r1.1 == 1), AbC 62 (xAC r1.2 5) (xAc r2), AbC 99 (xAF r2.2 a1 (W (a2 - 1))) (xAj r3), xJe r3 a1 a2 r4, AbC 66 (xDi (W (1 + r2.1)) r3.1 r4.1) (xBp r5)] := by kernel_rfl
def vAp (a0 : Cur) (a1 : List Str) (a2 : Int) (r1 : Int × Cur) (r2 : Str × Cur) (r3 : Exp × Cur) (r4 : Exp × Cur) : rE I99 (xAF a0 a1 a2) [F, F, F, Y] [xAc r1, xA0 r2, xAj r3, xAj r4] = dn (xAj ((Exp.mk 7 0 r2.1 [(Exp.re r3.1), (Exp.re r4.1)]), r4.2)) [xGT a2, xGU a0 r1, xFq r1, xGr r1, iY (r1.1 == 2), (0 : Int) ≤ 0 ∧ (0 : Int) < (Ln a1), AbC 64 (xCs r1.2 [[117], [118], (gD a1 (tN 0) Ty.str.dflt)]) (xA0 r2), AbC 99 (xAF r2.2 a1 (W (a2 - 1))) (xAj r3), Ln [r2.1] + Ln a1 ≤ Lim, AbC 99 (xAF r3.2 ([r2.1] ++ a1) (W (a2 - 1))) (xAj r4)] := by kernel_rfl
def vAq (a0 : Cur) (a1 : List Str) (a2 : Int) (r1 : Int × Cur) (r2 : Exp × Cur) (r3 : Exp × Cur) (r4 : Exp × Cur) : rE I99 (xAF a0 a1 a2) [F, F, F, F, Y] [xAc r1, xAj r2, xAj r3, xAj r4] = dn (xAj ((Exp.mk 8 0 [] [(Exp.re r2.1), (Exp.re r3.1), (Exp.re r4.1)]), r4.2)) [xGT a2, xGU a0 r1, xFq r1, xGr r1, xHC r1, iY (r1.1 == 3), AbC 99 (xAF r1.2 a1 (W (a2 - 1))) (xAj r2), xJe r2 a1 a2 r3, xJe r3 a1 a2 r4] := by kernel_rfl
abbrev xIF (v0 : Int × Cur) : Prop := iN (v0.1 == 3)
def vAr (a0 : Cur) (a1 : List Str) (a2 : Int) (r1 : Int × Cur) (r2 : Str × Cur) (r3 : Exp × Cur) (r4 : Exp × Cur) : rE I99 (xAF a0 a1 a2) [F, F, F, F, F, Y] [xAc r1, xA0 r2, xCl r3, xAj r4] = dn (xAj ((Exp.mk 9 0 r2.1 [(Exp.re r3.1), (Exp.re r4.1)]), r4.2)) [xGT a2, xGU a0 r1, xFq r1, xGr r1, xHC r1, xIF r1, iY (r1.1 == 4), (0 : Int) ≤ 0 ∧ (0 : Int) < (Ln a1), AbC 64 (xCs r1.2 [[117], [118], (gD a1 (tN 0) Ty.str.dflt)]) (xA0 r2), AbC 118 (xEH r2.2 a1) (xCl r3), Ln [r2.1, r2.1] + Ln a1 ≤ Lim, AbC 99 (xAF r3.2 ([r2.1, r2.1] ++ a1) (W (a2 - 1))) (xAj r4)] := by kernel_rfl
def vAs (a0 : Cur) (a1 : List Str) (a2 : Int) (r1 : Int × Cur) (r2 : Exp × Cur) : rE I99 (xAF a0 a1 a2) [F, F, F, F, F, F, Y] [xAc r1, xCl r2] = dn (xAj (r2.1, r2.2)) [xGT a2, xGU a0 r1, xFq r1, xGr r1, xHC r1, xIF r1, iN (r1.1 == 4), iY (r1.1 == 5), AbC 118 (xEH r1.2 a1) (xCl r2)] := by kernel_rfl
def vAt (a0 : Cur) (a1 : List Str) (a2 : Int) (r1 : Int × Cur) (r2 : Str × Cur) (r3 : Exp × Cur) (r4 : Exp × Cur) (r5 : Exp × Cur) (r6 : Exp) : rE I99 (xAF a0 a1 a2) [F, F, F, F, F, F, F, Y] [xAc r1, xA0 r2, xCl r3, xAj r4, xA3 r5, xAQ r6] = dn (xAj (r6, r5.2)) [xGT a2, xGU a0 r1, xFq r1, xGr r1, xHC r1, xIF r1, iN (r1.1 == 4), iN (r1.1 == 5), iY (r1.1 == 6), AbC 64 (xCs r1.2 [[108, 101, 110], [115, 117, 109]]) (xA0 r2), AbC 118 (xEH r2.2 a1) (xCl r3), xJe r3 a1 a2 r4, AbC 120 (xCg r4.2 r3.1 r4.1) (xA3 r5), AbC 119 (xB8 r2.1 [(Exp.re r5.1)]) (xAQ r6)] := by kernel_rfl
def vAu (a0 : Cur) (a1 : List Str) (a2 : Int) (r1 : Int × Cur) (r2 : Str × Cur) (r3 : Int × Cur) (r4 : Exp) (r5 : Exp × Cur) (r6 : Int × Cur) (r7 : Exp) (r8 : Int × Cur) (r9 r10 : Exp) (r11 : Exp × Cur) (r12 : Exp) : rE I99 (xAF a0 a1 a2) [F, F, F, F, F, F, F, F, Y] [xAc r1, xA0 r2, xAc r3, xBs r4, xCl r5, xAc r6, xBs r7, xAc r8, xBs r9, xAQ r10, xA3 r11, xAQ r12] = dn (xAj (r12, r11.2)) [xGT a2, xGU a0 r1, xFq r1, xGr r1, xHC r1, xIF r1, iN (r1.1 == 4), iN (r1.1 == 5), iN (r1.1 == 6), iY (r1.1 == 7), AbC 64 (xCs r1.2 [[116, 97, 107, 101], [115, 107, 105, 112], [110, 116, 104], [116, 97, 107, 101]]) (xA0 r2), AbC 62 (xAC r2.2 4) (xAc r3), xIb r3 r4, AbC 118 (xEH r3.2 a1) (xCl r5), AbC 62 (xAC r5.2 9) (xAc r6), xIb r6 r7, AbC 62 (xAC r6.2 4) (xAc r8), xIb r8 r9, AbC 119 (xB8 [114, 97, 110, 103, 101] [(Exp.re r7), (Exp.re r9)]) (xAQ r10), AbC 120 (xCg r8.2 r5.1 r10) (xA3 r11), AbC 119 (xB8 r2.1 [(Exp.re r4), (Exp.re r11.1)]) (xAQ r12)] := by kernel_rfl
def vAv (a0 : Cur) (a1 : List Str) (a2 : Int) (r1 : Int × Cur) (r2 : Exp × Cur) (r3 : Int × Cur) (r4 : Exp) (r5 : Exp × Cur) (r6 : Exp × Cur) (r7 : Exp × Cur) (r8 : Exp) : rE I99 (xAF a0 a1 a2) [F, F, F, F, F, F, F, F, F, Y] [xAc r1, xCU r2, xAc r3, xBs r4, xCO r5, xAj r6, xA3 r7, xAQ r8] = dn (xAj (r8, r7.2)) [xGT a2, xGU a0 r1, xFq r1, xGr r1, xHC r1, xIF r1, iN (r1.1 == 4), iN (r1.1 == 5), iN (r1.1 == 6), iN (r1.1 == 7), iY (r1.1 == 8), AbC 121 (xEA r1.2) (xCU r2), AbC 62 (xAC r2.2 3) (xAc r3), xIb r3 r4, AbC 122 (xEU r3.2) (xCO r5), xJe r5 a1 a2 r6, AbC 120 (xCg r6.2 r5.1 r6.1) (xA3 r7), AbC 119 (xB8 [119, 104, 101, 114, 101] [(Exp.re r2.1), (Exp.re r4), (Exp.re r7.1)]) (xAQ r8)] := by kernel_rfl
def xVd (a0 : Cur) (a1 : List Str) (a2 : Int) (r1 : Int × Cur) (r2 : Exp × Cur) (r3 : Exp × Cur) (r4 : Exp × Cur) (r5 : Exp × Cur) (r6 : Exp × Cur) (r7 : Exp) : rE I99 (xAF a0 a1 a2) [F, F, F, F, F, F, F, F, F, F, Y] [xAc r1, xCU r2, xCU r3, xCO r4, xAj r5, xA3 r6, xAQ r7] = dn (xAj (r7, r6.2)) [xGT a2, xGU a0 r1, xFq r1, xGr r1, xHC r1, xIF r1, iN (r1.1 == 4), iN (r1.1 == 5), iN (r1.1 == 6), iN (r1.1 == 7), iN (r1.1 == 8), iY (r1.1 == 9), AbC 121 (xEA r1.2) (xCU r2), AbC 121 (xEA r2.2) (xCU r3), AbC 122 (xEU r3.2) (xCO r4), xJe r4 a1 a2 r5, AbC 120 (xCg r5.2 r4.1 r5.1) (xA3 r6), AbC 119 (xB8 [103, 114, 111, 117, 112] [(Exp.re r2.1), (Exp.re r3.1), (Exp.re r6.1)]) (xAQ r7)] := by kernel_rfl
def xVe (a0 : Cur) (a1 : List Str) (a2 : Int) (r1 : Int × Cur) (r2 : Exp × Cur) (r3 : Exp × Cur) (r4 : Exp × Cur) (r5 : Exp) : rE I99 (xAF a0 a1 a2) [F, F, F, F, F, F, F, F, F, F, F, Y] [xAc r1, xCO r2, xAj r3, xA3 r4, xAQ r5] = dn (xAj (r5, r4.2)) [xGT a2, xGU a0 r1, xFq r1, xGr r1, xHC r1, xIF r1, iN (r1.1 == 4), iN (r1.1 == 5), iN (r1.1 == 6), iN (r1.1 == 7), iN (r1.1 == 8), iN (r1.1 == 9), iY (r1.1 == 10), AbC 122 (xEU r1.2) (xCO r2), xJe r2 a1 a2 r3, AbC 120 (xCg r3.2 r2.1 r3.1) (xA3 r4), AbC 119 (xB8 [114, 111, 119, 115] [(Exp.re r4.1)]) (xAQ r5)] := by kernel_rfl
def xVf (a0 : Cur) (a1 : List Str) (a2 : Int) (r1 : Int × Cur) (r2 : Int × Cur) (r3 r4 : Exp) : rE I99 (xAF a0 a1 a2) [F, F, F, F, F, F, F, F, F, F, F, F, Y] [xAc r1, xAc r2, xBs r3, xAQ r4] = dn (xAj (r4, r2.2)) [xGT a2, xGU a0 r1, xFq r1, xGr r1, xHC r1, xIF r1, iN (r1.1 == 4), iN (r1.1 == 5), iN (r1.1 == 6), iN (r1.1 == 7), iN (r1.1 == 8), iN (r1.1 == 9), iN (r1.1 == 10), iY (r1.1 == 11), xKP r1 r2, AbC 67 (xFB (W (1 + r2.1))) (xBs r3), AbC 119 (xB8 [99, 104, 97, 110, 99, 101] [(Exp.re r3)]) (xAQ r4)] := by kernel_rfl
def xVg (a0 : Cur) (a1 : List Str) (a2 : Int) (r1 : Int × Cur) (r2 : Exp) (r3 : Str × Cur) (r4 : Exp) (r5 : Exp × Cur) : rE I99 (xAF a0 a1 a2) [F, F, F, F, F, F, F, F, F, F, F, F, F] [xAc r1, xAQ r2, xA0 r3, xAQ r4, xA3 r5] = dn (xAj (r5.1, r5.2)) [xGT a2, xGU a0 r1, xFq r1, xGr r1, xHC r1, xIF r1, iN (r1.1 == 4), iN (r1.1 == 5), iN (r1.1 == 6), iN (r1.1 == 7), iN (r1.1 == 8), iN (r1.1 == 9), iN (r1.1 == 10), iN (r1.1 == 11), AbC 119 (xB8 [99, 108, 111, 99, 107] []) (xAQ r2), AbC 64 (xCs r1.2 [[102], [103], [104]]) (xA0 r3), AbC 119 (xB8 [102, 105, 108, 101] [(Exp.mk 2 0 r3.1 [])]) (xAQ r4), AbC 120 (xCg r3.2 r2 r4) (xA3 r5)] := by kernel_rfl
theorem vDg {N q0} (g0 : G99 q0) : ∀ a0 a1 a2 r, xDX N q0 a0 a1 a2 = some r → RE Tryz.f99 I99 (xAF a0 a1 a2) (xAj r) := fun a0 a1 a2 r h =>
 cE h (fun h0 h => bE h fun r1 h1 h => dE h fk99 (vAm a0 a1 a2 r1) (oc2 h0 (xHI h1) on)) fun h0 h =>
 bE h fun r1 h1 h => cE h (fun h2 h => bE h fun r2 h4 h => bE h fun r3 h5 h => bE h fun r4 h6 h => bE h fun r5 h7 h => dE h fk99 (vAn a0 a1 a2 r1 r2 r3 r4 r5) (oc8 h0 (xAh h1) h2 h2 (xAh h4) (g0 _ _ _ _ h5) (g0 _ _ _ _ h6) (xEp h7) on)) fun h2 h =>
 cE h (fun h3 h => bE h fun r2 h4 h => bE h fun r3 h5 h => bE h fun r4 h6 h => bE h fun r5 h7 h => dE h fk99 (vAo a0 a1 a2 r1 r2 r3 r4 r5) (oc8 h0 (xAh h1) h2 h3 (xAh h4) (g0 _ _ _ _ h5) (g0 _ _ _ _ h6) (xEp h7) on)) fun h3 h =>
 cE h (fun h4 h => iE h fun h5 h => bE h fun r2 h6 h => bE h fun r3 h7 h => iE h fun h8 h => bE h fun r4 h9 h => dE h fk99 (vAp a0 a1 a2 r1 r2 r3 r4) (oc10 h0 (xAh h1) h2 h3 h4 h5 (xDr h6) (g0 _ _ _ _ h7) h8 (g0 _ _ _ _ h9) on)) fun h4 h =>
 cE h (fun h5 h => bE h fun r2 h6 h => bE h fun r3 h7 h => bE h fun r4 h8 h => dE h fk99 (vAq a0 a1 a2 r1 r2 r3 r4) (oc9 h0 (xAh h1) h2 h3 h4 h5 (g0 _ _ _ _ h6) (g0 _ _ _ _ h7) (g0 _ _ _ _ h8) on)) fun h5 h =>
 cE h (fun h6 h => iE h fun h7 h => bE h fun r2 h8 h => bE h fun r3 h9 h => iE h fun h10 h => bE h fun r4 h11 h => dE h fk99 (vAr a0 a1 a2 r1 r2 r3 r4) (oc12 h0 (xAh h1) h2 h3 h4 h5 h6 h7 (xDr h8) (xGI h9) h10 (g0 _ _ _ _ h11) on)) fun h6 h =>
 cE h (fun h7 h => bE h fun r2 h8 h => dE h fk99 (vAs a0 a1 a2 r1 r2) (oc9 h0 (xAh h1) h2 h3 h4 h5 h6 h7 (xGI h8) on)) fun h7 h =>
 cE h (fun h8 h => bE h fun r2 h9 h => bE h fun r3 h10 h => bE h fun r4 h11 h => bE h fun r5 h12 h => bE h fun r6 h13 h => dE h fk99 (vAt a0 a1 a2 r1 r2 r3 r4 r5 r6) (oc12 h0 (xAh h1) h2 h3 h4 h5 h6 h7 h8 (xDr h9) (xGI h10) (g0 _ _ _ _ h11) (oc2 (xEg h12) (xC7 h13) on))) fun h8 h =>
 cE h (fun h9 h => bE h fun r2 h10 h => bE h fun r3 h11 h => bE h fun r4 h12 h => bE h fun r5 h13 h => bE h fun r6 h14 h => bE h fun r7 h15 h => bE h fun r8 h16 h => bE h fun r9 h17 h => bE h fun r10 h18 h => bE h fun r11 h19 h => bE h fun r12 h20 h => dE h fk99 (vAu a0 a1 a2 r1 r2 r3 r4 r5 r6 r7 r8 r9 r10 r11 r12) (oc12 h0 (xAh h1) h2 h3 h4 h5 h6 h7 h8 h9 (xDr h10) (xAh h11) (oc9 (xCN h12) (xGI h13) (xAh h14) (xCN h15) (xAh h16) (xCN h17) (xC7 h18) (xEg h19) (xC7 h20) on))) fun h9 h =>
 cE h (fun h10 h => bE h fun r2 h11 h => bE h fun r3 h12 h => bE h fun r4 h13 h => bE h fun r5 h14 h => bE h fun r6 h15 h => bE h fun r7 h16 h => bE h fun r8 h17 h => dE h fk99 (vAv a0 a1 a2 r1 r2 r3 r4 r5 r6 r7 r8) (oc12 h0 (xAh h1) h2 h3 h4 h5 h6 h7 h8 h9 h10 (xGV h11) (oc6 (xAh h12) (xCN h13) (xHf h14) (g0 _ _ _ _ h15) (xEg h16) (xC7 h17) on))) fun h10 h =>
 cE h (fun h11 h => bE h fun r2 h12 h => bE h fun r3 h13 h => bE h fun r4 h14 h => bE h fun r5 h15 h => bE h fun r6 h16 h => bE h fun r7 h17 h => dE h fk99 (xVd a0 a1 a2 r1 r2 r3 r4 r5 r6 r7) (oc12 h0 (xAh h1) h2 h3 h4 h5 h6 h7 h8 h9 h10 h11 (oc6 (xGV h12) (xGV h13) (xHf h14) (g0 _ _ _ _ h15) (xEg h16) (xC7 h17) on))) fun h11 h =>
 cE h (fun h12 h => bE h fun r2 h13 h => bE h fun r3 h14 h => bE h fun r4 h15 h => bE h fun r5 h16 h => dE h fk99 (xVe a0 a1 a2 r1 r2 r3 r4 r5) (oc12 h0 (xAh h1) h2 h3 h4 h5 h6 h7 h8 h9 h10 h11 (oc5 h12 (xHf h13) (g0 _ _ _ _ h14) (xEg h15) (xC7 h16) on))) fun h12 h =>
 cE h (fun h13 h => bE h fun r2 h14 h => bE h fun r3 h15 h => bE h fun r4 h16 h => dE h fk99 (xVf a0 a1 a2 r1 r2 r3 r4) (oc12 h0 (xAh h1) h2 h3 h4 h5 h6 h7 h8 h9 h10 h11 (oc5 h12 h13 (xAh h14) (xCN h15) (xC7 h16) on))) fun h13 h =>
 bE h fun r2 h14 h => bE h fun r3 h15 h => bE h fun r4 h16 h => bE h fun r5 h17 h => dE h fk99 (xVg a0 a1 a2 r1 r2 r3 r4 r5) (oc12 h0 (xAh h1) h2 h3 h4 h5 h6 h7 h8 h9 h10 h11 (oc6 h12 h13 (xC7 h14) (xDr h15) (xC7 h16) (xEg h17) on))
theorem xJD {N q0} (g0 : G99 q0) {a0} {a1} {a2} {r} (h : xDX N q0 a0 a1 a2 = some r) : AbC 99 (xAF a0 a1 a2) (xAj r) :=
 AbsCalls.of_reach fk99 rfl rfl (Nat.le_of_ble_eq_true rfl) (vDg g0 a0 a1 a2 r h)
theorem xHL {N : Nat} : ∀ d, G99 (xDh N d)
 | 0 => fun _ _ _ _ h => nE h
 | d + 1 => fun _ _ _ _ h => xJD (N := N) (xHL d) h
theorem xJs {N : Nat} {a0 : Cur} {a1 : List Str} {a2 : Int} {r : Exp × Cur} (h : xJr N a0 a1 a2 = some r) : AbC 99 (xAF a0 a1 a2) (xAj r) := xHL N _ _ _ r h
noncomputable def I61 : Info := { body := (Tryz.f61.body).getD .skip, nt := 17, results := [.cell 2 25], keep := [0, 4, 6, 24, 1, 5, 7], live := [], modes := [(1, [(1, .cp, true)]), (3, [(1, .cp, true)])], ext := [0], fcast := [(5, 3, true)] }
theorem fk61 : FnOk Tryz.prog 61 Tryz.f61 I61 := ⟨Tryz.func61, by kernel_rfl, by kernel_rfl, by kernel_rfl, by kernel_rfl⟩
def xYz (a0 : Cur) (r1 : Int × Cur) (r2 : Exp × Cur) (r3 : Bool) (r4 : Exp × Cur) : rE I61 (xEG a0) [Y] [xAc r1, xAj r2, xAE r3, xCk r4] = dn (xC8 (r4.1, r4.2)) [AbC 62 (xAC a0 4) (xAc r1), AbC 99 (xAF r1.2 [[97], [98], [99]] (W (1 + r1.1))) (xAj r2), AbC 22 (xBZ r2.1) (xAE r3), iY (!r3), AbC 63 (xDx r2.2 [[97], [98], [99]]) (xCk r4)] := by kernel_rfl
def xYA (a0 : Cur) (r1 : Int × Cur) (r2 : Exp × Cur) (r3 : Bool) : rE I61 (xEG a0) [F] [xAc r1, xAj r2, xAE r3] = dn (xC8 (r2.1, r2.2)) [AbC 62 (xAC a0 4) (xAc r1), AbC 99 (xAF r1.2 [[97], [98], [99]] (W (1 + r1.1))) (xAj r2), AbC 22 (xBZ r2.1) (xAE r3), iN (!r3)] := by kernel_rfl
theorem vCG {N : Nat} : ∀ a0 r, xHY N a0 = some r → RE Tryz.f61 I61 (xEG a0) (xC8 r) := fun a0 r h =>
 bE h fun r1 h0 h => bE h fun r2 h1 h => bE h fun r3 h2 h => cE h (fun h3 h => bE h fun r4 h4 h => dE h fk61 (xYz a0 r1 r2 r3 r4) (oc5 (xAh h0) (xJs h1) (xB0 h2) h3 (xHI h4) on)) fun h3 h =>
 dE h fk61 (xYA a0 r1 r2 r3) (oc4 (xAh h0) (xJs h1) (xB0 h2) h3 on)
theorem xHH {N : Nat} {a0 : Cur} {r : Exp × Cur} (h : xHY N  a0 = some r) : AbC 61 (xEG a0) (xC8 r) :=
 AbsCalls.of_reach fk61 rfl rfl (Nat.le_of_ble_eq_true rfl) (vCG a0 r h)
noncomputable def I84 : Info := { body := (Tryz.f84.body).getD .skip, nt := 34, results := [.tmp 6], keep := [0, 2, 4, 12, 14, 28, 30, 56, 1], live := [], modes := [], ext := [0] }
theorem fk84 : FnOk Tryz.prog 84 Tryz.f84 I84 := ⟨Tryz.func84, by kernel_rfl, by kernel_rfl, by kernel_rfl, by kernel_rfl⟩
abbrev xKU (v0 : Str) := W ((Ln v0 : Int) + 1)
def xZF (a0 : Cur) (a1 : Str) (a2 : List Str) (r1 : Int × Cur) (r2 : Int × Cur) (r3 : Str × Cur) : rE I84 (xEW a0 a1 a2) [Y] [xAc r1, xAc r2, xA0 r3] = dn (xEl ((((List.take (tN r1.1) a1) ++ r3.1) ++ (List.drop (tN r1.1) a1)), r3.2)) [AbC 62 (xAC a0 (xKU a1)) (xAc r1), xKP r1 r2, iY (r2.1 == 0), (0 : Int) ≤ r1.1 ∧ r1.1 ≤ (Ln a1), AbC 64 (xCs r2.2 a2) (xA0 r3), Ln (List.take (tN r1.1) a1) + Ln r3.1 ≤ Lim, (0 : Int) ≤ r1.1 ∧ r1.1 ≤ (Ln a1), Ln ((List.take (tN r1.1) a1) ++ r3.1) + Ln (List.drop (tN r1.1) a1) ≤ Lim] := by kernel_rfl
def xZG (a0 : Cur) (a1 : Str) (a2 : List Str) (r1 : Int × Cur) (r2 : Int × Cur) : rE I84 (xEW a0 a1 a2) [F, Y] [xAc r1, xAc r2] = dn (xEl ((List.take (tN r1.1) a1), r2.2)) [AbC 62 (xAC a0 (xKU a1)) (xAc r1), xKP r1 r2, xFq r2, iY (r2.1 == 1), (0 : Int) ≤ r1.1 ∧ r1.1 ≤ (Ln a1)] := by kernel_rfl
def xZH (a0 : Cur) (a1 : Str) (a2 : List Str) (r1 : Int × Cur) (r2 : Int × Cur) : rE I84 (xEW a0 a1 a2) [F, F] [xAc r1, xAc r2] = dn (xEl (a1, r2.2)) [AbC 62 (xAC a0 (xKU a1)) (xAc r1), xKP r1 r2, xFq r2, xGr r2] := by kernel_rfl
theorem vC1 {N : Nat} : ∀ a0 a1 a2 r, xGK N a0 a1 a2 = some r → RE Tryz.f84 I84 (xEW a0 a1 a2) (xEl r) := fun a0 a1 a2 r h =>
 bE h fun r1 h0 h => bE h fun r2 h1 h => cE h (fun h2 h => iE h fun h3 h => bE h fun r3 h4 h => iE h fun h5 h => iE h fun h7 h => dE h fk84 (xZF a0 a1 a2 r1 r2 r3) (oc8 (xAh h0) (xAh h1) h2 h3 (xDr h4) h5 h3 h7 on)) fun h2 h =>
 cE h (fun h3 h => iE h fun h4 h => dE h fk84 (xZG a0 a1 a2 r1 r2) (oc5 (xAh h0) (xAh h1) h2 h3 h4 on)) fun h3 h =>
 dE h fk84 (xZH a0 a1 a2 r1 r2) (oc4 (xAh h0) (xAh h1) h2 h3 on)
theorem xLh {N : Nat} {a0 : Cur} {a1 : Str} {a2 : List Str} {r : Str × Cur} (h : xGK N  a0 a1 a2 = some r) : AbC 84 (xEW a0 a1 a2) (xEl r) :=
 AbsCalls.of_reach fk84 rfl rfl (Nat.le_of_ble_eq_true rfl) (vC1 a0 a1 a2 r h)
noncomputable def I44 : Info := { body := (Tryz.f44.body).getD .skip, nt := 21, results := [.tmp 2], keep := [0, 4, 6, 16, 18, 30, 1], live := [], modes := [(4, [(2, .cp, true)]), (6, [(1, .cp, true)])], ext := [0] }
theorem fk44 : FnOk Tryz.prog 44 Tryz.f44 I44 := ⟨Tryz.func44, by kernel_rfl, by kernel_rfl, by kernel_rfl, by kernel_rfl⟩
def xXE (a0 : Cur) (r1 : Exp × Cur) (r2 : Str) (r3 : Int × Cur) (r4 : Str × Cur) : rE I44 (xFj a0) [Y] [xC8 r1, xCd r2, xAc r3, xEl r4] = dn (xEL (r4.1, r4.2)) [AbC 61 (xEG a0) (xC8 r1), AbC 21 (xDv r1.1) (xCd r2), AbC 62 (xAC r1.2 5) (xAc r3), iY (r3.1 == 0), AbC 84 (xEW r3.2 r2 [[32], [40], [41], [44], [32, 43, 32], [32, 105, 110, 32], [108, 101, 116, 32], [120], [61], [93]]) (xEl r4)] := by kernel_rfl
def xXF (a0 : Cur) (r1 : Exp × Cur) (r2 : Str) (r3 : Int × Cur) (r4 : Str × Cur) : rE I44 (xFj a0) [F, Y] [xC8 r1, xCd r2, xAc r3, xA0 r4] = dn (xEL (r4.1, r4.2)) [AbC 61 (xEG a0) (xC8 r1), AbC 21 (xDv r1.1) (xCd r2), AbC 62 (xAC r1.2 5) (xAc r3), xFq r3, iY (r3.1 == 1), AbC 64 (xCs r3.2 [[], [49, 32, 43, 32, 50, 32, 42, 32, 51], [40, 49, 32, 43, 32, 50, 41, 32, 42, 32, 51], [49, 32, 60, 32, 50, 32, 60, 32, 51], [97, 32, 45, 32, 98, 32, 45, 32, 99], [108, 101, 116, 32, 120, 32, 61, 32, 49, 32, 105, 110, 32, 120, 32, 43, 32, 120], [102, 111, 114, 32, 117, 32, 105, 110, 32, 91, 49, 44, 32, 50, 93, 32, 100, 111, 32, 117, 32, 42, 32, 117], [105, 102, 32, 97, 32, 116, 104, 101, 110, 32, 98, 32, 101, 108, 115, 101, 32, 99], [115, 117, 109, 40, 49, 44, 32, 50, 41], [102, 40, 49, 41], [108, 101, 116, 32, 108, 101, 116, 32, 61, 32, 49, 32, 105, 110, 32, 50], [115, 117, 109], [49, 32, 50], [91, 49, 44, 93], [91, 93], [40, 40, 97, 41, 41], [49, 32, 43, 32, 108, 101, 116, 32, 120, 32, 61, 32, 49, 32, 105, 110, 32, 120]]) (xA0 r4)] := by kernel_rfl
def xXG (a0 : Cur) (r1 : Exp × Cur) (r2 : Str) (r3 : Int × Cur) : rE I44 (xFj a0) [F, F] [xC8 r1, xCd r2, xAc r3] = dn (xEL (r2, r3.2)) [AbC 61 (xEG a0) (xC8 r1), AbC 21 (xDv r1.1) (xCd r2), AbC 62 (xAC r1.2 5) (xAc r3), xFq r3, xGr r3] := by kernel_rfl
theorem vCl {N : Nat} : ∀ a0 r, xH0 N a0 = some r → RE Tryz.f44 I44 (xFj a0) (xEL r) := fun a0 r h =>
 bE h fun r1 h0 h => bE h fun r2 h1 h => bE h fun r3 h2 h => cE h (fun h3 h => bE h fun r4 h4 h => dE h fk44 (xXE a0 r1 r2 r3 r4) (oc5 (xHH h0) (xGF h1) (xAh h2) h3 (xLh h4) on)) fun h3 h =>
 cE h (fun h4 h => bE h fun r4 h5 h => dE h fk44 (xXF a0 r1 r2 r3 r4) (oc6 (xHH h0) (xGF h1) (xAh h2) h3 h4 (xDr h5) on)) fun h4 h =>
 dE h fk44 (xXG a0 r1 r2 r3) (oc5 (xHH h0) (xGF h1) (xAh h2) h3 h4 on)
theorem xL0 {N : Nat} {a0 : Cur} {r : Str × Cur} (h : xH0 N  a0 = some r) : AbC 44 (xFj a0) (xEL r) :=
 AbsCalls.of_reach fk44 rfl rfl (Nat.le_of_ble_eq_true rfl) (vCl a0 r h)
noncomputable def I25 : Info := { body := (Tryz.f25.body).getD .skip, nt := 6, results := [.tmp 2], keep := [0, 4, 9], live := [], modes := [] }
theorem fk25 : FnOk Tryz.prog 25 Tryz.f25 I25 := ⟨Tryz.func25, by kernel_rfl, by kernel_rfl, by kernel_rfl, by kernel_rfl⟩
def xWF (a0 : List Int) (r1 : Cur) (r2 : Str × Cur) : rE I25 (xE1 a0) [] [xFw r1, xEL r2] = dn (xA4 r2.1) [AbC 37 (xHl a0) (xFw r1), AbC 44 (xFj r1) (xEL r2)] := by kernel_rfl
theorem vB1 {N : Nat} : ∀ a0 r, xE0 N a0 = some r → RE Tryz.f25 I25 (xE1 a0) (xA4 r) := fun a0 r h =>
 bE h fun r1 h0 h => bE h fun r2 h1 h => dE h fk25 (xWF a0 r1 r2) (oc2 (xM8 h0) (xL0 h1) on)
theorem xBV {N : Nat} {a0 : List Int} {r : Str} (h : xE0 N  a0 = some r) : AbC 25 (xE1 a0) (xA4 r) :=
 AbsCalls.of_reach fk25 rfl rfl (Nat.le_of_ble_eq_true rfl) (vB1 a0 r h)
def G26 (q : Exp → Exp → Option (Bool)) : Prop := ∀ a0 a1 r, q a0 a1 = some r → AbC 26 (xBP a0 a1) (xAB r)
noncomputable def I26 : Info := { body := (Tryz.f26.body).getD .skip, nt := 53, results := [.tmp 4], keep := [0, 2, 4, 6, 8, 10, 66, 76, 104, 5, 7], live := [(4, [4, 6, 10, 5, 7])], modes := [(1, [(5, .take, false), (12, .take, false), (19, .take, false)])] }
theorem fk26 : FnOk Tryz.prog 26 Tryz.f26 I26 := ⟨Tryz.func26, by kernel_rfl, by kernel_rfl, by kernel_rfl, by kernel_rfl⟩
def xPl (x5 : Int) (b2 b3 : Exp) : St := [(4, .v false [.ptr 2 0]), (6, .v false [.ptr 3 0]), (10, .v false [.int .i64 x5]), (5, .v true [.int .i64 (Exp.kind b2), .int .i64 (Exp.n b2), .str (Exp.text b2), .sl .ro .exp (Exp.args b2)]), (7, .v true [.int .i64 (Exp.kind b3), .int .i64 (Exp.n b3), .str (Exp.text b3), .sl .ro .exp (Exp.args b3)])]
def xWG (x5 : Int) (b2 b3 : Exp) (r1 : Bool) : rS 4 I26 (xPl x5 b2 b3) [Y, Y] [xAB r1] = dn (xAB false) [xLQ x5 b2, xK8 x5 b2, xK8 x5 b3, AbC 26 (xBP (xJi b2 x5) (xJi b3 x5)) (xAB r1), iY (!r1)] := by kernel_rfl
def xWH (x5 : Int) (b2 b3 : Exp) (r1 : Bool) : rS 4 I26 (xPl x5 b2 b3) [Y, F] [xAB r1] = st 4 I26 (xPl (W (x5 + 1)) b2 b3) [xLQ x5 b2, xK8 x5 b2, xK8 x5 b3, AbC 26 (xBP (xJi b2 x5) (xJi b3 x5)) (xAB r1), iN (!r1)] := by kernel_rfl
def xWI (x5 : Int) (b2 b3 : Exp) : rS 4 I26 (xPl x5 b2 b3) [F] [] = dn (xAB true) [xPa x5 b2] := by kernel_rfl
def xWJ (a0 a1 : Exp) : rE I26 (xBP a0 a1) [Y, Y, Y, Y] [] = dn (xAB false) [iY ((Exp.kind a0) != (Exp.kind a1)), iY true, iY true, iY true] := by kernel_rfl
abbrev xMQ (v0 v1 : Exp) : Prop := iN ((Exp.kind v0) != (Exp.kind v1))
def xWK (a0 a1 : Exp) : rE I26 (xBP a0 a1) [F, Y, Y, Y] [] = dn (xAB false) [xMQ a0 a1, iY ((Exp.n a0) != (Exp.n a1)), iY true, iY true] := by kernel_rfl
def xWL (a0 a1 : Exp) : rE I26 (xBP a0 a1) [F, F, Y, Y] [] = dn (xAB false) [xMQ a0 a1, iN ((Exp.n a0) != (Exp.n a1)), iY (!(((Exp.text a0) : Str) == (Exp.text a1))), iY true] := by kernel_rfl
def xWM (a0 a1 : Exp) : rE I26 (xBP a0 a1) [F, F, F, Y] [] = dn (xAB false) [xMQ a0 a1, iN ((Exp.n a0) != (Exp.n a1)), iN (!(((Exp.text a0) : Str) == (Exp.text a1))), iY ((xGs a0) != (xGs a1))] := by kernel_rfl
def xWN (a0 a1 : Exp) : rE I26 (xBP a0 a1) [F, F, F, F] [] = st 4 I26 (xPl 0 a0 a1) [xMQ a0 a1, iN ((Exp.n a0) != (Exp.n a1)), iN (!(((Exp.text a0) : Str) == (Exp.text a1))), iN ((xGs a0) != (xGs a1))] := by kernel_rfl
theorem vB2 {N q0} (g0 : G26 q0) : ∀ n x5 b2 b3 r, xEx N q0 n x5 b2 b3 = some r → RS Tryz.f26 I26 4 (xPl x5 b2 b3) (xAB r) := by
 intro n
 induction n with
 | zero => exact fun _ _ _ _ h => nE h
 | succ n ih =>
  exact fun x5 b2 b3 r h =>
   cE h (fun h0 h => iE h fun h1 h => iE h fun h2 h => bE h fun r1 h3 h => cE h (fun h4 h => dS h fk26 (xWG x5 b2 b3 r1) (oc5 h0 h1 h2 (g0 _ _ _ h3) h4 on)) fun h4 h =>
   tS fk26 (xWH x5 b2 b3 r1) (oc5 h0 h1 h2 (g0 _ _ _ h3) h4 on) (ih _ _ _ _ h)) fun h0 h =>
   dS h fk26 (xWI x5 b2 b3) (oc h0 on)
theorem vB3 {N q0} (g0 : G26 q0) : ∀ a0 a1 r, xED N q0 a0 a1 = some r → RE Tryz.f26 I26 (xBP a0 a1) (xAB r) := fun a0 a1 r h =>
 cE h (fun h0 h => dE h fk26 (xWJ a0 a1) (oc4 h0 rfl rfl rfl on)) fun h0 h =>
 cE h (fun h1 h => dE h fk26 (xWK a0 a1) (oc4 h0 h1 rfl rfl on)) fun h1 h =>
 cE h (fun h2 h => dE h fk26 (xWL a0 a1) (oc4 h0 h1 h2 rfl on)) fun h2 h =>
 cE h (fun h3 h => dE h fk26 (xWM a0 a1) (oc4 h0 h1 h2 h3 on)) fun h3 h =>
 tE fk26 (xWN a0 a1) (oc4 h0 h1 h2 h3 on) (vB2 g0 _ _ _ _ _ h)
theorem xIV {N q0} (g0 : G26 q0) {a0} {a1} {r} (h : xED N q0 a0 a1 = some r) : AbC 26 (xBP a0 a1) (xAB r) :=
 AbsCalls.of_reach fk26 rfl rfl (Nat.le_of_ble_eq_true rfl) (vB3 g0 a0 a1 r h)
theorem xG7 {N : Nat} : ∀ d, G26 (xEe N d)
 | 0 => fun _ _ _ h => nE h
 | d + 1 => fun _ _ _ h => xIV (N := N) (xG7 d) h
theorem xDo {N : Nat} {a0 : Exp} {a1 : Exp} {r : Bool} (h : xId N a0 a1 = some r) : AbC 26 (xBP a0 a1) (xAB r) := xG7 N _ _ r h
end Go.Ab.T
end
section
open Go.Proofs
namespace Go.Ab.T
set_option maxRecDepth 100000
variable [Inhabited Lb]
variable [Nonempty Tab10]
variable [Nonempty ErrVars]
noncomputable def I7 : Info := { body := (Tryz.f7.body).getD .skip, nt := 78, results := [.tmp 2], keep := [0, 4, 6, 8, 10, 12, 14, 18, 22, 78, 82, 9, 13, 17], live := [], modes := [(4, [(2, .take, false)]), (5, [(2, .take, false)]), (6, [(1, .take, false), (3, .take, false), (9, .take, false)]), (9, [(4, .take, false), (10, .take, false)]), (10, [(3, .take, false)]), (11, [(5, .take, false), (10, .take, false)])] }
theorem fk7 : FnOk Tryz.prog 7 Tryz.f7 I7 := ⟨Tryz.func7, by kernel_rfl, by kernel_rfl, by kernel_rfl, by kernel_rfl⟩
abbrev xIc (v0 : List Int) (v1 : Bool) : Prop := AbC 18 (xIz v0) (xDu v1)
def vBD (a0 : List Int) (r1 : Bool) : rE I7 (xBc a0) [Y] [xDu r1] = dn (xBd true) [xIc a0 r1, iY r1] := by kernel_rfl
abbrev xIG (v0 : List Int) (v1 : Str) : Prop := AbC 25 (xE1 v0) (xA4 v1)
abbrev xIH (v0 : Str) (v1 : Exp × Int) : Prop := AbC 11 (xBD v0) (xAO v1)
def vBE (a0 : List Int) (r1 : Bool) (r2 : Str) (r3 : Exp × Int) (r4 : Exp × Int) : rE I7 (xBc a0) [F, Y, Y, Y] [xDu r1, xA4 r2, xAn r3, xAO r4] = dn (xBd false) [xIc a0 r1, iN r1, xIG a0 r2, xIa r2 r3, xIH r2 r4, iY (r3.2 != r4.2), iY true, iY true] := by kernel_rfl
abbrev xJf (v0 v1 : Exp × Int) (v2 : Bool) : Prop := AbC 26 (xBP v0.1 v1.1) (xAB v2)
def vBF (a0 : List Int) (r1 : Bool) (r2 : Str) (r3 : Exp × Int) (r4 : Exp × Int) (r5 : Bool) : rE I7 (xBc a0) [F, F, Y, Y] [xDu r1, xA4 r2, xAn r3, xAO r4, xAB r5] = dn (xBd false) [xIc a0 r1, iN r1, xIG a0 r2, xIa r2 r3, xIH r2 r4, iN (r3.2 != r4.2), xJf r3 r4 r5, iY (!r5), iY true] := by kernel_rfl
abbrev xJZ (v0 : Str) (v1 : Bool) : Prop := AbC 10 (xFE v0) (xBU v1)
def vBG (a0 : List Int) (r1 : Bool) (r2 : Str) (r3 : Exp × Int) (r4 : Exp × Int) (r5 r6 : Bool) : rE I7 (xBc a0) [F, F, F, Y] [xDu r1, xA4 r2, xAn r3, xAO r4, xAB r5, xBU r6] = dn (xBd false) [xIc a0 r1, iN r1, xIG a0 r2, xIa r2 r3, xIH r2 r4, iN (r3.2 != r4.2), xJf r3 r4 r5, iN (!r5), xJZ r2 r6, iY (!((r6 : Bool) == (dc (r3.2 ≥ 0))))] := by kernel_rfl
abbrev xKQ (v0 : Bool) (v1 : Exp × Int) : Prop := iN (!((v0 : Bool) == (dc (v1.2 ≥ 0))))
def vBH (a0 : List Int) (r1 : Bool) (r2 : Str) (r3 : Exp × Int) (r4 : Exp × Int) (r5 r6 : Bool) : rE I7 (xBc a0) [F, F, F, F, Y, Y, Y] [xDu r1, xA4 r2, xAn r3, xAO r4, xAB r5, xBU r6] = dn (xBd ((Exp.kind r3.1) == 0)) [xIc a0 r1, iN r1, xIG a0 r2, xIa r2 r3, xIH r2 r4, iN (r3.2 != r4.2), xJf r3 r4 r5, iN (!r5), xJZ r2 r6, xKQ r6 r3, iY (dc (r3.2 ≥ 0)), iY (dc (r3.2 ≤ (Ln r2 : Int))), iY ((Ln (Exp.args r3.1) : Int) == 0)] := by kernel_rfl
def vBI (a0 : List Int) (r1 : Bool) (r2 : Str) (r3 : Exp × Int) (r4 : Exp × Int) (r5 r6 : Bool) : rE I7 (xBc a0) [F, F, F, F, Y, Y, F] [xDu r1, xA4 r2, xAn r3, xAO r4, xAB r5, xBU r6] = dn (xBd false) [xIc a0 r1, iN r1, xIG a0 r2, xIa r2 r3, xIH r2 r4, iN (r3.2 != r4.2), xJf r3 r4 r5, iN (!r5), xJZ r2 r6, xKQ r6 r3, iY (dc (r3.2 ≥ 0)), iY (dc (r3.2 ≤ (Ln r2 : Int))), iN ((Ln (Exp.args r3.1) : Int) == 0)] := by kernel_rfl
def vBJ (a0 : List Int) (r1 : Bool) (r2 : Str) (r3 : Exp × Int) (r4 : Exp × Int) (r5 r6 : Bool) : rE I7 (xBc a0) [F, F, F, F, Y, F, F] [xDu r1, xA4 r2, xAn r3, xAO r4, xAB r5, xBU r6] = dn (xBd false) [xIc a0 r1, iN r1, xIG a0 r2, xIa r2 r3, xIH r2 r4, iN (r3.2 != r4.2), xJf r3 r4 r5, iN (!r5), xJZ r2 r6, xKQ r6 r3, iY (dc (r3.2 ≥ 0)), iN (dc (r3.2 ≤ (Ln r2 : Int))), iN false] := by kernel_rfl
def vBK (a0 : List Int) (r1 : Bool) (r2 : Str) (r3 : Exp × Int) (r4 : Exp × Int) (r5 r6 : Bool) (r7 : Exp × Int) : rE I7 (xBc a0) [F, F, F, F, F, Y] [xDu r1, xA4 r2, xAn r3, xAO r4, xAB r5, xBU r6, xAn r7] = dn (xBd true) [xIc a0 r1, iN r1, xIG a0 r2, xIa r2 r3, xIH r2 r4, iN (r3.2 != r4.2), xJf r3 r4 r5, iN (!r5), xJZ r2 r6, xKQ r6 r3, iN (dc (r3.2 ≥ 0)), Ln r2 + Ln [32, 41] ≤ Lim, AbC 12 (xAT (r2 ++ [32, 41])) (xAn r7), iY (r7.2 == (xKU r2))] := by kernel_rfl
def vBL (a0 : List Int) (r1 : Bool) (r2 : Str) (r3 : Exp × Int) (r4 : Exp × Int) (r5 r6 : Bool) (r7 : Exp × Int) : rE I7 (xBc a0) [F, F, F, F, F, F, Y] [xDu r1, xA4 r2, xAn r3, xAO r4, xAB r5, xBU r6, xAn r7] = dn (xBd (r7.2 == 120)) [xIc a0 r1, iN r1, xIG a0 r2, xIa r2 r3, xIH r2 r4, iN (r3.2 != r4.2), xJf r3 r4 r5, iN (!r5), xJZ r2 r6, xKQ r6 r3, iN (dc (r3.2 ≥ 0)), Ln r2 + Ln [32, 41] ≤ Lim, AbC 12 (xAT (r2 ++ [32, 41])) (xAn r7), iN (r7.2 == (xKU r2)), iY (dc (((W ((Ln r2 : Int) + 2)) : Int) > 120))] := by kernel_rfl
def vBM (a0 : List Int) (r1 : Bool) (r2 : Str) (r3 : Exp × Int) (r4 : Exp × Int) (r5 r6 : Bool) (r7 : Exp × Int) : rE I7 (xBc a0) [F, F, F, F, F, F, F] [xDu r1, xA4 r2, xAn r3, xAO r4, xAB r5, xBU r6, xAn r7] = dn (xBd false) [xIc a0 r1, iN r1, xIG a0 r2, xIa r2 r3, xIH r2 r4, iN (r3.2 != r4.2), xJf r3 r4 r5, iN (!r5), xJZ r2 r6, xKQ r6 r3, iN (dc (r3.2 ≥ 0)), Ln r2 + Ln [32, 41] ≤ Lim, AbC 12 (xAT (r2 ++ [32, 41])) (xAn r7), iN (r7.2 == (xKU r2)), iN (dc (((W ((Ln r2 : Int) + 2)) : Int) > 120))] := by kernel_rfl
theorem c7_e {N : Nat} : ∀ a0 r, xEZ N a0 = some r → RE Tryz.f7 I7 (xBc a0) (xBd r) := fun a0 r h =>
 bE h fun r1 h0 h => cE h (fun h1 h => dE h fk7 (vBD a0 r1) (oc2 (xE5 h0) h1 on)) fun h1 h =>
 bE h fun r2 h2 h => bE h fun r3 h3 h => bE h fun r4 h4 h => cE h (fun h5 h => dE h fk7 (vBE a0 r1 r2 r3 r4) (oc8 (xE5 h0) h1 (xBV h2) (xBC h3) (xCT h4) h5 rfl rfl on)) fun h5 h =>
 bE h fun r5 h6 h => cE h (fun h7 h => dE h fk7 (vBF a0 r1 r2 r3 r4 r5) (oc9 (xE5 h0) h1 (xBV h2) (xBC h3) (xCT h4) h5 (xDo h6) h7 rfl on)) fun h7 h =>
 bE h fun r6 h8 h => cE h (fun h9 h => dE h fk7 (vBG a0 r1 r2 r3 r4 r5 r6) (oc10 (xE5 h0) h1 (xBV h2) (xBC h3) (xCT h4) h5 (xDo h6) h7 (xDt h8) h9 on)) fun h9 h =>
 cE h (fun h10 h => cE h (fun h11 h => cE h (fun h12 h => dE h fk7 (vBH a0 r1 r2 r3 r4 r5 r6) (oc12 (xE5 h0) h1 (xBV h2) (xBC h3) (xCT h4) h5 (xDo h6) h7 (xDt h8) h9 h10 h11 (oc h12 on))) fun h12 h =>
 dE h fk7 (vBI a0 r1 r2 r3 r4 r5 r6) (oc12 (xE5 h0) h1 (xBV h2) (xBC h3) (xCT h4) h5 (xDo h6) h7 (xDt h8) h9 h10 h11 (oc h12 on))) fun h11 h =>
 dE h fk7 (vBJ a0 r1 r2 r3 r4 r5 r6) (oc12 (xE5 h0) h1 (xBV h2) (xBC h3) (xCT h4) h5 (xDo h6) h7 (xDt h8) h9 h10 h11 (oc rfl on))) fun h10 h =>
 iE h fun h11 h => bE h fun r7 h12 h => cE h (fun h13 h => dE h fk7 (vBK a0 r1 r2 r3 r4 r5 r6 r7) (oc12 (xE5 h0) h1 (xBV h2) (xBC h3) (xCT h4) h5 (xDo h6) h7 (xDt h8) h9 h10 h11 (oc2 (xBC h12) h13 on))) fun h13 h =>
 cE h (fun h14 h => dE h fk7 (vBL a0 r1 r2 r3 r4 r5 r6 r7) (oc12 (xE5 h0) h1 (xBV h2) (xBC h3) (xCT h4) h5 (xDo h6) h7 (xDt h8) h9 h10 h11 (oc3 (xBC h12) h13 h14 on))) fun h14 h =>
 dE h fk7 (vBM a0 r1 r2 r3 r4 r5 r6 r7) (oc12 (xE5 h0) h1 (xBV h2) (xBC h3) (xCT h4) h5 (xDo h6) h7 (xDt h8) h9 h10 h11 (oc3 (xBC h12) h13 h14 on))
theorem laws_FnParseErrors_ok {N : Nat} {a0 : List Int} {r : Bool} (h : xEZ N  a0 = some r) : AbC 7 (xBc a0) (xBd r) :=
 AbsCalls.of_reach fk7 rfl rfl (Nat.le_of_ble_eq_true rfl) (c7_e a0 r h)
end Go.Ab.T
end
section
namespace Go.Ab
def Big (p : Nat → Prop) : Prop := ∃ k, ∀ N, k ≤ N → p N
def Big2 (p : Nat → Nat → Prop) : Prop := ∃ k, ∀ N n, k ≤ N → k ≤ n → p N n
theorem Big.imp {p q : Nat → Prop} (h : Big p) (f : ∀ N, p N → q N) : Big q := h.elim fun k hk => ⟨k, fun N hN => f N (hk N hN)⟩
theorem Big2.imp {p q : Nat → Nat → Prop} (h : Big2 p) (f : ∀ N n, p N n → q N n) : Big2 q := h.elim fun k hk => ⟨k, fun N n h1 h2 => f N n (hk N n h1 h2)⟩
theorem Big.of {p : Nat → Prop} (h : ∀ N, p N) : Big p := ⟨0, fun N _ => h N⟩
theorem Big2.of {p : Nat → Nat → Prop} (h : ∀ N n, p N n) : Big2 p := ⟨0, fun N n _ _ => h N n⟩
theorem Big.and {p q : Nat → Prop} (h : Big p) (h' : Big q) : Big fun N => p N ∧ q N := by
 obtain ⟨a, ha⟩ := h; obtain ⟨b, hb⟩ := h'
 exact ⟨max a b, fun N hN => ⟨ha N (by omega), hb N (by omega)⟩⟩
theorem Big2.and {p q : Nat → Nat → Prop} (h : Big2 p) (h' : Big2 q) : Big2 fun N n => p N n ∧ q N n := by
 obtain ⟨a, ha⟩ := h; obtain ⟨b, hb⟩ := h'
 exact ⟨max a b, fun N n h1 h2 => ⟨ha N n (by omega) (by omega), hb N n (by omega) (by omega)⟩⟩
theorem Big.two {p : Nat → Prop} (h : Big p) : Big2 fun N _ => p N := h.elim fun k hk => ⟨k, fun N _ h _ => hk N h⟩
theorem Big2.diag {p : Nat → Nat → Prop} (h : Big2 p) : Big fun N => p N N := h.elim fun k hk => ⟨k, fun N h => hk N N h h⟩
theorem Big2.succ {p : Nat → Nat → Prop} (h : Big2 fun N n => p N (n + 1)) : Big2 p := by
 obtain ⟨k, hk⟩ := h
 refine ⟨k + 1, fun N n h1 h2 => ?_⟩
 obtain ⟨m, rfl⟩ : ∃ m, n = m + 1 := ⟨n - 1, by omega⟩
 exact hk N m (by omega) (by omega)
theorem Big2.list {α : Type} {p : α → Nat → Nat → Prop} {l : List α} (h : ∀ x ∈ l, Big2 (p x)) : Big2 fun N n => ∀ x ∈ l, p x N n := by
 induction l with
 | nil => exact .of fun N n x hx => by cases hx
 | cons a l ih =>
   refine ((h a List.mem_cons_self).and (ih fun x hx => h x (List.mem_cons_of_mem _ hx))).imp fun N n ⟨h1, h2⟩ x hx => ?_
   rcases List.mem_cons.1 hx with rfl | hx
   · exact h1
   · exact h2 x hx
theorem Big.get {p : Nat → Prop} (h : Big p) : ∃ N, p N := h.elim fun k hk => ⟨k, hk k (Nat.le_refl k)⟩
def I64 (x : Int) : Prop := -9223372036854775808 ≤ x ∧ x ≤ 9223372036854775807
theorem xNL (x : Int) : IntKind.i64.wrap x = if x % 18446744073709551616 ≥ 9223372036854775808 then x % 18446744073709551616 - 18446744073709551616 else x % 18446744073709551616 := by
 show (if (true && decide (x % 18446744073709551616 ≥ 9223372036854775808)) = true then x % 18446744073709551616 - 18446744073709551616 else x % 18446744073709551616) = _
 simp only [Bool.true_and, decide_eq_true_eq]
theorem xOF (x : Int) : IntKind.u8.wrap x = x % 256 := by
 show (if (false && decide (x % 256 ≥ 128)) = true then x % 256 - 256 else x % 256) = _
 simp
theorem xBh {x : Int} (h1 : -9223372036854775808 ≤ x) (h2 : x ≤ 9223372036854775807) : IntKind.i64.wrap x = x := by
 rw [xNL]
 split <;> omega
theorem xOE {x : Int} (h1 : 0 ≤ x) (h2 : x ≤ 255) : IntKind.u8.wrap x = x := by
 rw [xOF]
 omega
theorem xDN {α : Type} {xs : List α} {i : Nat} {x : α} {l : List α} (h : xs.drop i = x :: l) : i < xs.length ∧ xs[i]? = some x ∧ xs.drop (i + 1) = l := by
 have h1 : i < xs.length := by
  rcases Nat.lt_or_ge i xs.length with h1 | h1
  · exact h1
  · rw [List.drop_eq_nil_of_le h1] at h; cases h
 rw [List.drop_eq_getElem_cons h1] at h
 cases h
 exact ⟨h1, by simp [h1], rfl⟩
theorem xHR {α : Type} {xs : List α} {i : Nat} (h : xs.drop i = []) : xs.length ≤ i := by simpa using h
end Go.Ab
end
section
namespace Go.Ab
inductive DK (K : Nat) : D → Prop where
 | int {k n} (h : (Lit.int k n).wf = true) : DK K (.int k n)
 | bool (b) : DK K (.bool b)
 | str {s : Str} (h : s.length ≤ K) : DK K (.str s)
 | sl {sz rows} (h : rows.length ≤ K) (hr : ∀ r ∈ rows, ∀ x ∈ r, DK K x) : DK K (.sl sz rows)
theorem xVI {n : Int} : (Lit.int .i64 n).wf = true ↔ I64 n := by
 show (decide (_ ≤ n) && decide (n ≤ _)) = true ↔ _
 rw [Bool.and_eq_true, decide_eq_true_eq, decide_eq_true_eq]
 exact Iff.rfl
theorem DK.i64 {K : Nat} {n : Int} : DK K (.int .i64 n) ↔ I64 n := ⟨fun h => by cases h with | int h => exact xVI.1 h, fun h => .int (xVI.2 h)⟩
theorem DK.str_iff {K : Nat} {s : Str} : DK K (.str s) ↔ s.length ≤ K := ⟨fun h => by cases h; assumption, .str⟩
theorem DK.sl_iff {K sz : Nat} {α : Type} {f : α → List D} {xs : List α} : DK K (.sl sz (xs.map f)) ↔ xs.length ≤ K ∧ ∀ x ∈ xs, ∀ d ∈ f x, DK K d := by
 constructor
 · intro h
   cases h with
   | sl h hr => exact ⟨by simpa using h, fun x hx => hr _ (List.mem_map_of_mem hx)⟩
 · rintro ⟨h, hr⟩
   refine .sl (by simpa using h) fun r hr' => ?_
   obtain ⟨x, hx, rfl⟩ := List.mem_map.1 hr'
   exact hr x hx
def LFit {α : Type} (K : Nat) (p : α → Prop) (l : List α) : Prop := l.length ≤ K ∧ ∀ x ∈ l, p x
def Ty.Fit (K : Nat) (T : Ty) (x : T.den) : Prop := ∀ d ∈ T.toD x, DK K d
def Org.Fit (o : Org) : Prop := I64 o.cell ∧ I64 o.row
def Rowd.Fit (K : Nat) (r : Rowd) : Prop := LFit K I64 r.cells ∧ LFit K Org.Fit r.frm
def Str.Fit (K : Nat) (s : Str) : Prop := s.length ≤ K
def Exp.Fit (K : Nat) (v : Exp) : Prop := ∀ d ∈ Exp.toD v, DK K d
def Fil.Fit (K : Nat) (v : Fil) : Prop := Str.Fit K v.name ∧ I64 v.n
def Tok.Fit (K : Nat) (v : Tok) : Prop := I64 v.kind ∧ I64 v.n ∧ I64 v.pos ∧ Str.Fit K v.text
theorem vBS {K : Nat} {r : Rowd} : (∀ d ∈ Rowd.toD r, DK K d) ↔ r.Fit K := by
 simp only [Rowd.toD, List.mem_cons, List.not_mem_nil, or_false, forall_eq_or_imp, forall_eq, DK.sl_iff, DK.i64, Rowd.Fit, LFit, Org.Fit]
theorem vDj {K : Nat} {r : Fil} : Ty.Fit K .fil r ↔ r.Fit K := by
 simp only [Ty.Fit, Ty.toD, List.mem_cons, List.not_mem_nil, or_false, forall_eq_or_imp, forall_eq, DK.str_iff, DK.i64, Fil.Fit, Str.Fit]
theorem Exp.fit_iff {K : Nat} {v : Exp} : v.Fit K ↔ I64 v.kind ∧ I64 v.n ∧ Str.Fit K v.text ∧ LFit K (Exp.Fit K) v.args := by
 cases v
 simp only [Exp.Fit, Exp.toD, Exp.toDs_eq, List.mem_cons, List.not_mem_nil, or_false, forall_eq_or_imp, forall_eq, DK.sl_iff, DK.i64, DK.str_iff, Str.Fit, LFit, Exp.kind, Exp.n, Exp.text, Exp.args]
theorem xLX {l : List Exp} {x : Exp} (h : x ∈ l) (k n : Int) (t : Str) : SizeOf.sizeOf x < SizeOf.sizeOf (Exp.mk k n t l) := by
 have := List.sizeOf_lt_of_mem h
 simp only [Exp.mk.sizeOf_spec]
 omega
theorem Exp.ind {p : Exp → Prop} (h : ∀ k n t l, (∀ x ∈ l, p x) → p (.mk k n t l)) : ∀ v, p v
 | .mk k n t l => h k n t l fun x hx => Exp.ind h x
termination_by v => SizeOf.sizeOf v
decreasing_by exact xLX hx k n t
end Go.Ab
end
section
namespace Go.Ab
theorem xGm {α σ ρ : Type} {L : Nat → Int → σ → Option ρ} (x0 : List α) (g : List α → σ → ρ) (Inv : Nat → σ → Prop)
 (hnil : ∀ n s, Inv x0.length s → L (n + 1) (x0.length : Nat) s = some (g [] s))
 (hcons : ∀ i x l s, x0.drop i = x :: l → i < x0.length → x0[i]? = some x → Inv i s →
   (∃ s', Inv (i + 1) s' ∧ g (x :: l) s = g l s' ∧ ∀ n, L (n + 1) (i : Nat) s = L n ((i + 1 : Nat) : Int) s') ∨ (∀ n, L (n + 1) (i : Nat) s = some (g (x :: l) s))) :
 ∀ n i s, Inv i s → i ≤ x0.length → x0.length < n + i → L n (i : Nat) s = some (g (x0.drop i) s) := by
 intro n
 induction n with
 | zero => intro i s _ h1 h2; omega
 | succ n ih =>
   intro i s hs hi hn
   cases hd : x0.drop i with
   | nil =>
     have := xHR hd
     obtain rfl : i = x0.length := by omega
     exact hnil n s hs
   | cons x l =>
     obtain ⟨h1, h2, h3⟩ := xDN hd
     rcases hcons i x l s hd h1 h2 hs with ⟨s', h4, h5, h6⟩ | h
     · rw [h6, ih (i + 1) s' h4 (by omega) (by omega), h3, h5]
     · exact h n
theorem xCw {α : Type} {xs : List α} {i : Nat} {x : α} (h : xs[i]? = some x) (d : α) : xs.getD i d = x := by simp [List.getD, h]
theorem xBy {i : Nat} {len : Nat} (h : i < len) (hl : len ≤ 9223372036854775807) : IntKind.i64.wrap ((i : Int) + 1) = ((i + 1 : Nat) : Int) := by
 rw [xBh (by omega) (by omega)]; omega
def left (s : Nat) (l : Int) : Int := if (s : Int) ≤ l then l - s else -1
theorem xMD {s : Nat} {l : Int} (h : (s : Int) ≤ l) : left s l = l - s := by unfold left; rw [if_pos h]
theorem xLk {s : Nat} {l : Int} (h : ¬ (s : Int) ≤ l) : left s l = -1 := by unfold left; rw [if_neg h]
section
variable {α : Type} {d : α}
theorem vBp {L : Nat → Int → Option Bool} {x0 : List α} (hend : ∀ n, L (n + 1) (x0.length : Nat) = some true)
 (hcons : ∀ (i : Nat) x n, i < x0.length → x0[i]? = some x → x ∈ x0 → L (n + 1) (i : Nat) = L n ((i + 1 : Nat) : Int)) {n : Nat} (hn : x0.length < n) : L n 0 = some true := by
 have key := xGm (σ := Unit) (L := fun n i _ => L n i) x0 (fun _ _ => true) (fun _ _ => True) (fun n _ _ => hend n)
  (fun i x r s hd hi hx _ => .inl ⟨(), trivial, rfl, fun n => hcons i x n hi hx (List.mem_of_getElem? hx)⟩) n 0 () trivial (by omega) (by omega)
 exact key
end
end Go.Ab
end
section
namespace Go.Ab
theorem vk (a b c : Int) (t : Str) (l : List Val) (k : List Str) (r : List Rowd) : (Val.mk a b c t l k r).kind = a := rfl
theorem vs (a b c : Int) (t : Str) (l : List Val) (k : List Str) (r : List Rowd) : (Val.mk a b c t l k r).step = c := rfl
theorem vl (a b c : Int) (t : Str) (l : List Val) (k : List Str) (r : List Rowd) : (Val.mk a b c t l k r).list = l := rfl
theorem ek (a b : Int) (t : Str) (l : List Exp) : (Exp.mk a b t l).kind = a := rfl
theorem en (a b : Int) (t : Str) (l : List Exp) : (Exp.mk a b t l).n = b := rfl
theorem et (a b : Int) (t : Str) (l : List Exp) : (Exp.mk a b t l).text = t := rfl
theorem ea (a b : Int) (t : Str) (l : List Exp) : (Exp.mk a b t l).args = l := rfl
mutual
def Exp.size : Exp → Nat
 | .mk _ _ t a => t.length + (a.length + Exp.sizes a)
def Exp.sizes : List Exp → Nat
 | [] => 0
 | x :: r => Exp.size x + Exp.sizes r
end
theorem Exp.sizes_eq (l : List Exp) : Exp.sizes l = (l.map Exp.size).sum := by
 induction l with
 | nil => rfl
 | cons x l ih => simp [Exp.sizes, ih]
theorem xPg {α : Type} {f : α → Nat} {l : List α} {x : α} (h : x ∈ l) : f x ≤ (l.map f).sum := by
 induction l with
 | nil => cases h
 | cons a l ih =>
   simp only [List.map_cons, List.sum_cons]
   rcases List.mem_cons.1 h with rfl | h
   · omega
   · have := ih h; omega
theorem Exp.size_eq (e : Exp) : e.size = e.text.length + (e.args.length + (e.args.map Exp.size).sum) := by
 cases e; simp [Exp.size, Exp.sizes_eq, Exp.text, Exp.args]
theorem xMe (n : Nat) : Big fun N => n < N := ⟨n + 1, fun N h => by omega⟩
end Go.Ab
end
section
namespace Go.Ab
def xJR (c : UInt8) : Bool := decide ((c.toNat : Int) ≥ 97) && decide ((c.toNat : Int) ≤ 122)
def xLr (c : UInt8) : Bool := decide ((c.toNat : Int) ≥ 48) && decide ((c.toNat : Int) ≤ 57)
def xHV : List UInt8 → Bool → Bool
 | [], _ => true
 | x :: r, f => (xJR x || (!f && xLr x)) && xHV r false
theorem xL2 {N : Nat} {s : Str} (hl : s.length ≤ 9223372036854775807) (hn : s.length < N) : xH3 N s = some (xHV s true && decide ((s.length : Int) > 0)) :=
 xGm (L := fun n i _ => xDc N n s i) s (fun l f => xHV l f && decide ((s.length : Int) > 0)) (fun i f => f = (i == 0)) (fun n _ _ => by simp [xDc, xHV])
  (fun i x l f hd hi hx hf => by
    have hi' : (i : Int) < (s.length : Int) := by omega
    have hi0 : ((i : Int) == 0) = f := by rw [hf]; cases i <;> simp <;> omega
    by_cases h1 : (xJR x || (!f && xLr x)) = true
    · refine .inl ⟨false, by simp, by simp [xHV, h1], fun n => ?_⟩
      simp only [xDc, decide_eq_true hi', jT, Int.toNat_natCast, xCw hx, xBy hi hl, hi0]
      rw [if_pos (by omega)]
      unfold xJR xLr at h1
      by_cases c1 : (x.toNat : Int) ≥ 97 <;> by_cases c2 : (x.toNat : Int) ≤ 122 <;> by_cases c3 : (x.toNat : Int) ≥ 48 <;> by_cases c4 : (x.toNat : Int) ≤ 57 <;> cases f <;>
       simp only [c1, c2, c3, c4, decide_true, decide_false, jT, jF, Bool.not_true, Bool.not_false, Bool.and_true, Bool.and_false, Bool.or_true, Bool.or_false, Bool.false_and, Bool.true_and, Bool.false_or, Bool.false_eq_true] at h1 ⊢
    · refine .inr fun n => ?_
      have h1 := Bool.eq_false_iff.2 h1
      simp only [xDc, decide_eq_true hi', jT, Int.toNat_natCast, xCw hx, xBy hi hl, hi0, xHV, h1, Bool.false_and]
      rw [if_pos (by omega)]
      unfold xJR xLr at h1
      by_cases c1 : (x.toNat : Int) ≥ 97 <;> by_cases c2 : (x.toNat : Int) ≤ 122 <;> by_cases c3 : (x.toNat : Int) ≥ 48 <;> by_cases c4 : (x.toNat : Int) ≤ 57 <;> cases f <;>
       simp only [c1, c2, c3, c4, decide_true, decide_false, jT, jF, Bool.not_true, Bool.not_false, Bool.and_true, Bool.and_false, Bool.or_true, Bool.or_false, Bool.false_and, Bool.true_and, Bool.false_or, Bool.true_eq_false] at h1 ⊢) N 0 true rfl (by omega) (by omega)
theorem xJM (N : Nat) (a b c : Int) : xFM N a b c = some (decide (b ≤ a) && decide (a ≤ c)) := by
 unfold xFM
 cases h : decide (b ≤ a) <;> simp
theorem xNI (N : Nat) (a b c : Int) : xHM N a b c = some (decide (b ≤ a) && decide (a ≤ c)) := by
 unfold xHM
 cases h : decide (b ≤ a)
 · rfl
 · rfl
theorem xL7 {N : Nat} {s : Str} (hl : s.length ≤ 9223372036854775807) (hn : s.length < N) : xIu N s = some (xHV s true && (decide ((1 : Int) ≤ s.length) && decide ((s.length : Int) ≤ 8))) :=
 xGm (L := fun n i _ => xD2 N n s i) s (fun l f => xHV l f && (decide ((1 : Int) ≤ s.length) && decide ((s.length : Int) ≤ 8))) (fun i f => f = (i == 0)) (fun n _ _ => by simp [xD2, xHV, xJM])
  (fun i x l f hd hi hx hf => by
    have hi' : (i : Int) < (s.length : Int) := by omega
    have hi0 : ((i : Int) == 0) = f := by rw [hf]; cases i <;> simp <;> omega
    have e1 : decide ((x.toNat : Int) < 48) = !decide ((x.toNat : Int) ≥ 48) := by by_cases c : (x.toNat : Int) ≥ 48 <;> simp [c] <;> omega
    have e2 : decide ((x.toNat : Int) > 57) = !decide ((x.toNat : Int) ≤ 57) := by by_cases c : (x.toNat : Int) ≤ 57 <;> simp [c] <;> omega
    by_cases h1 : (xJR x || (!f && xLr x)) = true
    · refine .inl ⟨false, by simp, by simp [xHV, h1], fun n => ?_⟩
      simp only [xD2, decide_eq_true hi', jT, Int.toNat_natCast, xCw hx, xBy hi hl, hi0, e1, e2]
      rw [if_pos (by omega)]
      unfold xJR xLr at h1
      by_cases c1 : (x.toNat : Int) ≥ 97 <;> by_cases c2 : (x.toNat : Int) ≤ 122 <;> by_cases c3 : (x.toNat : Int) ≥ 48 <;> by_cases c4 : (x.toNat : Int) ≤ 57 <;> cases f <;>
       simp only [c1, c2, c3, c4, decide_true, decide_false, jT, jF, Bool.not_true, Bool.not_false, Bool.and_true, Bool.and_false, Bool.or_true, Bool.or_false, Bool.false_and, Bool.true_and, Bool.false_or, Bool.false_eq_true] at h1 ⊢
    · refine .inr fun n => ?_
      have h1 := Bool.eq_false_iff.2 h1
      simp only [xD2, decide_eq_true hi', jT, Int.toNat_natCast, xCw hx, xBy hi hl, hi0, e1, e2, xHV, h1, Bool.false_and]
      rw [if_pos (by omega)]
      unfold xJR xLr at h1
      by_cases c1 : (x.toNat : Int) ≥ 97 <;> by_cases c2 : (x.toNat : Int) ≤ 122 <;> by_cases c3 : (x.toNat : Int) ≥ 48 <;> by_cases c4 : (x.toNat : Int) ≤ 57 <;> cases f <;>
       simp only [c1, c2, c3, c4, decide_true, decide_false, jT, jF, Bool.not_true, Bool.not_false, Bool.and_true, Bool.and_false, Bool.or_true, Bool.or_false, Bool.false_and, Bool.true_and, Bool.false_or, Bool.true_eq_false] at h1 ⊢) N 0 true rfl (by omega) (by omega)
def xIm : List Str := [[108, 101, 116], [105, 110], [105, 102], [116, 104, 101, 110], [101, 108, 115, 101], [102, 111, 114], [100, 111], [108, 101, 110], [115, 117, 109], [116, 97, 107, 101], [115, 107, 105, 112], [114, 97, 110, 103, 101], [110, 116, 104], [119, 104, 101, 114, 101], [107, 101, 101, 112], [97, 100, 100], [103, 114, 111, 117, 112], [106, 111, 105, 110], [99, 111, 108, 117, 109, 110], [114, 111, 119, 115], [99, 108, 111, 99, 107], [99, 104, 97, 110, 99, 101], [102, 105, 108, 101], [116, 97, 98, 108, 101]]
theorem xM5 {N : Nat} {xs : List Str} {s : Str} (hl : xs.length ≤ 9223372036854775807) (hn : xs.length < N) : xJB N xs s = some (xs.any (· == s)) :=
 xGm (σ := Unit) (L := fun n i _ => xFu N n xs s i) xs (fun l _ => l.any (· == s)) (fun _ _ => True) (fun n _ _ => by simp [xFu])
  (fun i x l _ hd hi hx _ => by
    have hi' : (i : Int) < (xs.length : Int) := by omega
    cases h1 : x == s
    · refine .inl ⟨(), trivial, by simp [h1], fun n => ?_⟩
      simp only [xFu, decide_eq_true hi', jT, Int.toNat_natCast, xCw hx, h1, jF, xBy hi hl]
      rw [if_pos (by omega)]
    · refine .inr fun n => ?_
      simp only [xFu, decide_eq_true hi', jT, Int.toNat_natCast, xCw hx, h1]
      rw [if_pos (by omega)]
      simp [h1]) N 0 () trivial (by omega) (by omega)
def xJA (s : Str) : Bool := xIm.any (· == s)
theorem xKr {N : Nat} {s : Str} (hn : 24 < N) : xFQ N s = some (xJA s) := by
 unfold xFQ xGL
 rw [jS, show ([[108, 101, 116], [105, 110], [105, 102], [116, 104, 101, 110], [101, 108, 115, 101], [102, 111, 114], [100, 111], [108, 101, 110], [115, 117, 109], [116, 97, 107, 101], [115, 107, 105, 112], [114, 97, 110, 103, 101], [110, 116, 104], [119, 104, 101, 114, 101], [107, 101, 101, 112], [97, 100, 100], [103, 114, 111, 117, 112], [106, 111, 105, 110], [99, 111, 108, 117, 109, 110], [114, 111, 119, 115], [99, 108, 111, 99, 107], [99, 104, 97, 110, 99, 101], [102, 105, 108, 101], [116, 97, 98, 108, 101]] : List Str) = xIm from rfl, xM5 (by decide) hn]
 rfl
theorem xKf (N : Nat) (s : Str) : xFK N s = some (xJA s) := by
 by_cases h : s ∈ xIm
 · have h' : xJA s = true := List.any_eq_true.2 ⟨s, h, by simp⟩
   rw [h']
   simp only [xIm, List.mem_cons, List.not_mem_nil, or_false] at h
   rcases h with h | h | h | h | h | h | h | h | h | h | h | h | h | h | h | h | h | h | h | h | h | h | h | h <;> subst h <;> rfl
 · have h' : xJA s = false := by
    unfold xJA
    rw [List.any_eq_false]
    intro x hx hxs
    exact h (by rw [← eq_of_beq hxs]; exact hx)
   rw [h']
   have hne : ∀ x ∈ xIm, (s == x) = false := by
    intro x hx
    cases hb : s == x
    · rfl
    · exact absurd (by rw [eq_of_beq hb]; exact hx) h
   simp only [xIm, List.mem_cons, List.not_mem_nil, or_false, forall_eq_or_imp, forall_eq] at hne
   simp only [xFK, xC1, hne, jF, jS]
   rfl
def xDE (s : Str) : Bool := xHV s true && (decide ((1 : Int) ≤ s.length) && decide ((s.length : Int) ≤ 8)) && !xJA s
theorem xGn {N : Nat} {s : Str} (hl : s.length ≤ 9223372036854775807) (hn : s.length < N) : xDe N s = some (xDE s) := by
 unfold xDe xDE
 rw [xL7 hl hn, jS]
 cases (xHV s true && (decide ((1 : Int) ≤ s.length) && decide ((s.length : Int) ≤ 8)))
 · rfl
 · rw [xKf]; rfl
theorem xGt {N : Nat} {s : Str} (hl : s.length ≤ 9223372036854775807) (hn : s.length < N) (hn2 : 24 < N) : xDg N s = some (xDE s) := by
 unfold xDg xDE
 rw [xL2 hl hn, jS, xKr hn2]
 have : decide ((s.length : Int) > 0) = decide ((1 : Int) ≤ s.length) := by by_cases c : (s.length : Int) > 0 <;> simp [c] <;> omega
 rw [this]
 cases xHV s true <;> cases decide ((1 : Int) ≤ s.length) <;> cases decide ((s.length : Int) ≤ 8) <;> rfl
end Go.Ab
end
section
namespace Go.Ab
theorem xPv (N : Nat) (e : Exp) : xHS N e = xFR N e := rfl
end Go.Ab
end
section
namespace Go.Ab
def allI {α : Type} (p : Nat → α → Bool) : List α → Nat → Bool
 | [], _ => true
 | x :: r, i => p i x && allI p r (i + 1)
theorem xVL {α : Type} {L : Nat → Int → Option Bool} {x0 : List α} {p : Nat → α → Bool} {e : Option Bool} (hend : ∀ n, L (n + 1) (x0.length : Nat) = e)
 (hcons : ∀ (i : Nat) x n, i < x0.length → x0[i]? = some x → x ∈ x0 → L (n + 1) (i : Nat) = bif p i x then L n ((i + 1 : Nat) : Int) else some false) {n : Nat} (hn : x0.length < n) :
 L n 0 = bif allI p x0 0 then e else some false := by
 have key : ∀ (m i : Nat), i ≤ x0.length → x0.length < m + i → L m (i : Nat) = bif allI p (x0.drop i) i then e else some false := by
  intro m
  induction m with
  | zero => intro i h1 h2; omega
  | succ m ih =>
    intro i h1 h2
    cases hd : x0.drop i with
    | nil =>
      have := xHR hd
      obtain rfl : i = x0.length := by omega
      rw [hend]; rfl
    | cons x l =>
      obtain ⟨g1, g2, g3⟩ := xDN hd
      rw [hcons i x m g1 g2 (List.mem_of_getElem? g2), ih (i + 1) (by omega) (by omega), g3]
      simp only [allI]
      cases p i x <;> rfl
 exact key n 0 (by omega) (by omega)
def vBO (c : UInt8) : Bool := !(decide ((c.toNat : Int) < 32)) && (!(decide ((c.toNat : Int) > 126)) && !((c.toNat : Int) == 34))
def xJx (s : Str) : Bool := allI (fun _ => vBO) s 0 && decide ((s.length : Int) ≤ 20)
theorem xVN {a b : Bool} : (bif a then some b else some false) = some (a && b) := by cases a <;> rfl
theorem xGu {N : Nat} {s : Str} (hl : s.length ≤ 9223372036854775807) (hn : s.length < N) : xEQ N s = some (xJx s) := by
 rw [xJx, ← xVN]
 exact xVL (L := fun n i => xCG N n s i) (fun n => by simp [xCG]) (fun i x n hi hx hm => by
  have hi' : (i : Int) < (s.length : Int) := by omega
  simp only [xCG, decide_eq_true hi', jT, Int.toNat_natCast, xCw hx, xBy hi hl, vBO]
  rw [if_pos (by omega)]
  cases decide ((x.toNat : Int) < 32) <;> cases decide ((x.toNat : Int) > 126) <;> cases ((x.toNat : Int) == 34) <;> rfl) hn
theorem xIS (N n : Nat) (s : Str) (i : Int) : xEB N n s i = xCG N n s i := by
 induction n generalizing i with
 | zero => rfl
 | succ n ih => simp only [xEB, xCG, ih]
theorem xHt {N : Nat} {s : Str} (hl : s.length ≤ 9223372036854775807) (hn : s.length < N) : xDf N s = some (xJx s) := (xIS N N s 0).trans (xGu hl hn)
end Go.Ab
end
section
namespace Go.Ab
theorem Big2.up {p : Nat → Nat → Prop} (h : Big2 p) : Big2 fun N d => p N (d + 1) := h.elim fun k hk => ⟨k, fun N d h1 h2 => hk N (d + 1) h1 (by omega)⟩
end Go.Ab
end
section
namespace Go.Ab
def kb : List Val → List Int → Bool
 | [], _ => false
 | _ :: _, [] => false
 | x :: r, k :: ks => (x.kind != k) || kb r ks
end Go.Ab
end
section
namespace Go.Ab
def pick (k : Int) (n : Int) (rs : List Rowd) : List Rowd := rs.filter fun r => r.cells.getD k.toNat Ty.int.dflt == n
end Go.Ab
end
section
namespace Go.Ab
def dd (n : Nat) : Str := if n = 0 then [] else Lib.decDigits n
theorem xNP {n : Nat} (h : n ≠ 0) : dd n = dd (n / 10) ++ [UInt8.ofNat (48 + n % 10)] := by
 unfold dd
 rw [if_neg h]
 by_cases h1 : n < 10
 · rw [Lib.decDigits, dif_pos h1, if_pos (by omega), Nat.mod_eq_of_lt h1]; rfl
 · rw [Lib.decDigits, dif_neg h1, if_neg (by omega)]
theorem xNV {n : Int} (h : n ≠ 0) : Lib.itoa n = (bif decide (n < 0) then [45] else []) ++ dd n.natAbs := by
 have h2 : ¬ n.natAbs = 0 := by omega
 unfold Lib.itoa dd
 by_cases h1 : n < 0
 · rw [if_pos h1, decide_eq_true h1, if_neg h2]; rfl
 · rw [if_neg h1, decide_eq_false h1, if_neg h2, show n.toNat = n.natAbs from by omega]; rfl
theorem xVw : ∀ (k n : Nat), n < 10 ^ k → (dd n).length ≤ k := by
 intro k
 induction k with
 | zero => intro n h; have : n = 0 := by simpa using h
           subst this; exact Nat.le_refl _
 | succ k ih =>
   intro n h
   by_cases h0 : n = 0
   · subst h0; exact Nat.zero_le _
   · rw [xNP h0, jA]
     have := ih (n / 10) (by rw [Nat.pow_succ] at h; omega)
     simp only [jC, jN]; omega
theorem xRZ {n : Int} (h : -9223372036854775808 ≤ n ∧ n ≤ 9223372036854775807) : (Lib.itoa n).length ≤ 21 := by
 by_cases h0 : n = 0
 · subst h0
   show (Lib.decDigits 0).length ≤ 21
   rw [Lib.decDigits, dif_pos (by omega)]; simp
 · rw [xNV h0, jA]
   have := xVw 20 n.natAbs (by have : (10 : Nat) ^ 20 = 100000000000000000000 := by decide
                               omega)
   cases decide (n < 0) <;> simp <;> omega
theorem xMf (s : Str) : List.map (fun n => UInt8.ofNat (Int.toNat n)) (List.map (fun c : UInt8 => (c.toNat : Int)) s) = s := by
 rw [List.map_map]
 have : ((fun n => UInt8.ofNat (Int.toNat n)) ∘ fun c : UInt8 => (c.toNat : Int)) = id := by
  funext c
  simp
 rw [this, List.map_id]
theorem xMC : ∀ (xs : List Str) (sep : Str), (Lib.join xs sep).length ≤ (xs.map List.length).sum + sep.length * xs.length := by
 intro xs sep
 cases xs with
 | nil => simp [Lib.join, List.intercalate]
 | cons x r =>
   rw [Lib.join_cons, jA, Lib.joinTail_length]
   simp only [Lib.lens, List.map_cons, List.sum_cons, jC, Nat.mul_add, Nat.mul_one]
   have e : (List.map (fun x => List.length x) r) = List.map List.length r := rfl
   rw [e]; omega
mutual
def Exp.cnt : Exp → Nat
 | .mk _ _ _ a => 1 + Exp.cnts a
def Exp.cnts : List Exp → Nat
 | [] => 0
 | x :: r => Exp.cnt x + Exp.cnts r
end
theorem Exp.cnts_eq (l : List Exp) : Exp.cnts l = (l.map Exp.cnt).sum := by
 induction l with
 | nil => rfl
 | cons x l ih => simp only [Exp.cnts, List.map_cons, List.sum_cons, ih]
theorem Exp.cnt_eq (e : Exp) : e.cnt = 1 + (e.args.map Exp.cnt).sum := by
 cases e; simp only [Exp.cnt, Exp.cnts_eq, Exp.args]
mutual
def Exp.nest : Exp → Nat
 | .mk _ _ _ a => Exp.nests a + 1
def Exp.nests : List Exp → Nat
 | [] => 0
 | x :: r => max (Exp.nest x) (Exp.nests r)
end
theorem Exp.nest_eq (e : Exp) : e.nest = Exp.nests e.args + 1 := by cases e; rfl
theorem xOC {f g : Exp → Nat} : ∀ {a : List Exp}, (∀ x ∈ a, f x ≤ g x + 1) → (a.map f).sum ≤ a.length + (a.map g).sum
 | [], _ => Nat.le_refl _
 | x :: l, ih => by
   have h1 := ih x List.mem_cons_self
   have h2 := xOC fun y hy => ih y (List.mem_cons_of_mem _ hy)
   simp only [List.map_cons, List.sum_cons, jC]; omega
theorem Exp.cnt_le : ∀ e : Exp, e.cnt ≤ e.size + 1 := by
 refine Exp.ind fun k n t a ih => ?_
 rw [Exp.cnt_eq, Exp.size_eq]
 have := xOC ih
 show 1 + (a.map Exp.cnt).sum ≤ t.length + (a.length + (a.map Exp.size).sum) + 1
 omega
theorem xOO : ∀ {a : List Exp}, (∀ x ∈ a, x.nest ≤ x.cnt) → Exp.nests a ≤ (a.map Exp.cnt).sum
 | [], _ => Nat.le_refl _
 | x :: l, ih => by
   have h1 := ih x List.mem_cons_self
   have h2 := xOO fun y hy => ih y (List.mem_cons_of_mem _ hy)
   simp only [Exp.nests, List.map_cons, List.sum_cons]; omega
theorem Exp.nest_le : ∀ e : Exp, e.nest ≤ e.cnt := by
 refine Exp.ind fun k n t a ih => ?_
 rw [Exp.nest_eq, Exp.cnt_eq]
 have := xOO ih
 show Exp.nests a + 1 ≤ 1 + (a.map Exp.cnt).sum
 omega
def xQD (n : Int) : Str := bif n == 1 then [43] else bif n == 2 then [45] else bif n == 3 then [42] else bif n == 4 then [60] else [61, 61]
def lvl (e : Exp) : Int := bif e.kind == 7 then 0 else bif e.kind == 8 then 0 else bif e.kind == 9 then 0 else bif e.kind == 6 then (bif e.n == 4 then 1 else bif e.n == 5 then 1 else bif e.n == 1 then 2 else bif e.n == 2 then 2 else bif e.n == 3 then 3 else 4) else 4
def encl (l : Int) (x : Exp) (s : Str) : Str := bif decide (lvl x < l) then [40] ++ s ++ [41] else s
def xKk (k n : Int) (t : Str) (a : List Exp) (s : List Str) : Str :=
 bif k == 1 then Lib.itoa n else bif k == 2 then [34] ++ t ++ [34] else bif k == 3 then t else bif k == 4 then [91] ++ Lib.join s [44, 32] ++ [93]
 else bif k == 5 then t ++ [40] ++ Lib.join s [44, 32] ++ [41]
 else bif k == 7 then [108, 101, 116, 32] ++ t ++ [32, 61, 32] ++ s.getD 0 [] ++ [32, 105, 110, 32] ++ s.getD 1 []
 else bif k == 9 then [102, 111, 114, 32] ++ t ++ [32, 105, 110, 32] ++ s.getD 0 [] ++ [32, 100, 111, 32] ++ s.getD 1 []
 else bif k == 8 then [105, 102, 32] ++ s.getD 0 [] ++ [32, 116, 104, 101, 110, 32] ++ s.getD 1 [] ++ [32, 101, 108, 115, 101, 32] ++ s.getD 2 []
 else encl (bif lvl (.mk k n t a) == 1 then 2 else lvl (.mk k n t a)) (a.getD 0 Ty.exp.dflt) (s.getD 0 []) ++ [32] ++ xQD n ++ [32] ++ encl (lvl (.mk k n t a) + 1) (a.getD 1 Ty.exp.dflt) (s.getD 1 [])
mutual
def srcE : Exp → Str
 | .mk k n t a => xKk k n t a (xVn a)
def xVn : List Exp → List Str
 | [] => []
 | x :: r => srcE x :: xVn r
end
theorem xVo (l : List Exp) : xVn l = l.map srcE := by
 induction l with
 | nil => rfl
 | cons x l ih => simp only [xVn, List.map_cons, ih]
theorem xRA (k n : Int) (t : Str) (a : List Exp) : srcE (.mk k n t a) = xKk k n t a (a.map srcE) := by
 simp only [srcE, xVo]
def xNn (vT vN : Str → Bool) (ac : Str → Int) (k n : Int) (t : Str) (l : Nat) : Bool :=
 bif k == 1 then (decide (0 ≤ n) && decide (n ≤ 1000000000)) && ((t == []) && (l == 0))
 else bif k == 2 then (n == 0) && (vT t && (l == 0))
 else bif k == 3 then (n == 0) && (vN t && (l == 0))
 else bif k == 4 then (n == 0) && ((t == []) && decide (l ≤ 8))
 else bif k == 5 then (n == 0) && ((l : Int) == ac t)
 else bif k == 6 then (decide (1 ≤ n) && decide (n ≤ 5)) && ((t == []) && (l == 2))
 else bif k == 7 then (n == 0) && (vN t && (l == 2))
 else bif k == 9 then (n == 0) && (vN t && (l == 2))
 else bif k == 8 then (n == 0) && ((t == []) && (l == 3)) else false
end Go.Ab
end
section
namespace Go.Ab
theorem xJ7 {N : Nat} : ∀ (k n : Nat) (x : Int) (b : Bool) (q : Str), x.natAbs < 10 ^ k → k < n → k + q.length ≤ 1000 → (-9223372036854775808 ≤ x ∧ x ≤ 9223372036854775807) →
 xCq N n x b q = some ((bif b then [45] else []) ++ (dd x.natAbs ++ q)) := by
 intro k
 induction k with
 | zero =>
   intro n x b q hx hn hq hi
   obtain ⟨n, rfl⟩ : ∃ m, n = m + 1 := ⟨n - 1, by omega⟩
   have : x = 0 := by have : x.natAbs < 1 := by simpa using hx
                      omega
   subst this
   simp only [xCq, show ((0 : Int) != 0) = false from rfl, jF]
   cases b
   · rfl
   · simp only [jT]
     rw [if_pos (by simp only [jC, jN]; unfold Lim; omega)]; rfl
 | succ k ih =>
   intro n x b q hx hn hq hi
   obtain ⟨n, rfl⟩ : ∃ m, n = m + 1 := ⟨n - 1, by omega⟩
   by_cases h0 : x = 0
   · subst h0
     simp only [xCq, show ((0 : Int) != 0) = false from rfl, jF]
     cases b
     · rfl
     · simp only [jT]
       rw [if_pos (by simp only [jC, jN]; unfold Lim; omega)]; rfl
   · have hne : (x != 0) = true := by simpa using h0
     have hn0 : x.natAbs ≠ 0 := by omega
     have hd : (Int.tdiv x 10).natAbs = x.natAbs / 10 := by rw [Int.natAbs_tdiv]; rfl
     have hm : (Int.tmod x 10).natAbs = x.natAbs % 10 := by rw [Int.natAbs_tmod]; rfl
     have hdi : -9223372036854775808 ≤ Int.tdiv x 10 ∧ Int.tdiv x 10 ≤ 9223372036854775807 := by omega
     have hb : (Int.tdiv x 10).natAbs < 10 ^ k := by rw [hd]; rw [Nat.pow_succ] at hx; omega
     have hw : IntKind.i64.wrap (Int.tdiv x 10) = Int.tdiv x 10 := xBh (by omega) (by omega)
     have fin : ∀ c : Int, c = ((48 + x.natAbs % 10 : Nat) : Int) → xCq N n (Int.tdiv x 10) b ((List.map (fun n => UInt8.ofNat (Int.toNat n)) [c]) ++ q) = some ((bif b then [45] else []) ++ (dd x.natAbs ++ q)) := by
      intro c hc
      rw [ih n _ b _ hb (by omega) (by simp only [jA, List.length_map, jC, jN]; omega) hdi, hd, xNP hn0, hc]
      simp only [List.map_cons, List.map_nil, Int.toNat_natCast, List.append_assoc, List.cons_append, List.nil_append]
     have hlim : ∀ c : Int, List.length (List.map (fun n => UInt8.ofNat (Int.toNat n)) [c]) + List.length q ≤ Lim := fun c => by
      simp only [List.length_map, jC, jN]; unfold Lim; omega
     by_cases hneg : Int.tmod x 10 < 0
     · have e1 : IntKind.i64.wrap (0 - Int.tmod x 10) = 0 - Int.tmod x 10 := xBh (by omega) (by omega)
       have e2 : IntKind.i64.wrap (48 + (0 - Int.tmod x 10)) = 48 + (0 - Int.tmod x 10) := xBh (by omega) (by omega)
       have e3 : IntKind.u8.wrap (48 + (0 - Int.tmod x 10)) = 48 + (0 - Int.tmod x 10) := xOE (by omega) (by omega)
       simp only [xCq, hne, jT, decide_eq_true hneg, e1, e2, e3, hw]
       rw [if_pos (hlim _)]
       exact fin _ (by omega)
     · have e2 : IntKind.i64.wrap (48 + Int.tmod x 10) = 48 + Int.tmod x 10 := xBh (by omega) (by omega)
       have e3 : IntKind.u8.wrap (48 + Int.tmod x 10) = 48 + Int.tmod x 10 := xOE (by omega) (by omega)
       simp only [xCq, hne, jT, decide_eq_false hneg, jF, e2, e3, hw]
       rw [if_pos (hlim _)]
       exact fin _ (by omega)
theorem xIo {N : Nat} {x : Int} (hN : 100 < N) (hi : -9223372036854775808 ≤ x ∧ x ≤ 9223372036854775807) : xE8 N x = some (Lib.itoa x) := by
 unfold xE8
 by_cases h0 : x = 0
 · subst h0
   simp only [beq_self_eq_true, jT]
   show some [48] = some (Lib.decDigits 0)
   rw [Lib.decDigits, dif_pos (by omega)]; rfl
 · have e20 : x.natAbs < 10 ^ 20 := by
    have : (10 : Nat) ^ 20 = 100000000000000000000 := by decide
    omega
   rw [show (x == 0) = false from beq_eq_false_iff_ne.2 h0, jF, xJ7 20 N x _ [] e20 (by omega) (by simp) hi, xNV h0, List.append_nil]
theorem xKA {N : Nat} {x : Int} (hi : -9223372036854775808 ≤ x ∧ x ≤ 9223372036854775807) : xH4 N x = some (Lib.itoa x) := by
 unfold xH4 strconv_Itoa itoaP
 rw [if_pos hi.1, if_pos hi.2]; rfl
theorem xNk {N : Nat} {xs : List Str} {sep : Str} (h1 : xs.length ≤ 100000000000) (h2 : (xs.map List.length).sum + sep.length * xs.length ≤ 100000000000) : xLw N xs sep = some (Lib.join xs sep) := by
 have := xMC xs sep
 unfold xLw xLa joinP
 rw [if_pos (by omega), if_pos (by omega)]; rfl
theorem xNG {N : Nat} {xs : List Str} {sep : Str} (h1 : xs.length ≤ 100000000000) (h2 : (xs.map List.length).sum + sep.length * xs.length ≤ 100000000000) (hN : xs.length < N) : xJp N xs sep = some (Lib.join xs sep) := by
 have key : ∀ (n i : Nat) (q : List Int), 0 < i → i ≤ xs.length → xs.length < n + i → q.length + (((xs.drop i).map List.length).sum + sep.length * (xs.drop i).length) ≤ 100000000000 →
  xEt N n xs sep q (i : Nat) = some (List.map (fun n => UInt8.ofNat (Int.toNat n)) q ++ Lib.joinTail sep (xs.drop i)) := by
  intro n
  induction n with
  | zero => intro i q _ h1 h2; omega
  | succ n ih =>
    intro i q hp hi hn hl
    cases hd : xs.drop i with
    | nil =>
      have hi2 : i = xs.length := by have := xHR hd; omega
      subst hi2
      simp only [xEt, Int.lt_irrefl, decide_false, jF, Lib.joinTail, List.map_nil, List.flatten_nil, List.append_nil]
    | cons x l =>
      obtain ⟨e1, e2, e3⟩ := xDN hd
      rw [hd] at hl
      simp only [List.map_cons, List.sum_cons, jC, Nat.mul_add, Nat.mul_one] at hl
      have hi' : (i : Int) < (xs.length : Int) := by omega
      have hp' : (i : Int) > 0 := by omega
      have := ih (i + 1) ((q ++ List.map (fun c => (c.toNat : Int)) sep) ++ List.map (fun c => (c.toNat : Int)) x) (by omega) (by omega) (by omega) (by rw [e3]; simp only [jA, List.length_map]; omega)
      rw [e3] at this
      simp only [xEt, decide_eq_true hi', decide_eq_true hp', jT, Int.toNat_natCast, xCw e2, xBy e1 (by omega : xs.length ≤ _), this]
      rw [if_pos (by unfold Lim; omega), if_pos (by omega), if_pos (by simp only [jA, List.length_map]; unfold Lim; omega)]
      simp only [List.map_append, xMf, Lib.joinTail, List.map_cons, List.flatten_cons, List.append_assoc]
 obtain ⟨n, rfl⟩ : ∃ m, N = m + 1 := ⟨N - 1, by omega⟩
 cases xs with
 | nil => simp [xJp, xEt, Lib.join, List.intercalate]
 | cons x l =>
   have := key n 1 (List.map (fun c => (c.toNat : Int)) x) (by omega) (by simp only [jC]; omega) (by simp only [jC] at hN ⊢; omega) (by
    simp only [List.drop_succ_cons, List.drop_zero, List.length_map]
    simp only [List.map_cons, List.sum_cons, jC, Nat.mul_add, Nat.mul_one] at h2; omega)
   simp only [List.map_cons, List.sum_cons, jC, Nat.mul_add, Nat.mul_one] at h2 h1
   have hi' : ((0 : Nat) : Int) < (((x :: l).length : Nat) : Int) := by simp only [jC]; omega
   have hp' : ¬ ((0 : Nat) : Int) > 0 := by omega
   show xEt (n + 1) (n + 1) (x :: l) sep [] ((0 : Nat) : Int) = _
   simp only [xEt, decide_eq_true hi', decide_eq_false hp', jT, jF, Int.toNat_natCast, List.getD_cons_zero, xBy (show 0 < (x :: l).length by simp) (by simp only [jC]; omega : (x :: l).length ≤ _), List.nil_append]
   rw [if_pos (by simp only [jC]; omega), if_pos (by simp only [jN]; unfold Lim; omega)]
   rw [this, xMf, Lib.join_cons]; rfl
theorem vAN {α : Type} {b : Bool} {x y : Option α} (h1 : ∃ r, x = some r) (h2 : ∃ r, y = some r) : ∃ r, (bif b then x else y) = some r := by cases b <;> assumption
theorem xEo {α : Type} {b : Bool} {x y : Option α} {p q : α} (h1 : x = some p) (h2 : y = some q) : (bif b then x else y) = some (bif b then p else q) := by cases b <;> assumption
def argc (s : Str) : Int := (xCc 0 s).getD 0
theorem xFP (N : Nat) (s : Str) : xCc N s = some (argc s) := by
 have key : ∃ r, xCc 0 s = some r := by
  unfold xCc
  repeat (first | exact ⟨_, rfl⟩ | refine vAN ⟨_, rfl⟩ ?_)
 obtain ⟨r, hr⟩ := key
 show xCc 0 s = _
 rw [argc, hr]; rfl
theorem xG3 (N : Nat) (s : Str) : xC1 N s = some (argc s) := (show xC1 N s = xCc N s from rfl).trans (xFP N s)
def xNm (e : Exp) : Bool := xNn xJx xDE argc e.kind e.n e.text e.args.length
theorem vBy (l : Nat) : ((l : Int) == 0) = (l == 0) := by
 rcases Nat.eq_zero_or_pos l with rfl | h
 · rfl
 · rw [beq_eq_false_iff_ne.2 (by omega : l ≠ 0), beq_eq_false_iff_ne.2 (by omega : (l : Int) ≠ 0)]
theorem vBz (l : Nat) : ((l : Int) == 2) = (l == 2) := by
 rcases Decidable.em (l = 2) with rfl | h
 · rfl
 · rw [beq_eq_false_iff_ne.2 h, beq_eq_false_iff_ne.2 (by omega : (l : Int) ≠ 2)]
theorem vBA (l : Nat) : ((l : Int) == 3) = (l == 3) := by
 rcases Decidable.em (l = 3) with rfl | h
 · rfl
 · rw [beq_eq_false_iff_ne.2 h, beq_eq_false_iff_ne.2 (by omega : (l : Int) ≠ 3)]
theorem vBB (l : Nat) : decide ((l : Int) ≤ 8) = decide (l ≤ 8) := by
 rcases Decidable.em (l ≤ 8) with h | h
 · rw [decide_eq_true h, decide_eq_true (by omega : (l : Int) ≤ 8)]
 · rw [decide_eq_false h, decide_eq_false (by omega : ¬ (l : Int) ≤ 8)]
theorem xL5 {N : Nat} {e : Exp} (ht : e.text.length ≤ 9223372036854775807) (hn : e.text.length < N) : xHu N e = some (xNm e) := by
 simp only [xHu, xNm, xNn, xJM, xHt ht hn, xGn (N := N) ht hn, xG3, jS, vBy, vBz, vBA, vBB]
 refine xEo ?_ (xEo ?_ (xEo ?_ (xEo ?_ (xEo ?_ (xEo ?_ (xEo ?_ (xEo ?_ (xEo ?_ rfl)))))))) <;>
  first
  | rfl
  | (cases (decide ((0 : Int) ≤ e.n) && decide (e.n ≤ 1000000000)) <;> cases (e.text == []) <;> rfl)
  | (cases (decide ((1 : Int) ≤ e.n) && decide (e.n ≤ 5)) <;> cases (e.text == []) <;> rfl)
  | (cases (e.n == 0) <;> cases (e.text == []) <;> rfl)
  | (cases (e.n == 0) <;> cases (xJx e.text) <;> rfl)
  | (cases (e.n == 0) <;> cases (xDE e.text) <;> rfl)
theorem xLY {N : Nat} {e : Exp} (ht : e.text.length ≤ 9223372036854775807) (hn : e.text.length < N) (h24 : 24 < N) : xG9 N e = some (xNm e) := by
 simp only [xG9, xNm, xNn, xNI, xGu ht hn, xGt (N := N) (s := e.text) ht hn h24, xFP, jS, vBy, vBz, vBA, vBB]
 refine xEo ?_ (xEo ?_ (xEo ?_ (xEo ?_ (xEo ?_ (xEo ?_ (xEo ?_ (xEo ?_ (xEo ?_ rfl)))))))) <;>
  first
  | rfl
  | (cases (e.args.length == 0) <;> cases (e.text == []) <;> cases (decide ((0 : Int) ≤ e.n) && decide (e.n ≤ 1000000000)) <;> rfl)
  | (cases (e.args.length == 0) <;> cases (e.n == 0) <;> cases (xJx e.text) <;> rfl)
  | (cases (e.args.length == 0) <;> cases (e.n == 0) <;> cases (xDE e.text) <;> rfl)
  | (cases (e.n == 0) <;> cases (e.text == []) <;> rfl)
  | (cases (e.args.length == 2) <;> cases (e.text == []) <;> cases (decide ((1 : Int) ≤ e.n) && decide (e.n ≤ 5)) <;> rfl)
  | (cases (e.args.length == 2) <;> cases (e.n == 0) <;> cases (xDE e.text) <;> rfl)
  | (cases (e.args.length == 3) <;> cases (e.n == 0) <;> cases (e.text == []) <;> rfl)
mutual
def okE : Exp → Bool
 | .mk k n t a => okEs a && xNm (.mk k n t a)
def okEs : List Exp → Bool
 | [] => true
 | x :: r => okE x && okEs r
end
theorem xV5 (l : List Exp) : okEs l = l.all okE := by
 induction l with
 | nil => rfl
 | cons x l ih => simp only [okEs, List.all_cons, ih]
theorem xVE (e : Exp) : okE e = (e.args.all okE && xNm e) := by
 cases e; simp only [okE, xV5]; rfl
theorem vAL {K : Nat} (hK : K ≤ 1048576) : ∀ e : Exp, e.Fit K → Big2 fun N d => xFd N d e = some (okE e) ∧ xFS N d e = some (okE e) := by
 refine Exp.ind fun k n t a ih h => ?_
 obtain ⟨h1, h2, h3, h4⟩ := Exp.fit_iff.1 h
 refine Big2.succ ?_
 refine ((Big2.list fun x hx => ih x hx (h4.2 x hx)).and (xMe (K + 30)).two).imp fun N d ⟨hx, hn⟩ => ?_
 have hl : a.length ≤ K := h4.1
 have ht : (Exp.mk k n t a).text.length ≤ K := h3
 rw [xVE]
 refine ⟨?_, ?_⟩
 · exact xGm (σ := Unit) (L := fun m i _ => xEi N (xFd N d) m a a.length i (.mk k n t a)) a (fun l _ => l.all okE && xNm (.mk k n t a)) (fun _ _ => True) (fun m _ _ => by simp [xEi, xL5 (N := N) (e := .mk k n t a) (by omega) (by omega)])
    (fun i x l _ hd hi hxi _ => by
      have hi' : (i : Int) < (a.length : Int) := by omega
      have hm := List.mem_of_getElem? hxi
      cases ho : okE x
      · refine .inr fun m => ?_
        simp only [xEi, decide_eq_true hi', jT, Int.toNat_natCast, xCw hxi, (hx x hm).1, ho, jS, Bool.not_false, List.all_cons, Bool.false_and]
        rw [if_pos (by omega)]
      · refine .inl ⟨(), trivial, by simp [ho], fun m => ?_⟩
        simp only [xEi, decide_eq_true hi', jT, Int.toNat_natCast, xCw hxi, (hx x hm).1, ho, jS, Bool.not_true, jF, xBy hi (by omega : a.length ≤ _)]
        rw [if_pos (by omega)]) N 0 () trivial (by omega) (by omega)
 · exact xGm (σ := Unit) (L := fun m i _ => xFa N (xFS N d) m i (.mk k n t a)) a (fun l _ => l.all okE && xNm (.mk k n t a)) (fun _ _ => True) (fun m _ _ => by simp [xFa, ea, xLY (N := N) (e := .mk k n t a) (by omega) (by omega) (by omega)])
    (fun i x l _ hd hi hxi _ => by
      have hi' : (i : Int) < ((Exp.mk k n t a).args.length : Int) := by show (i : Int) < (a.length : Int); omega
      have hi2 : (0 : Int) ≤ (i : Int) ∧ (i : Int) < ((Exp.mk k n t a).args.length : Int) := ⟨by omega, hi'⟩
      have hm := List.mem_of_getElem? hxi
      have hxi2 : (Exp.mk k n t a).args[i]? = some x := hxi
      cases ho : okE x
      · refine .inr fun m => ?_
        simp only [xFa, decide_eq_true hi', if_pos hi2, jT, Int.toNat_natCast, xCw hxi2, (hx x hm).2, ho, jS, Bool.not_false, List.all_cons, Bool.false_and]
      · refine .inl ⟨(), trivial, by simp [ho], fun m => ?_⟩
        simp only [xFa, decide_eq_true hi', if_pos hi2, jT, Int.toNat_natCast, xCw hxi2, (hx x hm).2, ho, jS, Bool.not_true, jF, xBy hi (by omega : a.length ≤ _)]) N 0 () trivial (by omega) (by omega)
end Go.Ab
end
