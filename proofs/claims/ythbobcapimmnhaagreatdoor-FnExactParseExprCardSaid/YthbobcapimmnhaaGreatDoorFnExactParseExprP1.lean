/- The statement FnExactParseExpr holds: plain functions, certificates, laws. Conditions: none. -/
import Derived.Test.YthbobcapimmnhaaGreatDoorL2
import Derived.Test.YthbobcapimmnhaaGreatDoorFnExactParseExprP0
set_option linter.all false
section
open Go.Proofs
namespace Go.Ab.T
set_option maxRecDepth 100000
variable [Inhabited Lb]
variable [Nonempty Tab10]
variable [Nonempty ErrVars]
noncomputable def I117 : Info := { body := (Tryz.f117.body).getD .skip, nt := 26, results := [.tmp 2], keep := [0, 4, 6, 8, 12, 24, 40, 48], live := [], modes := [] }
theorem xGY : FnOk Tryz.prog 117 Tryz.f117 I117 := ⟨Tryz.func117, by kernel_rfl, by kernel_rfl, by kernel_rfl, by kernel_rfl⟩
def xQq (a0 : Str) : rE I117 (xAj a0) [Y] [] = dn (xAg 0) [iY (xL6 a0)] := by kernel_rfl
def xQr (a0 : Str) : rE I117 (xAj a0) [F, Y, Y] [] = dn (xAg 1) [xDu a0, xMC a0, xMC a0] := by kernel_rfl
def xQs (a0 : Str) : rE I117 (xAj a0) [F, F, Y, Y] [] = dn (xAg 1) [xDu a0, xDF a0, xMD a0, xMD a0] := by kernel_rfl
def xQt (a0 : Str) : rE I117 (xAj a0) [F, F, F, Y, Y] [] = dn (xAg 1) [xDu a0, xDF a0, xDW a0, xME a0, xME a0] := by kernel_rfl
def xQu (a0 : Str) : rE I117 (xAj a0) [F, F, F, F, Y, Y] [] = dn (xAg 1) [xDu a0, xDF a0, xDW a0, xEe a0, xMF a0, xMF a0] := by kernel_rfl
def xQv (a0 : Str) : rE I117 (xAj a0) [F, F, F, F, F, Y] [] = dn (xAg 1) [xDu a0, xDF a0, xDW a0, xEe a0, xEp a0, iY (xL7 a0)] := by kernel_rfl
def xQw (a0 : Str) : rE I117 (xAj a0) [F, F, F, F, F, F, Y, Y] [] = dn (xAg 2) [xDu a0, xDF a0, xDW a0, xEe a0, xEp a0, xEE a0, xMG a0, xMG a0] := by kernel_rfl
def xQx (a0 : Str) : rE I117 (xAj a0) [F, F, F, F, F, F, F, Y, Y] [] = dn (xAg 2) [xDu a0, xDF a0, xDW a0, xEe a0, xEp a0, xEE a0, xE0 a0, xMH a0, xMH a0] := by kernel_rfl
def xQy (a0 : Str) : rE I117 (xAj a0) [F, F, F, F, F, F, F, F, Y, Y] [] = dn (xAg 2) [xDu a0, xDF a0, xDW a0, xEe a0, xEp a0, xEE a0, xE0 a0, xFn a0, xMI a0, xMI a0] := by kernel_rfl
def xQz (a0 : Str) : rE I117 (xAj a0) [F, F, F, F, F, F, F, F, F, Y, Y] [] = dn (xAg 2) [xDu a0, xDF a0, xDW a0, xEe a0, xEp a0, xEE a0, xE0 a0, xFn a0, xFI a0, xMJ a0, xMJ a0] := by kernel_rfl
def xOq (a0 : Str) : rE I117 (xAj a0) [F, F, F, F, F, F, F, F, F, F, Y, Y] [] = dn (xAg 2) [xDu a0, xDF a0, xDW a0, xEe a0, xEp a0, xEE a0, xE0 a0, xFn a0, xFI a0, xF3 a0, xMK a0, xMK a0] := by kernel_rfl
def xOr (a0 : Str) : rE I117 (xAj a0) [F, F, F, F, F, F, F, F, F, F, F, Y, Y] [] = dn (xAg 2) [xDu a0, xDF a0, xDW a0, xEe a0, xEp a0, xEE a0, xE0 a0, xFn a0, xFI a0, xF3 a0, xGv a0, xML a0, xML a0] := by kernel_rfl
def xOs (a0 : Str) : rE I117 (xAj a0) [F, F, F, F, F, F, F, F, F, F, F, F, Y] [] = dn (xAg 2) [xDu a0, xDF a0, xDW a0, xEe a0, xEp a0, xEE a0, xE0 a0, xFn a0, xFI a0, xF3 a0, xGv a0, xHj a0, iY (xL8 a0)] := by kernel_rfl
def xOt (a0 : Str) : rE I117 (xAj a0) [F, F, F, F, F, F, F, F, F, F, F, F, F, Y, Y] [] = dn (xAg 3) [xDu a0, xDF a0, xDW a0, xEe a0, xEp a0, xEE a0, xE0 a0, xFn a0, xFI a0, xF3 a0, xGv a0, xHj a0, xH3 a0, xMM a0, xMM a0] := by kernel_rfl
def xOu (a0 : Str) : rE I117 (xAj a0) [F, F, F, F, F, F, F, F, F, F, F, F, F, F, Y, Y] [] = dn (xAg 3) [xDu a0, xDF a0, xDW a0, xEe a0, xEp a0, xEE a0, xE0 a0, xFn a0, xFI a0, xF3 a0, xGv a0, xHj a0, xH3 a0, xI6 a0, xMN a0, xMN a0] := by kernel_rfl
def xOv (a0 : Str) : rE I117 (xAj a0) [F, F, F, F, F, F, F, F, F, F, F, F, F, F, F, Y] [] = dn (xAg 3) [xDu a0, xDF a0, xDW a0, xEe a0, xEp a0, xEE a0, xE0 a0, xFn a0, xFI a0, xF3 a0, xGv a0, xHj a0, xH3 a0, xI6 a0, xKg a0, iY (xL9 a0)] := by kernel_rfl
def xOw (a0 : Str) : rE I117 (xAj a0) [F, F, F, F, F, F, F, F, F, F, F, F, F, F, F, F, Y] [] = dn (xAg 4) [xDu a0, xDF a0, xDW a0, xEe a0, xEp a0, xEE a0, xE0 a0, xFn a0, xFI a0, xF3 a0, xGv a0, xHj a0, xH3 a0, xI6 a0, xKg a0, xMO a0, iY (xKT a0)] := by kernel_rfl
def xOx (a0 : Str) : rE I117 (xAj a0) [F, F, F, F, F, F, F, F, F, F, F, F, F, F, F, F, F] [] = dn (xAg (-1)) [xDu a0, xDF a0, xDW a0, xEe a0, xEp a0, xEE a0, xE0 a0, xFn a0, xFI a0, xF3 a0, xGv a0, xHj a0, xH3 a0, xI6 a0, xKg a0, xMO a0, iN (xKT a0)] := by kernel_rfl
theorem xWW {N : Nat} : ∀ a0 r, xCx N a0 = some r → RE Tryz.f117 I117 (xAj a0) (xAg r) := fun a0 r h =>
 cE h (fun h0 h => dE h xGY (xQq a0) (oc h0 on)) fun h0 h =>
 cE h (fun h1 h => dE h xGY (xQr a0) (oc3 h0 h1 h1 on)) fun h1 h =>
 cE h (fun h2 h => dE h xGY (xQs a0) (oc4 h0 h1 h2 h2 on)) fun h2 h =>
 cE h (fun h3 h => dE h xGY (xQt a0) (oc5 h0 h1 h2 h3 h3 on)) fun h3 h =>
 cE h (fun h4 h => dE h xGY (xQu a0) (oc6 h0 h1 h2 h3 h4 h4 on)) fun h4 h =>
 cE h (fun h5 h => dE h xGY (xQv a0) (oc6 h0 h1 h2 h3 h4 h5 on)) fun h5 h =>
 cE h (fun h6 h => dE h xGY (xQw a0) (oc8 h0 h1 h2 h3 h4 h5 h6 h6 on)) fun h6 h =>
 cE h (fun h7 h => dE h xGY (xQx a0) (oc9 h0 h1 h2 h3 h4 h5 h6 h7 h7 on)) fun h7 h =>
 cE h (fun h8 h => dE h xGY (xQy a0) (oc10 h0 h1 h2 h3 h4 h5 h6 h7 h8 h8 on)) fun h8 h =>
 cE h (fun h9 h => dE h xGY (xQz a0) (oc11 h0 h1 h2 h3 h4 h5 h6 h7 h8 h9 h9 on)) fun h9 h =>
 cE h (fun h10 h => dE h xGY (xOq a0) (oc12 h0 h1 h2 h3 h4 h5 h6 h7 h8 h9 h10 h10 on)) fun h10 h =>
 cE h (fun h11 h => dE h xGY (xOr a0) (oc12 h0 h1 h2 h3 h4 h5 h6 h7 h8 h9 h10 h11 (oc h11 on))) fun h11 h =>
 cE h (fun h12 h => dE h xGY (xOs a0) (oc12 h0 h1 h2 h3 h4 h5 h6 h7 h8 h9 h10 h11 (oc h12 on))) fun h12 h =>
 cE h (fun h13 h => dE h xGY (xOt a0) (oc12 h0 h1 h2 h3 h4 h5 h6 h7 h8 h9 h10 h11 (oc3 h12 h13 h13 on))) fun h13 h =>
 cE h (fun h14 h => dE h xGY (xOu a0) (oc12 h0 h1 h2 h3 h4 h5 h6 h7 h8 h9 h10 h11 (oc4 h12 h13 h14 h14 on))) fun h14 h =>
 cE h (fun h15 h => dE h xGY (xOv a0) (oc12 h0 h1 h2 h3 h4 h5 h6 h7 h8 h9 h10 h11 (oc4 h12 h13 h14 h15 on))) fun h15 h =>
 cE h (fun h16 h => dE h xGY (xOw a0) (oc12 h0 h1 h2 h3 h4 h5 h6 h7 h8 h9 h10 h11 (oc5 h12 h13 h14 h15 h16 on))) fun h16 h =>
 dE h xGY (xOx a0) (oc12 h0 h1 h2 h3 h4 h5 h6 h7 h8 h9 h10 h11 (oc5 h12 h13 h14 h15 h16 on))
theorem xCM {N : Nat} {a0 : Str} {r : Int} (h : xCx N  a0 = some r) : AbC 117 (xAj a0) (xAg r) :=
 AbsCalls.of_reach xGY rfl rfl (Nat.le_of_ble_eq_true rfl) (xWW a0 r h)
noncomputable def I115 : Info := { body := (Tryz.f115.body).getD .skip, nt := 15, results := [.tmp 2], keep := [0, 4, 6, 8], live := [], modes := [] }
theorem xKr : FnOk Tryz.prog 115 Tryz.f115 I115 := ⟨Tryz.func115, by kernel_rfl, by kernel_rfl, by kernel_rfl, by kernel_rfl⟩
def xP8 (a0 : Str) : rE I115 (xBy a0) [Y, Y] [] = dn (xBl true) [iY ((a0 : Str) == [108, 101, 116]), iY ((a0 : Str) == [108, 101, 116])] := by kernel_rfl
abbrev xH8 (v0 : Str) : Prop := iN ((v0 : Str) == [108, 101, 116])
def xP9 (a0 : Str) : rE I115 (xBy a0) [F, Y, Y] [] = dn (xBl true) [xH8 a0, iY ((a0 : Str) == [105, 110]), iY ((a0 : Str) == [105, 110])] := by kernel_rfl
abbrev xIP (v0 : Str) : Prop := iN ((v0 : Str) == [105, 110])
def xQa (a0 : Str) : rE I115 (xBy a0) [F, F, Y, Y] [] = dn (xBl true) [xH8 a0, xIP a0, iY ((a0 : Str) == [105, 102]), iY ((a0 : Str) == [105, 102])] := by kernel_rfl
abbrev xJy (v0 : Str) : Prop := iN ((v0 : Str) == [105, 102])
abbrev xMb (v0 : Str) := (v0 : Str) == [116, 104, 101, 110]
def xQb (a0 : Str) : rE I115 (xBy a0) [F, F, F, Y, Y] [] = dn (xBl true) [xH8 a0, xIP a0, xJy a0, iY (xMb a0), iY (xMb a0)] := by kernel_rfl
abbrev xKC (v0 : Str) : Prop := iN (xMb v0)
abbrev xMc (v0 : Str) := (v0 : Str) == [101, 108, 115, 101]
def xQc (a0 : Str) : rE I115 (xBy a0) [F, F, F, F, Y, Y] [] = dn (xBl true) [xH8 a0, xIP a0, xJy a0, xKC a0, iY (xMc a0), iY (xMc a0)] := by kernel_rfl
abbrev xLM (v0 : Str) : Prop := iN (xMc v0)
abbrev xKZ (v0 : Str) := (v0 : Str) == [102, 111, 114]
def xQd (a0 : Str) : rE I115 (xBy a0) [F, F, F, F, F, Y, Y] [] = dn (xBl true) [xH8 a0, xIP a0, xJy a0, xKC a0, xLM a0, iY (xKZ a0), iY (xKZ a0)] := by kernel_rfl
def xQe (a0 : Str) : rE I115 (xBy a0) [F, F, F, F, F, F, Y] [] = dn (xBl true) [xH8 a0, xIP a0, xJy a0, xKC a0, xLM a0, iN (xKZ a0), iY ((a0 : Str) == [100, 111])] := by kernel_rfl
def xQf (a0 : Str) (r1 : Int) : rE I115 (xBy a0) [F, F, F, F, F, F, F] [xAg r1] = dn (xBl (dc (r1 ≥ 0))) [xH8 a0, xIP a0, xJy a0, xKC a0, xLM a0, iN (xKZ a0), iN ((a0 : Str) == [100, 111]), AbC 117 (xAj a0) (xAg r1)] := by kernel_rfl
theorem xWU {N : Nat} : ∀ a0 r, xEH N a0 = some r → RE Tryz.f115 I115 (xBy a0) (xBl r) := fun a0 r h =>
 cE h (fun h0 h => dE h xKr (xP8 a0) (oc2 h0 h0 on)) fun h0 h =>
 cE h (fun h1 h => dE h xKr (xP9 a0) (oc3 h0 h1 h1 on)) fun h1 h =>
 cE h (fun h2 h => dE h xKr (xQa a0) (oc4 h0 h1 h2 h2 on)) fun h2 h =>
 cE h (fun h3 h => dE h xKr (xQb a0) (oc5 h0 h1 h2 h3 h3 on)) fun h3 h =>
 cE h (fun h4 h => dE h xKr (xQc a0) (oc6 h0 h1 h2 h3 h4 h4 on)) fun h4 h =>
 cE h (fun h5 h => dE h xKr (xQd a0) (oc7 h0 h1 h2 h3 h4 h5 h5 on)) fun h5 h =>
 cE h (fun h6 h => dE h xKr (xQe a0) (oc7 h0 h1 h2 h3 h4 h5 h6 on)) fun h6 h =>
 bE h fun r1 h7 h => dE h xKr (xQf a0 r1) (oc8 h0 h1 h2 h3 h4 h5 h6 (xCM h7) on)
theorem xIq {N : Nat} {a0 : Str} {r : Bool} (h : xEH N  a0 = some r) : AbC 115 (xBy a0) (xBl r) :=
 AbsCalls.of_reach xKr rfl rfl (Nat.le_of_ble_eq_true rfl) (xWU a0 r h)
noncomputable def I93 : Info := { body := (Tryz.f93.body).getD .skip, nt := 10, results := [.tmp 2], keep := [0, 4], live := [], modes := [(1, [(2, .take, false)])] }
theorem fk93 : FnOk Tryz.prog 93 Tryz.f93 I93 := ⟨Tryz.func93, by kernel_rfl, by kernel_rfl, by kernel_rfl, by kernel_rfl⟩
def xWc (a0 : Str) (r1 r2 : Bool) : rE I93 (xC6 a0) [Y] [xBN r1, xBl r2] = dn (xAz (!r2)) [AbC 114 (xE3 a0) (xBN r1), iY r1, AbC 115 (xBy a0) (xBl r2)] := by kernel_rfl
def xWd (a0 : Str) (r1 : Bool) : rE I93 (xC6 a0) [F] [xBN r1] = dn (xAz false) [AbC 114 (xE3 a0) (xBN r1), iN r1] := by kernel_rfl
theorem xYK {N : Nat} : ∀ a0 r, xCH N a0 = some r → RE Tryz.f93 I93 (xC6 a0) (xAz r) := fun a0 r h =>
 bE h fun r1 h0 h => cE h (fun h1 h => bE h fun r2 h2 h => dE h fk93 (xWc a0 r1 r2) (oc3 (xHZ h0) h1 (xIq h2) on)) fun h1 h =>
 dE h fk93 (xWd a0 r1) (oc2 (xHZ h0) h1 on)
theorem xA3 {N : Nat} {a0 : Str} {r : Bool} (h : xCH N  a0 = some r) : AbC 93 (xC6 a0) (xAz r) :=
 AbsCalls.of_reach fk93 rfl rfl (Nat.le_of_ble_eq_true rfl) (xYK a0 r h)
noncomputable def I94 : Info := { body := (Tryz.f94.body).getD .skip, nt := 16, results := [.cell 2 25], keep := [0, 4, 14, 1, 5], live := [], modes := [], ext := [0] }
theorem fk94 : FnOk Tryz.prog 94 Tryz.f94 I94 := ⟨Tryz.func94, by kernel_rfl, by kernel_rfl, by kernel_rfl, by kernel_rfl⟩
def xWe (a0 : Psr) : rE I94 (xBT a0) [Y] [] = dn (xAU ((Exp.mk 0 0 [] []), (Psr.mk (Psr.list a0) (Psr.pos a0) (Psr.pos a0)))) [xHB a0] := by kernel_rfl
def xWf (a0 : Psr) : rE I94 (xBT a0) [F] [] = dn (xAU ((Exp.mk 0 0 [] []), a0)) [xKB a0] := by kernel_rfl
theorem xYL {N : Nat} : ∀ a0 r, xBI N a0 = some r → RE Tryz.f94 I94 (xBT a0) (xAU r) := fun a0 r h =>
 cE h (fun h0 h => dE h fk94 (xWe a0) (oc h0 on)) fun h0 h =>
 dE h fk94 (xWf a0) (oc h0 on)
theorem xDP {N : Nat} {a0 : Psr} {r : Exp × Psr} (h : xBI N  a0 = some r) : AbC 94 (xBT a0) (xAU r) :=
 AbsCalls.of_reach fk94 rfl rfl (Nat.le_of_ble_eq_true rfl) (xYL a0 r h)
noncomputable def I52 : Info := { body := (Tryz.f52.body).getD .skip, nt := 26, results := [.tmp 2], keep := [0, 4, 6, 28, 1, 7], live := [], modes := [(2, [(3, .take, false)])], ext := [0] }
theorem fk52 : FnOk Tryz.prog 52 Tryz.f52 I52 := ⟨Tryz.func52, by kernel_rfl, by kernel_rfl, by kernel_rfl, by kernel_rfl⟩
abbrev xDX (v0 : Psr) (v1 : Tok × Psr) : Prop := AbC 51 (xCL v0) (xAf v1)
def xUL (a0 : Psr) (r1 : Tok × Psr) (r2 : Exp × Psr) : rE I52 (xDa a0) [Y, Y] [xAf r1, xAU r2] = dn (xCd ([], r2.2)) [xDX a0 r1, iY ((Tok.kind r1.1) != 1), iY true, AbC 94 (xBT r1.2) (xAU r2)] := by kernel_rfl
abbrev xH9 (v0 : Tok × Psr) (v1 : Bool) : Prop := AbC 93 (xC6 (Tok.text v0.1)) (xAz v1)
def xUM (a0 : Psr) (r1 : Tok × Psr) (r2 : Bool) (r3 : Exp × Psr) : rE I52 (xDa a0) [F, Y] [xAf r1, xAz r2, xAU r3] = dn (xCd ([], r3.2)) [xDX a0 r1, iN ((Tok.kind r1.1) != 1), xH9 r1 r2, iY (!r2), AbC 94 (xBT r1.2) (xAU r3)] := by kernel_rfl
abbrev xHK (v0 : Tok × Psr) := Psr.mk (Psr.list v0.2) (W ((Psr.pos v0.2) + 1)) (Psr.bad v0.2)
def xUN (a0 : Psr) (r1 : Tok × Psr) (r2 : Bool) : rE I52 (xDa a0) [F, F] [xAf r1, xAz r2] = dn (xCd ((Tok.text r1.1), (xHK r1))) [xDX a0 r1, iN ((Tok.kind r1.1) != 1), xH9 r1 r2, iN (!r2)] := by kernel_rfl
theorem xYd {N : Nat} : ∀ a0 r, xBJ N a0 = some r → RE Tryz.f52 I52 (xDa a0) (xCd r) := fun a0 r h =>
 bE h fun r1 h0 h => cE h (fun h1 h => bE h fun r2 h3 h => dE h fk52 (xUL a0 r1 r2) (oc4 (xAi h0) h1 rfl (xDP h3) on)) fun h1 h =>
 bE h fun r2 h2 h => cE h (fun h3 h => bE h fun r3 h4 h => dE h fk52 (xUM a0 r1 r2 r3) (oc5 (xAi h0) h1 (xA3 h2) h3 (xDP h4) on)) fun h3 h =>
 dE h fk52 (xUN a0 r1 r2) (oc4 (xAi h0) h1 (xA3 h2) h3 on)
theorem xGg {N : Nat} {a0 : Psr} {r : Str × Psr} (h : xBJ N  a0 = some r) : AbC 52 (xDa a0) (xCd r) :=
 AbsCalls.of_reach fk52 rfl rfl (Nat.le_of_ble_eq_true rfl) (xYd a0 r h)
noncomputable def I95 : Info := { body := (Tryz.f95.body).getD .skip, nt := 14, results := [.tmp 4], keep := [0, 2, 4, 8, 5], live := [], modes := [(1, [(3, .take, false)])] }
theorem fk95 : FnOk Tryz.prog 95 Tryz.f95 I95 := ⟨Tryz.func95, by kernel_rfl, by kernel_rfl, by kernel_rfl, by kernel_rfl⟩
def xWg (a0 : Tok) (a1 : Str) : rE I95 (xCY a0 a1) [Y] [] = dn (xBH (((Tok.text a0) : Str) == a1)) [iY ((Tok.kind a0) == 4)] := by kernel_rfl
def xWh (a0 : Tok) (a1 : Str) : rE I95 (xCY a0 a1) [F] [] = dn (xBH false) [iN ((Tok.kind a0) == 4)] := by kernel_rfl
theorem xYM {N : Nat} : ∀ a0 a1 r, xER N a0 a1 = some r → RE Tryz.f95 I95 (xCY a0 a1) (xBH r) := fun a0 a1 r h =>
 cE h (fun h0 h => dE h fk95 (xWg a0 a1) (oc h0 on)) fun h0 h =>
 dE h fk95 (xWh a0 a1) (oc h0 on)
theorem xE7 {N : Nat} {a0 : Tok} {a1 : Str} {r : Bool} (h : xER N  a0 a1 = some r) : AbC 95 (xCY a0 a1) (xBH r) :=
 AbsCalls.of_reach fk95 rfl rfl (Nat.le_of_ble_eq_true rfl) (xYM a0 a1 r h)
noncomputable def I53 : Info := { body := (Tryz.f53.body).getD .skip, nt := 23, results := [], keep := [0, 2, 26, 1], live := [], modes := [(0, [(4, .take, false)])], ext := [0] }
theorem fk53 : FnOk Tryz.prog 53 Tryz.f53 I53 := ⟨Tryz.func53, by kernel_rfl, by kernel_rfl, by kernel_rfl, by kernel_rfl⟩
abbrev xNY (v0 : Tok × Psr) := xAp (Psr.mk (Psr.list v0.2) (W ((Psr.pos v0.2) + 1)) (Psr.bad v0.2))
def xUO (a0 : Psr) (a1 : Str) (r1 : Tok × Psr) (r2 : Bool) : rE I53 (xAR a0 a1) [Y, Y] [xAf r1, xAt r2] = dn (xNY r1) [xDX a0 r1, AbC 50 (xBi r1.1 a1) (xAt r2), iY r2, iY true] := by kernel_rfl
abbrev xIa (v0 v1 : Tok × Psr) : Prop := AbC 51 (xCL v0.2) (xAf v1)
def xUP (a0 : Psr) (a1 : Str) (r1 : Tok × Psr) (r2 : Bool) (r3 : Tok × Psr) (r4 : Bool) : rE I53 (xAR a0 a1) [F, Y] [xAf r1, xAt r2, xAf r3, xBH r4] = dn (xNY r3) [xDX a0 r1, AbC 50 (xBi r1.1 a1) (xAt r2), iN r2, xIa r1 r3, AbC 95 (xCY r3.1 a1) (xBH r4), iY r4] := by kernel_rfl
def xUQ (a0 : Psr) (a1 : Str) (r1 : Tok × Psr) (r2 : Bool) (r3 : Tok × Psr) (r4 : Bool) (r5 : Exp × Psr) : rE I53 (xAR a0 a1) [F, F] [xAf r1, xAt r2, xAf r3, xBH r4, xAU r5] = dn (xAp r5.2) [xDX a0 r1, AbC 50 (xBi r1.1 a1) (xAt r2), iN r2, xIa r1 r3, AbC 95 (xCY r3.1 a1) (xBH r4), iN r4, AbC 94 (xBT r3.2) (xAU r5)] := by kernel_rfl
theorem xYe {N : Nat} : ∀ a0 a1 r, xAx N a0 a1 = some r → RE Tryz.f53 I53 (xAR a0 a1) (xAp r) := fun a0 a1 r h =>
 bE h fun r1 h0 h => bE h fun r2 h1 h => cE h (fun h2 h => dE h fk53 (xUO a0 a1 r1 r2) (oc4 (xAi h0) (xBs h1) h2 rfl on)) fun h2 h =>
 bE h fun r3 h3 h => bE h fun r4 h4 h => cE h (fun h5 h => dE h fk53 (xUP a0 a1 r1 r2 r3 r4) (oc6 (xAi h0) (xBs h1) h2 (xAi h3) (xE7 h4) h5 on)) fun h5 h =>
 bE h fun r5 h6 h => dE h fk53 (xUQ a0 a1 r1 r2 r3 r4 r5) (oc7 (xAi h0) (xBs h1) h2 (xAi h3) (xE7 h4) h5 (xDP h6) on)
theorem xBB {N : Nat} {a0 : Psr} {a1 : Str} {r : Psr} (h : xAx N  a0 a1 = some r) : AbC 53 (xAR a0 a1) (xAp r) :=
 AbsCalls.of_reach fk53 rfl rfl (Nat.le_of_ble_eq_true rfl) (xYe a0 a1 r h)
noncomputable def I55 : Info := { body := (Tryz.f55.body).getD .skip, nt := 16, results := [.tmp 4], keep := [0, 2, 8, 16, 1], live := [], modes := [], ext := [0] }
theorem fk55 : FnOk Tryz.prog 55 Tryz.f55 I55 := ⟨Tryz.func55, by kernel_rfl, by kernel_rfl, by kernel_rfl, by kernel_rfl⟩
def xUW (a0 : Psr) (a1 : Str) (r1 : Tok × Psr) (r2 : Bool) : rE I55 (xAm a0 a1) [Y] [xAf r1, xBH r2] = dn (xAc (true, (xHK r1))) [xDX a0 r1, AbC 95 (xCY r1.1 a1) (xBH r2), iY r2] := by kernel_rfl
def xUX (a0 : Psr) (a1 : Str) (r1 : Tok × Psr) (r2 : Bool) : rE I55 (xAm a0 a1) [F] [xAf r1, xBH r2] = dn (xAc (false, r1.2)) [xDX a0 r1, AbC 95 (xCY r1.1 a1) (xBH r2), iN r2] := by kernel_rfl
theorem xYh {N : Nat} : ∀ a0 a1 r, xAC N a0 a1 = some r → RE Tryz.f55 I55 (xAm a0 a1) (xAc r) := fun a0 a1 r h =>
 bE h fun r1 h0 h => bE h fun r2 h1 h => cE h (fun h2 h => dE h fk55 (xUW a0 a1 r1 r2) (oc3 (xAi h0) (xE7 h1) h2 on)) fun h2 h =>
 dE h fk55 (xUX a0 a1 r1 r2) (oc3 (xAi h0) (xE7 h1) h2 on)
theorem xAk {N : Nat} {a0 : Psr} {a1 : Str} {r : Bool × Psr} (h : xAC N  a0 a1 = some r) : AbC 55 (xAm a0 a1) (xAc r) :=
 AbsCalls.of_reach fk55 rfl rfl (Nat.le_of_ble_eq_true rfl) (xYh a0 a1 r h)
noncomputable def I56 : Info := { body := (Tryz.f56.body).getD .skip, nt := 11, results := [.tmp 2], keep := [0, 4, 10], live := [], modes := [] }
theorem fk56 : FnOk Tryz.prog 56 Tryz.f56 I56 := ⟨Tryz.func56, by kernel_rfl, by kernel_rfl, by kernel_rfl, by kernel_rfl⟩
def xUY (a0 : Int) (r1 : Bool) : rE I56 (xDY a0) [Y] [xAZ r1] = dn (xCZ [63]) [AbC 97 (xCB a0 1 5) (xAZ r1), iY (!r1)] := by kernel_rfl
def xUZ (a0 : Int) (r1 : Bool) : rE I56 (xDY a0) [F] [xAZ r1] = dn (xCZ (gD [[43], [45], [42], [60], [61, 61]] (tN (W (a0 - 1))) Ty.str.dflt)) [AbC 97 (xCB a0 1 5) (xAZ r1), iN (!r1), (0 : Int) ≤ (W (a0 - 1)) ∧ (W (a0 - 1)) < (Ln [[43], [45], [42], [60], [61, 61]])] := by kernel_rfl
theorem xYi {N : Nat} : ∀ a0 r, xFr N a0 = some r → RE Tryz.f56 I56 (xDY a0) (xCZ r) := fun a0 r h =>
 bE h fun r1 h0 h => cE h (fun h1 h => dE h fk56 (xUY a0 r1) (oc2 (xDi h0) h1 on)) fun h1 h =>
 iE h fun h2 h => dE h fk56 (xUZ a0 r1) (oc3 (xDi h0) h1 h2 on)
theorem xHh {N : Nat} {a0 : Int} {r : Str} (h : xFr N  a0 = some r) : AbC 56 (xDY a0) (xCZ r) :=
 AbsCalls.of_reach fk56 rfl rfl (Nat.le_of_ble_eq_true rfl) (xYi a0 r h)
def G116 (q : Psr → Option (Exp × Psr)) : Prop := ∀ a0 r, q a0 = some r → AbC 116 (xAQ a0) (xAG r)
def G31 (q : Psr → Option (Exp × Psr)) : Prop := ∀ a0 r, q a0 = some r → AbC 31 (xA4 a0) (xAe r)
def G131 (q : Psr → Str → Option ((List Exp) × Psr)) : Prop := ∀ a0 a1 r, q a0 a1 = some r → AbC 131 (xB2 a0 a1) (xAX r)
def G96 (q : Psr → Option (Exp × Psr)) : Prop := ∀ a0 r, q a0 = some r → AbC 96 (xB6 a0) (xA0 r)
def G54 (q : Psr → Option (Exp × Psr)) : Prop := ∀ a0 r, q a0 = some r → AbC 54 (xDt a0) (xBP r)
noncomputable def I116 : Info := { body := (Tryz.f116.body).getD .skip, nt := 94, results := [.cell 2 25], keep := [0, 4, 6, 8, 14, 42, 70, 108, 156, 168, 1, 5, 7, 9], live := [], modes := [(8, [(3, .take, false)]), (11, [(3, .take, false)]), (20, [(0, .take, false)])], ext := [0] }
theorem xJt : FnOk Tryz.prog 116 Tryz.f116 I116 := ⟨Tryz.func116, by kernel_rfl, by kernel_rfl, by kernel_rfl, by kernel_rfl⟩
def xQg (a0 : Psr) (r1 : Tok × Psr) : rE I116 (xAQ a0) [Y] [xAf r1] = dn (xAG ((Exp.mk 1 (Tok.n r1.1) [] []), (xHK r1))) [xDX a0 r1, iY ((Tok.kind r1.1) == 2)] := by kernel_rfl
abbrev xG7 (v0 : Tok × Psr) : Prop := iN ((Tok.kind v0.1) == 2)
def xQh (a0 : Psr) (r1 : Tok × Psr) : rE I116 (xAQ a0) [F, Y] [xAf r1] = dn (xAG ((Exp.mk 2 0 (Tok.text r1.1) []), (xHK r1))) [xDX a0 r1, xG7 r1, iY ((Tok.kind r1.1) == 3)] := by kernel_rfl
abbrev xHC (v0 : Tok × Psr) : Prop := iN ((Tok.kind v0.1) == 3)
abbrev xG8 (v0 : Tok × Psr) : Prop := iY ((Tok.kind v0.1) == 1)
def xQi (a0 : Psr) (r1 : Tok × Psr) (r2 : Bool) : rE I116 (xAQ a0) [F, F, Y, Y] [xAf r1, xAz r2] = dn (xAG ((Exp.mk 3 0 (Tok.text r1.1) []), (xHK r1))) [xDX a0 r1, xG7 r1, xHC r1, xG8 r1, xH9 r1 r2, iY r2] := by kernel_rfl
abbrev xKD (v0 : Tok × Psr) (v1 : Int) : Prop := AbC 117 (xAj (Tok.text v0.1)) (xAg v1)
def xQj (a0 : Psr) (r1 : Tok × Psr) (r2 : Bool) (r3 : Int) (r4 : Psr) (r5 : (List Exp) × Psr) : rE I116 (xAQ a0) [F, F, Y, F, Y, Y] [xAf r1, xAz r2, xAg r3, xAp r4, xAX r5] = dn (xAG ((Exp.mk 5 0 (Tok.text r1.1) r5.1), r5.2)) [xDX a0 r1, xG7 r1, xHC r1, xG8 r1, xH9 r1 r2, iN r2, xG8 r1, xKD r1 r3, iY (dc (r3 ≥ 0)), AbC 53 (xAR (xHK r1) [40]) (xAp r4), AbC 131 (xB2 r4 [41]) (xAX r5)] := by kernel_rfl
abbrev xIQ (v0 : Tok × Psr) (v1 : Bool × Psr) : Prop := AbC 55 (xAm v0.2 [91]) (xAc v1)
def xQk (a0 : Psr) (r1 : Tok × Psr) (r2 : Bool) (r3 : Int) (r4 : Bool × Psr) (r5 : (List Exp) × Psr) : rE I116 (xAQ a0) [F, F, Y, F, Y, F, Y] [xAf r1, xAz r2, xAg r3, xAc r4, xAX r5] = dn (xAG ((Exp.mk 4 0 [] r5.1), r5.2)) [xDX a0 r1, xG7 r1, xHC r1, xG8 r1, xH9 r1 r2, iN r2, xG8 r1, xKD r1 r3, xI9 r3, xIQ r1 r4, iY r4.1, AbC 131 (xB2 r4.2 [93]) (xAX r5)] := by kernel_rfl
def xQl (a0 : Psr) (r1 : Tok × Psr) (r2 : Bool) (r3 : Int) (r4 : Bool × Psr) (r5 : Bool × Psr) (r6 : Exp × Psr) (r7 : Psr) : rE I116 (xAQ a0) [F, F, Y, F, Y, F, F, Y] [xAf r1, xAz r2, xAg r3, xAc r4, xAc r5, xAe r6, xAp r7] = dn (xAG (r6.1, r7)) [xDX a0 r1, xG7 r1, xHC r1, xG8 r1, xH9 r1 r2, iN r2, xG8 r1, xKD r1 r3, xI9 r3, xIQ r1 r4, iN r4.1, AbC 55 (xAm r4.2 [40]) (xAc r5), iY r5.1, AbC 31 (xA4 r5.2) (xAe r6), AbC 53 (xAR r6.2 [41]) (xAp r7)] := by kernel_rfl
def xQm (a0 : Psr) (r1 : Tok × Psr) (r2 : Bool) (r3 : Int) (r4 : Bool × Psr) (r5 : Bool × Psr) (r6 : Exp × Psr) : rE I116 (xAQ a0) [F, F, Y, F, Y, F, F, F] [xAf r1, xAz r2, xAg r3, xAc r4, xAc r5, xAU r6] = dn (xAG (r6.1, r6.2)) [xDX a0 r1, xG7 r1, xHC r1, xG8 r1, xH9 r1 r2, iN r2, xG8 r1, xKD r1 r3, xI9 r3, xIQ r1 r4, iN r4.1, AbC 55 (xAm r4.2 [40]) (xAc r5), iN r5.1, AbC 94 (xBT r5.2) (xAU r6)] := by kernel_rfl
abbrev xIR (v0 : Tok × Psr) : Prop := iN ((Tok.kind v0.1) == 1)
def xQn (a0 : Psr) (r1 : Tok × Psr) (r2 : Bool × Psr) (r3 : (List Exp) × Psr) : rE I116 (xAQ a0) [F, F, F, F, F, F, Y] [xAf r1, xAc r2, xAX r3] = dn (xAG ((Exp.mk 4 0 [] r3.1), r3.2)) [xDX a0 r1, xG7 r1, xHC r1, xIR r1, iN false, xIR r1, iN false, xIQ r1 r2, iY r2.1, AbC 131 (xB2 r2.2 [93]) (xAX r3)] := by kernel_rfl
def xQo (a0 : Psr) (r1 : Tok × Psr) (r2 : Bool × Psr) (r3 : Bool × Psr) (r4 : Exp × Psr) (r5 : Psr) : rE I116 (xAQ a0) [F, F, F, F, F, F, F, Y] [xAf r1, xAc r2, xAc r3, xAe r4, xAp r5] = dn (xAG (r4.1, r5)) [xDX a0 r1, xG7 r1, xHC r1, xIR r1, iN false, xIR r1, iN false, xIQ r1 r2, iN r2.1, AbC 55 (xAm r2.2 [40]) (xAc r3), iY r3.1, AbC 31 (xA4 r3.2) (xAe r4), AbC 53 (xAR r4.2 [41]) (xAp r5)] := by kernel_rfl
def xQp (a0 : Psr) (r1 : Tok × Psr) (r2 : Bool × Psr) (r3 : Bool × Psr) (r4 : Exp × Psr) : rE I116 (xAQ a0) [F, F, F, F, F, F, F, F] [xAf r1, xAc r2, xAc r3, xAU r4] = dn (xAG (r4.1, r4.2)) [xDX a0 r1, xG7 r1, xHC r1, xIR r1, iN false, xIR r1, iN false, xIQ r1 r2, iN r2.1, AbC 55 (xAm r2.2 [40]) (xAc r3), iN r3.1, AbC 94 (xBT r3.2) (xAU r4)] := by kernel_rfl
theorem xWV {N q0 q1 q2 q3 q4} (g0 : G116 q0) (g1 : G31 q1) (g2 : G131 q2) (g3 : G96 q3) (g4 : G54 q4) : ∀ a0 r, xCb N q0 q1 q2 q3 q4 a0 = some r → RE Tryz.f116 I116 (xAQ a0) (xAG r) := fun a0 r h =>
 bE h fun r1 h0 h => cE h (fun h1 h => dE h xJt (xQg a0 r1) (oc2 (xAi h0) h1 on)) fun h1 h =>
 cE h (fun h2 h => dE h xJt (xQh a0 r1) (oc3 (xAi h0) h1 h2 on)) fun h2 h =>
 cE h (fun h3 h => bE h fun r2 h4 h => cE h (fun h5 h => dE h xJt (xQi a0 r1 r2) (oc6 (xAi h0) h1 h2 h3 (xA3 h4) h5 on)) fun h5 h =>
 bE h fun r3 h7 h => cE h (fun h8 h => bE h fun r4 h9 h => bE h fun r5 h10 h => dE h xJt (xQj a0 r1 r2 r3 r4 r5) (oc11 (xAi h0) h1 h2 h3 (xA3 h4) h5 h3 (xCM h7) h8 (xBB h9) (g2 _ _ _ h10) on)) fun h8 h =>
 bE h fun r4 h9 h => cE h (fun h10 h => bE h fun r5 h11 h => dE h xJt (xQk a0 r1 r2 r3 r4 r5) (oc12 (xAi h0) h1 h2 h3 (xA3 h4) h5 h3 (xCM h7) h8 (xAk h9) h10 (g2 _ _ _ h11) on)) fun h10 h =>
 bE h fun r5 h11 h => cE h (fun h12 h => bE h fun r6 h13 h => bE h fun r7 h14 h => dE h xJt (xQl a0 r1 r2 r3 r4 r5 r6 r7) (oc12 (xAi h0) h1 h2 h3 (xA3 h4) h5 h3 (xCM h7) h8 (xAk h9) h10 (xAk h11) (oc3 h12 (g1 _ _ h13) (xBB h14) on))) fun h12 h =>
 bE h fun r6 h13 h => dE h xJt (xQm a0 r1 r2 r3 r4 r5 r6) (oc12 (xAi h0) h1 h2 h3 (xA3 h4) h5 h3 (xCM h7) h8 (xAk h9) h10 (xAk h11) (oc2 h12 (xDP h13) on))) fun h3 h =>
 bE h fun r2 h7 h => cE h (fun h8 h => bE h fun r3 h9 h => dE h xJt (xQn a0 r1 r2 r3) (oc10 (xAi h0) h1 h2 h3 rfl h3 rfl (xAk h7) h8 (g2 _ _ _ h9) on)) fun h8 h =>
 bE h fun r3 h9 h => cE h (fun h10 h => bE h fun r4 h11 h => bE h fun r5 h12 h => dE h xJt (xQo a0 r1 r2 r3 r4 r5) (oc12 (xAi h0) h1 h2 h3 rfl h3 rfl (xAk h7) h8 (xAk h9) h10 (g1 _ _ h11) (oc (xBB h12) on))) fun h10 h =>
 bE h fun r4 h11 h => dE h xJt (xQp a0 r1 r2 r3 r4) (oc12 (xAi h0) h1 h2 h3 rfl h3 rfl (xAk h7) h8 (xAk h9) h10 (xDP h11) on)
theorem xGM {N q0 q1 q2 q3 q4} (g0 : G116 q0) (g1 : G31 q1) (g2 : G131 q2) (g3 : G96 q3) (g4 : G54 q4) {a0} {r} (h : xCb N q0 q1 q2 q3 q4 a0 = some r) : AbC 116 (xAQ a0) (xAG r) :=
 AbsCalls.of_reach xJt rfl rfl (Nat.le_of_ble_eq_true rfl) (xWV g0 g1 g2 g3 g4 a0 r h)
noncomputable def I31 : Info := { body := (Tryz.f31.body).getD .skip, nt := 133, results := [.cell 2 25], keep := [0, 4, 6, 8, 10, 12, 16, 18, 84, 160, 230, 232, 234, 236, 248, 1, 5, 7, 9, 11, 13], live := [(28, [0, 4, 12, 230, 232, 234, 1, 5, 13])], modes := [(5, [(1, .take, false), (5, .take, false)]), (7, [(1, .take, false), (5, .take, false)]), (8, [(0, .take, false)]), (12, [(1, .take, false), (5, .take, false)]), (14, [(1, .take, false), (5, .take, false)]), (16, [(1, .take, false), (5, .take, false)]), (17, [(0, .take, false)]), (22, [(1, .take, false), (5, .take, false)]), (24, [(1, .take, false), (5, .take, false)]), (25, [(0, .take, false)]), (31, [(1, .take, false)]), (32, [(1, .take, false)]), (33, [(0, .take, false)])], ext := [0] }
theorem fk31 : FnOk Tryz.prog 31 Tryz.f31 I31 := ⟨Tryz.func31, by kernel_rfl, by kernel_rfl, by kernel_rfl, by kernel_rfl⟩
def xJ5 (x115 : List Int) (x116 x117 : Int) (b0 : Psr) (b2 b6 : Exp) : St := [(0, .v false [.ptr 0 0]), (4, .v false [.ptr 2 0]), (12, .v false [.ptr 6 0]), (230, .v false [.sl .own .int x115]), (232, .v false [.int .i64 x116]), (234, .v false [.int .i64 x117]), (1, .v true [.sl .ro .tok (Psr.list b0), .int .i64 (Psr.pos b0), .int .i64 (Psr.bad b0)]), (5, .v true [.int .i64 (Exp.kind b2), .int .i64 (Exp.n b2), .str (Exp.text b2), .sl .own .exp (Exp.args b2)]), (13, .v true [.int .i64 (Exp.kind b6), .int .i64 (Exp.n b6), .str (Exp.text b6), .sl .own .exp (Exp.args b6)])]
def xQ2 (x115 : List Int) (x116 x117 : Int) (b0 : Psr) (b2 b6 : Exp) (r1 : Str) (r2 : Bool × Psr) (r3 : Exp × Psr) : rS 28 I31 (xJ5 x115 x116 x117 b0 b2 b6) [Y, Y] [xCZ r1, xAc r2, xBP r3] = dn (xAe ((Exp.mk 6 (gD x115 (tN x117) Ty.int.dflt) [] [(Exp.re b6), (Exp.re r3.1)]), r3.2)) [iY (dc (x117 < x116)), (0 : Int) ≤ x117 ∧ x117 < (Ln x115), AbC 56 (xDY (gD x115 (tN x117) Ty.int.dflt)) (xCZ r1), AbC 55 (xAm b0 r1) (xAc r2), iY r2.1, AbC 54 (xDt r2.2) (xBP r3)] := by kernel_rfl
def xQ3 (x115 : List Int) (x116 x117 : Int) (b0 : Psr) (b2 b6 : Exp) (r1 : Str) (r2 : Bool × Psr) : rS 28 I31 (xJ5 x115 x116 x117 b0 b2 b6) [Y, F] [xCZ r1, xAc r2] = st 28 I31 (xJ5 x115 x116 (W (x117 + 1)) r2.2 b2 b6) [iY (dc (x117 < x116)), (0 : Int) ≤ x117 ∧ x117 < (Ln x115), AbC 56 (xDY (gD x115 (tN x117) Ty.int.dflt)) (xCZ r1), AbC 55 (xAm b0 r1) (xAc r2), iN r2.1] := by kernel_rfl
def xQ4 (x115 : List Int) (x116 x117 : Int) (b0 : Psr) (b2 b6 : Exp) : rS 28 I31 (xJ5 x115 x116 x117 b0 b2 b6) [F] [] = dn (xAe (b6, b0)) [iN (dc (x117 < x116))] := by kernel_rfl
abbrev xKE (v0 : Tok × Psr) (v1 : Bool) : Prop := AbC 50 (xBi v0.1 [108, 101, 116]) (xAt v1)
abbrev xNL (v0 : Tok × Psr) (v1 : Str × Psr) : Prop := AbC 52 (xDa (xHK v0)) (xCd v1)
abbrev xHD (v0 : Psr) (v1 : Exp × Psr) : Prop := AbC 31 (xA4 v0) (xAe v1)
abbrev xLN (v0 v1 : Exp × Psr) : Prop := Ln ([] ++ [(Exp.re v0.1)]) + Ln [(Exp.re v1.1)] ≤ Lim
def xTF (a0 : Psr) (r1 : Tok × Psr) (r2 : Bool) (r3 : Str × Psr) (r4 : Psr) (r5 : Exp × Psr) (r6 : Psr) (r7 : Exp × Psr) : rE I31 (xA4 a0) [Y] [xAf r1, xAt r2, xCd r3, xAp r4, xAe r5, xAp r6, xAe r7] = dn (xAe ((Exp.mk 7 0 r3.1 (([] ++ [(Exp.re r5.1)]) ++ [(Exp.re r7.1)])), r7.2)) [xDX a0 r1, xKE r1 r2, iY r2, xNL r1 r3, AbC 53 (xAR r3.2 [61]) (xAp r4), xHD r4 r5, 0 + Ln [(Exp.re r5.1)] ≤ Lim, AbC 53 (xAR r5.2 [105, 110]) (xAp r6), xHD r6 r7, xLN r5 r7] := by kernel_rfl
def xTG (a0 : Psr) (r1 : Tok × Psr) (r2 : Bool) (r3 : Tok × Psr) (r4 : Bool) (r5 : Exp × Psr) (r6 : Psr) (r7 : Exp × Psr) (r8 : Psr) (r9 : Exp × Psr) : rE I31 (xA4 a0) [F, Y] [xAf r1, xAt r2, xAf r3, xAt r4, xAe r5, xAp r6, xAe r7, xAp r8, xAe r9] = dn (xAe ((Exp.mk 8 0 [] ((([] ++ [(Exp.re r5.1)]) ++ [(Exp.re r7.1)]) ++ [(Exp.re r9.1)])), r9.2)) [xDX a0 r1, xKE r1 r2, iN r2, xIa r1 r3, AbC 50 (xBi r3.1 [105, 102]) (xAt r4), iY r4, AbC 31 (xA4 (xHK r3)) (xAe r5), 0 + Ln [(Exp.re r5.1)] ≤ Lim, AbC 53 (xAR r5.2 [116, 104, 101, 110]) (xAp r6), xHD r6 r7, xLN r5 r7, AbC 53 (xAR r7.2 [101, 108, 115, 101]) (xAp r8), xHD r8 r9, Ln (([] ++ [(Exp.re r5.1)]) ++ [(Exp.re r7.1)]) + Ln [(Exp.re r9.1)] ≤ Lim] := by kernel_rfl
def xTH (a0 : Psr) (r1 : Tok × Psr) (r2 : Bool) (r3 : Tok × Psr) (r4 : Bool) (r5 : Tok × Psr) (r6 : Bool) (r7 : Str × Psr) (r8 : Psr) (r9 : Exp × Psr) (r10 : Psr) (r11 : Exp × Psr) : rE I31 (xA4 a0) [F, F, Y] [xAf r1, xAt r2, xAf r3, xAt r4, xAf r5, xAt r6, xCd r7, xAp r8, xAe r9, xAp r10, xAe r11] = dn (xAe ((Exp.mk 9 0 r7.1 (([] ++ [(Exp.re r9.1)]) ++ [(Exp.re r11.1)])), r11.2)) [xDX a0 r1, xKE r1 r2, iN r2, xIa r1 r3, AbC 50 (xBi r3.1 [105, 102]) (xAt r4), iN r4, xIa r3 r5, AbC 50 (xBi r5.1 [102, 111, 114]) (xAt r6), iY r6, xNL r5 r7, AbC 53 (xAR r7.2 [105, 110]) (xAp r8), xHD r8 r9, 0 + Ln [(Exp.re r9.1)] ≤ Lim, AbC 53 (xAR r9.2 [100, 111]) (xAp r10), xHD r10 r11, xLN r9 r11] := by kernel_rfl
def xTI (a0 : Psr) (r1 : Tok × Psr) (r2 : Bool) (r3 : Tok × Psr) (r4 : Bool) (r5 : Tok × Psr) (r6 : Bool) (r7 : Exp × Psr) : rE I31 (xA4 a0) [F, F, F] [xAf r1, xAt r2, xAf r3, xAt r4, xAf r5, xAt r6, xBP r7] = st 28 I31 (xJ5 [4, 5] (Ln [4, 5] : Int) 0 r7.2 (Exp.mk 0 0 [] []) r7.1) [xDX a0 r1, xKE r1 r2, iN r2, xIa r1 r3, AbC 50 (xBi r3.1 [105, 102]) (xAt r4), iN r4, xIa r3 r5, AbC 50 (xBi r5.1 [102, 111, 114]) (xAt r6), iN r6, AbC 54 (xDt r5.2) (xBP r7)] := by kernel_rfl
theorem xW5 {N q0 q1 q2 q3 q4} (g0 : G116 q0) (g1 : G31 q1) (g2 : G131 q2) (g3 : G96 q3) (g4 : G54 q4) : ∀ n x115 x116 x117 b0 b2 b6 r, xCs N q0 q1 q2 q3 q4 n x115 x116 x117 b0 b2 b6 = some r → RS Tryz.f31 I31 28 (xJ5 x115 x116 x117 b0 b2 b6) (xAe r) := by
 intro n
 induction n with
 | zero => exact fun _ _ _ _ _ _ _ h => nE h
 | succ n ih =>
  exact fun x115 x116 x117 b0 b2 b6 r h =>
   cE h (fun h0 h => iE h fun h1 h => bE h fun r1 h2 h => bE h fun r2 h3 h => cE h (fun h4 h => bE h fun r3 h5 h => dS h fk31 (xQ2 x115 x116 x117 b0 b2 b6 r1 r2 r3) (oc6 h0 h1 (xHh h2) (xAk h3) h4 (g4 _ _ h5) on)) fun h4 h =>
   tS fk31 (xQ3 x115 x116 x117 b0 b2 b6 r1 r2) (oc5 h0 h1 (xHh h2) (xAk h3) h4 on) (ih _ _ _ _ _ _ _ h)) fun h0 h =>
   dS h fk31 (xQ4 x115 x116 x117 b0 b2 b6) (oc h0 on)
theorem xXP {N q0 q1 q2 q3 q4} (g0 : G116 q0) (g1 : G31 q1) (g2 : G131 q2) (g3 : G96 q3) (g4 : G54 q4) : ∀ a0 r, xCc N q0 q1 q2 q3 q4 a0 = some r → RE Tryz.f31 I31 (xA4 a0) (xAe r) := fun a0 r h =>
 bE h fun r1 h0 h => bE h fun r2 h1 h => cE h (fun h2 h => bE h fun r3 h3 h => bE h fun r4 h4 h => bE h fun r5 h5 h => iE h fun h6 h => bE h fun r6 h7 h => bE h fun r7 h8 h => iE h fun h9 h => dE h fk31 (xTF a0 r1 r2 r3 r4 r5 r6 r7) (oc10 (xAi h0) (xBs h1) h2 (xGg h3) (xBB h4) (g1 _ _ h5) h6 (xBB h7) (g1 _ _ h8) h9 on)) fun h2 h =>
 bE h fun r3 h3 h => bE h fun r4 h4 h => cE h (fun h5 h => bE h fun r5 h6 h => iE h fun h7 h => bE h fun r6 h8 h => bE h fun r7 h9 h => iE h fun h10 h => bE h fun r8 h11 h => bE h fun r9 h12 h => iE h fun h13 h => dE h fk31 (xTG a0 r1 r2 r3 r4 r5 r6 r7 r8 r9) (oc12 (xAi h0) (xBs h1) h2 (xAi h3) (xBs h4) h5 (g1 _ _ h6) h7 (xBB h8) (g1 _ _ h9) h10 (xBB h11) (oc2 (g1 _ _ h12) h13 on))) fun h5 h =>
 bE h fun r5 h6 h => bE h fun r6 h7 h => cE h (fun h8 h => bE h fun r7 h9 h => bE h fun r8 h10 h => bE h fun r9 h11 h => iE h fun h12 h => bE h fun r10 h13 h => bE h fun r11 h14 h => iE h fun h15 h => dE h fk31 (xTH a0 r1 r2 r3 r4 r5 r6 r7 r8 r9 r10 r11) (oc12 (xAi h0) (xBs h1) h2 (xAi h3) (xBs h4) h5 (xAi h6) (xBs h7) h8 (xGg h9) (xBB h10) (g1 _ _ h11) (oc4 h12 (xBB h13) (g1 _ _ h14) h15 on))) fun h8 h =>
 bE h fun r7 h9 h => tE fk31 (xTI a0 r1 r2 r3 r4 r5 r6 r7) (oc10 (xAi h0) (xBs h1) h2 (xAi h3) (xBs h4) h5 (xAi h6) (xBs h7) h8 (g4 _ _ h9) on) (xW5 g0 g1 g2 g3 g4 _ _ _ _ _ _ _ _ h)
theorem xGN {N q0 q1 q2 q3 q4} (g0 : G116 q0) (g1 : G31 q1) (g2 : G131 q2) (g3 : G96 q3) (g4 : G54 q4) {a0} {r} (h : xCc N q0 q1 q2 q3 q4 a0 = some r) : AbC 31 (xA4 a0) (xAe r) :=
 AbsCalls.of_reach fk31 rfl rfl (Nat.le_of_ble_eq_true rfl) (xXP g0 g1 g2 g3 g4 a0 r h)
noncomputable def I131 : Info := { body := (Tryz.f131.body).getD .skip, nt := 27, results := [.tmp 4], keep := [0, 2, 8, 10, 18, 30, 46, 1], live := [(4, [0, 2, 10, 1])], modes := [(3, [(0, .take, false)]), (5, [(0, .take, false), (4, .take, false)]), (8, [(0, .take, false)])], ext := [0] }
theorem xM9 : FnOk Tryz.prog 131 Tryz.f131 I131 := ⟨Tryz.func131, by kernel_rfl, by kernel_rfl, by kernel_rfl, by kernel_rfl⟩
def xJ3 (x1 : Str) (x5 : List Exp) (b0 : Psr) : St := [(0, .v false [.ptr 0 0]), (2, .v false [.str x1]), (10, .v false [.sl .own .exp x5]), (1, .v true [.sl .ro .tok (Psr.list b0), .int .i64 (Psr.pos b0), .int .i64 (Psr.bad b0)])]
def xQS (x1 : Str) (x5 : List Exp) (b0 : Psr) (r1 : Exp × Psr) (r2 : Bool × Psr) : rS 4 I131 (xJ3 x1 x5 b0) [Y, Y] [xAe r1, xAc r2] = dn (xAX ((x5 ++ [(Exp.re r1.1)]), r2.2)) [xHB b0, xHD b0 r1, Ln x5 + Ln [(Exp.re r1.1)] ≤ Lim, AbC 55 (xAm r1.2 x1) (xAc r2), iY r2.1] := by kernel_rfl
def xQT (x1 : Str) (x5 : List Exp) (b0 : Psr) (r1 : Exp × Psr) (r2 : Bool × Psr) (r3 : Psr) : rS 4 I131 (xJ3 x1 x5 b0) [Y, F] [xAe r1, xAc r2, xAp r3] = st 4 I131 (xJ3 x1 (x5 ++ [(Exp.re r1.1)]) r3) [xHB b0, xHD b0 r1, Ln x5 + Ln [(Exp.re r1.1)] ≤ Lim, AbC 55 (xAm r1.2 x1) (xAc r2), iN r2.1, AbC 53 (xAR r2.2 [44]) (xAp r3)] := by kernel_rfl
def xQU (x1 : Str) (x5 : List Exp) (b0 : Psr) : rS 4 I131 (xJ3 x1 x5 b0) [F] [] = dn (xAX (x5, b0)) [xKB b0] := by kernel_rfl
def xQV (a0 : Psr) (a1 : Str) (r1 : Bool × Psr) : rE I131 (xB2 a0 a1) [Y] [xAc r1] = dn (xAX ([], r1.2)) [AbC 55 (xAm a0 a1) (xAc r1), iY r1.1] := by kernel_rfl
def xQW (a0 : Psr) (a1 : Str) (r1 : Bool × Psr) : rE I131 (xB2 a0 a1) [F] [xAc r1] = st 4 I131 (xJ3 a1 [] r1.2) [AbC 55 (xAm a0 a1) (xAc r1), iN r1.1] := by kernel_rfl
theorem xW1 {N q0 q1 q2 q3 q4} (g0 : G116 q0) (g1 : G31 q1) (g2 : G131 q2) (g3 : G96 q3) (g4 : G54 q4) : ∀ n x1 x5 b0 r, xB3 N q0 q1 q2 q3 q4 n x1 x5 b0 = some r → RS Tryz.f131 I131 4 (xJ3 x1 x5 b0) (xAX r) := by
 intro n
 induction n with
 | zero => exact fun _ _ _ _ h => nE h
 | succ n ih =>
  exact fun x1 x5 b0 r h =>
   cE h (fun h0 h => bE h fun r1 h1 h => iE h fun h2 h => bE h fun r2 h3 h => cE h (fun h4 h => dS h xM9 (xQS x1 x5 b0 r1 r2) (oc5 h0 (g1 _ _ h1) h2 (xAk h3) h4 on)) fun h4 h =>
   bE h fun r3 h5 h => tS xM9 (xQT x1 x5 b0 r1 r2 r3) (oc6 h0 (g1 _ _ h1) h2 (xAk h3) h4 (xBB h5) on) (ih _ _ _ _ h)) fun h0 h =>
   dS h xM9 (xQU x1 x5 b0) (oc h0 on)
theorem xW2 {N q0 q1 q2 q3 q4} (g0 : G116 q0) (g1 : G31 q1) (g2 : G131 q2) (g3 : G96 q3) (g4 : G54 q4) : ∀ a0 a1 r, xB5 N q0 q1 q2 q3 q4 a0 a1 = some r → RE Tryz.f131 I131 (xB2 a0 a1) (xAX r) := fun a0 a1 r h =>
 bE h fun r1 h0 h => cE h (fun h1 h => dE h xM9 (xQV a0 a1 r1) (oc2 (xAk h0) h1 on)) fun h1 h =>
 tE xM9 (xQW a0 a1 r1) (oc2 (xAk h0) h1 on) (xW1 g0 g1 g2 g3 g4 _ _ _ _ _ h)
theorem xGC {N q0 q1 q2 q3 q4} (g0 : G116 q0) (g1 : G31 q1) (g2 : G131 q2) (g3 : G96 q3) (g4 : G54 q4) {a0} {a1} {r} (h : xB5 N q0 q1 q2 q3 q4 a0 a1 = some r) : AbC 131 (xB2 a0 a1) (xAX r) :=
 AbsCalls.of_reach xM9 rfl rfl (Nat.le_of_ble_eq_true rfl) (xW2 g0 g1 g2 g3 g4 a0 a1 r h)
noncomputable def I96 : Info := { body := (Tryz.f96.body).getD .skip, nt := 14, results := [.cell 2 25], keep := [0, 4, 6, 14, 1, 5, 7], live := [(2, [0, 4, 6, 1, 5, 7])], modes := [(3, [(0, .take, false)]), (4, [(0, .take, false)])], ext := [0] }
theorem fk96 : FnOk Tryz.prog 96 Tryz.f96 I96 := ⟨Tryz.func96, by kernel_rfl, by kernel_rfl, by kernel_rfl, by kernel_rfl⟩
def xNt (b0 : Psr) (b2 b3 : Exp) : St := [(0, .v false [.ptr 0 0]), (4, .v false [.ptr 2 0]), (6, .v false [.ptr 3 0]), (1, .v true [.sl .ro .tok (Psr.list b0), .int .i64 (Psr.pos b0), .int .i64 (Psr.bad b0)]), (5, .v true [.int .i64 (Exp.kind b2), .int .i64 (Exp.n b2), .str (Exp.text b2), .sl .own .exp (Exp.args b2)]), (7, .v true [.int .i64 (Exp.kind b3), .int .i64 (Exp.n b3), .str (Exp.text b3), .sl .own .exp (Exp.args b3)])]
def xWi (b0 : Psr) (b2 b3 : Exp) (r1 : Bool × Psr) (r2 : Exp × Psr) : rS 2 I96 (xNt b0 b2 b3) [Y] [xAc r1, xAG r2] = st 2 I96 (xNt r2.2 b2 (Exp.mk 6 3 [] [(Exp.re b3), (Exp.re r2.1)])) [AbC 55 (xAm b0 [42]) (xAc r1), iY r1.1, AbC 116 (xAQ r1.2) (xAG r2)] := by kernel_rfl
def xWj (b0 : Psr) (b2 b3 : Exp) (r1 : Bool × Psr) : rS 2 I96 (xNt b0 b2 b3) [F] [xAc r1] = dn (xA0 (b3, r1.2)) [AbC 55 (xAm b0 [42]) (xAc r1), iN r1.1] := by kernel_rfl
def xWk (a0 : Psr) (r1 : Exp × Psr) : rE I96 (xB6 a0) [] [xAG r1] = st 2 I96 (xNt r1.2 (Exp.mk 0 0 [] []) r1.1) [AbC 116 (xAQ a0) (xAG r1)] := by kernel_rfl
theorem xYN {N q0 q1 q2 q3 q4} (g0 : G116 q0) (g1 : G31 q1) (g2 : G131 q2) (g3 : G96 q3) (g4 : G54 q4) : ∀ n b0 b2 b3 r, xBF N q0 q1 q2 q3 q4 n b0 b2 b3 = some r → RS Tryz.f96 I96 2 (xNt b0 b2 b3) (xA0 r) := by
 intro n
 induction n with
 | zero => exact fun _ _ _ _ h => nE h
 | succ n ih =>
  exact fun b0 b2 b3 r h =>
   bE h fun r1 h0 h => cE h (fun h1 h => bE h fun r2 h2 h => tS fk96 (xWi b0 b2 b3 r1 r2) (oc3 (xAk h0) h1 (g0 _ _ h2) on) (ih _ _ _ _ h)) fun h1 h =>
   dS h fk96 (xWj b0 b2 b3 r1) (oc2 (xAk h0) h1 on)
theorem xYO {N q0 q1 q2 q3 q4} (g0 : G116 q0) (g1 : G31 q1) (g2 : G131 q2) (g3 : G96 q3) (g4 : G54 q4) : ∀ a0 r, xBL N q0 q1 q2 q3 q4 a0 = some r → RE Tryz.f96 I96 (xB6 a0) (xA0 r) := fun a0 r h =>
 bE h fun r1 h0 h => tE fk96 (xWk a0 r1) (oc (g0 _ _ h0) on) (xYN g0 g1 g2 g3 g4 _ _ _ _ _ h)
theorem xGh {N q0 q1 q2 q3 q4} (g0 : G116 q0) (g1 : G31 q1) (g2 : G131 q2) (g3 : G96 q3) (g4 : G54 q4) {a0} {r} (h : xBL N q0 q1 q2 q3 q4 a0 = some r) : AbC 96 (xB6 a0) (xA0 r) :=
 AbsCalls.of_reach fk96 rfl rfl (Nat.le_of_ble_eq_true rfl) (xYO g0 g1 g2 g3 g4 a0 r h)
noncomputable def I54 : Info := { body := (Tryz.f54.body).getD .skip, nt := 25, results := [.cell 2 25], keep := [0, 4, 6, 8, 22, 28, 34, 1, 5, 7], live := [(2, [0, 4, 6, 1, 5, 7])], modes := [(7, [(0, .take, false), (1, .take, false)]), (8, [(0, .take, false)])], ext := [0] }
theorem fk54 : FnOk Tryz.prog 54 Tryz.f54 I54 := ⟨Tryz.func54, by kernel_rfl, by kernel_rfl, by kernel_rfl, by kernel_rfl⟩
def xK6 (b0 : Psr) (b2 b3 : Exp) : St := [(0, .v false [.ptr 0 0]), (4, .v false [.ptr 2 0]), (6, .v false [.ptr 3 0]), (1, .v true [.sl .ro .tok (Psr.list b0), .int .i64 (Psr.pos b0), .int .i64 (Psr.bad b0)]), (5, .v true [.int .i64 (Exp.kind b2), .int .i64 (Exp.n b2), .str (Exp.text b2), .sl .own .exp (Exp.args b2)]), (7, .v true [.int .i64 (Exp.kind b3), .int .i64 (Exp.n b3), .str (Exp.text b3), .sl .own .exp (Exp.args b3)])]
def xUR (b0 : Psr) (b2 b3 : Exp) (r1 : Bool × Psr) (r2 : Bool × Psr) : rS 2 I54 (xK6 b0 b2 b3) [Y, Y, Y] [xAc r1, xAc r2] = dn (xBP (b3, r2.2)) [xHB b0, AbC 55 (xAm b0 [43]) (xAc r1), iY (!r1.1), AbC 55 (xAm r1.2 [45]) (xAc r2), iY (!r2.1)] := by kernel_rfl
def xUS (b0 : Psr) (b2 b3 : Exp) (r1 : Bool × Psr) (r2 : Bool × Psr) (r3 : Exp × Psr) : rS 2 I54 (xK6 b0 b2 b3) [Y, Y, F] [xAc r1, xAc r2, xA0 r3] = st 2 I54 (xK6 r3.2 b2 (Exp.mk 6 2 [] [(Exp.re b3), (Exp.re r3.1)])) [xHB b0, AbC 55 (xAm b0 [43]) (xAc r1), iY (!r1.1), AbC 55 (xAm r1.2 [45]) (xAc r2), iN (!r2.1), AbC 96 (xB6 r2.2) (xA0 r3)] := by kernel_rfl
def xUT (b0 : Psr) (b2 b3 : Exp) (r1 : Bool × Psr) (r2 : Exp × Psr) : rS 2 I54 (xK6 b0 b2 b3) [Y, F] [xAc r1, xA0 r2] = st 2 I54 (xK6 r2.2 b2 (Exp.mk 6 1 [] [(Exp.re b3), (Exp.re r2.1)])) [xHB b0, AbC 55 (xAm b0 [43]) (xAc r1), iN (!r1.1), AbC 96 (xB6 r1.2) (xA0 r2)] := by kernel_rfl
def xUU (b0 : Psr) (b2 b3 : Exp) : rS 2 I54 (xK6 b0 b2 b3) [F] [] = dn (xBP (b3, b0)) [xKB b0] := by kernel_rfl
def xUV (a0 : Psr) (r1 : Exp × Psr) : rE I54 (xDt a0) [] [xA0 r1] = st 2 I54 (xK6 r1.2 (Exp.mk 0 0 [] []) r1.1) [AbC 96 (xB6 a0) (xA0 r1)] := by kernel_rfl
theorem xYf {N q0 q1 q2 q3 q4} (g0 : G116 q0) (g1 : G31 q1) (g2 : G131 q2) (g3 : G96 q3) (g4 : G54 q4) : ∀ n b0 b2 b3 r, xBO N q0 q1 q2 q3 q4 n b0 b2 b3 = some r → RS Tryz.f54 I54 2 (xK6 b0 b2 b3) (xBP r) := by
 intro n
 induction n with
 | zero => exact fun _ _ _ _ h => nE h
 | succ n ih =>
  exact fun b0 b2 b3 r h =>
   cE h (fun h0 h => bE h fun r1 h1 h => cE h (fun h2 h => bE h fun r2 h3 h => cE h (fun h4 h => dS h fk54 (xUR b0 b2 b3 r1 r2) (oc5 h0 (xAk h1) h2 (xAk h3) h4 on)) fun h4 h =>
   bE h fun r3 h5 h => tS fk54 (xUS b0 b2 b3 r1 r2 r3) (oc6 h0 (xAk h1) h2 (xAk h3) h4 (g3 _ _ h5) on) (ih _ _ _ _ h)) fun h2 h =>
   bE h fun r2 h3 h => tS fk54 (xUT b0 b2 b3 r1 r2) (oc4 h0 (xAk h1) h2 (g3 _ _ h3) on) (ih _ _ _ _ h)) fun h0 h =>
   dS h fk54 (xUU b0 b2 b3) (oc h0 on)
theorem xYg {N q0 q1 q2 q3 q4} (g0 : G116 q0) (g1 : G31 q1) (g2 : G131 q2) (g3 : G96 q3) (g4 : G54 q4) : ∀ a0 r, xCt N q0 q1 q2 q3 q4 a0 = some r → RE Tryz.f54 I54 (xDt a0) (xBP r) := fun a0 r h =>
 bE h fun r1 h0 h => tE fk54 (xUV a0 r1) (oc (g3 _ _ h0) on) (xYf g0 g1 g2 g3 g4 _ _ _ _ _ h)
theorem xG3 {N q0 q1 q2 q3 q4} (g0 : G116 q0) (g1 : G31 q1) (g2 : G131 q2) (g3 : G96 q3) (g4 : G54 q4) {a0} {r} (h : xCt N q0 q1 q2 q3 q4 a0 = some r) : AbC 54 (xDt a0) (xBP r) :=
 AbsCalls.of_reach fk54 rfl rfl (Nat.le_of_ble_eq_true rfl) (xYg g0 g1 g2 g3 g4 a0 r h)
theorem xG2 {N : Nat} : ∀ d, G116 (xAb N d).c_impl_parser_atom ∧ G31 (xAb N d).c_impl_parser_expr ∧ G131 (xAb N d).c_impl_parser_list2 ∧ G96 (xAb N d).c_impl_parser_product ∧ G54 (xAb N d).c_impl_parser_sum := by
 intro d
 induction d with
 | zero => exact ⟨fun _ _ h => nE h, fun _ _ h => nE h, fun _ _ _ h => nE h, fun _ _ h => nE h, fun _ _ h => nE h⟩
 | succ d ih =>
  obtain ⟨ih0, ih1, ih2, ih3, ih4⟩ := ih
  exact ⟨fun _ _ h => xGM (N := N) ih0 ih1 ih2 ih3 ih4 h, fun _ _ h => xGN (N := N) ih0 ih1 ih2 ih3 ih4 h, fun _ _ _ h => xGC (N := N) ih0 ih1 ih2 ih3 ih4 h, fun _ _ h => xGh (N := N) ih0 ih1 ih2 ih3 ih4 h, fun _ _ h => xG3 (N := N) ih0 ih1 ih2 ih3 ih4 h⟩
theorem xBc {N : Nat} {a0 : Psr} {r : Exp × Psr} (h : xE8 N a0 = some r) : AbC 31 (xA4 a0) (xAe r) := (xG2 N).2.1 _ r h
def G57 (q : Exp → Option (Int)) : Prop := ∀ a0 r, q a0 = some r → AbC 57 (xCp a0) (xA8 r)
noncomputable def I57 : Info := { body := (Tryz.f57.body).getD .skip, nt := 19, results := [.tmp 2], keep := [0, 2, 4, 6, 10, 14, 16, 18, 20, 3, 11], live := [(3, [6, 14, 16, 18])], modes := [(6, [(1, .take, false)])] }
theorem fk57 : FnOk Tryz.prog 57 Tryz.f57 I57 := ⟨Tryz.func57, by kernel_rfl, by kernel_rfl, by kernel_rfl, by kernel_rfl⟩
def xNq (x3 : Int) (x7 : List Exp) (x8 x9 : Int) : St := [(6, .v false [.int .i64 x3]), (14, .v false [.sl .ro .exp x7]), (16, .v false [.int .i64 x8]), (18, .v false [.int .i64 x9])]
abbrev xDR (v0 : Int) (v1 : List Exp) : Prop := (0 : Int) ≤ v0 ∧ v0 < (Ln v1)
abbrev xGH (v0 : List Exp) (v1 : Int) := gD v0 (tN v1) Ty.exp.dflt
def xU0 (x3 : Int) (x7 : List Exp) (x8 x9 r1 : Int) : rS 3 I57 (xNq x3 x7 x8 x9) [Y] [xA8 r1] = st 3 I57 (xNq (W (x3 + r1)) x7 x8 (W (x9 + 1))) [iY (dc (x9 < x8)), xDR x9 x7, AbC 57 (xCp (xGH x7 x9)) (xA8 r1)] := by kernel_rfl
def xU1 (x3 : Int) (x7 : List Exp) (x8 x9 : Int) : rS 3 I57 (xNq x3 x7 x8 x9) [F] [] = dn (xA8 x3) [iN (dc (x9 < x8))] := by kernel_rfl
def xU2 (a0 : Exp) : rE I57 (xCp a0) [] [] = st 3 I57 (xNq 1 (Exp.args a0) (xHb a0) 0) [] := by kernel_rfl
theorem xYj {N q0} (g0 : G57 q0) : ∀ n x3 x7 x8 x9 r, xC9 N q0 n x3 x7 x8 x9 = some r → RS Tryz.f57 I57 3 (xNq x3 x7 x8 x9) (xA8 r) := by
 intro n
 induction n with
 | zero => exact fun _ _ _ _ _ h => nE h
 | succ n ih =>
  exact fun x3 x7 x8 x9 r h =>
   cE h (fun h0 h => iE h fun h1 h => bE h fun r1 h2 h => tS fk57 (xU0 x3 x7 x8 x9 r1) (oc3 h0 h1 (g0 _ _ h2) on) (ih _ _ _ _ _ h)) fun h0 h =>
   dS h fk57 (xU1 x3 x7 x8 x9) (oc h0 on)
theorem xYk {N q0} (g0 : G57 q0) : ∀ a0 r, xFh N q0 a0 = some r → RE Tryz.f57 I57 (xCp a0) (xA8 r) := fun a0 r h =>
 tE fk57 (xU2 a0) on (xYj g0 _ _ _ _ _ _ h)
theorem xHm {N q0} (g0 : G57 q0) {a0} {r} (h : xFh N q0 a0 = some r) : AbC 57 (xCp a0) (xA8 r) :=
 AbsCalls.of_reach fk57 rfl rfl (Nat.le_of_ble_eq_true rfl) (xYk g0 a0 r h)
theorem xFR {N : Nat} : ∀ d, G57 (xDs N d)
 | 0 => fun _ _ h => nE h
 | d + 1 => fun _ _ h => xHm (N := N) (xFR d) h
theorem xFK {N : Nat} {a0 : Exp} {r : Int} (h : xGB N a0 = some r) : AbC 57 (xCp a0) (xA8 r) := xFR N _ r h
def G58 (q : Exp → Option (Int)) : Prop := ∀ a0 r, q a0 = some r → AbC 58 (xCN a0) (xBt r)
noncomputable def I58 : Info := { body := (Tryz.f58.body).getD .skip, nt := 20, results := [.tmp 2], keep := [0, 2, 4, 6, 10, 14, 16, 18, 20, 3, 11], live := [(3, [6, 14, 16, 18])], modes := [(6, [(1, .take, false)])] }
theorem fk58 : FnOk Tryz.prog 58 Tryz.f58 I58 := ⟨Tryz.func58, by kernel_rfl, by kernel_rfl, by kernel_rfl, by kernel_rfl⟩
def xNr (x3 : Int) (x7 : List Exp) (x8 x9 : Int) : St := [(6, .v false [.int .i64 x3]), (14, .v false [.sl .ro .exp x7]), (16, .v false [.int .i64 x8]), (18, .v false [.int .i64 x9])]
def xU3 (x3 : Int) (x7 : List Exp) (x8 x9 r1 : Int) : rS 3 I58 (xNr x3 x7 x8 x9) [Y] [xBt r1] = st 3 I58 (xNr (if r1 > x3 then r1 else x3) x7 x8 (W (x9 + 1))) [iY (dc (x9 < x8)), xDR x9 x7, AbC 58 (xCN (xGH x7 x9)) (xBt r1)] := by kernel_rfl
def xU4 (x3 : Int) (x7 : List Exp) (x8 x9 : Int) : rS 3 I58 (xNr x3 x7 x8 x9) [F] [] = dn (xBt (W (x3 + 1))) [iN (dc (x9 < x8))] := by kernel_rfl
def xU5 (a0 : Exp) : rE I58 (xCN a0) [] [] = st 3 I58 (xNr 0 (Exp.args a0) (xHb a0) 0) [] := by kernel_rfl
theorem xYl {N q0} (g0 : G58 q0) : ∀ n x3 x7 x8 x9 r, xDI N q0 n x3 x7 x8 x9 = some r → RS Tryz.f58 I58 3 (xNr x3 x7 x8 x9) (xBt r) := by
 intro n
 induction n with
 | zero => exact fun _ _ _ _ _ h => nE h
 | succ n ih =>
  exact fun x3 x7 x8 x9 r h =>
   cE h (fun h0 h => iE h fun h1 h => bE h fun r1 h2 h => tS fk58 (xU3 x3 x7 x8 x9 r1) (oc3 h0 h1 (g0 _ _ h2) on) (ih _ _ _ _ _ h)) fun h0 h =>
   dS h fk58 (xU4 x3 x7 x8 x9) (oc h0 on)
theorem xYm {N q0} (g0 : G58 q0) : ∀ a0 r, xFg N q0 a0 = some r → RE Tryz.f58 I58 (xCN a0) (xBt r) := fun a0 r h =>
 tE fk58 (xU5 a0) on (xYl g0 _ _ _ _ _ _ h)
theorem xHl {N q0} (g0 : G58 q0) {a0} {r} (h : xFg N q0 a0 = some r) : AbC 58 (xCN a0) (xBt r) :=
 AbsCalls.of_reach fk58 rfl rfl (Nat.le_of_ble_eq_true rfl) (xYm g0 a0 r h)
theorem xFQ {N : Nat} : ∀ d, G58 (xD4 N d)
 | 0 => fun _ _ h => nE h
 | d + 1 => fun _ _ h => xHl (N := N) (xFQ d) h
theorem xGL {N : Nat} {a0 : Exp} {r : Int} (h : xGA N a0 = some r) : AbC 58 (xCN a0) (xBt r) := xFQ N _ r h
noncomputable def I98 : Info := { body := (Tryz.f98.body).getD .skip, nt := 120, results := [.tmp 2], keep := [0, 2, 4, 6, 16, 18, 46, 74, 102, 130, 154, 182, 212, 3], live := [], modes := [(4, [(3, .take, false), (8, .take, false)]), (6, [(3, .take, false), (8, .take, false)]), (8, [(3, .take, false), (8, .take, false)]), (10, [(3, .take, false), (8, .take, false)]), (12, [(3, .take, false)]), (14, [(3, .take, false), (8, .take, false)]), (17, [(3, .take, false), (8, .take, false)]), (19, [(3, .take, false), (8, .take, false)])] }
theorem fk98 : FnOk Tryz.prog 98 Tryz.f98 I98 := ⟨Tryz.func98, by kernel_rfl, by kernel_rfl, by kernel_rfl, by kernel_rfl⟩
abbrev xLO (v0 : Exp) (v1 : Bool) : Prop := AbC 97 (xCB (Exp.n v0) 0 1000000000) (xAZ v1)
abbrev xMd (v0 : Exp) := xAD ((Ln (Exp.args v0) : Int) == 0)
def xWn (a0 : Exp) (r1 : Bool) : rE I98 (xAv a0) [Y, Y, Y] [xAZ r1] = dn (xMd a0) [xKj a0, xLO a0 r1, iY r1, xG5 a0] := by kernel_rfl
def xWo (a0 : Exp) (r1 : Bool) : rE I98 (xAv a0) [Y, Y, F] [xAZ r1] = dn (xAD false) [xKj a0, xLO a0 r1, iY r1, xHu a0] := by kernel_rfl
def xWp (a0 : Exp) (r1 : Bool) : rE I98 (xAv a0) [Y, F, F] [xAZ r1] = dn (xAD false) [xKj a0, xLO a0 r1, iN r1, iN false] := by kernel_rfl
def xWq (a0 : Exp) (r1 : Bool) : rE I98 (xAv a0) [F, Y, Y, Y] [xAM r1] = dn (xMd a0) [xBj a0, xIG a0, xDC a0, AbC 91 (xC7 (Exp.text a0)) (xAM r1), iY r1] := by kernel_rfl
def xWr (a0 : Exp) (r1 : Bool) : rE I98 (xAv a0) [F, Y, Y, F] [xAM r1] = dn (xAD false) [xBj a0, xIG a0, xDC a0, AbC 91 (xC7 (Exp.text a0)) (xAM r1), iN r1] := by kernel_rfl
def xWs (a0 : Exp) : rE I98 (xAv a0) [F, Y, F, F] [] = dn (xAD false) [xBj a0, xIG a0, xFv a0, iN false] := by kernel_rfl
abbrev xIS (v0 : Exp) (v1 : Bool) : Prop := AbC 93 (xC6 (Exp.text v0)) (xAz v1)
def xWt (a0 : Exp) (r1 : Bool) : rE I98 (xAv a0) [F, F, Y, Y, Y] [xAz r1] = dn (xMd a0) [xBj a0, xBE a0, xIH a0, xDC a0, xIS a0 r1, iY r1] := by kernel_rfl
def xWu (a0 : Exp) (r1 : Bool) : rE I98 (xAv a0) [F, F, Y, Y, F] [xAz r1] = dn (xAD false) [xBj a0, xBE a0, xIH a0, xDC a0, xIS a0 r1, iN r1] := by kernel_rfl
def xWv (a0 : Exp) : rE I98 (xAv a0) [F, F, Y, F, F] [] = dn (xAD false) [xBj a0, xBE a0, xIH a0, xFv a0, iN false] := by kernel_rfl
def xWw (a0 : Exp) : rE I98 (xAv a0) [F, F, F, Y, Y, Y] [] = dn (xAD (dc ((xHb a0) ≤ 8))) [xBj a0, xBE a0, xB8 a0, xII a0, xDC a0, xG5 a0] := by kernel_rfl
def xRS (a0 : Exp) : rE I98 (xAv a0) [F, F, F, Y, Y, F] [] = dn (xAD false) [xBj a0, xBE a0, xB8 a0, xII a0, xDC a0, xHu a0] := by kernel_rfl
def xRT (a0 : Exp) : rE I98 (xAv a0) [F, F, F, Y, F, F] [] = dn (xAD false) [xBj a0, xBE a0, xB8 a0, xII a0, xFv a0, iN false] := by kernel_rfl
def xRU (a0 : Exp) (r1 : Int) : rE I98 (xAv a0) [F, F, F, F, Y, Y] [xAg r1] = dn (xAD ((xHb a0) == r1)) [xBj a0, xBE a0, xB8 a0, xCR a0, xKw a0, xDC a0, AbC 117 (xAj (Exp.text a0)) (xAg r1)] := by kernel_rfl
def xRV (a0 : Exp) : rE I98 (xAv a0) [F, F, F, F, Y, F] [] = dn (xAD false) [xBj a0, xBE a0, xB8 a0, xCR a0, xKw a0, xFv a0] := by kernel_rfl
abbrev xMe (v0 : Exp) := xAD ((Ln (Exp.args v0) : Int) == 2)
def xRW (a0 : Exp) (r1 : Bool) : rE I98 (xAv a0) [F, F, F, F, F, Y, Y, Y] [xAZ r1] = dn (xMe a0) [xBj a0, xBE a0, xB8 a0, xCR a0, xDn a0, xIJ a0, AbC 97 (xCB (Exp.n a0) 1 5) (xAZ r1), iY r1, xG5 a0] := by kernel_rfl
def xRX (a0 : Exp) (r1 : Bool) : rE I98 (xAv a0) [F, F, F, F, F, Y, Y, F] [xAZ r1] = dn (xAD false) [xBj a0, xBE a0, xB8 a0, xCR a0, xDn a0, xIJ a0, AbC 97 (xCB (Exp.n a0) 1 5) (xAZ r1), iY r1, xHu a0] := by kernel_rfl
def xRY (a0 : Exp) (r1 : Bool) : rE I98 (xAv a0) [F, F, F, F, F, Y, F, F] [xAZ r1] = dn (xAD false) [xBj a0, xBE a0, xB8 a0, xCR a0, xDn a0, xIJ a0, AbC 97 (xCB (Exp.n a0) 1 5) (xAZ r1), iN r1, iN false] := by kernel_rfl
def xRZ (a0 : Exp) (r1 : Bool) : rE I98 (xAv a0) [F, F, F, F, F, F, Y, Y, Y, Y] [xAz r1] = dn (xMe a0) [xBj a0, xBE a0, xB8 a0, xCR a0, xDn a0, xEj a0, xFX a0, xFX a0, xDC a0, xIS a0 r1, iY r1] := by kernel_rfl
def xR0 (a0 : Exp) (r1 : Bool) : rE I98 (xAv a0) [F, F, F, F, F, F, Y, Y, Y, F] [xAz r1] = dn (xAD false) [xBj a0, xBE a0, xB8 a0, xCR a0, xDn a0, xEj a0, xFX a0, xFX a0, xDC a0, xIS a0 r1, iN r1] := by kernel_rfl
def xR1 (a0 : Exp) : rE I98 (xAv a0) [F, F, F, F, F, F, Y, Y, F, F] [] = dn (xAD false) [xBj a0, xBE a0, xB8 a0, xCR a0, xDn a0, xEj a0, xFX a0, xFX a0, xFv a0, iN false] := by kernel_rfl
def xR2 (a0 : Exp) (r1 : Bool) : rE I98 (xAv a0) [F, F, F, F, F, F, F, Y, Y, Y] [xAz r1] = dn (xMe a0) [xBj a0, xBE a0, xB8 a0, xCR a0, xDn a0, xEj a0, xFw a0, xIK a0, xDC a0, xIS a0 r1, iY r1] := by kernel_rfl
def xR3 (a0 : Exp) (r1 : Bool) : rE I98 (xAv a0) [F, F, F, F, F, F, F, Y, Y, F] [xAz r1] = dn (xAD false) [xBj a0, xBE a0, xB8 a0, xCR a0, xDn a0, xEj a0, xFw a0, xIK a0, xDC a0, xIS a0 r1, iN r1] := by kernel_rfl
def xR4 (a0 : Exp) : rE I98 (xAv a0) [F, F, F, F, F, F, F, Y, F, F] [] = dn (xAD false) [xBj a0, xBE a0, xB8 a0, xCR a0, xDn a0, xEj a0, xFw a0, xIK a0, xFv a0, iN false] := by kernel_rfl
def xR5 (a0 : Exp) : rE I98 (xAv a0) [F, F, F, F, F, F, F, F, Y, Y, Y] [] = dn (xAD ((xHb a0) == 3)) [xBj a0, xBE a0, xB8 a0, xCR a0, xDn a0, xEj a0, xFw a0, xHv a0, xIL a0, xDC a0, xG5 a0] := by kernel_rfl
def xR6 (a0 : Exp) : rE I98 (xAv a0) [F, F, F, F, F, F, F, F, Y, Y, F] [] = dn (xAD false) [xBj a0, xBE a0, xB8 a0, xCR a0, xDn a0, xEj a0, xFw a0, xHv a0, xIL a0, xDC a0, xHu a0] := by kernel_rfl
def xR7 (a0 : Exp) : rE I98 (xAv a0) [F, F, F, F, F, F, F, F, Y, F, F] [] = dn (xAD false) [xBj a0, xBE a0, xB8 a0, xCR a0, xDn a0, xEj a0, xFw a0, xHv a0, xIL a0, xFv a0, iN false] := by kernel_rfl
def xR8 (a0 : Exp) : rE I98 (xAv a0) [F, F, F, F, F, F, F, F, F] [] = dn (xAD false) [xBj a0, xBE a0, xB8 a0, xCR a0, xDn a0, xEj a0, xFw a0, xHv a0, iN ((Exp.kind a0) == 8)] := by kernel_rfl
theorem xYQ {N : Nat} : ∀ a0 r, xGf N a0 = some r → RE Tryz.f98 I98 (xAv a0) (xAD r) := fun a0 r h =>
 cE h (fun h0 h => bE h fun r1 h1 h => cE h (fun h2 h => cE h (fun h3 h => dE h fk98 (xWn a0 r1) (oc4 h0 (xDi h1) h2 h3 on)) fun h3 h =>
 dE h fk98 (xWo a0 r1) (oc4 h0 (xDi h1) h2 h3 on)) fun h2 h =>
 dE h fk98 (xWp a0 r1) (oc4 h0 (xDi h1) h2 rfl on)) fun h0 h =>
 cE h (fun h1 h => cE h (fun h2 h => bE h fun r1 h3 h => cE h (fun h4 h => dE h fk98 (xWq a0 r1) (oc5 h0 h1 h2 (xC8 h3) h4 on)) fun h4 h =>
 dE h fk98 (xWr a0 r1) (oc5 h0 h1 h2 (xC8 h3) h4 on)) fun h2 h =>
 dE h fk98 (xWs a0) (oc4 h0 h1 h2 rfl on)) fun h1 h =>
 cE h (fun h2 h => cE h (fun h3 h => bE h fun r1 h4 h => cE h (fun h5 h => dE h fk98 (xWt a0 r1) (oc6 h0 h1 h2 h3 (xA3 h4) h5 on)) fun h5 h =>
 dE h fk98 (xWu a0 r1) (oc6 h0 h1 h2 h3 (xA3 h4) h5 on)) fun h3 h =>
 dE h fk98 (xWv a0) (oc5 h0 h1 h2 h3 rfl on)) fun h2 h =>
 cE h (fun h3 h => cE h (fun h4 h => cE h (fun h5 h => dE h fk98 (xWw a0) (oc6 h0 h1 h2 h3 h4 h5 on)) fun h5 h =>
 dE h fk98 (xRS a0) (oc6 h0 h1 h2 h3 h4 h5 on)) fun h4 h =>
 dE h fk98 (xRT a0) (oc6 h0 h1 h2 h3 h4 rfl on)) fun h3 h =>
 cE h (fun h4 h => cE h (fun h5 h => bE h fun r1 h6 h => dE h fk98 (xRU a0 r1) (oc7 h0 h1 h2 h3 h4 h5 (xCM h6) on)) fun h5 h =>
 dE h fk98 (xRV a0) (oc6 h0 h1 h2 h3 h4 h5 on)) fun h4 h =>
 cE h (fun h5 h => bE h fun r1 h6 h => cE h (fun h7 h => cE h (fun h8 h => dE h fk98 (xRW a0 r1) (oc9 h0 h1 h2 h3 h4 h5 (xDi h6) h7 h8 on)) fun h8 h =>
 dE h fk98 (xRX a0 r1) (oc9 h0 h1 h2 h3 h4 h5 (xDi h6) h7 h8 on)) fun h7 h =>
 dE h fk98 (xRY a0 r1) (oc9 h0 h1 h2 h3 h4 h5 (xDi h6) h7 rfl on)) fun h5 h =>
 cE h (fun h6 h => cE h (fun h8 h => bE h fun r1 h9 h => cE h (fun h10 h => dE h fk98 (xRZ a0 r1) (oc11 h0 h1 h2 h3 h4 h5 h6 h6 h8 (xA3 h9) h10 on)) fun h10 h =>
 dE h fk98 (xR0 a0 r1) (oc11 h0 h1 h2 h3 h4 h5 h6 h6 h8 (xA3 h9) h10 on)) fun h8 h =>
 dE h fk98 (xR1 a0) (oc10 h0 h1 h2 h3 h4 h5 h6 h6 h8 rfl on)) fun h6 h =>
 cE h (fun h7 h => cE h (fun h8 h => bE h fun r1 h9 h => cE h (fun h10 h => dE h fk98 (xR2 a0 r1) (oc11 h0 h1 h2 h3 h4 h5 h6 h7 h8 (xA3 h9) h10 on)) fun h10 h =>
 dE h fk98 (xR3 a0 r1) (oc11 h0 h1 h2 h3 h4 h5 h6 h7 h8 (xA3 h9) h10 on)) fun h8 h =>
 dE h fk98 (xR4 a0) (oc10 h0 h1 h2 h3 h4 h5 h6 h7 h8 rfl on)) fun h7 h =>
 cE h (fun h8 h => cE h (fun h9 h => cE h (fun h10 h => dE h fk98 (xR5 a0) (oc11 h0 h1 h2 h3 h4 h5 h6 h7 h8 h9 h10 on)) fun h10 h =>
 dE h fk98 (xR6 a0) (oc11 h0 h1 h2 h3 h4 h5 h6 h7 h8 h9 h10 on)) fun h9 h =>
 dE h fk98 (xR7 a0) (oc11 h0 h1 h2 h3 h4 h5 h6 h7 h8 h9 rfl on)) fun h8 h =>
 dE h fk98 (xR8 a0) (oc9 h0 h1 h2 h3 h4 h5 h6 h7 h8 on)
theorem xJW {N : Nat} {a0 : Exp} {r : Bool} (h : xGf N  a0 = some r) : AbC 98 (xAv a0) (xAD r) :=
 AbsCalls.of_reach fk98 rfl rfl (Nat.le_of_ble_eq_true rfl) (xYQ a0 r h)
def G59 (q : Exp → Option (Bool)) : Prop := ∀ a0 r, q a0 = some r → AbC 59 (xC0 a0) (xBv r)
noncomputable def I59 : Info := { body := (Tryz.f59.body).getD .skip, nt := 18, results := [.tmp 2], keep := [0, 2, 4, 8, 12, 14, 16, 18, 28, 3, 9], live := [(2, [2, 12, 14, 16, 3])], modes := [(6, [(1, .take, false)])] }
theorem fk59 : FnOk Tryz.prog 59 Tryz.f59 I59 := ⟨Tryz.func59, by kernel_rfl, by kernel_rfl, by kernel_rfl, by kernel_rfl⟩
def xM4 (x6 : List Exp) (x7 x8 : Int) (b1 : Exp) : St := [(2, .v false [.ptr 1 0]), (12, .v false [.sl .ro .exp x6]), (14, .v false [.int .i64 x7]), (16, .v false [.int .i64 x8]), (3, .v true [.int .i64 (Exp.kind b1), .int .i64 (Exp.n b1), .str (Exp.text b1), .sl .ro .exp (Exp.args b1)])]
def xU6 (x6 : List Exp) (x7 x8 : Int) (b1 : Exp) (r1 : Bool) : rS 2 I59 (xM4 x6 x7 x8 b1) [Y, Y] [xBv r1] = dn (xBv false) [iY (dc (x8 < x7)), xDR x8 x6, AbC 59 (xC0 (xGH x6 x8)) (xBv r1), iY (!r1)] := by kernel_rfl
def xU7 (x6 : List Exp) (x7 x8 : Int) (b1 : Exp) (r1 : Bool) : rS 2 I59 (xM4 x6 x7 x8 b1) [Y, F] [xBv r1] = st 2 I59 (xM4 x6 x7 (W (x8 + 1)) b1) [iY (dc (x8 < x7)), xDR x8 x6, AbC 59 (xC0 (xGH x6 x8)) (xBv r1), iN (!r1)] := by kernel_rfl
def xU8 (x6 : List Exp) (x7 x8 : Int) (b1 : Exp) (r1 : Bool) : rS 2 I59 (xM4 x6 x7 x8 b1) [F] [xAD r1] = dn (xBv r1) [iN (dc (x8 < x7)), AbC 98 (xAv b1) (xAD r1)] := by kernel_rfl
def xU9 (a0 : Exp) : rE I59 (xC0 a0) [] [] = st 2 I59 (xM4 (Exp.args a0) (xHb a0) 0 a0) [] := by kernel_rfl
theorem xYn {N q0} (g0 : G59 q0) : ∀ n x6 x7 x8 b1 r, xDx N q0 n x6 x7 x8 b1 = some r → RS Tryz.f59 I59 2 (xM4 x6 x7 x8 b1) (xBv r) := by
 intro n
 induction n with
 | zero => exact fun _ _ _ _ _ h => nE h
 | succ n ih =>
  exact fun x6 x7 x8 b1 r h =>
   cE h (fun h0 h => iE h fun h1 h => bE h fun r1 h2 h => cE h (fun h3 h => dS h fk59 (xU6 x6 x7 x8 b1 r1) (oc4 h0 h1 (g0 _ _ h2) h3 on)) fun h3 h =>
   tS fk59 (xU7 x6 x7 x8 b1 r1) (oc4 h0 h1 (g0 _ _ h2) h3 on) (ih _ _ _ _ _ h)) fun h0 h =>
   bE h fun r1 h1 h => dS h fk59 (xU8 x6 x7 x8 b1 r1) (oc2 h0 (xJW h1) on)
theorem xYo {N q0} (g0 : G59 q0) : ∀ a0 r, xFs N q0 a0 = some r → RE Tryz.f59 I59 (xC0 a0) (xBv r) := fun a0 r h =>
 tE fk59 (xU9 a0) on (xYn g0 _ _ _ _ _ _ h)
theorem xHr {N q0} (g0 : G59 q0) {a0} {r} (h : xFs N q0 a0 = some r) : AbC 59 (xC0 a0) (xBv r) :=
 AbsCalls.of_reach fk59 rfl rfl (Nat.le_of_ble_eq_true rfl) (xYo g0 a0 r h)
theorem xF1 {N : Nat} : ∀ d, G59 (xEg N d)
 | 0 => fun _ _ h => nE h
 | d + 1 => fun _ _ h => xHr (N := N) (xF1 d) h
theorem xJi {N : Nat} {a0 : Exp} {r : Bool} (h : xGZ N a0 = some r) : AbC 59 (xC0 a0) (xBv r) := xF1 N _ r h
noncomputable def I32 : Info := { body := (Tryz.f32.body).getD .skip, nt := 15, results := [.tmp 2], keep := [0, 2, 4, 3], live := [], modes := [(1, [(3, .take, false), (8, .take, false)])] }
theorem fk32 : FnOk Tryz.prog 32 Tryz.f32 I32 := ⟨Tryz.func32, by kernel_rfl, by kernel_rfl, by kernel_rfl, by kernel_rfl⟩
def xTJ (a0 : Exp) (r1 r2 : Int) (r3 : Bool) : rE I32 (xC4 a0) [Y, Y] [xA8 r1, xBt r2, xBv r3] = dn (xBb r3) [AbC 57 (xCp a0) (xA8 r1), iY (dc (r1 ≤ 40)), AbC 58 (xCN a0) (xBt r2), iY (dc (r2 ≤ 8)), AbC 59 (xC0 a0) (xBv r3)] := by kernel_rfl
def xTK (a0 : Exp) (r1 r2 : Int) : rE I32 (xC4 a0) [Y, F] [xA8 r1, xBt r2] = dn (xBb false) [AbC 57 (xCp a0) (xA8 r1), iY (dc (r1 ≤ 40)), AbC 58 (xCN a0) (xBt r2), iN (dc (r2 ≤ 8))] := by kernel_rfl
def xTL (a0 : Exp) (r1 : Int) : rE I32 (xC4 a0) [F, F] [xA8 r1] = dn (xBb false) [AbC 57 (xCp a0) (xA8 r1), iN (dc (r1 ≤ 40)), iN false] := by kernel_rfl
theorem xXQ {N : Nat} : ∀ a0 r, xCG N a0 = some r → RE Tryz.f32 I32 (xC4 a0) (xBb r) := fun a0 r h =>
 bE h fun r1 h0 h => cE h (fun h1 h => bE h fun r2 h2 h => cE h (fun h3 h => bE h fun r3 h4 h => dE h fk32 (xTJ a0 r1 r2 r3) (oc5 (xFK h0) h1 (xGL h2) h3 (xJi h4) on)) fun h3 h =>
 dE h fk32 (xTK a0 r1 r2) (oc4 (xFK h0) h1 (xGL h2) h3 on)) fun h1 h =>
 dE h fk32 (xTL a0 r1) (oc3 (xFK h0) h1 rfl on)
theorem xC5 {N : Nat} {a0 : Exp} {r : Bool} (h : xCG N  a0 = some r) : AbC 32 (xC4 a0) (xBb r) :=
 AbsCalls.of_reach fk32 rfl rfl (Nat.le_of_ble_eq_true rfl) (xXQ a0 r h)
noncomputable def I12 : Info := { body := (Tryz.f12.body).getD .skip, nt := 72, results := [.cell 2 25, .tmp 3], keep := [0, 4, 6, 8, 10, 12, 14, 28, 70, 98, 114, 138, 5, 15, 39], live := [], modes := [(1, [(2, .take, false)]), (6, [(5, .take, false)]), (14, [(0, .take, false)])] }
theorem fk12 : FnOk Tryz.prog 12 Tryz.f12 I12 := ⟨Tryz.func12, by kernel_rfl, by kernel_rfl, by kernel_rfl, by kernel_rfl⟩
abbrev xFL (v0 : Str) (v1 : (List Tok) × Int) : Prop := AbC 30 (xEw v0) (xAH v1)
def xSZ (a0 : Str) (r1 : (List Tok) × Int) : rE I12 (xAW a0) [Y] [xAH r1] = dn (xAo ((Exp.mk 0 0 [] []), r1.2)) [xFL a0 r1, iY (dc (r1.2 ≥ 0))] := by kernel_rfl
abbrev xFZ (v0 : (List Tok) × Int) (v1 : Exp × Psr) : Prop := AbC 31 (xA4 (Psr.mk v0.1 0 (-1))) (xAe v1)
abbrev xHE (v0 : Exp × Psr) : Prop := iY (dc ((Psr.bad v0.2) < 0))
abbrev xHc (v0 : (List Tok) × Int) := (Ln v0.1 : Int)
abbrev xKF (v0 : Exp × Psr) (v1 : (List Tok) × Int) : Prop := iY (dc ((Psr.pos v0.2) < (xHc v1)))
abbrev xMf (v0 : Str) := xAo ((Exp.mk 0 0 [] []), (Ln v0 : Int))
def xS0 (a0 : Str) (r1 : (List Tok) × Int) (r2 : Exp × Psr) : rE I12 (xAW a0) [F, Y, Y, Y] [xAH r1, xAe r2] = dn (xMf a0) [xFL a0 r1, xEb r1, xFZ r1 r2, xHE r2, xKF r2 r1, iY (dc ((Psr.pos r2.2) ≥ (xHc r1)))] := by kernel_rfl
def xS1 (a0 : Str) (r1 : (List Tok) × Int) (r2 : Exp × Psr) : rE I12 (xAW a0) [F, Y, Y, F, Y] [xAH r1, xAe r2] = dn (xAo ((Exp.mk 0 0 [] []), (Tok.pos (gD r1.1 (tN (Psr.pos r2.2)) Ty.tok.dflt)))) [xFL a0 r1, xEb r1, xFZ r1 r2, xHE r2, xKF r2 r1, iN (dc ((Psr.pos r2.2) ≥ (xHc r1))), iY (dc ((Psr.pos r2.2) ≥ 0)), (0 : Int) ≤ (Psr.pos r2.2) ∧ (Psr.pos r2.2) < (Ln r1.1)] := by kernel_rfl
abbrev xIT (v0 : Exp × Psr) (v1 : Bool) : Prop := AbC 32 (xC4 v0.1) (xBb v1)
def xS2 (a0 : Str) (r1 : (List Tok) × Int) (r2 : Exp × Psr) (r3 : Bool) : rE I12 (xAW a0) [F, Y, Y, F, F, Y] [xAH r1, xAe r2, xBb r3] = dn (xAo ((Exp.mk 0 0 [] []), 0)) [xFL a0 r1, xEb r1, xFZ r1 r2, xHE r2, xKF r2 r1, iN (dc ((Psr.pos r2.2) ≥ (xHc r1))), iN (dc ((Psr.pos r2.2) ≥ 0)), xIT r2 r3, iY (!r3)] := by kernel_rfl
def xS3 (a0 : Str) (r1 : (List Tok) × Int) (r2 : Exp × Psr) (r3 : Bool) : rE I12 (xAW a0) [F, Y, Y, F, F, F] [xAH r1, xAe r2, xBb r3] = dn (xAo (r2.1, (-1))) [xFL a0 r1, xEb r1, xFZ r1 r2, xHE r2, xKF r2 r1, iN (dc ((Psr.pos r2.2) ≥ (xHc r1))), iN (dc ((Psr.pos r2.2) ≥ 0)), xIT r2 r3, iN (!r3)] := by kernel_rfl
abbrev xKG (v0 : Exp × Psr) (v1 : (List Tok) × Int) : Prop := iN (dc ((Psr.pos v0.2) < (xHc v1)))
def xS4 (a0 : Str) (r1 : (List Tok) × Int) (r2 : Exp × Psr) : rE I12 (xAW a0) [F, Y, F, Y] [xAH r1, xAe r2] = dn (xMf a0) [xFL a0 r1, xEb r1, xFZ r1 r2, xHE r2, xKG r2 r1, iY (dc ((Psr.bad r2.2) ≥ (xHc r1)))] := by kernel_rfl
abbrev xIU (v0 : Exp × Psr) (v1 : (List Tok) × Int) : Prop := iN (dc ((Psr.bad v0.2) ≥ (xHc v1)))
def xS5 (a0 : Str) (r1 : (List Tok) × Int) (r2 : Exp × Psr) : rE I12 (xAW a0) [F, Y, F, F, Y] [xAH r1, xAe r2] = dn (xAo ((Exp.mk 0 0 [] []), (Tok.pos (gD r1.1 (tN (Psr.bad r2.2)) Ty.tok.dflt)))) [xFL a0 r1, xEb r1, xFZ r1 r2, xHE r2, xKG r2 r1, xIU r2 r1, iY (dc ((Psr.bad r2.2) ≥ 0)), (0 : Int) ≤ (Psr.bad r2.2) ∧ (Psr.bad r2.2) < (Ln r1.1)] := by kernel_rfl
abbrev xKH (v0 : Exp × Psr) : Prop := iN (dc ((Psr.bad v0.2) ≥ 0))
def xS6 (a0 : Str) (r1 : (List Tok) × Int) (r2 : Exp × Psr) (r3 : Bool) : rE I12 (xAW a0) [F, Y, F, F, F, Y] [xAH r1, xAe r2, xBb r3] = dn (xAo ((Exp.mk 0 0 [] []), 0)) [xFL a0 r1, xEb r1, xFZ r1 r2, xHE r2, xKG r2 r1, xIU r2 r1, xKH r2, xIT r2 r3, iY (!r3)] := by kernel_rfl
def xS7 (a0 : Str) (r1 : (List Tok) × Int) (r2 : Exp × Psr) (r3 : Bool) : rE I12 (xAW a0) [F, Y, F, F, F, F] [xAH r1, xAe r2, xBb r3] = dn (xAo (r2.1, (-1))) [xFL a0 r1, xEb r1, xFZ r1 r2, xHE r2, xKG r2 r1, xIU r2 r1, xKH r2, xIT r2 r3, iN (!r3)] := by kernel_rfl
abbrev xKI (v0 : Exp × Psr) : Prop := iN (dc ((Psr.bad v0.2) < 0))
def xS8 (a0 : Str) (r1 : (List Tok) × Int) (r2 : Exp × Psr) : rE I12 (xAW a0) [F, F, F, Y] [xAH r1, xAe r2] = dn (xMf a0) [xFL a0 r1, xEb r1, xFZ r1 r2, xKI r2, iN false, iY (dc ((Psr.bad r2.2) ≥ (xHc r1)))] := by kernel_rfl
def xQP (a0 : Str) (r1 : (List Tok) × Int) (r2 : Exp × Psr) : rE I12 (xAW a0) [F, F, F, F, Y] [xAH r1, xAe r2] = dn (xAo ((Exp.mk 0 0 [] []), (Tok.pos (gD r1.1 (tN (Psr.bad r2.2)) Ty.tok.dflt)))) [xFL a0 r1, xEb r1, xFZ r1 r2, xKI r2, iN false, xIU r2 r1, iY (dc ((Psr.bad r2.2) ≥ 0)), (0 : Int) ≤ (Psr.bad r2.2) ∧ (Psr.bad r2.2) < (Ln r1.1)] := by kernel_rfl
def xQQ (a0 : Str) (r1 : (List Tok) × Int) (r2 : Exp × Psr) (r3 : Bool) : rE I12 (xAW a0) [F, F, F, F, F, Y] [xAH r1, xAe r2, xBb r3] = dn (xAo ((Exp.mk 0 0 [] []), 0)) [xFL a0 r1, xEb r1, xFZ r1 r2, xKI r2, iN false, xIU r2 r1, xKH r2, xIT r2 r3, iY (!r3)] := by kernel_rfl
def xQR (a0 : Str) (r1 : (List Tok) × Int) (r2 : Exp × Psr) (r3 : Bool) : rE I12 (xAW a0) [F, F, F, F, F, F] [xAH r1, xAe r2, xBb r3] = dn (xAo (r2.1, (-1))) [xFL a0 r1, xEb r1, xFZ r1 r2, xKI r2, iN false, xIU r2 r1, xKH r2, xIT r2 r3, iN (!r3)] := by kernel_rfl
theorem xXE {N : Nat} : ∀ a0 r, xDE N a0 = some r → RE Tryz.f12 I12 (xAW a0) (xAo r) := fun a0 r h =>
 bE h fun r1 h0 h => cE h (fun h1 h => dE h fk12 (xSZ a0 r1) (oc2 (xBu h0) h1 on)) fun h1 h =>
 bE h fun r2 h2 h => cE h (fun h3 h => cE h (fun h4 h => cE h (fun h5 h => dE h fk12 (xS0 a0 r1 r2) (oc6 (xBu h0) h1 (xBc h2) h3 h4 h5 on)) fun h5 h =>
 cE h (fun h6 h => iE h fun h7 h => dE h fk12 (xS1 a0 r1 r2) (oc8 (xBu h0) h1 (xBc h2) h3 h4 h5 h6 h7 on)) fun h6 h =>
 bE h fun r3 h7 h => cE h (fun h8 h => dE h fk12 (xS2 a0 r1 r2 r3) (oc9 (xBu h0) h1 (xBc h2) h3 h4 h5 h6 (xC5 h7) h8 on)) fun h8 h =>
 dE h fk12 (xS3 a0 r1 r2 r3) (oc9 (xBu h0) h1 (xBc h2) h3 h4 h5 h6 (xC5 h7) h8 on)) fun h4 h =>
 cE h (fun h5 h => dE h fk12 (xS4 a0 r1 r2) (oc6 (xBu h0) h1 (xBc h2) h3 h4 h5 on)) fun h5 h =>
 cE h (fun h6 h => iE h fun h7 h => dE h fk12 (xS5 a0 r1 r2) (oc8 (xBu h0) h1 (xBc h2) h3 h4 h5 h6 h7 on)) fun h6 h =>
 bE h fun r3 h7 h => cE h (fun h8 h => dE h fk12 (xS6 a0 r1 r2 r3) (oc9 (xBu h0) h1 (xBc h2) h3 h4 h5 h6 (xC5 h7) h8 on)) fun h8 h =>
 dE h fk12 (xS7 a0 r1 r2 r3) (oc9 (xBu h0) h1 (xBc h2) h3 h4 h5 h6 (xC5 h7) h8 on)) fun h3 h =>
 cE h (fun h5 h => dE h fk12 (xS8 a0 r1 r2) (oc6 (xBu h0) h1 (xBc h2) h3 rfl h5 on)) fun h5 h =>
 cE h (fun h6 h => iE h fun h7 h => dE h fk12 (xQP a0 r1 r2) (oc8 (xBu h0) h1 (xBc h2) h3 rfl h5 h6 h7 on)) fun h6 h =>
 bE h fun r3 h7 h => cE h (fun h8 h => dE h fk12 (xQQ a0 r1 r2 r3) (oc9 (xBu h0) h1 (xBc h2) h3 rfl h5 h6 (xC5 h7) h8 on)) fun h8 h =>
 dE h fk12 (xQR a0 r1 r2 r3) (oc9 (xBu h0) h1 (xBc h2) h3 rfl h5 h6 (xC5 h7) h8 on)
theorem xA9 {N : Nat} {a0 : Str} {r : Exp × Int} (h : xDE N  a0 = some r) : AbC 12 (xAW a0) (xAo r) :=
 AbsCalls.of_reach fk12 rfl rfl (Nat.le_of_ble_eq_true rfl) (xXE a0 r h)
def G13 (q : Exp → Exp → Option (Bool)) : Prop := ∀ a0 a1 r, q a0 a1 = some r → AbC 13 (xCi a0 a1) (xAB r)
def G33 (q : (List Exp) → (List Exp) → Option (Bool)) : Prop := ∀ a0 a1 r, q a0 a1 = some r → AbC 33 (xDQ a0 a1) (xCf r)
noncomputable def I13 : Info := { body := (Tryz.f13.body).getD .skip, nt := 26, results := [.tmp 4], keep := [0, 2, 4, 6, 8, 18, 28, 38, 50, 5, 7], live := [], modes := [] }
theorem fk13 : FnOk Tryz.prog 13 Tryz.f13 I13 := ⟨Tryz.func13, by kernel_rfl, by kernel_rfl, by kernel_rfl, by kernel_rfl⟩
def xS9 (a0 a1 : Exp) : rE I13 (xCi a0 a1) [Y] [] = dn (xAB false) [iY ((Exp.kind a0) != (Exp.kind a1))] := by kernel_rfl
abbrev xKJ (v0 v1 : Exp) : Prop := iN ((Exp.kind v0) != (Exp.kind v1))
def xTa (a0 a1 : Exp) : rE I13 (xCi a0 a1) [F, Y] [] = dn (xAB false) [xKJ a0 a1, iY ((Exp.n a0) != (Exp.n a1))] := by kernel_rfl
def xTb (a0 a1 : Exp) : rE I13 (xCi a0 a1) [F, F, Y] [] = dn (xAB false) [xKJ a0 a1, iN ((Exp.n a0) != (Exp.n a1)), iY (!(((Exp.text a0) : Str) == (Exp.text a1)))] := by kernel_rfl
def xTc (a0 a1 : Exp) (r1 : Bool) : rE I13 (xCi a0 a1) [F, F, F, Y] [xCf r1] = dn (xAB false) [xKJ a0 a1, iN ((Exp.n a0) != (Exp.n a1)), iN (!(((Exp.text a0) : Str) == (Exp.text a1))), AbC 33 (xDQ (Exp.args a0) (Exp.args a1)) (xCf r1), iY (!r1)] := by kernel_rfl
def xTd (a0 a1 : Exp) (r1 : Bool) : rE I13 (xCi a0 a1) [F, F, F, F] [xCf r1] = dn (xAB true) [xKJ a0 a1, iN ((Exp.n a0) != (Exp.n a1)), iN (!(((Exp.text a0) : Str) == (Exp.text a1))), AbC 33 (xDQ (Exp.args a0) (Exp.args a1)) (xCf r1), iN (!r1)] := by kernel_rfl
theorem xXF {N q0 q1} (g0 : G13 q0) (g1 : G33 q1) : ∀ a0 a1 r, xEx N q0 q1 a0 a1 = some r → RE Tryz.f13 I13 (xCi a0 a1) (xAB r) := fun a0 a1 r h =>
 cE h (fun h0 h => dE h fk13 (xS9 a0 a1) (oc h0 on)) fun h0 h =>
 cE h (fun h1 h => dE h fk13 (xTa a0 a1) (oc2 h0 h1 on)) fun h1 h =>
 cE h (fun h2 h => dE h fk13 (xTb a0 a1) (oc3 h0 h1 h2 on)) fun h2 h =>
 bE h fun r1 h3 h => cE h (fun h4 h => dE h fk13 (xTc a0 a1 r1) (oc5 h0 h1 h2 (g1 _ _ _ h3) h4 on)) fun h4 h =>
 dE h fk13 (xTd a0 a1 r1) (oc5 h0 h1 h2 (g1 _ _ _ h3) h4 on)
theorem xH6 {N q0 q1} (g0 : G13 q0) (g1 : G33 q1) {a0} {a1} {r} (h : xEx N q0 q1 a0 a1 = some r) : AbC 13 (xCi a0 a1) (xAB r) :=
 AbsCalls.of_reach fk13 rfl rfl (Nat.le_of_ble_eq_true rfl) (xXF g0 g1 a0 a1 r h)
noncomputable def I33 : Info := { body := (Tryz.f33.body).getD .skip, nt := 27, results := [.tmp 4], keep := [0, 2, 8, 10, 20, 28, 52], live := [(4, [0, 2, 10])], modes := [] }
theorem fk33 : FnOk Tryz.prog 33 Tryz.f33 I33 := ⟨Tryz.func33, by kernel_rfl, by kernel_rfl, by kernel_rfl, by kernel_rfl⟩
def xM1 (x0 x1 : List Exp) (x5 : Int) : St := [(0, .v false [.sl .ro .exp x0]), (2, .v false [.sl .ro .exp x1]), (10, .v false [.int .i64 x5])]
abbrev xHF (v0 : Int) (v1 : List Exp) : Prop := iY (dc (v0 < (Ln v1 : Int)))
def xTM (x0 x1 : List Exp) (x5 : Int) (r1 : Bool) : rS 4 I33 (xM1 x0 x1 x5) [Y, Y] [xAB r1] = dn (xCf false) [xHF x5 x0, xDR x5 x0, xDR x5 x1, AbC 13 (xCi (xGH x0 x5) (xGH x1 x5)) (xAB r1), iY (!r1)] := by kernel_rfl
def xTN (x0 x1 : List Exp) (x5 : Int) (r1 : Bool) : rS 4 I33 (xM1 x0 x1 x5) [Y, F] [xAB r1] = st 4 I33 (xM1 x0 x1 (W (x5 + 1))) [xHF x5 x0, xDR x5 x0, xDR x5 x1, AbC 13 (xCi (xGH x0 x5) (xGH x1 x5)) (xAB r1), iN (!r1)] := by kernel_rfl
def xTO (x0 x1 : List Exp) (x5 : Int) : rS 4 I33 (xM1 x0 x1 x5) [F] [] = dn (xCf true) [iN (dc (x5 < (Ln x0 : Int)))] := by kernel_rfl
def xTP (a0 a1 : List Exp) : rE I33 (xDQ a0 a1) [Y] [] = dn (xCf false) [iY ((Ln a0 : Int) != (Ln a1 : Int))] := by kernel_rfl
def xTQ (a0 a1 : List Exp) : rE I33 (xDQ a0 a1) [F] [] = st 4 I33 (xM1 a0 a1 0) [iN ((Ln a0 : Int) != (Ln a1 : Int))] := by kernel_rfl
theorem xXR {N q0 q1} (g0 : G13 q0) (g1 : G33 q1) : ∀ n x0 x1 x5 r, xEh N q0 q1 n x0 x1 x5 = some r → RS Tryz.f33 I33 4 (xM1 x0 x1 x5) (xCf r) := by
 intro n
 induction n with
 | zero => exact fun _ _ _ _ h => nE h
 | succ n ih =>
  exact fun x0 x1 x5 r h =>
   cE h (fun h0 h => iE h fun h1 h => iE h fun h2 h => bE h fun r1 h3 h => cE h (fun h4 h => dS h fk33 (xTM x0 x1 x5 r1) (oc5 h0 h1 h2 (g0 _ _ _ h3) h4 on)) fun h4 h =>
   tS fk33 (xTN x0 x1 x5 r1) (oc5 h0 h1 h2 (g0 _ _ _ h3) h4 on) (ih _ _ _ _ h)) fun h0 h =>
   dS h fk33 (xTO x0 x1 x5) (oc h0 on)
theorem xXS {N q0 q1} (g0 : G13 q0) (g1 : G33 q1) : ∀ a0 a1 r, xEi N q0 q1 a0 a1 = some r → RE Tryz.f33 I33 (xDQ a0 a1) (xCf r) := fun a0 a1 r h =>
 cE h (fun h0 h => dE h fk33 (xTP a0 a1) (oc h0 on)) fun h0 h =>
 tE fk33 (xTQ a0 a1) (oc h0 on) (xXR g0 g1 _ _ _ _ _ h)
theorem xHR {N q0 q1} (g0 : G13 q0) (g1 : G33 q1) {a0} {a1} {r} (h : xEi N q0 q1 a0 a1 = some r) : AbC 33 (xDQ a0 a1) (xCf r) :=
 AbsCalls.of_reach fk33 rfl rfl (Nat.le_of_ble_eq_true rfl) (xXS g0 g1 a0 a1 r h)
theorem xIs {N : Nat} : ∀ d, G13 (xBM N d).c_laws_eqExpr ∧ G33 (xBM N d).c_laws_eqExprS := by
 intro d
 induction d with
 | zero => exact ⟨fun _ _ _ h => nE h, fun _ _ _ h => nE h⟩
 | succ d ih =>
  obtain ⟨ih0, ih1⟩ := ih
  exact ⟨fun _ _ _ h => xH6 (N := N) ih0 ih1 h, fun _ _ _ h => xHR (N := N) ih0 ih1 h⟩
theorem xBQ {N : Nat} {a0 : Exp} {a1 : Exp} {r : Bool} (h : xG4 N a0 a1 = some r) : AbC 13 (xCi a0 a1) (xAB r) := (xIs N).1 _ _ r h
noncomputable def I60 : Info := { body := (Tryz.f60.body).getD .skip, nt := 20, results := [.tmp 2], keep := [0, 4, 6, 10, 14], live := [(4, [0, 6])], modes := [] }
theorem fk60 : FnOk Tryz.prog 60 Tryz.f60 I60 := ⟨Tryz.func60, by kernel_rfl, by kernel_rfl, by kernel_rfl, by kernel_rfl⟩
def xNs (x0 : Int) (x3 : Str) : St := [(0, .v false [.int .i64 x0]), (6, .v false [.str x3])]
def xVa (x0 : Int) (x3 : Str) : rS 4 I60 (xNs x0 x3) [Y] [] = st 4 I60 (xNs (W (Int.tdiv x0 10)) ((xLQ x0) ++ x3)) [iY (dc (x0 > 0)), 10 ≠ (0 : Int), xXk x0 x3, 10 ≠ (0 : Int)] := by kernel_rfl
def xVb (x0 : Int) (x3 : Str) : rS 4 I60 (xNs x0 x3) [F] [] = dn (xCk ([109] ++ x3)) [iN (dc (x0 > 0)), Ln [109] + Ln x3 ≤ Lim] := by kernel_rfl
def xVc (a0 : Int) : rE I60 (xEz a0) [Y] [] = dn (xCk [109, 48]) [iY (dc (a0 ≤ 0))] := by kernel_rfl
def xVd (a0 : Int) : rE I60 (xEz a0) [F] [] = st 4 I60 (xNs a0 []) [iN (dc (a0 ≤ 0))] := by kernel_rfl
theorem xYp {N : Nat} : ∀ n x0 x3 r, xDZ N n x0 x3 = some r → RS Tryz.f60 I60 4 (xNs x0 x3) (xCk r) := by
 intro n
 induction n with
 | zero => exact fun _ _ _ h => nE h
 | succ n ih =>
  exact fun x0 x3 r h =>
   cE h (fun h0 h => iE h fun h2 h => tS fk60 (xVa x0 x3) (oc4 h0 (by decide) h2 (by decide) on) (ih _ _ _ h)) fun h0 h =>
   iE h fun h1 h => dS h fk60 (xVb x0 x3) (oc2 h0 h1 on)
theorem xYq {N : Nat} : ∀ a0 r, xEU N a0 = some r → RE Tryz.f60 I60 (xEz a0) (xCk r) := fun a0 r h =>
 cE h (fun h0 h => dE h fk60 (xVc a0) (oc h0 on)) fun h0 h =>
 tE fk60 (xVd a0) (oc h0 on) (xYp _ _ _ _ h)
theorem xFa {N : Nat} {a0 : Int} {r : Str} (h : xEU N  a0 = some r) : AbC 60 (xEz a0) (xCk r) :=
 AbsCalls.of_reach fk60 rfl rfl (Nat.le_of_ble_eq_true rfl) (xYq a0 r h)
def G34 (q : (List Exp) → Int → Option (Int × (List Exp))) : Prop := ∀ a0 a1 r, q a0 a1 = some r → AbC 34 (xDb a0 a1) (xBZ r)
noncomputable def I34 : Info := { body := (Tryz.f34.body).getD .skip, nt := 42, results := [.tmp 4], keep := [0, 2, 8, 10, 18], live := [(2, [0, 2, 10])], modes := [(4, [(0, .ref, false)]), (6, [(0, .ref, false)]), (8, [(0, .ref, false)]), (10, [(0, .ref, false), (4, .ref, false), (6, .ref, false)])], lnt := [(0, 0)] }
theorem fk34 : FnOk Tryz.prog 34 Tryz.f34 I34 := ⟨Tryz.func34, by kernel_rfl, by kernel_rfl, by kernel_rfl, by kernel_rfl⟩
def xNo (x0 : List Exp) (x1 x5 : Int) : St := [(0, .v false [.sl (.lnt 0) .exp x0]), (2, .v false [.int .i64 x1]), (10, .v false [.int .i64 x5])]
abbrev xKK (v0 : Int) (v1 : Str) : Prop := AbC 60 (xEz (W ((W (v0 + 1)) + 1))) (xCk v1)
abbrev xN3 (v0 : Int) (v1 : Str) (v2 : Int) (v3 : List Exp) := Exp.args (gD ((fun (z9 : List Exp) => List.set z9 (tN v0) (Exp.mk (Exp.kind (gD z9 (tN v0) Ty.exp.dflt)) (Exp.n (gD z9 (tN v0) Ty.exp.dflt)) v1 (Exp.args (gD z9 (tN v0) Ty.exp.dflt)))) ((fun (z8 : List Exp) => List.set z8 (tN v0) (Exp.mk (Exp.kind (gD z8 (tN v0) Ty.exp.dflt)) (W (v2 + 1)) (Exp.text (gD z8 (tN v0) Ty.exp.dflt)) (Exp.args (gD z8 (tN v0) Ty.exp.dflt)))) (List.set v3 (tN v0) (Exp.mk v2 (Exp.n (gD v3 (tN v0) Ty.exp.dflt)) (Exp.text (gD v3 (tN v0) Ty.exp.dflt)) (Exp.args (gD v3 (tN v0) Ty.exp.dflt)))))) (tN v0) Ty.exp.dflt)
abbrev xN2 (v0 : Int) (v1 : Str) (v2 : Int) (v3 : List Exp) := (fun (z9 : List Exp) => List.set z9 (tN v0) (Exp.mk (Exp.kind (gD z9 (tN v0) Ty.exp.dflt)) (Exp.n (gD z9 (tN v0) Ty.exp.dflt)) v1 (Exp.args (gD z9 (tN v0) Ty.exp.dflt)))) ((fun (z8 : List Exp) => List.set z8 (tN v0) (Exp.mk (Exp.kind (gD z8 (tN v0) Ty.exp.dflt)) (W (v2 + 1)) (Exp.text (gD z8 (tN v0) Ty.exp.dflt)) (Exp.args (gD z8 (tN v0) Ty.exp.dflt)))) (List.set v3 (tN v0) (Exp.mk v2 (Exp.n (gD v3 (tN v0) Ty.exp.dflt)) (Exp.text (gD v3 (tN v0) Ty.exp.dflt)) (Exp.args (gD v3 (tN v0) Ty.exp.dflt)))))
abbrev xSK (v0 v1 : Int) (v2 : List Exp) := (fun (z8 : List Exp) => List.set z8 (tN v0) (Exp.mk (Exp.kind (gD z8 (tN v0) Ty.exp.dflt)) (W (v1 + 1)) (Exp.text (gD z8 (tN v0) Ty.exp.dflt)) (Exp.args (gD z8 (tN v0) Ty.exp.dflt)))) (List.set v2 (tN v0) (Exp.mk v1 (Exp.n (gD v2 (tN v0) Ty.exp.dflt)) (Exp.text (gD v2 (tN v0) Ty.exp.dflt)) (Exp.args (gD v2 (tN v0) Ty.exp.dflt))))
abbrev xSJ (v0 : List Exp) (v1 v2 : Int) := List.set v0 (tN v1) (Exp.mk v2 (Exp.n (gD v0 (tN v1) Ty.exp.dflt)) (Exp.text (gD v0 (tN v1) Ty.exp.dflt)) (Exp.args (gD v0 (tN v1) Ty.exp.dflt)))
def xTR (x0 : List Exp) (x1 x5 : Int) (r1 : Str) (r2 : Int × (List Exp)) : rS 2 I34 (xNo x0 x1 x5) [Y] [xCk r1, xBZ r2] = st 2 I34 (xNo ((fun (z10 : List Exp) => List.set z10 (tN x5) (Exp.mk (Exp.kind (gD z10 (tN x5) Ty.exp.dflt)) (Exp.n (gD z10 (tN x5) Ty.exp.dflt)) (Exp.text (gD z10 (tN x5) Ty.exp.dflt)) r2.2)) (xN2 x5 r1 x1 x0)) r2.1 (W (x5 + 1))) [xHF x5 x0, xDR x5 x0, (0 : Int) ≤ x5 ∧ x5 < (Ln (xSJ x0 x5 x1)), xKK x1 r1, (0 : Int) ≤ x5 ∧ x5 < (Ln (xSK x5 x1 x0)), (0 : Int) ≤ x5 ∧ x5 < (Ln (xN2 x5 r1 x1 x0)), AbC 34 (xDb (xN3 x5 r1 x1 x0) (W ((W ((W (x1 + 1)) + 1)) + 1))) (xBZ r2), (tN x5) = (tN x5), Ln r2.2 = Ln (xN3 x5 r1 x1 x0)] := by kernel_rfl
def xTS (x0 : List Exp) (x1 x5 : Int) : rS 2 I34 (xNo x0 x1 x5) [F] [] = dn (xBZ (x1, x0)) [iN (dc (x5 < (Ln x0 : Int)))] := by kernel_rfl
def xTT (a0 : List Exp) (a1 : Int) : rE I34 (xDb a0 a1) [] [] = st 2 I34 (xNo a0 a1 0) [] := by kernel_rfl
theorem xXT {N q0} (g0 : G34 q0) : ∀ n x0 x1 x5 r, xDK N q0 n x0 x1 x5 = some r → RS Tryz.f34 I34 2 (xNo x0 x1 x5) (xBZ r) := by
 intro n
 induction n with
 | zero => exact fun _ _ _ _ h => nE h
 | succ n ih =>
  exact fun x0 x1 x5 r h =>
   cE h (fun h0 h => iE h fun h1 h => iE h fun h2 h => bE h fun r1 h3 h => iE h fun h4 h => iE h fun h5 h => bE h fun r2 h6 h => iE h fun h8 h => tS fk34 (xTR x0 x1 x5 r1 r2) (oc9 h0 h1 h2 (xFa h3) h4 h5 (g0 _ _ _ h6) rfl h8 on) (ih _ _ _ _ h)) fun h0 h =>
   dS h fk34 (xTS x0 x1 x5) (oc h0 on)
theorem xXU {N q0} (g0 : G34 q0) : ∀ a0 a1 r, xFj N q0 a0 a1 = some r → RE Tryz.f34 I34 (xDb a0 a1) (xBZ r) := fun a0 a1 r h =>
 tE fk34 (xTT a0 a1) on (xXT g0 _ _ _ _ _ h)
theorem xHo {N q0} (g0 : G34 q0) {a0} {a1} {r} (h : xFj N q0 a0 a1 = some r) : AbC 34 (xDb a0 a1) (xBZ r) :=
 AbsCalls.of_reach fk34 rfl rfl (Nat.le_of_ble_eq_true rfl) (xXU g0 a0 a1 r h)
theorem xFU {N : Nat} : ∀ d, G34 (xD7 N d)
 | 0 => fun _ _ _ h => nE h
 | d + 1 => fun _ _ _ h => xHo (N := N) (xFU d) h
theorem xID {N : Nat} {a0 : List Exp} {a1 : Int} {r : Int × (List Exp)} (h : xGE N a0 a1 = some r) : AbC 34 (xDb a0 a1) (xBZ r) := xFU N _ _ r h
noncomputable def I14 : Info := { body := (Tryz.f14.body).getD .skip, nt := 10, results := [.tmp 4], keep := [0, 2, 4, 8, 5], live := [], modes := [(1, [(1, .ref, false), (3, .ref, false)])], lnt := [(5, 3)] }
theorem fk14 : FnOk Tryz.prog 14 Tryz.f14 I14 := ⟨Tryz.func14, by kernel_rfl, by kernel_rfl, by kernel_rfl, by kernel_rfl⟩
def xTe (a0 : Exp) (a1 : Int) (r1 : Int × (List Exp)) : rE I14 (xE9 a0 a1) [] [xBZ r1] = dn (xBV (r1.1, r1.2)) [AbC 34 (xDb (Exp.args a0) a1) (xBZ r1), Ln r1.2 = Ln (Exp.args a0)] := by kernel_rfl
theorem xXG {N : Nat} : ∀ a0 a1 r, xFu N a0 a1 = some r → RE Tryz.f14 I14 (xE9 a0 a1) (xBV r) := fun a0 a1 r h =>
 bE h fun r1 h0 h => iE h fun h1 h => dE h fk14 (xTe a0 a1 r1) (oc2 (xID h0) h1 on)
theorem xDy {N : Nat} {a0 : Exp} {a1 : Int} {r : Int × (List Exp)} (h : xFu N  a0 a1 = some r) : AbC 14 (xE9 a0 a1) (xBV r) :=
 AbsCalls.of_reach fk14 rfl rfl (Nat.le_of_ble_eq_true rfl) (xXG a0 a1 r h)
def G35 (q : (List Exp) → Int → Option (Int)) : Prop := ∀ a0 a1 r, q a0 a1 = some r → AbC 35 (xCq a0 a1) (xAO r)
noncomputable def I35 : Info := { body := (Tryz.f35.body).getD .skip, nt := 50, results := [.tmp 4], keep := [0, 2, 8, 10, 18, 36, 54, 74, 96], live := [(2, [0, 2, 10])], modes := [] }
theorem fk35 : FnOk Tryz.prog 35 Tryz.f35 I35 := ⟨Tryz.func35, by kernel_rfl, by kernel_rfl, by kernel_rfl, by kernel_rfl⟩
def xKp (x0 : List Exp) (x1 x5 : Int) : St := [(0, .v false [.sl .ro .exp x0]), (2, .v false [.int .i64 x1]), (10, .v false [.int .i64 x5])]
def xTU (x0 : List Exp) (x1 x5 : Int) : rS 2 I35 (xKp x0 x1 x5) [Y, Y] [] = dn (xAO (-1)) [xHF x5 x0, xDR x5 x0, iY (((Exp.kind (xGH x0 x5)) : Int) != x1)] := by kernel_rfl
abbrev xKL (v0 : List Exp) (v1 v2 : Int) : Prop := iN (((Exp.kind (xGH v0 v1)) : Int) != v2)
abbrev xNZ (v0 : List Exp) (v1 : Int) := Exp.n (gD v0 (tN v1) Ty.exp.dflt)
def xTV (x0 : List Exp) (x1 x5 : Int) : rS 2 I35 (xKp x0 x1 x5) [Y, F, Y] [] = dn (xAO (-1)) [xHF x5 x0, xDR x5 x0, xKL x0 x5 x1, xDR x5 x0, iY (((xNZ x0 x5) : Int) != (W (x1 + 1)))] := by kernel_rfl
abbrev xLP (v0 : List Exp) (v1 v2 : Int) : Prop := iN (((xNZ v0 v1) : Int) != (W (v2 + 1)))
abbrev xMg (v0 : List Exp) (v1 : Int) := Exp.text (gD v0 (tN v1) Ty.exp.dflt)
def xTW (x0 : List Exp) (x1 x5 : Int) (r1 : Str) : rS 2 I35 (xKp x0 x1 x5) [Y, F, F, Y] [xCk r1] = dn (xAO (-1)) [xHF x5 x0, xDR x5 x0, xKL x0 x5 x1, xDR x5 x0, xLP x0 x5 x1, xDR x5 x0, xKK x1 r1, iY (!(((xMg x0 x5) : Str) == r1))] := by kernel_rfl
abbrev xN0 (v0 : List Exp) (v1 : Int) := Exp.args (gD v0 (tN v1) Ty.exp.dflt)
def xTX (x0 : List Exp) (x1 x5 : Int) (r1 : Str) (r2 : Int) : rS 2 I35 (xKp x0 x1 x5) [Y, F, F, F, Y] [xCk r1, xAO r2] = dn (xAO (-1)) [xHF x5 x0, xDR x5 x0, xKL x0 x5 x1, xDR x5 x0, xLP x0 x5 x1, xDR x5 x0, xKK x1 r1, iN (!(((xMg x0 x5) : Str) == r1)), xDR x5 x0, AbC 35 (xCq (xN0 x0 x5) (W ((W ((W (x1 + 1)) + 1)) + 1))) (xAO r2), xHy r2] := by kernel_rfl
def xTY (x0 : List Exp) (x1 x5 : Int) (r1 : Str) (r2 : Int) : rS 2 I35 (xKp x0 x1 x5) [Y, F, F, F, F] [xCk r1, xAO r2] = st 2 I35 (xKp x0 r2 (W (x5 + 1))) [xHF x5 x0, xDR x5 x0, xKL x0 x5 x1, xDR x5 x0, xLP x0 x5 x1, xDR x5 x0, xKK x1 r1, iN (!(((xMg x0 x5) : Str) == r1)), xDR x5 x0, AbC 35 (xCq (xN0 x0 x5) (W ((W ((W (x1 + 1)) + 1)) + 1))) (xAO r2), xFx r2] := by kernel_rfl
def xTZ (x0 : List Exp) (x1 x5 : Int) : rS 2 I35 (xKp x0 x1 x5) [F] [] = dn (xAO x1) [iN (dc (x5 < (Ln x0 : Int)))] := by kernel_rfl
def xT0 (a0 : List Exp) (a1 : Int) : rE I35 (xCq a0 a1) [] [] = st 2 I35 (xKp a0 a1 0) [] := by kernel_rfl
theorem xXV {N q0} (g0 : G35 q0) : ∀ n x0 x1 x5 r, xDJ N q0 n x0 x1 x5 = some r → RS Tryz.f35 I35 2 (xKp x0 x1 x5) (xAO r) := by
 intro n
 induction n with
 | zero => exact fun _ _ _ _ h => nE h
 | succ n ih =>
  exact fun x0 x1 x5 r h =>
   cE h (fun h0 h => iE h fun h1 h => cE h (fun h2 h => dS h fk35 (xTU x0 x1 x5) (oc3 h0 h1 h2 on)) fun h2 h =>
   cE h (fun h4 h => dS h fk35 (xTV x0 x1 x5) (oc5 h0 h1 h2 h1 h4 on)) fun h4 h =>
   bE h fun r1 h6 h => cE h (fun h7 h => dS h fk35 (xTW x0 x1 x5 r1) (oc8 h0 h1 h2 h1 h4 h1 (xFa h6) h7 on)) fun h7 h =>
   bE h fun r2 h9 h => cE h (fun h10 h => dS h fk35 (xTX x0 x1 x5 r1 r2) (oc11 h0 h1 h2 h1 h4 h1 (xFa h6) h7 h1 (g0 _ _ _ h9) h10 on)) fun h10 h =>
   tS fk35 (xTY x0 x1 x5 r1 r2) (oc11 h0 h1 h2 h1 h4 h1 (xFa h6) h7 h1 (g0 _ _ _ h9) h10 on) (ih _ _ _ _ h)) fun h0 h =>
   dS h fk35 (xTZ x0 x1 x5) (oc h0 on)
theorem xXW {N q0} (g0 : G35 q0) : ∀ a0 a1 r, xFi N q0 a0 a1 = some r → RE Tryz.f35 I35 (xCq a0 a1) (xAO r) := fun a0 a1 r h =>
 tE fk35 (xT0 a0 a1) on (xXV g0 _ _ _ _ _ h)
theorem xHn {N q0} (g0 : G35 q0) {a0} {a1} {r} (h : xFi N q0 a0 a1 = some r) : AbC 35 (xCq a0 a1) (xAO r) :=
 AbsCalls.of_reach fk35 rfl rfl (Nat.le_of_ble_eq_true rfl) (xXW g0 a0 a1 r h)
theorem xFT {N : Nat} : ∀ d, G35 (xD6 N d)
 | 0 => fun _ _ _ h => nE h
 | d + 1 => fun _ _ _ h => xHn (N := N) (xFT d) h
theorem xGP {N : Nat} {a0 : List Exp} {a1 : Int} {r : Int} (h : xGD N a0 a1 = some r) : AbC 35 (xCq a0 a1) (xAO r) := xFT N _ _ r h
noncomputable def I15 : Info := { body := (Tryz.f15.body).getD .skip, nt := 12, results := [.tmp 4], keep := [0, 2, 4, 8, 20, 5], live := [], modes := [] }
theorem fk15 : FnOk Tryz.prog 15 Tryz.f15 I15 := ⟨Tryz.func15, by kernel_rfl, by kernel_rfl, by kernel_rfl, by kernel_rfl⟩
def xTf (a0 : Exp) (a1 r1 : Int) : rE I15 (xEy a0 a1) [Y] [xAO r1] = dn (xBd (-1)) [AbC 35 (xCq (Exp.args a0) a1) (xAO r1), xHy r1] := by kernel_rfl
def xTg (a0 : Exp) (a1 r1 : Int) : rE I15 (xEy a0 a1) [F] [xAO r1] = dn (xBd r1) [AbC 35 (xCq (Exp.args a0) a1) (xAO r1), xFx r1] := by kernel_rfl
theorem xXH {N : Nat} : ∀ a0 a1 r, xET N a0 a1 = some r → RE Tryz.f15 I15 (xEy a0 a1) (xBd r) := fun a0 a1 r h =>
 bE h fun r1 h0 h => cE h (fun h1 h => dE h fk15 (xTf a0 a1 r1) (oc2 (xGP h0) h1 on)) fun h1 h =>
 dE h fk15 (xTg a0 a1 r1) (oc2 (xGP h0) h1 on)
theorem xCj {N : Nat} {a0 : Exp} {a1 : Int} {r : Int} (h : xET N  a0 a1 = some r) : AbC 15 (xEy a0 a1) (xBd r) :=
 AbsCalls.of_reach fk15 rfl rfl (Nat.le_of_ble_eq_true rfl) (xXH a0 a1 r h)
end Go.Ab.T
end
section
open Go.Proofs
namespace Go.Ab.T
set_option maxRecDepth 100000
variable [Inhabited Lb]
variable [Nonempty Tab10]
variable [Nonempty ErrVars]
noncomputable def I4 : Info := { body := (Tryz.f4.body).getD .skip, nt := 66, results := [.tmp 2], keep := [0, 4, 6, 8, 10, 12, 14, 16, 18, 20, 26, 64, 80, 86, 114, 124, 130, 7, 11, 19], live := [], modes := [(3, [(2, .take, false)]), (4, [(2, .take, false)]), (5, [(4, .take, false), (5, .take, false)]), (8, [(0, .ref, false), (2, .ref, false)]), (15, [(2, .take, false)]), (16, [(4, .take, false), (5, .take, false)])] }
theorem fk4 : FnOk Tryz.prog 4 Tryz.f4 I4 := ⟨Tryz.func4, by kernel_rfl, by kernel_rfl, by kernel_rfl, by kernel_rfl⟩
def xXm (a0 : Str) : rE I4 (xAJ a0) [Y] [] = dn (xAK true) [iY (dc ((Ln a0 : Int) > 1048576))] := by kernel_rfl
abbrev xG9 (v0 : Str) : Prop := iN (dc ((Ln v0 : Int) > 1048576))
abbrev xHa (v0 : Str) (v1 : Exp × Int) : Prop := AbC 11 (xBk v0) (xAF v1)
abbrev xFy (v0 : Str) (v1 : Exp × Int) : Prop := AbC 12 (xAW v0) (xAo v1)
abbrev xFz (v0 v1 : Exp × Int) (v2 : Bool) : Prop := AbC 13 (xCi v0.1 v1.1) (xAB v2)
def xXn (a0 : Str) (r1 : Exp × Int) (r2 : Exp × Int) (r3 : Bool) : rE I4 (xAJ a0) [F, Y, Y] [xAF r1, xAo r2, xAB r3] = dn (xAK false) [xG9 a0, xHa a0 r1, xFy a0 r2, xFz r2 r1 r3, iY (!r3), iY true] := by kernel_rfl
def xXo (a0 : Str) (r1 : Exp × Int) (r2 : Exp × Int) (r3 : Bool) : rE I4 (xAJ a0) [F, F, Y] [xAF r1, xAo r2, xAB r3] = dn (xAK false) [xG9 a0, xHa a0 r1, xFy a0 r2, xFz r2 r1 r3, iN (!r3), iY (r2.2 != r1.2)] := by kernel_rfl
abbrev xIb (v0 : Exp × Int) (v1 : Int × (List Exp)) : Prop := AbC 14 (xE9 v0.1 1) (xBV v1)
abbrev xIc (v0 : Int × (List Exp)) (v1 : Exp × Int) : Prop := Ln v0.2 = Ln (Exp.args v1.1)
abbrev xGG (v0 : Exp × Int) (v1 : Int × (List Exp)) (v2 : Int) : Prop := AbC 15 (xEy (Exp.mk (Exp.kind v0.1) (Exp.n v0.1) (Exp.text v0.1) v1.2) 1) (xBd v2)
def xXp (a0 : Str) (r1 : Exp × Int) (r2 : Exp × Int) (r3 : Bool) (r4 : Int × (List Exp)) (r5 : Int) : rE I4 (xAJ a0) [F, F, F, Y] [xAF r1, xAo r2, xAB r3, xBV r4, xBd r5] = dn (xAK false) [xG9 a0, xHa a0 r1, xFy a0 r2, xFz r2 r1 r3, iN (!r3), iN (r2.2 != r1.2), xIb r2 r4, xIc r4 r2, xGG r2 r4 r5, xHy r5] := by kernel_rfl
def xXq (a0 : Str) (r1 : Exp × Int) (r2 : Exp × Int) (r3 : Bool) (r4 : Int × (List Exp)) (r5 : Int) : rE I4 (xAJ a0) [F, F, F, F, Y] [xAF r1, xAo r2, xAB r3, xBV r4, xBd r5] = dn (xAK false) [xG9 a0, xHa a0 r1, xFy a0 r2, xFz r2 r1 r3, iN (!r3), iN (r2.2 != r1.2), xIb r2 r4, xIc r4 r2, xGG r2 r4 r5, xFx r5, iY (r5 != r4.1)] := by kernel_rfl
def xXr (a0 : Str) (r1 : Exp × Int) (r2 : Exp × Int) (r3 : Bool) (r4 : Int × (List Exp)) (r5 : Int) (r6 : Exp × Int) (r7 : Bool) : rE I4 (xAJ a0) [F, F, F, F, F, Y, Y] [xAF r1, xAo r2, xAB r3, xBV r4, xBd r5, xAo r6, xAB r7] = dn (xAK false) [xG9 a0, xHa a0 r1, xFy a0 r2, xFz r2 r1 r3, iN (!r3), iN (r2.2 != r1.2), xIb r2 r4, xIc r4 r2, xGG r2 r4 r5, xFx r5, iN (r5 != r4.1), xFy a0 r6, xFz r6 r1 r7, iY (!r7), iY true] := by kernel_rfl
def xXs (a0 : Str) (r1 : Exp × Int) (r2 : Exp × Int) (r3 : Bool) (r4 : Int × (List Exp)) (r5 : Int) (r6 : Exp × Int) (r7 : Bool) : rE I4 (xAJ a0) [F, F, F, F, F, F, Y] [xAF r1, xAo r2, xAB r3, xBV r4, xBd r5, xAo r6, xAB r7] = dn (xAK false) [xG9 a0, xHa a0 r1, xFy a0 r2, xFz r2 r1 r3, iN (!r3), iN (r2.2 != r1.2), xIb r2 r4, xIc r4 r2, xGG r2 r4 r5, xFx r5, iN (r5 != r4.1), xFy a0 r6, xFz r6 r1 r7, iN (!r7), iY (r6.2 != r1.2)] := by kernel_rfl
def xXt (a0 : Str) (r1 : Exp × Int) (r2 : Exp × Int) (r3 : Bool) (r4 : Int × (List Exp)) (r5 : Int) (r6 : Exp × Int) (r7 : Bool) (r8 : Int) : rE I4 (xAJ a0) [F, F, F, F, F, F, F, Y] [xAF r1, xAo r2, xAB r3, xBV r4, xBd r5, xAo r6, xAB r7, xBd r8] = dn (xAK false) [xG9 a0, xHa a0 r1, xFy a0 r2, xFz r2 r1 r3, iN (!r3), iN (r2.2 != r1.2), xIb r2 r4, xIc r4 r2, xGG r2 r4 r5, xFx r5, iN (r5 != r4.1), xFy a0 r6, xFz r6 r1 r7, iN (!r7), iN (r6.2 != r1.2), xGG r2 r4 r8, xHy r8] := by kernel_rfl
def xXu (a0 : Str) (r1 : Exp × Int) (r2 : Exp × Int) (r3 : Bool) (r4 : Int × (List Exp)) (r5 : Int) (r6 : Exp × Int) (r7 : Bool) (r8 : Int) : rE I4 (xAJ a0) [F, F, F, F, F, F, F, F, Y] [xAF r1, xAo r2, xAB r3, xBV r4, xBd r5, xAo r6, xAB r7, xBd r8] = dn (xAK false) [xG9 a0, xHa a0 r1, xFy a0 r2, xFz r2 r1 r3, iN (!r3), iN (r2.2 != r1.2), xIb r2 r4, xIc r4 r2, xGG r2 r4 r5, xFx r5, iN (r5 != r4.1), xFy a0 r6, xFz r6 r1 r7, iN (!r7), iN (r6.2 != r1.2), xGG r2 r4 r8, xFx r8, iY (r8 != r4.1)] := by kernel_rfl
def xXv (a0 : Str) (r1 : Exp × Int) (r2 : Exp × Int) (r3 : Bool) (r4 : Int × (List Exp)) (r5 : Int) (r6 : Exp × Int) (r7 : Bool) (r8 : Int) : rE I4 (xAJ a0) [F, F, F, F, F, F, F, F, F] [xAF r1, xAo r2, xAB r3, xBV r4, xBd r5, xAo r6, xAB r7, xBd r8] = dn (xAK true) [xG9 a0, xHa a0 r1, xFy a0 r2, xFz r2 r1 r3, iN (!r3), iN (r2.2 != r1.2), xIb r2 r4, xIc r4 r2, xGG r2 r4 r5, xFx r5, iN (r5 != r4.1), xFy a0 r6, xFz r6 r1 r7, iN (!r7), iN (r6.2 != r1.2), xGG r2 r4 r8, xFx r8, iN (r8 != r4.1)] := by kernel_rfl
theorem c4_e {N : Nat} : ∀ a0 r, xD5 N a0 = some r → RE Tryz.f4 I4 (xAJ a0) (xAK r) := fun a0 r h =>
 cE h (fun h0 h => dE h fk4 (xXm a0) (oc h0 on)) fun h0 h =>
 bE h fun r1 h1 h => bE h fun r2 h2 h => bE h fun r3 h3 h => cE h (fun h4 h => dE h fk4 (xXn a0 r1 r2 r3) (oc6 h0 (xCr h1) (xA9 h2) (xBQ h3) h4 rfl on)) fun h4 h =>
 cE h (fun h5 h => dE h fk4 (xXo a0 r1 r2 r3) (oc6 h0 (xCr h1) (xA9 h2) (xBQ h3) h4 h5 on)) fun h5 h =>
 bE h fun r4 h6 h => iE h fun h7 h => bE h fun r5 h8 h => cE h (fun h9 h => dE h fk4 (xXp a0 r1 r2 r3 r4 r5) (oc10 h0 (xCr h1) (xA9 h2) (xBQ h3) h4 h5 (xDy h6) h7 (xCj h8) h9 on)) fun h9 h =>
 cE h (fun h10 h => dE h fk4 (xXq a0 r1 r2 r3 r4 r5) (oc11 h0 (xCr h1) (xA9 h2) (xBQ h3) h4 h5 (xDy h6) h7 (xCj h8) h9 h10 on)) fun h10 h =>
 bE h fun r6 h11 h => bE h fun r7 h12 h => cE h (fun h13 h => dE h fk4 (xXr a0 r1 r2 r3 r4 r5 r6 r7) (oc12 h0 (xCr h1) (xA9 h2) (xBQ h3) h4 h5 (xDy h6) h7 (xCj h8) h9 h10 (xA9 h11) (oc3 (xBQ h12) h13 rfl on))) fun h13 h =>
 cE h (fun h14 h => dE h fk4 (xXs a0 r1 r2 r3 r4 r5 r6 r7) (oc12 h0 (xCr h1) (xA9 h2) (xBQ h3) h4 h5 (xDy h6) h7 (xCj h8) h9 h10 (xA9 h11) (oc3 (xBQ h12) h13 h14 on))) fun h14 h =>
 bE h fun r8 h15 h => cE h (fun h16 h => dE h fk4 (xXt a0 r1 r2 r3 r4 r5 r6 r7 r8) (oc12 h0 (xCr h1) (xA9 h2) (xBQ h3) h4 h5 (xDy h6) h7 (xCj h8) h9 h10 (xA9 h11) (oc5 (xBQ h12) h13 h14 (xCj h15) h16 on))) fun h16 h =>
 cE h (fun h17 h => dE h fk4 (xXu a0 r1 r2 r3 r4 r5 r6 r7 r8) (oc12 h0 (xCr h1) (xA9 h2) (xBQ h3) h4 h5 (xDy h6) h7 (xCj h8) h9 h10 (xA9 h11) (oc6 (xBQ h12) h13 h14 (xCj h15) h16 h17 on))) fun h17 h =>
 dE h fk4 (xXv a0 r1 r2 r3 r4 r5 r6 r7 r8) (oc12 h0 (xCr h1) (xA9 h2) (xBQ h3) h4 h5 (xDy h6) h7 (xCj h8) h9 h10 (xA9 h11) (oc6 (xBQ h12) h13 h14 (xCj h15) h16 h17 on))
theorem laws_FnExactParseExpr_ok {N : Nat} {a0 : Str} {r : Bool} (h : xD5 N  a0 = some r) : AbC 4 (xAJ a0) (xAK r) :=
 AbsCalls.of_reach fk4 rfl rfl (Nat.le_of_ble_eq_true rfl) (c4_e a0 r h)
noncomputable def I64 : Info := { body := (Tryz.f64.body).getD .skip, nt := 12, results := [.tmp 4], keep := [0, 2, 8, 1], live := [], modes := [], ext := [0] }
end Go.Ab.T
end
section
namespace Go.Ab
def Big (p : Nat → Prop) : Prop := ∃ k, ∀ N, k ≤ N → p N
def Big2 (p : Nat → Nat → Prop) : Prop := ∃ k, ∀ N n, k ≤ N → k ≤ n → p N n
theorem Big.imp {p q : Nat → Prop} (h : Big p) (f : ∀ N, p N → q N) : Big q := h.elim fun k hk => ⟨k, fun N hN => f N (hk N hN)⟩
theorem Big2.imp {p q : Nat → Nat → Prop} (h : Big2 p) (f : ∀ N n, p N n → q N n) : Big2 q := h.elim fun k hk => ⟨k, fun N n h1 h2 => f N n (hk N n h1 h2)⟩
theorem Big.of {p : Nat → Prop} (h : ∀ N, p N) : Big p := ⟨0, fun N _ => h N⟩
theorem Big2.of {p : Nat → Nat → Prop} (h : ∀ N n, p N n) : Big2 p := ⟨0, fun N n _ _ => h N n⟩
theorem Big.and {p q : Nat → Prop} (h : Big p) (h' : Big q) : Big fun N => p N ∧ q N := by
 obtain ⟨a, ha⟩ := h; obtain ⟨b, hb⟩ := h'
 exact ⟨max a b, fun N hN => ⟨ha N (by omega), hb N (by omega)⟩⟩
theorem Big2.and {p q : Nat → Nat → Prop} (h : Big2 p) (h' : Big2 q) : Big2 fun N n => p N n ∧ q N n := by
 obtain ⟨a, ha⟩ := h; obtain ⟨b, hb⟩ := h'
 exact ⟨max a b, fun N n h1 h2 => ⟨ha N n (by omega) (by omega), hb N n (by omega) (by omega)⟩⟩
theorem Big.two {p : Nat → Prop} (h : Big p) : Big2 fun N _ => p N := h.elim fun k hk => ⟨k, fun N _ h _ => hk N h⟩
theorem Big2.diag {p : Nat → Nat → Prop} (h : Big2 p) : Big fun N => p N N := h.elim fun k hk => ⟨k, fun N h => hk N N h h⟩
theorem Big2.succ {p : Nat → Nat → Prop} (h : Big2 fun N n => p N (n + 1)) : Big2 p := by
 obtain ⟨k, hk⟩ := h
 refine ⟨k + 1, fun N n h1 h2 => ?_⟩
 obtain ⟨m, rfl⟩ : ∃ m, n = m + 1 := ⟨n - 1, by omega⟩
 exact hk N m (by omega) (by omega)
theorem Big2.list {α : Type} {p : α → Nat → Nat → Prop} {l : List α} (h : ∀ x ∈ l, Big2 (p x)) : Big2 fun N n => ∀ x ∈ l, p x N n := by
 induction l with
 | nil => exact .of fun N n x hx => by cases hx
 | cons a l ih =>
   refine ((h a List.mem_cons_self).and (ih fun x hx => h x (List.mem_cons_of_mem _ hx))).imp fun N n ⟨h1, h2⟩ x hx => ?_
   rcases List.mem_cons.1 hx with rfl | hx
   · exact h1
   · exact h2 x hx
theorem Big.get {p : Nat → Prop} (h : Big p) : ∃ N, p N := h.elim fun k hk => ⟨k, hk k (Nat.le_refl k)⟩
def I64 (x : Int) : Prop := -9223372036854775808 ≤ x ∧ x ≤ 9223372036854775807
theorem xLx (x : Int) : IntKind.i64.wrap x = if x % 18446744073709551616 ≥ 9223372036854775808 then x % 18446744073709551616 - 18446744073709551616 else x % 18446744073709551616 := by
 show (if (true && decide (x % 18446744073709551616 ≥ 9223372036854775808)) = true then x % 18446744073709551616 - 18446744073709551616 else x % 18446744073709551616) = _
 simp only [Bool.true_and, decide_eq_true_eq]
theorem xMp (x : Int) : IntKind.u8.wrap x = x % 256 := by
 show (if (false && decide (x % 256 ≥ 128)) = true then x % 256 - 256 else x % 256) = _
 simp
theorem xBG {x : Int} (h1 : -9223372036854775808 ≤ x) (h2 : x ≤ 9223372036854775807) : IntKind.i64.wrap x = x := by
 rw [xLx]
 split <;> omega
theorem xMo {x : Int} (h1 : 0 ≤ x) (h2 : x ≤ 255) : IntKind.u8.wrap x = x := by
 rw [xMp]
 omega
theorem xDm {α : Type} {xs : List α} {i : Nat} {x : α} {l : List α} (h : xs.drop i = x :: l) : i < xs.length ∧ xs[i]? = some x ∧ xs.drop (i + 1) = l := by
 have h1 : i < xs.length := by
  rcases Nat.lt_or_ge i xs.length with h1 | h1
  · exact h1
  · rw [List.drop_eq_nil_of_le h1] at h; cases h
 rw [List.drop_eq_getElem_cons h1] at h
 cases h
 exact ⟨h1, by simp [h1], rfl⟩
theorem xGW {α : Type} {xs : List α} {i : Nat} (h : xs.drop i = []) : xs.length ≤ i := by simpa using h
end Go.Ab
end
section
namespace Go.Ab
inductive DK (K : Nat) : D → Prop where
 | int {k n} (h : (Lit.int k n).wf = true) : DK K (.int k n)
 | bool (b) : DK K (.bool b)
 | str {s : Str} (h : s.length ≤ K) : DK K (.str s)
 | sl {sz rows} (h : rows.length ≤ K) (hr : ∀ r ∈ rows, ∀ x ∈ r, DK K x) : DK K (.sl sz rows)
theorem xSt {n : Int} : (Lit.int .i64 n).wf = true ↔ I64 n := by
 show (decide (_ ≤ n) && decide (n ≤ _)) = true ↔ _
 rw [Bool.and_eq_true, decide_eq_true_eq, decide_eq_true_eq]
 exact Iff.rfl
theorem DK.i64 {K : Nat} {n : Int} : DK K (.int .i64 n) ↔ I64 n := ⟨fun h => by cases h with | int h => exact xSt.1 h, fun h => .int (xSt.2 h)⟩
theorem DK.str_iff {K : Nat} {s : Str} : DK K (.str s) ↔ s.length ≤ K := ⟨fun h => by cases h; assumption, .str⟩
theorem DK.sl_iff {K sz : Nat} {α : Type} {f : α → List D} {xs : List α} : DK K (.sl sz (xs.map f)) ↔ xs.length ≤ K ∧ ∀ x ∈ xs, ∀ d ∈ f x, DK K d := by
 constructor
 · intro h
   cases h with
   | sl h hr => exact ⟨by simpa using h, fun x hx => hr _ (List.mem_map_of_mem hx)⟩
 · rintro ⟨h, hr⟩
   refine .sl (by simpa using h) fun r hr' => ?_
   obtain ⟨x, hx, rfl⟩ := List.mem_map.1 hr'
   exact hr x hx
def LFit {α : Type} (K : Nat) (p : α → Prop) (l : List α) : Prop := l.length ≤ K ∧ ∀ x ∈ l, p x
def Ty.Fit (K : Nat) (T : Ty) (x : T.den) : Prop := ∀ d ∈ T.toD x, DK K d
def Org.Fit (o : Org) : Prop := I64 o.cell ∧ I64 o.row
def Rowd.Fit (K : Nat) (r : Rowd) : Prop := LFit K I64 r.cells ∧ LFit K Org.Fit r.frm
def Str.Fit (K : Nat) (s : Str) : Prop := s.length ≤ K
def Exp.Fit (K : Nat) (v : Exp) : Prop := ∀ d ∈ Exp.toD v, DK K d
def Fil.Fit (K : Nat) (v : Fil) : Prop := Str.Fit K v.name ∧ I64 v.n
def Tok.Fit (K : Nat) (v : Tok) : Prop := I64 v.kind ∧ I64 v.n ∧ I64 v.pos ∧ Str.Fit K v.text
theorem xXC {K : Nat} {r : Rowd} : (∀ d ∈ Rowd.toD r, DK K d) ↔ r.Fit K := by
 simp only [Rowd.toD, List.mem_cons, List.not_mem_nil, or_false, forall_eq_or_imp, forall_eq, DK.sl_iff, DK.i64, Rowd.Fit, LFit, Org.Fit]
theorem xYR {K : Nat} {r : Fil} : Ty.Fit K .fil r ↔ r.Fit K := by
 simp only [Ty.Fit, Ty.toD, List.mem_cons, List.not_mem_nil, or_false, forall_eq_or_imp, forall_eq, DK.str_iff, DK.i64, Fil.Fit, Str.Fit]
theorem Exp.fit_iff {K : Nat} {v : Exp} : v.Fit K ↔ I64 v.kind ∧ I64 v.n ∧ Str.Fit K v.text ∧ LFit K (Exp.Fit K) v.args := by
 cases v
 simp only [Exp.Fit, Exp.toD, Exp.toDs_eq, List.mem_cons, List.not_mem_nil, or_false, forall_eq_or_imp, forall_eq, DK.sl_iff, DK.i64, DK.str_iff, Str.Fit, LFit, Exp.kind, Exp.n, Exp.text, Exp.args]
theorem xJN {l : List Exp} {x : Exp} (h : x ∈ l) (k n : Int) (t : Str) : SizeOf.sizeOf x < SizeOf.sizeOf (Exp.mk k n t l) := by
 have := List.sizeOf_lt_of_mem h
 simp only [Exp.mk.sizeOf_spec]
 omega
theorem Exp.ind {p : Exp → Prop} (h : ∀ k n t l, (∀ x ∈ l, p x) → p (.mk k n t l)) : ∀ v, p v
 | .mk k n t l => h k n t l fun x hx => Exp.ind h x
termination_by v => SizeOf.sizeOf v
decreasing_by exact xJN hx k n t
end Go.Ab
end
section
namespace Go.Ab
theorem xO3 {σ ρ : Type} {L : Nat → σ → Option ρ} (m : σ → Nat) (Inv : σ → Prop) (Post : ρ → Prop)
 (hstep : ∀ s, Inv s → (∃ s', Inv s' ∧ m s' < m s ∧ ∀ n, L (n + 1) s = L n s') ∨ (∃ r, Post r ∧ ∀ n, L (n + 1) s = some r)) :
 ∀ n s, Inv s → m s < n → ∃ r, Post r ∧ L n s = some r := by
 intro n
 induction n with
 | zero => intro s _ h; omega
 | succ n ih =>
   intro s hs hn
   rcases hstep s hs with ⟨s', h1, h2, h3⟩ | ⟨r, h1, h2⟩
   · obtain ⟨r, h4, h5⟩ := ih s' h1 (by omega)
     exact ⟨r, h4, by rw [h3]; exact h5⟩
   · exact ⟨r, h1, h2 n⟩
theorem xFJ {α σ ρ : Type} {L : Nat → Int → σ → Option ρ} (x0 : List α) (g : List α → σ → ρ) (Inv : Nat → σ → Prop)
 (hnil : ∀ n s, Inv x0.length s → L (n + 1) (x0.length : Nat) s = some (g [] s))
 (hcons : ∀ i x l s, x0.drop i = x :: l → i < x0.length → x0[i]? = some x → Inv i s →
   (∃ s', Inv (i + 1) s' ∧ g (x :: l) s = g l s' ∧ ∀ n, L (n + 1) (i : Nat) s = L n ((i + 1 : Nat) : Int) s') ∨ (∀ n, L (n + 1) (i : Nat) s = some (g (x :: l) s))) :
 ∀ n i s, Inv i s → i ≤ x0.length → x0.length < n + i → L n (i : Nat) s = some (g (x0.drop i) s) := by
 intro n
 induction n with
 | zero => intro i s _ h1 h2; omega
 | succ n ih =>
   intro i s hs hi hn
   cases hd : x0.drop i with
   | nil =>
     have := xGW hd
     obtain rfl : i = x0.length := by omega
     exact hnil n s hs
   | cons x l =>
     obtain ⟨h1, h2, h3⟩ := xDm hd
     rcases hcons i x l s hd h1 h2 hs with ⟨s', h4, h5, h6⟩ | h
     · rw [h6, ih (i + 1) s' h4 (by omega) (by omega), h3, h5]
     · exact h n
theorem xCa {α : Type} {xs : List α} {i : Nat} {x : α} (h : xs[i]? = some x) (d : α) : xs.getD i d = x := by simp [List.getD, h]
theorem xBD {i : Nat} {len : Nat} (h : i < len) (hl : len ≤ 9223372036854775807) : IntKind.i64.wrap ((i : Int) + 1) = ((i + 1 : Nat) : Int) := by
 rw [xBG (by omega) (by omega)]; omega
def left (s : Nat) (l : Int) : Int := if (s : Int) ≤ l then l - s else -1
theorem xKt {s : Nat} {l : Int} (h : (s : Int) ≤ l) : left s l = l - s := by unfold left; rw [if_pos h]
theorem xJn {s : Nat} {l : Int} (h : ¬ (s : Int) ≤ l) : left s l = -1 := by unfold left; rw [if_neg h]
section
variable {α : Type} {d : α}
theorem xXa {L : Nat → Int → Option Bool} {x0 : List α} (hend : ∀ n, L (n + 1) (x0.length : Nat) = some true)
 (hcons : ∀ (i : Nat) x n, i < x0.length → x0[i]? = some x → x ∈ x0 → L (n + 1) (i : Nat) = L n ((i + 1 : Nat) : Int)) {n : Nat} (hn : x0.length < n) : L n 0 = some true := by
 have key := xFJ (σ := Unit) (L := fun n i _ => L n i) x0 (fun _ _ => true) (fun _ _ => True) (fun n _ _ => hend n)
  (fun i x r s hd hi hx _ => .inl ⟨(), trivial, rfl, fun n => hcons i x n hi hx (List.mem_of_getElem? hx)⟩) n 0 () trivial (by omega) (by omega)
 exact key
end
end Go.Ab
end
section
namespace Go.Ab
theorem vk (a b c : Int) (t : Str) (l : List Val) (k : List Str) (r : List Rowd) : (Val.mk a b c t l k r).kind = a := rfl
theorem vs (a b c : Int) (t : Str) (l : List Val) (k : List Str) (r : List Rowd) : (Val.mk a b c t l k r).step = c := rfl
theorem vl (a b c : Int) (t : Str) (l : List Val) (k : List Str) (r : List Rowd) : (Val.mk a b c t l k r).list = l := rfl
theorem ek (a b : Int) (t : Str) (l : List Exp) : (Exp.mk a b t l).kind = a := rfl
theorem en (a b : Int) (t : Str) (l : List Exp) : (Exp.mk a b t l).n = b := rfl
theorem et (a b : Int) (t : Str) (l : List Exp) : (Exp.mk a b t l).text = t := rfl
theorem ea (a b : Int) (t : Str) (l : List Exp) : (Exp.mk a b t l).args = l := rfl
mutual
def Exp.size : Exp → Nat
 | .mk _ _ t a => t.length + (a.length + Exp.sizes a)
def Exp.sizes : List Exp → Nat
 | [] => 0
 | x :: r => Exp.size x + Exp.sizes r
end
theorem Exp.sizes_eq (l : List Exp) : Exp.sizes l = (l.map Exp.size).sum := by
 induction l with
 | nil => rfl
 | cons x l ih => simp [Exp.sizes, ih]
theorem xSe {α : Type} {f : α → Nat} {l : List α} {x : α} (h : x ∈ l) : f x ≤ (l.map f).sum := by
 induction l with
 | nil => cases h
 | cons a l ih =>
   simp only [List.map_cons, List.sum_cons]
   rcases List.mem_cons.1 h with rfl | h
   · omega
   · have := ih h; omega
theorem Exp.size_eq (e : Exp) : e.size = e.text.length + (e.args.length + (e.args.map Exp.size).sum) := by
 cases e; simp [Exp.size, Exp.sizes_eq, Exp.text, Exp.args]
theorem xJ6 (n : Nat) : Big fun N => n < N := ⟨n + 1, fun N h => by omega⟩
end Go.Ab
end
section
namespace Go.Ab
theorem xPk {α : Type} {Lm : Nat → List α → Int → Int → Option (Int × List α)} {Lh : Nat → List α → Int → Int → Option Int} {c : α → Nat} {x0 : List α} {k0 B : Int} {n : Nat}
 (hm : ∀ n xs k, xs.length = x0.length → Lm (n + 1) xs k (xs.length : Nat) = some (k, xs)) (hh : ∀ n ys k, ys.length = x0.length → Lh (n + 1) ys k (ys.length : Nat) = some k)
 (hx : ∀ x ∈ x0, ∀ k, k0 ≤ k → k + c x ≤ B → ∃ y, (∀ n xs (i : Nat), xs.length = x0.length → xs[i]? = some x → Lm (n + 1) xs k i = Lm n (xs.set i y) (k + c x) ((i + 1 : Nat) : Int)) ∧
   (∀ n ys (i : Nat), ys.length = x0.length → ys[i]? = some y → Lh (n + 1) ys k i = Lh n ys (k + c x) ((i + 1 : Nat) : Int)))
 (hk : k0 + (x0.map c).sum ≤ B) (hn : x0.length < n) : ∃ ys, ys.length = x0.length ∧ Lm n x0 k0 0 = some (k0 + (x0.map c).sum, ys) ∧ Lh n ys k0 0 = some (k0 + (x0.map c).sum) := by
 have key : ∀ (l pre : List α) (k : Int) (n : Nat), pre.length + l.length = x0.length → (∀ x ∈ l, x ∈ x0) → k0 ≤ k → k + (l.map c).sum ≤ B → l.length < n →
  ∃ ys, ys.length = l.length ∧ Lm n (pre ++ l) k (pre.length : Nat) = some (k + (l.map c).sum, pre ++ ys) ∧ ∀ pre' : List α, pre'.length = pre.length → Lh n (pre' ++ ys) k (pre.length : Nat) = some (k + (l.map c).sum) := by
  intro l
  induction l with
  | nil =>
    intro pre k n hl hmem h0 hB hn
    obtain ⟨n, rfl⟩ : ∃ m, n = m + 1 := ⟨n - 1, by simp at hn; omega⟩
    refine ⟨[], rfl, ?_, fun pre' hp => ?_⟩
    · have := hm n (pre ++ []) k (by simpa using hl)
      simpa using this
    · have := hh n (pre' ++ []) k (by simp [hp]; simpa using hl)
      simp only [List.append_nil, hp] at this
      simpa using this
  | cons x l ih =>
    intro pre k n hl hmem h0 hB hn
    obtain ⟨n, rfl⟩ : ∃ m, n = m + 1 := ⟨n - 1, by simp at hn; omega⟩
    simp only [List.map_cons, List.sum_cons, jC] at hB hl hn
    obtain ⟨y, h1, h2⟩ := hx x (hmem x List.mem_cons_self) k h0 (by omega)
    obtain ⟨ys, g1, g2, g3⟩ := ih (pre ++ [y]) (k + c x) n (by simp; omega) (fun z hz => hmem z (List.mem_cons_of_mem _ hz)) (by omega) (by omega) (by omega)
    refine ⟨y :: ys, by simp [g1], ?_, fun pre' hp => ?_⟩
    · rw [h1 n (pre ++ x :: l) pre.length (by simp; omega) (by simp)]
      rw [List.set_append, if_neg (by omega), Nat.sub_self, List.set_cons_zero]
      have e : ((pre.length + 1 : Nat) : Int) = ((pre ++ [y]).length : Nat) := by simp
      rw [e, show pre ++ y :: l = (pre ++ [y]) ++ l from by simp, g2]
      simp only [List.map_cons, List.sum_cons, List.append_assoc, List.cons_append, List.nil_append]
      congr 2
      omega
    · rw [h2 n (pre' ++ y :: ys) pre.length (by simp [hp, g1]; omega) (by rw [← hp]; simp)]
      have e : ((pre.length + 1 : Nat) : Int) = ((pre ++ [y]).length : Nat) := by simp
      rw [e, show pre' ++ y :: ys = (pre' ++ [y]) ++ ys from by simp, g3 (pre' ++ [y]) (by simp [hp])]
      simp only [List.map_cons, List.sum_cons]
      congr 1
      omega
 obtain ⟨ys, h1, h2, h3⟩ := key x0 [] k0 n (by simp) (fun x h => h) (Int.le_refl _) hk hn
 exact ⟨ys, h1, h2, by simpa using h3 [] rfl⟩
theorem xKs {α : Type} {xs : List α} {i : Nat} (h : i < xs.length) (y d : α) : (xs.set i y).getD i d = y := by simp [List.getD, h]
end Go.Ab
end
section
namespace Go.Ab
theorem xM8 {K : Nat} (hK : K ≤ 9223372036854775807) : ∀ e : Exp, e.Fit K → Big2 fun N d => (xBM N d).c_laws_eqExpr e e = some true := by
 refine Exp.ind fun k n t a ih h => ?_
 obtain ⟨h1, h2, h3, h4⟩ := Exp.fit_iff.1 h
 refine Big2.succ (Big2.succ ?_)
 refine ((Big2.list fun x hx => ih x hx (h4.2 x hx)).and (xJ6 a.length).two).imp fun N d ⟨hx, hn⟩ => ?_
 have hl : a.length ≤ K := h4.1
 have key : (xBM N (d + 1)).c_laws_eqExprS a a = some true := by
  show xEi _ _ _ a a = _
  unfold xEi
  rw [bne_self_eq_false, jF]
  exact xXa (L := fun n i => xEh N (xBM N d).c_laws_eqExpr (xBM N d).c_laws_eqExprS n a a i) (fun n => by simp [xEh]) (fun i x n hi hxi hm => by
   have hi' : (i : Int) < (a.length : Int) := by omega
   simp only [xEh, decide_eq_true hi', jT, Int.toNat_natCast, xCa hxi, hx x hm, jS, xBD hi (by omega), Bool.not_true, jF]
   rw [if_pos (by omega), if_pos (by omega)]) hn
 show xEx N (xBM N (d + 1)).c_laws_eqExpr (xBM N (d + 1)).c_laws_eqExprS _ _ = _
 unfold xEx
 simp [Exp.args, key]
theorem xLF {e : Exp} {K : Nat} (h : e.Fit K) (hK : K ≤ 9223372036854775807) : Big fun N => xG4 N e e = some true := (xM8 hK e h).diag
end Go.Ab
end
section
namespace Go.Ab
def xH7 (c : UInt8) : Bool := decide ((c.toNat : Int) ≥ 97) && decide ((c.toNat : Int) ≤ 122)
def xJq (c : UInt8) : Bool := decide ((c.toNat : Int) ≥ 48) && decide ((c.toNat : Int) ≤ 57)
def xGw : List UInt8 → Bool → Bool
 | [], _ => true
 | x :: r, f => (xH7 x || (!f && xJq x)) && xGw r false
theorem xJR {N : Nat} {s : Str} (hl : s.length ≤ 9223372036854775807) (hn : s.length < N) : xGz N s = some (xGw s true && decide ((s.length : Int) > 0)) :=
 xFJ (L := fun n i _ => xCE N n s i) s (fun l f => xGw l f && decide ((s.length : Int) > 0)) (fun i f => f = (i == 0)) (fun n _ _ => by simp [xCE, xGw])
  (fun i x l f hd hi hx hf => by
    have hi' : (i : Int) < (s.length : Int) := by omega
    have hi0 : ((i : Int) == 0) = f := by rw [hf]; cases i <;> simp <;> omega
    by_cases h1 : (xH7 x || (!f && xJq x)) = true
    · refine .inl ⟨false, by simp, by simp [xGw, h1], fun n => ?_⟩
      simp only [xCE, decide_eq_true hi', jT, Int.toNat_natCast, xCa hx, xBD hi hl, hi0]
      rw [if_pos (by omega)]
      unfold xH7 xJq at h1
      by_cases c1 : (x.toNat : Int) ≥ 97 <;> by_cases c2 : (x.toNat : Int) ≤ 122 <;> by_cases c3 : (x.toNat : Int) ≥ 48 <;> by_cases c4 : (x.toNat : Int) ≤ 57 <;> cases f <;>
       simp only [c1, c2, c3, c4, decide_true, decide_false, jT, jF, Bool.not_true, Bool.not_false, Bool.and_true, Bool.and_false, Bool.or_true, Bool.or_false, Bool.false_and, Bool.true_and, Bool.false_or, Bool.false_eq_true] at h1 ⊢
    · refine .inr fun n => ?_
      have h1 := Bool.eq_false_iff.2 h1
      simp only [xCE, decide_eq_true hi', jT, Int.toNat_natCast, xCa hx, xBD hi hl, hi0, xGw, h1, Bool.false_and]
      rw [if_pos (by omega)]
      unfold xH7 xJq at h1
      by_cases c1 : (x.toNat : Int) ≥ 97 <;> by_cases c2 : (x.toNat : Int) ≤ 122 <;> by_cases c3 : (x.toNat : Int) ≥ 48 <;> by_cases c4 : (x.toNat : Int) ≤ 57 <;> cases f <;>
       simp only [c1, c2, c3, c4, decide_true, decide_false, jT, jF, Bool.not_true, Bool.not_false, Bool.and_true, Bool.and_false, Bool.or_true, Bool.or_false, Bool.false_and, Bool.true_and, Bool.false_or, Bool.true_eq_false] at h1 ⊢) N 0 true rfl (by omega) (by omega)
theorem xH0 (N : Nat) (a b c : Int) : xEI N a b c = some (decide (b ≤ a) && decide (a ≤ c)) := by
 unfold xEI
 cases h : decide (b ≤ a) <;> simp
theorem xLv (N : Nat) (a b c : Int) : xGU N a b c = some (decide (b ≤ a) && decide (a ≤ c)) := by
 unfold xGU
 cases h : decide (b ≤ a)
 · rfl
 · rfl
theorem xJX {N : Nat} {s : Str} (hl : s.length ≤ 9223372036854775807) (hn : s.length < N) : xG0 N s = some (xGw s true && (decide ((1 : Int) ≤ s.length) && decide ((s.length : Int) ≤ 8))) :=
 xFJ (L := fun n i _ => xDh N n s i) s (fun l f => xGw l f && (decide ((1 : Int) ≤ s.length) && decide ((s.length : Int) ≤ 8))) (fun i f => f = (i == 0)) (fun n _ _ => by simp [xDh, xGw, xH0])
  (fun i x l f hd hi hx hf => by
    have hi' : (i : Int) < (s.length : Int) := by omega
    have hi0 : ((i : Int) == 0) = f := by rw [hf]; cases i <;> simp <;> omega
    have e1 : decide ((x.toNat : Int) < 48) = !decide ((x.toNat : Int) ≥ 48) := by by_cases c : (x.toNat : Int) ≥ 48 <;> simp [c] <;> omega
    have e2 : decide ((x.toNat : Int) > 57) = !decide ((x.toNat : Int) ≤ 57) := by by_cases c : (x.toNat : Int) ≤ 57 <;> simp [c] <;> omega
    by_cases h1 : (xH7 x || (!f && xJq x)) = true
    · refine .inl ⟨false, by simp, by simp [xGw, h1], fun n => ?_⟩
      simp only [xDh, decide_eq_true hi', jT, Int.toNat_natCast, xCa hx, xBD hi hl, hi0, e1, e2]
      rw [if_pos (by omega)]
      unfold xH7 xJq at h1
      by_cases c1 : (x.toNat : Int) ≥ 97 <;> by_cases c2 : (x.toNat : Int) ≤ 122 <;> by_cases c3 : (x.toNat : Int) ≥ 48 <;> by_cases c4 : (x.toNat : Int) ≤ 57 <;> cases f <;>
       simp only [c1, c2, c3, c4, decide_true, decide_false, jT, jF, Bool.not_true, Bool.not_false, Bool.and_true, Bool.and_false, Bool.or_true, Bool.or_false, Bool.false_and, Bool.true_and, Bool.false_or, Bool.false_eq_true] at h1 ⊢
    · refine .inr fun n => ?_
      have h1 := Bool.eq_false_iff.2 h1
      simp only [xDh, decide_eq_true hi', jT, Int.toNat_natCast, xCa hx, xBD hi hl, hi0, e1, e2, xGw, h1, Bool.false_and]
      rw [if_pos (by omega)]
      unfold xH7 xJq at h1
      by_cases c1 : (x.toNat : Int) ≥ 97 <;> by_cases c2 : (x.toNat : Int) ≤ 122 <;> by_cases c3 : (x.toNat : Int) ≥ 48 <;> by_cases c4 : (x.toNat : Int) ≤ 57 <;> cases f <;>
       simp only [c1, c2, c3, c4, decide_true, decide_false, jT, jF, Bool.not_true, Bool.not_false, Bool.and_true, Bool.and_false, Bool.or_true, Bool.or_false, Bool.false_and, Bool.true_and, Bool.false_or, Bool.true_eq_false] at h1 ⊢) N 0 true rfl (by omega) (by omega)
def xGS : List Str := [[108, 101, 116], [105, 110], [105, 102], [116, 104, 101, 110], [101, 108, 115, 101], [102, 111, 114], [100, 111], [108, 101, 110], [115, 117, 109], [116, 97, 107, 101], [115, 107, 105, 112], [114, 97, 110, 103, 101], [110, 116, 104], [119, 104, 101, 114, 101], [107, 101, 101, 112], [97, 100, 100], [103, 114, 111, 117, 112], [106, 111, 105, 110], [99, 111, 108, 117, 109, 110], [114, 111, 119, 115], [99, 108, 111, 99, 107], [99, 104, 97, 110, 99, 101], [102, 105, 108, 101], [116, 97, 98, 108, 101]]
theorem xK0 {N : Nat} {xs : List Str} {s : Str} (hl : xs.length ≤ 9223372036854775807) (hn : xs.length < N) : xHQ N xs s = some (xs.any (· == s)) :=
 xFJ (σ := Unit) (L := fun n i _ => xEu N n xs s i) xs (fun l _ => l.any (· == s)) (fun _ _ => True) (fun n _ _ => by simp [xEu])
  (fun i x l _ hd hi hx _ => by
    have hi' : (i : Int) < (xs.length : Int) := by omega
    cases h1 : x == s
    · refine .inl ⟨(), trivial, by simp [h1], fun n => ?_⟩
      simp only [xEu, decide_eq_true hi', jT, Int.toNat_natCast, xCa hx, h1, jF, xBD hi hl]
      rw [if_pos (by omega)]
    · refine .inr fun n => ?_
      simp only [xEu, decide_eq_true hi', jT, Int.toNat_natCast, xCa hx, h1]
      rw [if_pos (by omega)]
      simp [h1]) N 0 () trivial (by omega) (by omega)
def xHP (s : Str) : Bool := xGS.any (· == s)
theorem xIy {N : Nat} {s : Str} (hn : 24 < N) : xEM N s = some (xHP s) := by
 unfold xEM xFE
 rw [jS, show ([[108, 101, 116], [105, 110], [105, 102], [116, 104, 101, 110], [101, 108, 115, 101], [102, 111, 114], [100, 111], [108, 101, 110], [115, 117, 109], [116, 97, 107, 101], [115, 107, 105, 112], [114, 97, 110, 103, 101], [110, 116, 104], [119, 104, 101, 114, 101], [107, 101, 101, 112], [97, 100, 100], [103, 114, 111, 117, 112], [106, 111, 105, 110], [99, 111, 108, 117, 109, 110], [114, 111, 119, 115], [99, 108, 111, 99, 107], [99, 104, 97, 110, 99, 101], [102, 105, 108, 101], [116, 97, 98, 108, 101]] : List Str) = xGS from rfl, xK0 (by decide) hn]
 rfl
theorem xIp (N : Nat) (s : Str) : xEH N s = some (xHP s) := by
 by_cases h : s ∈ xGS
 · have h' : xHP s = true := List.any_eq_true.2 ⟨s, h, by simp⟩
   rw [h']
   simp only [xGS, List.mem_cons, List.not_mem_nil, or_false] at h
   rcases h with h | h | h | h | h | h | h | h | h | h | h | h | h | h | h | h | h | h | h | h | h | h | h | h <;> subst h <;> rfl
 · have h' : xHP s = false := by
    unfold xHP
    rw [List.any_eq_false]
    intro x hx hxs
    exact h (by rw [← eq_of_beq hxs]; exact hx)
   rw [h']
   have hne : ∀ x ∈ xGS, (s == x) = false := by
    intro x hx
    cases hb : s == x
    · rfl
    · exact absurd (by rw [eq_of_beq hb]; exact hx) h
   simp only [xGS, List.mem_cons, List.not_mem_nil, or_false, forall_eq_or_imp, forall_eq] at hne
   simp only [xEH, xCx, hne, jF, jS]
   rfl
def xDr (s : Str) : Bool := xGw s true && (decide ((1 : Int) ≤ s.length) && decide ((s.length : Int) ≤ 8)) && !xHP s
theorem xFf {N : Nat} {s : Str} (hl : s.length ≤ 9223372036854775807) (hn : s.length < N) : xCH N s = some (xDr s) := by
 unfold xCH xDr
 rw [xJX hl hn, jS]
 cases (xGw s true && (decide ((1 : Int) ≤ s.length) && decide ((s.length : Int) ≤ 8)))
 · rfl
 · rw [xIp]; rfl
theorem xFk {N : Nat} {s : Str} (hl : s.length ≤ 9223372036854775807) (hn : s.length < N) (hn2 : 24 < N) : xCK N s = some (xDr s) := by
 unfold xCK xDr
 rw [xJR hl hn, jS, xIy hn2]
 have : decide ((s.length : Int) > 0) = decide ((1 : Int) ≤ s.length) := by by_cases c : (s.length : Int) > 0 <;> simp [c] <;> omega
 rw [this]
 cases xGw s true <;> cases decide ((1 : Int) ≤ s.length) <;> cases decide ((s.length : Int) ≤ 8) <;> rfl
end Go.Ab
end
section
namespace Go.Ab
theorem xKv {N : Nat} (hN : 274877906944 < N) {k : Int} (h0 : 0 ≤ k) (h1 : k ≤ 137438953472) : ∃ t, xEU N k = some t := by
 unfold xEU
 cases decide (k ≤ 0)
 · rw [jF]
   obtain ⟨r, _, hr⟩ := xO3 (L := fun n (s : Int × Str) => xDZ N n s.1 s.2) (fun s => s.1.toNat) (fun s => 0 ≤ s.1 ∧ (s.2.length : Int) + s.1 ≤ 137438953472) (fun _ => True) (fun s hs => by
    obtain ⟨x, t⟩ := s
    obtain ⟨g0, g1⟩ := hs
    have g0 : 0 ≤ x := g0
    have g1 : (t.length : Int) + x ≤ 137438953472 := g1
    by_cases hx : x > 0
    · have hq : Int.tdiv x 10 = x / 10 := Int.tdiv_eq_ediv_of_nonneg g0
      refine .inl ⟨(IntKind.i64.wrap (Int.tdiv x 10), (List.map (fun n => UInt8.ofNat (Int.toNat n)) [(IntKind.u8.wrap ((IntKind.i64.wrap (48 + (Int.tmod x 10)))))]) ++ t), ?_, ?_, fun n => ?_⟩
      · show 0 ≤ IntKind.i64.wrap (Int.tdiv x 10) ∧ _
        rw [hq, xBG (by omega) (by omega)]
        simp only [List.map_cons, List.map_nil, List.cons_append, List.nil_append, jC]
        omega
      · show (IntKind.i64.wrap (Int.tdiv x 10)).toNat < x.toNat
        rw [hq, xBG (by omega) (by omega)]
        omega
      · simp only [xDZ, decide_eq_true hx, jT]
        rw [if_pos (by simp only [List.map_cons, List.map_nil, jC, jN]; unfold Lim; omega)]
    · refine .inr ⟨[109] ++ t, trivial, fun n => ?_⟩
      simp only [xDZ, decide_eq_false hx, jF]
      rw [if_pos (by simp only [jC, jN]; unfold Lim; omega)]) N (k, []) ⟨h0, by simpa using h1⟩ (by show k.toNat < N; omega)
   exact ⟨r, hr⟩
 · exact ⟨_, rfl⟩
end Go.Ab
end
section
namespace Go.Ab
def allI {α : Type} (p : Nat → α → Bool) : List α → Nat → Bool
 | [], _ => true
 | x :: r, i => p i x && allI p r (i + 1)
theorem xSx {α : Type} {L : Nat → Int → Option Bool} {x0 : List α} {p : Nat → α → Bool} {e : Option Bool} (hend : ∀ n, L (n + 1) (x0.length : Nat) = e)
 (hcons : ∀ (i : Nat) x n, i < x0.length → x0[i]? = some x → x ∈ x0 → L (n + 1) (i : Nat) = bif p i x then L n ((i + 1 : Nat) : Int) else some false) {n : Nat} (hn : x0.length < n) :
 L n 0 = bif allI p x0 0 then e else some false := by
 have key : ∀ (m i : Nat), i ≤ x0.length → x0.length < m + i → L m (i : Nat) = bif allI p (x0.drop i) i then e else some false := by
  intro m
  induction m with
  | zero => intro i h1 h2; omega
  | succ m ih =>
    intro i h1 h2
    cases hd : x0.drop i with
    | nil =>
      have := xGW hd
      obtain rfl : i = x0.length := by omega
      rw [hend]; rfl
    | cons x l =>
      obtain ⟨g1, g2, g3⟩ := xDm hd
      rw [hcons i x m g1 g2 (List.mem_of_getElem? g2), ih (i + 1) (by omega) (by omega), g3]
      simp only [allI]
      cases p i x <;> rfl
 exact key n 0 (by omega) (by omega)
def xXy (c : UInt8) : Bool := !(decide ((c.toNat : Int) < 32)) && (!(decide ((c.toNat : Int) > 126)) && !((c.toNat : Int) == 34))
def xH4 (s : Str) : Bool := allI (fun _ => xXy) s 0 && decide ((s.length : Int) ≤ 20)
theorem xSz {a b : Bool} : (bif a then some b else some false) = some (a && b) := by cases a <;> rfl
theorem xFl {N : Nat} {s : Str} (hl : s.length ≤ 9223372036854775807) (hn : s.length < N) : xD1 N s = some (xH4 s) := by
 rw [xH4, ← xSz]
 exact xSx (L := fun n i => xCg N n s i) (fun n => by simp [xCg]) (fun i x n hi hx hm => by
  have hi' : (i : Int) < (s.length : Int) := by omega
  simp only [xCg, decide_eq_true hi', jT, Int.toNat_natCast, xCa hx, xBD hi hl, xXy]
  rw [if_pos (by omega)]
  cases decide ((x.toNat : Int) < 32) <;> cases decide ((x.toNat : Int) > 126) <;> cases ((x.toNat : Int) == 34) <;> rfl) hn
theorem xHk (N n : Nat) (s : Str) (i : Int) : xDO N n s i = xCg N n s i := by
 induction n generalizing i with
 | zero => rfl
 | succ n ih => simp only [xDO, xCg, ih]
theorem xGe {N : Nat} {s : Str} (hl : s.length ≤ 9223372036854775807) (hn : s.length < N) : xCI N s = some (xH4 s) := (xHk N N s 0).trans (xFl hl hn)
end Go.Ab
end
section
namespace Go.Ab
def kb : List Val → List Int → Bool
 | [], _ => false
 | _ :: _, [] => false
 | x :: r, k :: ks => (x.kind != k) || kb r ks
end Go.Ab
end
section
namespace Go.Ab
def pick (k : Int) (n : Int) (rs : List Rowd) : List Rowd := rs.filter fun r => r.cells.getD k.toNat Ty.int.dflt == n
end Go.Ab
end
section
namespace Go.Ab
def dd (n : Nat) : Str := if n = 0 then [] else Lib.decDigits n
theorem xLB {n : Nat} (h : n ≠ 0) : dd n = dd (n / 10) ++ [UInt8.ofNat (48 + n % 10)] := by
 unfold dd
 rw [if_neg h]
 by_cases h1 : n < 10
 · rw [Lib.decDigits, dif_pos h1, if_pos (by omega), Nat.mod_eq_of_lt h1]; rfl
 · rw [Lib.decDigits, dif_neg h1, if_neg (by omega)]
theorem xNC {n : Int} (h : n ≠ 0) : Lib.itoa n = (bif decide (n < 0) then [45] else []) ++ dd n.natAbs := by
 have h2 : ¬ n.natAbs = 0 := by omega
 unfold Lib.itoa dd
 by_cases h1 : n < 0
 · rw [if_pos h1, decide_eq_true h1, if_neg h2]; rfl
 · rw [if_neg h1, decide_eq_false h1, if_neg h2, show n.toNat = n.natAbs from by omega]; rfl
theorem xW9 : ∀ (k n : Nat), n < 10 ^ k → (dd n).length ≤ k := by
 intro k
 induction k with
 | zero => intro n h; have : n = 0 := by simpa using h
           subst this; exact Nat.le_refl _
 | succ k ih =>
   intro n h
   by_cases h0 : n = 0
   · subst h0; exact Nat.zero_le _
   · rw [xLB h0, jA]
     have := ih (n / 10) (by rw [Nat.pow_succ] at h; omega)
     simp only [jC, jN]; omega
mutual
def Exp.cnt : Exp → Nat
 | .mk _ _ _ a => 1 + Exp.cnts a
def Exp.cnts : List Exp → Nat
 | [] => 0
 | x :: r => Exp.cnt x + Exp.cnts r
end
theorem Exp.cnts_eq (l : List Exp) : Exp.cnts l = (l.map Exp.cnt).sum := by
 induction l with
 | nil => rfl
 | cons x l ih => simp only [Exp.cnts, List.map_cons, List.sum_cons, ih]
theorem Exp.cnt_eq (e : Exp) : e.cnt = 1 + (e.args.map Exp.cnt).sum := by
 cases e; simp only [Exp.cnt, Exp.cnts_eq, Exp.args]
mutual
def Exp.nest : Exp → Nat
 | .mk _ _ _ a => Exp.nests a + 1
def Exp.nests : List Exp → Nat
 | [] => 0
 | x :: r => max (Exp.nest x) (Exp.nests r)
end
theorem Exp.nest_eq (e : Exp) : e.nest = Exp.nests e.args + 1 := by cases e; rfl
theorem xOW {f g : Exp → Nat} : ∀ {a : List Exp}, (∀ x ∈ a, f x ≤ g x + 1) → (a.map f).sum ≤ a.length + (a.map g).sum
 | [], _ => Nat.le_refl _
 | x :: l, ih => by
   have h1 := ih x List.mem_cons_self
   have h2 := xOW fun y hy => ih y (List.mem_cons_of_mem _ hy)
   simp only [List.map_cons, List.sum_cons, jC]; omega
theorem Exp.cnt_le : ∀ e : Exp, e.cnt ≤ e.size + 1 := by
 refine Exp.ind fun k n t a ih => ?_
 rw [Exp.cnt_eq, Exp.size_eq]
 have := xOW ih
 show 1 + (a.map Exp.cnt).sum ≤ t.length + (a.length + (a.map Exp.size).sum) + 1
 omega
theorem xMx : ∀ {a : List Exp}, (∀ x ∈ a, x.nest ≤ x.cnt) → Exp.nests a ≤ (a.map Exp.cnt).sum
 | [], _ => Nat.le_refl _
 | x :: l, ih => by
   have h1 := ih x List.mem_cons_self
   have h2 := xMx fun y hy => ih y (List.mem_cons_of_mem _ hy)
   simp only [Exp.nests, List.map_cons, List.sum_cons]; omega
theorem Exp.nest_le : ∀ e : Exp, e.nest ≤ e.cnt := by
 refine Exp.ind fun k n t a ih => ?_
 rw [Exp.nest_eq, Exp.cnt_eq]
 have := xMx ih
 show Exp.nests a + 1 ≤ 1 + (a.map Exp.cnt).sum
 omega
def xNH (vT vN : Str → Bool) (ac : Str → Int) (k n : Int) (t : Str) (l : Nat) : Bool :=
 bif k == 1 then (decide (0 ≤ n) && decide (n ≤ 1000000000)) && ((t == []) && (l == 0))
 else bif k == 2 then (n == 0) && (vT t && (l == 0))
 else bif k == 3 then (n == 0) && (vN t && (l == 0))
 else bif k == 4 then (n == 0) && ((t == []) && decide (l ≤ 8))
 else bif k == 5 then (n == 0) && ((l : Int) == ac t)
 else bif k == 6 then (decide (1 ≤ n) && decide (n ≤ 5)) && ((t == []) && (l == 2))
 else bif k == 7 then (n == 0) && (vN t && (l == 2))
 else bif k == 9 then (n == 0) && (vN t && (l == 2))
 else bif k == 8 then (n == 0) && ((t == []) && (l == 3)) else false
end Go.Ab
end
section
namespace Go.Ab
theorem xIh {N : Nat} : ∀ (k n : Nat) (x : Int) (b : Bool) (q : Str), x.natAbs < 10 ^ k → k < n → k + q.length ≤ 1000 → (-9223372036854775808 ≤ x ∧ x ≤ 9223372036854775807) →
 xB0 N n x b q = some ((bif b then [45] else []) ++ (dd x.natAbs ++ q)) := by
 intro k
 induction k with
 | zero =>
   intro n x b q hx hn hq hi
   obtain ⟨n, rfl⟩ : ∃ m, n = m + 1 := ⟨n - 1, by omega⟩
   have : x = 0 := by have : x.natAbs < 1 := by simpa using hx
                      omega
   subst this
   simp only [xB0, show ((0 : Int) != 0) = false from rfl, jF]
   cases b
   · rfl
   · simp only [jT]
     rw [if_pos (by simp only [jC, jN]; unfold Lim; omega)]; rfl
 | succ k ih =>
   intro n x b q hx hn hq hi
   obtain ⟨n, rfl⟩ : ∃ m, n = m + 1 := ⟨n - 1, by omega⟩
   by_cases h0 : x = 0
   · subst h0
     simp only [xB0, show ((0 : Int) != 0) = false from rfl, jF]
     cases b
     · rfl
     · simp only [jT]
       rw [if_pos (by simp only [jC, jN]; unfold Lim; omega)]; rfl
   · have hne : (x != 0) = true := by simpa using h0
     have hn0 : x.natAbs ≠ 0 := by omega
     have hd : (Int.tdiv x 10).natAbs = x.natAbs / 10 := by rw [Int.natAbs_tdiv]; rfl
     have hm : (Int.tmod x 10).natAbs = x.natAbs % 10 := by rw [Int.natAbs_tmod]; rfl
     have hdi : -9223372036854775808 ≤ Int.tdiv x 10 ∧ Int.tdiv x 10 ≤ 9223372036854775807 := by omega
     have hb : (Int.tdiv x 10).natAbs < 10 ^ k := by rw [hd]; rw [Nat.pow_succ] at hx; omega
     have hw : IntKind.i64.wrap (Int.tdiv x 10) = Int.tdiv x 10 := xBG (by omega) (by omega)
     have fin : ∀ c : Int, c = ((48 + x.natAbs % 10 : Nat) : Int) → xB0 N n (Int.tdiv x 10) b ((List.map (fun n => UInt8.ofNat (Int.toNat n)) [c]) ++ q) = some ((bif b then [45] else []) ++ (dd x.natAbs ++ q)) := by
      intro c hc
      rw [ih n _ b _ hb (by omega) (by simp only [jA, List.length_map, jC, jN]; omega) hdi, hd, xLB hn0, hc]
      simp only [List.map_cons, List.map_nil, Int.toNat_natCast, List.append_assoc, List.cons_append, List.nil_append]
     have hlim : ∀ c : Int, List.length (List.map (fun n => UInt8.ofNat (Int.toNat n)) [c]) + List.length q ≤ Lim := fun c => by
      simp only [List.length_map, jC, jN]; unfold Lim; omega
     by_cases hneg : Int.tmod x 10 < 0
     · have e1 : IntKind.i64.wrap (0 - Int.tmod x 10) = 0 - Int.tmod x 10 := xBG (by omega) (by omega)
       have e2 : IntKind.i64.wrap (48 + (0 - Int.tmod x 10)) = 48 + (0 - Int.tmod x 10) := xBG (by omega) (by omega)
       have e3 : IntKind.u8.wrap (48 + (0 - Int.tmod x 10)) = 48 + (0 - Int.tmod x 10) := xMo (by omega) (by omega)
       simp only [xB0, hne, jT, decide_eq_true hneg, e1, e2, e3, hw]
       rw [if_pos (hlim _)]
       exact fin _ (by omega)
     · have e2 : IntKind.i64.wrap (48 + Int.tmod x 10) = 48 + Int.tmod x 10 := xBG (by omega) (by omega)
       have e3 : IntKind.u8.wrap (48 + Int.tmod x 10) = 48 + Int.tmod x 10 := xMo (by omega) (by omega)
       simp only [xB0, hne, jT, decide_eq_false hneg, jF, e2, e3, hw]
       rw [if_pos (hlim _)]
       exact fin _ (by omega)
theorem xIY {N : Nat} {x : Int} (hN : 100 < N) (hi : -9223372036854775808 ≤ x ∧ x ≤ 9223372036854775807) : xEC N x = some (Lib.itoa x) := by
 unfold xEC
 by_cases h0 : x = 0
 · subst h0
   simp only [beq_self_eq_true, jT]
   show some [48] = some (Lib.decDigits 0)
   rw [Lib.decDigits, dif_pos (by omega)]; rfl
 · have e20 : x.natAbs < 10 ^ 20 := by
    have : (10 : Nat) ^ 20 = 100000000000000000000 := by decide
    omega
   rw [show (x == 0) = false from beq_eq_false_iff_ne.2 h0, jF, xIh 20 N x _ [] e20 (by omega) (by simp) hi, xNC h0, List.append_nil]
theorem xWI {α : Type} {b : Bool} {x y : Option α} (h1 : ∃ r, x = some r) (h2 : ∃ r, y = some r) : ∃ r, (bif b then x else y) = some r := by cases b <;> assumption
theorem xDV {α : Type} {b : Bool} {x y : Option α} {p q : α} (h1 : x = some p) (h2 : y = some q) : (bif b then x else y) = some (bif b then p else q) := by cases b <;> assumption
def argc (s : Str) : Int := (xBR 0 s).getD 0
theorem xEL (N : Nat) (s : Str) : xBR N s = some (argc s) := by
 have key : ∃ r, xBR 0 s = some r := by
  unfold xBR
  repeat (first | exact ⟨_, rfl⟩ | refine xWI ⟨_, rfl⟩ ?_)
 obtain ⟨r, hr⟩ := key
 show xBR 0 s = _
 rw [argc, hr]; rfl
theorem xFP (N : Nat) (s : Str) : xCx N s = some (argc s) := (show xCx N s = xBR N s from rfl).trans (xEL N s)
def xLd (e : Exp) : Bool := xNH xH4 xDr argc e.kind e.n e.text e.args.length
theorem xXg (l : Nat) : ((l : Int) == 0) = (l == 0) := by
 rcases Nat.eq_zero_or_pos l with rfl | h
 · rfl
 · rw [beq_eq_false_iff_ne.2 (by omega : l ≠ 0), beq_eq_false_iff_ne.2 (by omega : (l : Int) ≠ 0)]
theorem xXh (l : Nat) : ((l : Int) == 2) = (l == 2) := by
 rcases Decidable.em (l = 2) with rfl | h
 · rfl
 · rw [beq_eq_false_iff_ne.2 h, beq_eq_false_iff_ne.2 (by omega : (l : Int) ≠ 2)]
theorem xXi (l : Nat) : ((l : Int) == 3) = (l == 3) := by
 rcases Decidable.em (l = 3) with rfl | h
 · rfl
 · rw [beq_eq_false_iff_ne.2 h, beq_eq_false_iff_ne.2 (by omega : (l : Int) ≠ 3)]
theorem xXj (l : Nat) : decide ((l : Int) ≤ 8) = decide (l ≤ 8) := by
 rcases Decidable.em (l ≤ 8) with h | h
 · rw [decide_eq_true h, decide_eq_true (by omega : (l : Int) ≤ 8)]
 · rw [decide_eq_false h, decide_eq_false (by omega : ¬ (l : Int) ≤ 8)]
theorem xJV {N : Nat} {e : Exp} (ht : e.text.length ≤ 9223372036854775807) (hn : e.text.length < N) : xGf N e = some (xLd e) := by
 simp only [xGf, xLd, xNH, xH0, xGe ht hn, xFf (N := N) ht hn, xFP, jS, xXg, xXh, xXi, xXj]
 refine xDV ?_ (xDV ?_ (xDV ?_ (xDV ?_ (xDV ?_ (xDV ?_ (xDV ?_ (xDV ?_ (xDV ?_ rfl)))))))) <;>
  first
  | rfl
  | (cases (decide ((0 : Int) ≤ e.n) && decide (e.n ≤ 1000000000)) <;> cases (e.text == []) <;> rfl)
  | (cases (decide ((1 : Int) ≤ e.n) && decide (e.n ≤ 5)) <;> cases (e.text == []) <;> rfl)
  | (cases (e.n == 0) <;> cases (e.text == []) <;> rfl)
  | (cases (e.n == 0) <;> cases (xH4 e.text) <;> rfl)
  | (cases (e.n == 0) <;> cases (xDr e.text) <;> rfl)
theorem xJP {N : Nat} {e : Exp} (ht : e.text.length ≤ 9223372036854775807) (hn : e.text.length < N) (h24 : 24 < N) : xFW N e = some (xLd e) := by
 simp only [xFW, xLd, xNH, xLv, xFl ht hn, xFk (N := N) (s := e.text) ht hn h24, xEL, jS, xXg, xXh, xXi, xXj]
 refine xDV ?_ (xDV ?_ (xDV ?_ (xDV ?_ (xDV ?_ (xDV ?_ (xDV ?_ (xDV ?_ (xDV ?_ rfl)))))))) <;>
  first
  | rfl
  | (cases (e.args.length == 0) <;> cases (e.text == []) <;> cases (decide ((0 : Int) ≤ e.n) && decide (e.n ≤ 1000000000)) <;> rfl)
  | (cases (e.args.length == 0) <;> cases (e.n == 0) <;> cases (xH4 e.text) <;> rfl)
  | (cases (e.args.length == 0) <;> cases (e.n == 0) <;> cases (xDr e.text) <;> rfl)
  | (cases (e.n == 0) <;> cases (e.text == []) <;> rfl)
  | (cases (e.args.length == 2) <;> cases (e.text == []) <;> cases (decide ((1 : Int) ≤ e.n) && decide (e.n ≤ 5)) <;> rfl)
  | (cases (e.args.length == 2) <;> cases (e.n == 0) <;> cases (xDr e.text) <;> rfl)
  | (cases (e.args.length == 3) <;> cases (e.n == 0) <;> cases (e.text == []) <;> rfl)
mutual
def okE : Exp → Bool
 | .mk k n t a => okEs a && xLd (.mk k n t a)
def okEs : List Exp → Bool
 | [] => true
 | x :: r => okE x && okEs r
end
theorem xSO (l : List Exp) : okEs l = l.all okE := by
 induction l with
 | nil => rfl
 | cons x l ih => simp only [okEs, List.all_cons, ih]
theorem xXl (e : Exp) : okE e = (e.args.all okE && xLd e) := by
 cases e; simp only [okE, xSO]; rfl
theorem xWG {K : Nat} (hK : K ≤ 1048576) : ∀ e : Exp, e.Fit K → Big2 fun N d => xEg N d e = some (okE e) ∧ xEN N d e = some (okE e) := by
 refine Exp.ind fun k n t a ih h => ?_
 obtain ⟨h1, h2, h3, h4⟩ := Exp.fit_iff.1 h
 refine Big2.succ ?_
 refine ((Big2.list fun x hx => ih x hx (h4.2 x hx)).and (xJ6 (K + 30)).two).imp fun N d ⟨hx, hn⟩ => ?_
 have hl : a.length ≤ K := h4.1
 have ht : (Exp.mk k n t a).text.length ≤ K := h3
 rw [xXl]
 refine ⟨?_, ?_⟩
 · exact xFJ (σ := Unit) (L := fun m i _ => xDx N (xEg N d) m a a.length i (.mk k n t a)) a (fun l _ => l.all okE && xLd (.mk k n t a)) (fun _ _ => True) (fun m _ _ => by simp [xDx, xJV (N := N) (e := .mk k n t a) (by omega) (by omega)])
    (fun i x l _ hd hi hxi _ => by
      have hi' : (i : Int) < (a.length : Int) := by omega
      have hm := List.mem_of_getElem? hxi
      cases ho : okE x
      · refine .inr fun m => ?_
        simp only [xDx, decide_eq_true hi', jT, Int.toNat_natCast, xCa hxi, (hx x hm).1, ho, jS, Bool.not_false, List.all_cons, Bool.false_and]
        rw [if_pos (by omega)]
      · refine .inl ⟨(), trivial, by simp [ho], fun m => ?_⟩
        simp only [xDx, decide_eq_true hi', jT, Int.toNat_natCast, xCa hxi, (hx x hm).1, ho, jS, Bool.not_true, jF, xBD hi (by omega : a.length ≤ _)]
        rw [if_pos (by omega)]) N 0 () trivial (by omega) (by omega)
 · exact xFJ (σ := Unit) (L := fun m i _ => xEd N (xEN N d) m i (.mk k n t a)) a (fun l _ => l.all okE && xLd (.mk k n t a)) (fun _ _ => True) (fun m _ _ => by simp [xEd, ea, xJP (N := N) (e := .mk k n t a) (by omega) (by omega) (by omega)])
    (fun i x l _ hd hi hxi _ => by
      have hi' : (i : Int) < ((Exp.mk k n t a).args.length : Int) := by show (i : Int) < (a.length : Int); omega
      have hi2 : (0 : Int) ≤ (i : Int) ∧ (i : Int) < ((Exp.mk k n t a).args.length : Int) := ⟨by omega, hi'⟩
      have hm := List.mem_of_getElem? hxi
      have hxi2 : (Exp.mk k n t a).args[i]? = some x := hxi
      cases ho : okE x
      · refine .inr fun m => ?_
        simp only [xEd, decide_eq_true hi', if_pos hi2, jT, Int.toNat_natCast, xCa hxi2, (hx x hm).2, ho, jS, Bool.not_false, List.all_cons, Bool.false_and]
      · refine .inl ⟨(), trivial, by simp [ho], fun m => ?_⟩
        simp only [xEd, decide_eq_true hi', if_pos hi2, jT, Int.toNat_natCast, xCa hxi2, (hx x hm).2, ho, jS, Bool.not_true, jF, xBD hi (by omega : a.length ≤ _)]) N 0 () trivial (by omega) (by omega)
end Go.Ab
end
section
namespace Go.Ab
def sumC (l : List Exp) : Nat := (l.map Exp.cnt).sum
theorem xJS (x : Exp) (l : List Exp) : sumC (x :: l) = x.cnt + sumC l := by simp only [sumC, List.map_cons, List.sum_cons]
theorem xND (c s : Nat) {l : Int} (h : 0 ≤ l) : left (c + s) l = if left c l < 0 then left c l else left s (left c l) := by
 by_cases c1 : (c : Int) ≤ l
 · rw [xKt c1, if_neg (by omega)]
   by_cases c2 : (s : Int) ≤ l - c
   · rw [xKt c2, xKt (by omega)]; omega
   · rw [xJn c2, xJn (by omega)]
 · rw [xJn c1, if_pos (by omega), xJn (by omega)]
theorem xPa {K : Nat} (hK : K ≤ 1048576) : ∀ e : Exp, e.Fit K → e.cnt ≤ 2000000 → Big2 fun N d => xDs N d e = some (e.cnt : Int) ∧ ∀ l : Int, 0 ≤ l → l ≤ 1000 → xD3 N d e l = some (left e.cnt l) := by
 refine Exp.ind fun k n t a ih h hc => ?_
 obtain ⟨h1, h2, h3, h4⟩ := Exp.fit_iff.1 h
 rw [Exp.cnt_eq] at hc
 have hc : 1 + sumC a ≤ 2000000 := hc
 have hmem : ∀ x ∈ a, x.cnt ≤ sumC a := fun x hx => xSe (f := Exp.cnt) hx
 refine Big2.succ ?_
 refine ((Big2.list fun x hx => ih x hx (h4.2 x hx) (by have := hmem x hx; omega)).and (xJ6 (K + 30)).two).imp fun N d ⟨hx, hn⟩ => ?_
 have hl : a.length ≤ K := h4.1
 rw [Exp.cnt_eq]
 refine ⟨?_, fun l hl0 hl1 => ?_⟩
 · have := xFJ (L := fun m i s => xC9 N (xDs N d) m s a a.length i) a (fun l s => s + (sumC l : Int)) (fun i s => 0 ≤ s ∧ s + (sumC (a.drop i) : Int) ≤ 2000000) (fun m s _ => by simp [xC9, sumC])
    (fun i x l s hd hi hxi hs => by
      have hi' : (i : Int) < (a.length : Int) := by omega
      have hm := List.mem_of_getElem? hxi
      rw [hd, xJS] at hs
      have hw : IntKind.i64.wrap (s + (x.cnt : Int)) = s + (x.cnt : Int) := xBG (by omega) (by omega)
      refine .inl ⟨s + (x.cnt : Int), ⟨by omega, by rw [(xDm hd).2.2]; omega⟩, by rw [xJS]; omega, fun m => ?_⟩
      simp only [xC9, decide_eq_true hi', jT, Int.toNat_natCast, xCa hxi, (hx x hm).1, jS, hw, xBD hi (by omega : a.length ≤ _)]
      rw [if_pos (by omega)]) N 0 1 ⟨by omega, by rw [List.drop_zero]; omega⟩ (by omega) (by omega)
   rw [List.drop_zero] at this
   show xC9 N (xDs N d) N 1 a a.length 0 = some ((1 + sumC a : Nat) : Int)
   rw [show ((1 + sumC a : Nat) : Int) = 1 + (sumC a : Int) from by omega]
   exact this
 · have := xFJ (L := fun m i s => xDp N (xD3 N d) m s i (.mk k n t a)) a (fun l s => if s < 0 then s else left (sumC l) s) (fun i s => -1 ≤ s ∧ s ≤ 1000) (fun m s hs => by
    simp only [xDp, ea, Int.lt_irrefl, decide_false, jF, sumC, List.map_nil, List.sum_nil]
    split
    · rfl
    · rw [xKt (by omega)]; simp)
    (fun i x l s hd hi hxi hs => by
      have hi' : (i : Int) < ((Exp.mk k n t a).args.length : Int) := by show (i : Int) < (a.length : Int); omega
      have hi2 : (0 : Int) ≤ (i : Int) ∧ (i : Int) < ((Exp.mk k n t a).args.length : Int) := ⟨by omega, hi'⟩
      have hm := List.mem_of_getElem? hxi
      have hxi2 : (Exp.mk k n t a).args[i]? = some x := hxi
      by_cases hneg : s < 0
      · refine .inr fun m => ?_
        have h2 : ¬ s ≥ 0 := by omega
        simp only [xDp, decide_eq_true hi', jT, decide_eq_false h2, jF, if_pos hneg]
      · have h2 : s ≥ 0 := by omega
        refine .inl ⟨left x.cnt s, ?_, ?_, fun m => ?_⟩
        · unfold left; split <;> omega
        · rw [if_neg hneg, xJS, xND _ _ (by omega)]
        · simp only [xDp, decide_eq_true hi', jT, decide_eq_true h2, if_pos hi2, Int.toNat_natCast, xCa hxi2, (hx x hm).2 s (by omega) (by omega), jS, xBD hi (by omega : a.length ≤ _)]) N 0 (l - 1) ⟨by omega, by omega⟩ (by omega) (by omega)
   rw [List.drop_zero] at this
   show xDp N (xD3 N d) N (IntKind.i64.wrap (l - 1)) 0 (.mk k n t a) = some (left (1 + sumC a) l)
   rw [xBG (by omega) (by omega)]
   refine Eq.trans this ?_
   unfold left
   by_cases c0 : l - 1 < 0
   · rw [if_pos c0, if_neg (by omega)]; congr 1; omega
   · rw [if_neg c0]
     by_cases c2 : (sumC a : Int) ≤ l - 1
     · rw [if_pos c2, if_pos (by omega)]; congr 1; omega
     · rw [if_neg c2, if_neg (by omega)]
theorem xMw {x : Exp} : ∀ {a : List Exp}, x ∈ a → x.nest ≤ Exp.nests a
 | y :: l, h => by
   rcases List.mem_cons.1 h with rfl | h
   · simp only [Exp.nests]; omega
   · have := xMw h; simp only [Exp.nests]; omega
theorem maxI (a b : Nat) : (if (a : Int) > (b : Int) then (a : Int) else (b : Int)) = ((max b a : Nat) : Int) := by
 split <;> omega
theorem nest_eq {K : Nat} (hK : K ≤ 1048576) : ∀ e : Exp, e.Fit K → e.nest ≤ 2000000 → Big2 fun N d => xD4 N d e = some (e.nest : Int) ∧ xD9 N d e = some (e.nest : Int) := by
 refine Exp.ind fun k n t a ih h hc => ?_
 obtain ⟨h1, h2, h3, h4⟩ := Exp.fit_iff.1 h
 rw [Exp.nest_eq] at hc
 have hc : Exp.nests a + 1 ≤ 2000000 := hc
 have hmem : ∀ x ∈ a, x.nest ≤ Exp.nests a := fun x hx => xMw hx
 refine Big2.succ ?_
 refine ((Big2.list fun x hx => ih x hx (h4.2 x hx) (by have := hmem x hx; omega)).and (xJ6 (K + 30)).two).imp fun N d ⟨hx, hn⟩ => ?_
 have hl : a.length ≤ K := h4.1
 rw [Exp.nest_eq]
 refine ⟨?_, ?_⟩
 · have := xFJ (L := fun m i (s : Nat) => xDI N (xD4 N d) m (s : Int) a a.length i) a (fun l s => ((max s (Exp.nests l) + 1 : Nat) : Int)) (fun i s => s ≤ 2000000) (fun m s hs => by
    have hw : IntKind.i64.wrap ((s : Int) + 1) = ((max s 0 + 1 : Nat) : Int) := by rw [xBG (by omega) (by omega)]; omega
    simp only [xDI, Int.lt_irrefl, decide_false, jF, hw, Exp.nests])
    (fun i x l s hd hi hxi hs => by
      have hi' : (i : Int) < (a.length : Int) := by omega
      have hm := List.mem_of_getElem? hxi
      have := hmem x hm
      refine .inl ⟨max s x.nest, by omega, by simp only [Exp.nests]; omega, fun m => ?_⟩
      simp only [xDI, decide_eq_true hi', jT, Int.toNat_natCast, xCa hxi, (hx x hm).1, jS, maxI, xBD hi (by omega : a.length ≤ _)]
      rw [if_pos (by omega)]) N 0 0 (by omega) (by omega) (by omega)
   rw [List.drop_zero] at this
   refine Eq.trans this ?_
   simp; rfl
 · have := xFJ (L := fun m i (s : Nat) => xDM N (xD9 N d) m (s : Int) i (.mk k n t a)) a (fun l s => ((max s (Exp.nests l) + 1 : Nat) : Int)) (fun i s => s ≤ 2000000) (fun m s hs => by
    have hw : IntKind.i64.wrap ((s : Int) + 1) = ((max s 0 + 1 : Nat) : Int) := by rw [xBG (by omega) (by omega)]; omega
    simp only [xDM, ea, Int.lt_irrefl, decide_false, jF, hw, Exp.nests])
    (fun i x l s hd hi hxi hs => by
      have hi' : (i : Int) < ((Exp.mk k n t a).args.length : Int) := by show (i : Int) < (a.length : Int); omega
      have hi2 : (0 : Int) ≤ (i : Int) ∧ (i : Int) < ((Exp.mk k n t a).args.length : Int) := ⟨by omega, hi'⟩
      have hm := List.mem_of_getElem? hxi
      have hxi2 : (Exp.mk k n t a).args[i]? = some x := hxi
      have := hmem x hm
      have hmax : xGV N (s : Int) (x.nest : Int) = some ((max s x.nest : Nat) : Int) := by
       unfold xGV
       by_cases c : (s : Int) > (x.nest : Int)
       · rw [decide_eq_true c]; show some (s : Int) = _; congr 1; omega
       · rw [decide_eq_false c]; show some (x.nest : Int) = _; congr 1; omega
      refine .inl ⟨max s x.nest, by omega, by simp only [Exp.nests]; omega, fun m => ?_⟩
      simp only [xDM, decide_eq_true hi', jT, if_pos hi2, Int.toNat_natCast, xCa hxi2, (hx x hm).2, jS, hmax, xBD hi (by omega : a.length ≤ _)]) N 0 0 (by omega) (by omega) (by omega)
   rw [List.drop_zero] at this
   refine Eq.trans this ?_
   simp; rfl
def xF5 (e : Exp) : Bool := (decide (e.cnt ≤ 40) && decide (e.nest ≤ 8)) && okE e
theorem xO1 {K : Nat} (hK : K ≤ 1048576) {e : Exp} (h : e.Fit K) (hs : e.size ≤ 1048576) : Big fun N => xCG N e = some (xF5 e) ∧ xCJ N e = some (xF5 e) := by
 have h1 := Exp.cnt_le e
 have h2 := Exp.nest_le e
 refine (((xPa hK e h (by omega)).diag.and (nest_eq hK e h (by omega)).diag).and (xWG hK e h).diag).imp fun N ⟨⟨⟨c1, c2⟩, n1, n2⟩, a1, a2⟩ => ?_
 have c3 : xGB N e = some (e.cnt : Int) := c1
 have c4 : xHL N e 40 = some (left e.cnt 40) := c2 40 (by omega) (by omega)
 have n3 : xGA N e = some (e.nest : Int) := n1
 have n4 : xGI N e = some (e.nest : Int) := n2
 have a3 : xGZ N e = some (okE e) := a1
 have a4 : xIi N e = some (okE e) := a2
 have d1 : decide ((e.cnt : Int) ≤ 40) = decide (e.cnt ≤ 40) := decide_eq_decide.2 (by omega)
 have d2 : decide (left e.cnt 40 ≥ 0) = decide (e.cnt ≤ 40) := decide_eq_decide.2 (by unfold left; split <;> omega)
 have d3 : decide ((e.nest : Int) ≤ 8) = decide (e.nest ≤ 8) := decide_eq_decide.2 (by omega)
 refine ⟨?_, ?_⟩
 · simp only [xCG, c3, n3, a3, jS, d1, d3, xF5]
   cases decide (e.cnt ≤ 40) <;> cases decide (e.nest ≤ 8) <;> rfl
 · simp only [xCJ, c4, n4, a4, jS, d2, d3, xF5]
   cases decide (e.cnt ≤ 40) <;> cases decide (e.nest ≤ 8) <;> rfl
end Go.Ab
end
section
namespace Go.Ab
inductive PR (α : Type) where
 | ok (a : α) (r : List Tok)
 | err (r : List Tok)
def PR.bind {α β : Type} : PR α → (α → List Tok → PR β) → PR β
 | .ok a r, k => k a r
 | .err r, _ => .err r
theorem PR.bind_ok {α β : Type} {R : PR α} {k : α → List Tok → PR β} {b : β} {r : List Tok} (h : R.bind k = .ok b r) : ∃ a q, R = .ok a q ∧ k a q = .ok b r := by
 cases R with
 | ok a q => exact ⟨a, q, rfl, h⟩
 | err q => cases h
def isK (t : Tok) (s : Str) : Bool := bif t.kind == 1 then t.text == s else false
def isS (t : Tok) (s : Str) : Bool := bif t.kind == 4 then t.text == s else false
def seeK (s : Str) : List Tok → Bool
 | [] => false
 | t :: _ => isK t s
def seeS (s : Str) : List Tok → Bool
 | [] => false
 | t :: _ => isS t s
def xFp (s : Str) : List Tok → PR Unit
 | [] => .err []
 | t :: r => bif isK t s || isS t s then .ok () r else .err (t :: r)
def xLk : List Tok → PR Str
 | [] => .err []
 | t :: r => bif t.kind == 1 then (bif xDr t.text then .ok t.text r else .err (t :: r)) else .err (t :: r)
def xJc (f : List Tok → PR Exp) (c : Str) : Nat → List Exp → List Tok → PR (List Exp)
 | 0, _, ts => .err ts
 | m + 1, acc, ts => (f ts).bind fun e r => bif seeS c r then .ok (acc ++ [e]) r.tail else (xFp [44] r).bind fun _ q => xJc f c m (acc ++ [e]) q
def xJY (f : List Tok → PR Exp) (m : Nat) (c : Str) (ts : List Tok) : PR (List Exp) := bif seeS c ts then .ok [] ts.tail else xJc f c m [] ts
def xJa (f : List Tok → PR Exp) (m : Nat) (t : Tok) (r : List Tok) : PR Exp :=
 bif isS t [91] then (xJY f m [93] r).bind fun a q => .ok (.mk 4 0 [] a) q
 else bif isS t [40] then (f r).bind fun e q => (xFp [41] q).bind fun _ u => .ok e u
 else .err (t :: r)
def xJI (f : List Tok → PR Exp) (m : Nat) : List Tok → PR Exp
 | [] => .err []
 | t :: r =>
   bif t.kind == 2 then .ok (.mk 1 t.n [] []) r
   else bif t.kind == 3 then .ok (.mk 2 0 t.text []) r
   else bif t.kind == 1 then
    (bif xDr t.text then .ok (.mk 3 0 t.text []) r
    else bif decide (argc t.text ≥ 0) then (xFp [40] r).bind fun _ q => (xJY f m [41] q).bind fun a u => .ok (.mk 5 0 t.text a) u
    else xJa f m t r)
   else xJa f m t r
def xJd (g : List Tok → PR Exp) : Nat → Exp → List Tok → PR Exp
 | 0, _, ts => .err ts
 | m + 1, a, ts => bif seeS [42] ts then (g ts.tail).bind fun b r => xJd g m (.mk 6 3 [] [a, b]) r else .ok a ts
def xLm (g : List Tok → PR Exp) (m : Nat) (ts : List Tok) : PR Exp := (g ts).bind fun a r => xJd g m a r
def xJj (g : List Tok → PR Exp) : Nat → Exp → List Tok → PR Exp
 | 0, _, ts => .err ts
 | m + 1, a, ts => bif seeS [43] ts then (g ts.tail).bind fun b r => xJj g m (.mk 6 1 [] [a, b]) r
   else bif seeS [45] ts then (g ts.tail).bind fun b r => xJj g m (.mk 6 2 [] [a, b]) r else .ok a ts
def pSum (g : List Tok → PR Exp) (m : Nat) (ts : List Tok) : PR Exp := (g ts).bind fun a r => xJj g m a r
def xOK (g : List Tok → PR Exp) (a : Exp) (r : List Tok) : PR Exp :=
 bif seeS [60] r then (g r.tail).bind fun b q => .ok (.mk 6 4 [] [a, b]) q
 else bif seeS [61, 61] r then (g r.tail).bind fun b q => .ok (.mk 6 5 [] [a, b]) q else .ok a r
def pCmp (g : List Tok → PR Exp) (ts : List Tok) : PR Exp := (g ts).bind fun a r => xOK g a r
def pTwo (f : List Tok → PR Exp) (k : Int) (s1 s2 : Str) (ts : List Tok) : PR Exp :=
 (xLk ts).bind fun x q1 => (xFp s1 q1).bind fun _ q2 => (f q2).bind fun a q3 => (xFp s2 q3).bind fun _ q4 => (f q4).bind fun b q5 => .ok (.mk k 0 x [a, b]) q5
def pIf (f : List Tok → PR Exp) (ts : List Tok) : PR Exp :=
 (f ts).bind fun a q1 => (xFp [116, 104, 101, 110] q1).bind fun _ q2 => (f q2).bind fun b q3 => (xFp [101, 108, 115, 101] q3).bind fun _ q4 => (f q4).bind fun c q5 => .ok (.mk 8 0 [] [a, b, c]) q5
def xJJ (f g : List Tok → PR Exp) (ts : List Tok) : PR Exp :=
 bif seeK [108, 101, 116] ts then pTwo f 7 [61] [105, 110] ts.tail
 else bif seeK [105, 102] ts then pIf f ts.tail
 else bif seeK [102, 111, 114] ts then pTwo f 9 [105, 110] [100, 111] ts.tail
 else pCmp g ts
def xOM (f : List Tok → PR Exp) (m : Nat) : List Tok → PR Exp := pSum (xLm (xJI f m) m) m
def pE : Nat → List Tok → PR Exp
 | 0, ts => .err ts
 | m + 1, ts => xJJ (pE m) (xOM (pE m) (m + 1)) ts
theorem xMV {s : Str} {ts r : List Tok} {u : Unit} (h : xFp s ts = .ok u r) : ∃ t, ts = t :: r ∧ (isK t s || isS t s) = true := by
 cases ts with
 | nil => cases h
 | cons t q =>
   simp only [xFp] at h
   cases hb : isK t s || isS t s <;> rw [hb] at h <;> cases h
   exact ⟨t, rfl, hb⟩
theorem xMU {ts r : List Tok} {x : Str} (h : xLk ts = .ok x r) : ∃ t, ts = t :: r ∧ x = t.text ∧ t.kind = 1 ∧ xDr t.text = true := by
 cases ts with
 | nil => cases h
 | cons t q =>
   simp only [xLk] at h
   cases hb : t.kind == 1 <;> rw [hb] at h
   · cases h
   · cases hv : xDr t.text <;> rw [hv] at h <;> cases h
     exact ⟨t, rfl, rfl, by simpa using hb, hv⟩
theorem xJM {s : Str} {ts : List Tok} (h : seeS s ts = true) : ∃ t, ts = t :: ts.tail ∧ isS t s = true := by
 cases ts with
 | nil => cases h
 | cons t q => exact ⟨t, rfl, h⟩
theorem xLr {s : Str} {ts : List Tok} (h : seeK s ts = true) : ∃ t, ts = t :: ts.tail ∧ isK t s = true := by
 cases ts with
 | nil => cases h
 | cons t q => exact ⟨t, rfl, h⟩
theorem xFc {s : Str} {ts : List Tok} (h : seeS s ts = true) : ts.tail.length + 1 = ts.length := by
 obtain ⟨t, h1, _⟩ := xJM h
 rw [h1]; rfl
theorem xFb {s : Str} {ts : List Tok} (h : seeK s ts = true) : ts.tail.length + 1 = ts.length := by
 obtain ⟨t, h1, _⟩ := xLr h
 rw [h1]; rfl
theorem xEK {s : Str} {ts r : List Tok} {u : Unit} (h : xFp s ts = .ok u r) : r.length + 1 = ts.length := by
 obtain ⟨t, h1, _⟩ := xMV h
 rw [h1]; rfl
theorem xLl {ts r : List Tok} {x : Str} (h : xLk ts = .ok x r) : r.length + 1 = ts.length := by
 obtain ⟨t, h1, _⟩ := xMU h
 rw [h1]; rfl
def tw (ts : List Tok) : Nat := (ts.map fun t => t.text.length + 3).sum
theorem xI1 (t : Tok) (r : List Tok) : tw (t :: r) = t.text.length + 3 + tw r := by simp [tw]
def xSv (K : Nat) (ts : List Tok) (e : Exp) (r : List Tok) : Prop := e.size + tw r ≤ tw ts ∧ e.Fit K
def xB9 (K : Nat) (f : List Tok → PR Exp) : Prop := ∀ ts e r, (∀ t ∈ ts, t.Fit K) → tw ts ≤ K → f ts = .ok e r → xSv K ts e r ∧ (∀ t ∈ r, t.Fit K) ∧ r.length < ts.length
theorem xF6 {K : Nat} {k n : Int} {t : Str} {a : List Exp} (hk : I64 k) (hn : I64 n) (ht : t.length ≤ K) (ha : a.length ≤ K) (hx : ∀ x ∈ a, x.Fit K) : (Exp.mk k n t a).Fit K :=
 Exp.fit_iff.2 ⟨hk, hn, ht, ha, hx⟩
theorem xFB (k n : Int) (t : Str) (a : List Exp) : (Exp.mk k n t a).size = t.length + (a.length + (a.map Exp.size).sum) := Exp.size_eq _
theorem xDB {x : Int} (h : 0 ≤ x ∧ x ≤ 1000) : I64 x := by unfold I64; omega
theorem xHd {K : Nat} {s : Str} {ts r : List Tok} {u : Unit} (hf : ∀ t ∈ ts, t.Fit K) (h : xFp s ts = .ok u r) : (∀ t ∈ r, t.Fit K) ∧ tw r + 3 ≤ tw ts ∧ r.length < ts.length := by
 obtain ⟨t, rfl, _⟩ := xMV h
 exact ⟨fun x hx => hf x (List.mem_cons_of_mem _ hx), by rw [xI1]; omega, by simp⟩
theorem xOY {K : Nat} {ts : List Tok} (hf : ∀ t ∈ ts, t.Fit K) (h : (∃ t, ts = t :: ts.tail ∧ True)) : (∀ t ∈ ts.tail, t.Fit K) ∧ tw ts.tail + 3 ≤ tw ts ∧ ts.tail.length < ts.length := by
 obtain ⟨t, h1, _⟩ := h
 generalize ts.tail = q at h1
 subst h1
 exact ⟨fun x hx => hf x (List.mem_cons_of_mem _ hx), by rw [xI1]; omega, by simp⟩
theorem xIg {K : Nat} {s : Str} {ts : List Tok} (hf : ∀ t ∈ ts, t.Fit K) (h : seeS s ts = true) : (∀ t ∈ ts.tail, t.Fit K) ∧ tw ts.tail + 3 ≤ tw ts ∧ ts.tail.length < ts.length := by
 obtain ⟨t, h1, _⟩ := xJM h
 exact xOY hf ⟨t, h1, trivial⟩
theorem xMj {K : Nat} {s : Str} {ts : List Tok} (hf : ∀ t ∈ ts, t.Fit K) (h : seeK s ts = true) : (∀ t ∈ ts.tail, t.Fit K) ∧ tw ts.tail + 3 ≤ tw ts ∧ ts.tail.length < ts.length := by
 obtain ⟨t, h1, _⟩ := xLr h
 exact xOY hf ⟨t, h1, trivial⟩
theorem xLu (a b : List Exp) : ((a ++ b).map Exp.size).sum = (a.map Exp.size).sum + (b.map Exp.size).sum := by simp
theorem xLj {K : Nat} {f : List Tok → PR Exp} (hf : xB9 K f) (c : Str) : ∀ (m : Nat) (acc : List Exp) (ts : List Tok) (a : List Exp) (r : List Tok), (∀ t ∈ ts, t.Fit K) → tw ts ≤ K → (∀ x ∈ acc, x.Fit K) → xJc f c m acc ts = .ok a r →
 (a.length + (a.map Exp.size).sum + tw r ≤ acc.length + (acc.map Exp.size).sum + tw ts) ∧ (∀ x ∈ a, x.Fit K) ∧ (∀ t ∈ r, t.Fit K) ∧ r.length < ts.length := by
 intro m
 induction m with
 | zero => intro acc ts a r _ _ _ h; cases h
 | succ m ih =>
   intro acc ts a r h1 h2 h3 h
   obtain ⟨e, q, he, h⟩ := PR.bind_ok h
   obtain ⟨⟨w1, w2⟩, g1, g2⟩ := hf ts e q h1 h2 he
   have hacc : ∀ x ∈ acc ++ [e], x.Fit K := fun x hx => by
    rcases List.mem_append.1 hx with hx | hx
    · exact h3 x hx
    · rw [List.mem_singleton.1 hx]; exact w2
   have hsz : (acc ++ [e]).length + ((acc ++ [e]).map Exp.size).sum = acc.length + (acc.map Exp.size).sum + (1 + e.size) := by
    rw [xLu, jA]; simp only [List.map_cons, List.map_nil, List.sum_cons, List.sum_nil, jC, jN]; omega
   cases hc : seeS c q <;> rw [hc] at h
   · obtain ⟨u, v, hn, h⟩ := PR.bind_ok h
     obtain ⟨n1, n2, n3⟩ := xHd g1 hn
     obtain ⟨a1, a2, a3, a4⟩ := ih (acc ++ [e]) v a r n1 (by omega) hacc h
     exact ⟨by omega, a2, a3, by omega⟩
   · cases h
     obtain ⟨n1, n2, n3⟩ := xIg g1 hc
     exact ⟨by omega, hacc, n1, by omega⟩
theorem xJK {K : Nat} {f : List Tok → PR Exp} (hf : xB9 K f) {m : Nat} {c : Str} {ts r : List Tok} {a : List Exp} (h1 : ∀ t ∈ ts, t.Fit K) (h2 : tw ts ≤ K) (h : xJY f m c ts = .ok a r) :
 (a.length + (a.map Exp.size).sum + tw r ≤ tw ts) ∧ (∀ x ∈ a, x.Fit K) ∧ (∀ t ∈ r, t.Fit K) ∧ r.length < ts.length := by
 unfold xJY at h
 cases hc : seeS c ts <;> rw [hc] at h
 · have := xLj hf c m [] ts a r h1 h2 (fun x hx => by cases hx) h
   simpa using this
 · cases h
   obtain ⟨n1, n2, n3⟩ := xIg h1 hc
   exact ⟨by simp; omega, (fun x hx => by cases hx), n1, n3⟩
theorem xJb {K : Nat} {f : List Tok → PR Exp} (hf : xB9 K f) {m : Nat} {t : Tok} {q r : List Tok} {e : Exp} (h1 : ∀ x ∈ t :: q, x.Fit K) (h2 : tw (t :: q) ≤ K) (h : xJa f m t q = .ok e r) :
 xSv K (t :: q) e r ∧ (∀ x ∈ r, x.Fit K) ∧ r.length < (t :: q).length := by
 have hq : ∀ x ∈ q, x.Fit K := fun x hx => h1 x (List.mem_cons_of_mem _ hx)
 have hw := xI1 t q
 unfold xJa at h
 cases c1 : isS t [91] <;> rw [c1] at h
 · cases c2 : isS t [40] <;> rw [c2] at h
   · cases h
   · obtain ⟨e', u, he, h⟩ := PR.bind_ok h
     obtain ⟨_, v, hn, h⟩ := PR.bind_ok h
     cases h
     obtain ⟨⟨w1, w2⟩, g1, g2⟩ := hf q e u hq (by omega) he
     obtain ⟨n1, n2, n3⟩ := xHd g1 hn
     exact ⟨⟨by omega, w2⟩, n1, by simp only [jC]; omega⟩
 · obtain ⟨a, u, ha, h⟩ := PR.bind_ok h
   cases h
   obtain ⟨w1, w2, w3, w4⟩ := xJK hf hq (by omega) ha
   refine ⟨⟨by rw [xFB]; simp only [jN]; omega, xF6 (xDB (by omega)) (xDB (by omega)) (Nat.zero_le _) (by omega) w2⟩, w3, by simp only [jC]; omega⟩
theorem xGn {K : Nat} {f : List Tok → PR Exp} (hf : xB9 K f) (m : Nat) : xB9 K (xJI f m) := by
 intro ts e r h1 h2 h
 cases ts with
 | nil => cases h
 | cons t q =>
   have hq : ∀ x ∈ q, x.Fit K := fun x hx => h1 x (List.mem_cons_of_mem _ hx)
   obtain ⟨ft1, ft2, ft3, ft4⟩ := h1 t List.mem_cons_self
   have ft4 : t.text.length ≤ K := ft4
   have hw := xI1 t q
   have zero : ∀ x ∈ ([] : List Exp), x.Fit K := fun x hx => by cases hx
   simp only [xJI] at h
   cases c1 : t.kind == 2 <;> rw [c1] at h
   · cases c2 : t.kind == 3 <;> rw [c2] at h
     · cases c3 : t.kind == 1 <;> rw [c3] at h
       · exact xJb hf h1 h2 h
       · cases c4 : xDr t.text <;> rw [c4] at h
         · cases c5 : decide (argc t.text ≥ 0) <;> rw [c5] at h
           · exact xJb hf h1 h2 h
           · obtain ⟨_, u, hn, h⟩ := PR.bind_ok h
             obtain ⟨a, v, ha, h⟩ := PR.bind_ok h
             cases h
             obtain ⟨n1, n2, n3⟩ := xHd hq hn
             obtain ⟨w1, w2, w3, w4⟩ := xJK hf n1 (by omega) ha
             exact ⟨⟨by rw [xFB]; omega, xF6 (xDB (by omega)) (xDB (by omega)) ft4 (by omega) w2⟩, w3, by simp only [jC]; omega⟩
         · cases h
           exact ⟨⟨by rw [xFB]; simp only [jN, List.map_nil, List.sum_nil]; omega, xF6 (xDB (by omega)) (xDB (by omega)) ft4 (Nat.zero_le _) zero⟩, hq, by simp⟩
     · cases h
       exact ⟨⟨by rw [xFB]; simp only [jN, List.map_nil, List.sum_nil]; omega, xF6 (xDB (by omega)) (xDB (by omega)) ft4 (Nat.zero_le _) zero⟩, hq, by simp⟩
   · cases h
     exact ⟨⟨by rw [xFB]; simp only [jN, List.map_nil, List.sum_nil]; omega, xF6 (xDB (by omega)) ft2 (Nat.zero_le _) (Nat.zero_le _) zero⟩, hq, by simp⟩
theorem xJw {K : Nat} {k n : Int} {a b : Exp} {w : Nat} (hk : I64 k) (hn : I64 n) (ha : a.Fit K) (hb : b.Fit K) (h2 : 2 ≤ K) : (Exp.mk k n [] [a, b]).Fit K ∧ (Exp.mk k n [] [a, b]).size = a.size + b.size + 2 :=
 ⟨xF6 hk hn (Nat.zero_le _) h2 (fun x hx => by
   simp only [List.mem_cons, List.not_mem_nil, or_false] at hx
   rcases hx with rfl | rfl <;> assumption), by rw [xFB]; simp only [jC, jN, List.map_cons, List.map_nil, List.sum_cons, List.sum_nil]; omega⟩
theorem xLn {K : Nat} {g : List Tok → PR Exp} (hg : xB9 K g) : ∀ (m : Nat) (a : Exp) (ts : List Tok) (e : Exp) (r : List Tok), (∀ t ∈ ts, t.Fit K) → tw ts ≤ K → a.Fit K → xJd g m a ts = .ok e r →
 e.size + tw r ≤ a.size + tw ts ∧ e.Fit K ∧ (∀ t ∈ r, t.Fit K) ∧ r.length ≤ ts.length := by
 intro m
 induction m with
 | zero => intro a ts e r _ _ _ h; cases h
 | succ m ih =>
   intro a ts e r h1 h2 h3 h
   unfold xJd at h
   cases c1 : seeS [42] ts <;> rw [c1] at h
   · cases h; exact ⟨Nat.le_refl _, h3, h1, Nat.le_refl _⟩
   · obtain ⟨b, q, hb, h⟩ := PR.bind_ok h
     obtain ⟨n1, n2, n3⟩ := xIg h1 c1
     obtain ⟨⟨w1, w2⟩, g1, g2⟩ := hg _ b q n1 (by omega) hb
     obtain ⟨f1, f2⟩ := xJw (w := 0) (k := 6) (n := 3) (xDB (by omega)) (xDB (by omega)) h3 w2 (by omega)
     obtain ⟨p1, p2, p3, p4⟩ := ih _ q e r g1 (by omega) f1 h
     exact ⟨by omega, p2, p3, by omega⟩
theorem xMh {K : Nat} {g : List Tok → PR Exp} (hg : xB9 K g) : ∀ (m : Nat) (a : Exp) (ts : List Tok) (e : Exp) (r : List Tok), (∀ t ∈ ts, t.Fit K) → tw ts ≤ K → a.Fit K → xJj g m a ts = .ok e r →
 e.size + tw r ≤ a.size + tw ts ∧ e.Fit K ∧ (∀ t ∈ r, t.Fit K) ∧ r.length ≤ ts.length := by
 intro m
 induction m with
 | zero => intro a ts e r _ _ _ h; cases h
 | succ m ih =>
   intro a ts e r h1 h2 h3 h
   have one : ∀ (n : Int), I64 n → (∀ t ∈ ts.tail, t.Fit K) ∧ tw ts.tail + 3 ≤ tw ts ∧ ts.tail.length < ts.length → ((g ts.tail).bind fun b r => xJj g m (.mk 6 n [] [a, b]) r) = .ok e r →
    e.size + tw r ≤ a.size + tw ts ∧ e.Fit K ∧ (∀ t ∈ r, t.Fit K) ∧ r.length ≤ ts.length := by
    rintro n hn ⟨n1, n2, n3⟩ h
    obtain ⟨b, q, hb, h⟩ := PR.bind_ok h
    obtain ⟨⟨w1, w2⟩, g1, g2⟩ := hg _ b q n1 (by omega) hb
    obtain ⟨f1, f2⟩ := xJw (w := 0) (k := 6) (n := n) (xDB (by omega)) hn h3 w2 (by omega)
    obtain ⟨p1, p2, p3, p4⟩ := ih _ q e r g1 (by omega) f1 h
    exact ⟨by omega, p2, p3, by omega⟩
   unfold xJj at h
   cases c1 : seeS [43] ts <;> rw [c1] at h
   · cases c2 : seeS [45] ts <;> rw [c2] at h
     · cases h; exact ⟨Nat.le_refl _, h3, h1, Nat.le_refl _⟩
     · exact one 2 (xDB (by omega)) (xIg h1 c2) h
   · exact one 1 (xDB (by omega)) (xIg h1 c1) h
theorem xIe {K : Nat} {g : List Tok → PR Exp} (hg : xB9 K g) (m : Nat) : xB9 K (xLm g m) := by
 intro ts e r h1 h2 h
 obtain ⟨a, q, ha, h⟩ := PR.bind_ok h
 obtain ⟨⟨w1, w2⟩, g1, g2⟩ := hg ts a q h1 h2 ha
 obtain ⟨p1, p2, p3, p4⟩ := xLn hg m a q e r g1 (by omega) w2 h
 exact ⟨⟨by omega, p2⟩, p3, by omega⟩
theorem xNg {K : Nat} {g : List Tok → PR Exp} (hg : xB9 K g) (m : Nat) : xB9 K (pSum g m) := by
 intro ts e r h1 h2 h
 obtain ⟨a, q, ha, h⟩ := PR.bind_ok h
 obtain ⟨⟨w1, w2⟩, g1, g2⟩ := hg ts a q h1 h2 ha
 obtain ⟨p1, p2, p3, p4⟩ := xMh hg m a q e r g1 (by omega) w2 h
 exact ⟨⟨by omega, p2⟩, p3, by omega⟩
theorem xNf {K : Nat} {g : List Tok → PR Exp} (hg : xB9 K g) : xB9 K (pCmp g) := by
 intro ts e r h1 h2 h
 obtain ⟨a, q, ha, h⟩ := PR.bind_ok h
 obtain ⟨⟨w1, w2⟩, g1, g2⟩ := hg ts a q h1 h2 ha
 have one : ∀ (n : Int), I64 n → (∀ t ∈ q.tail, t.Fit K) ∧ tw q.tail + 3 ≤ tw q ∧ q.tail.length < q.length → ((g q.tail).bind fun b r => PR.ok (.mk 6 n [] [a, b]) r) = .ok e r → xSv K ts e r ∧ (∀ x ∈ r, x.Fit K) ∧ r.length < ts.length := by
  rintro n hn ⟨n1, n2, n3⟩ h
  obtain ⟨b, u, hb, h⟩ := PR.bind_ok h
  cases h
  obtain ⟨⟨v1, v2⟩, l1, l2⟩ := hg _ b r n1 (by omega) hb
  obtain ⟨f1, f2⟩ := xJw (w := 0) (k := 6) (n := n) (xDB (by omega)) hn w2 v2 (by omega)
  exact ⟨⟨by omega, f1⟩, l1, by omega⟩
 unfold xOK at h
 cases c1 : seeS [60] q <;> rw [c1] at h
 · cases c2 : seeS [61, 61] q <;> rw [c2] at h
   · cases h; exact ⟨⟨w1, w2⟩, g1, g2⟩
   · exact one 5 (xDB (by omega)) (xIg g1 c2) h
 · exact one 4 (xDB (by omega)) (xIg g1 c1) h
theorem xKk {K : Nat} {f : List Tok → PR Exp} (hf : xB9 K f) {k : Int} (hk : I64 k) {s1 s2 : Str} {ts r : List Tok} {e : Exp} (h1 : ∀ x ∈ ts, x.Fit K) (h2 : tw ts + 3 ≤ K) (h : pTwo f k s1 s2 ts = .ok e r) :
 e.size + tw r ≤ tw ts ∧ e.Fit K ∧ (∀ x ∈ r, x.Fit K) ∧ r.length < ts.length := by
 obtain ⟨x, q1, e1, h⟩ := PR.bind_ok h
 obtain ⟨_, q2, e2, h⟩ := PR.bind_ok h
 obtain ⟨a, q3, e3, h⟩ := PR.bind_ok h
 obtain ⟨_, q4, e4, h⟩ := PR.bind_ok h
 obtain ⟨b, q5, e5, h⟩ := PR.bind_ok h
 cases h
 obtain ⟨t, rfl, rfl, _, _⟩ := xMU e1
 have hq : ∀ x ∈ q1, x.Fit K := fun x hx => h1 x (List.mem_cons_of_mem _ hx)
 have ft4 : t.text.length ≤ K := (h1 t List.mem_cons_self).2.2.2
 have hw := xI1 t q1
 obtain ⟨n1, n2, n3⟩ := xHd hq e2
 obtain ⟨⟨w1, w2⟩, g1, g2⟩ := hf _ a q3 n1 (by omega) e3
 obtain ⟨m1, m2, m3⟩ := xHd g1 e4
 obtain ⟨⟨v1, v2⟩, l1, l2⟩ := hf _ b r m1 (by omega) e5
 refine ⟨by rw [xFB]; simp only [jC, jN, List.map_cons, List.map_nil, List.sum_cons, List.sum_nil]; omega, xF6 hk (xDB (by omega)) ft4 (by simp; omega) (fun x hx => ?_), l1, by simp only [jC]; omega⟩
 simp only [List.mem_cons, List.not_mem_nil, or_false] at hx
 rcases hx with rfl | rfl <;> assumption
theorem xOL {K : Nat} {f : List Tok → PR Exp} (hf : xB9 K f) {ts r : List Tok} {e : Exp} (h1 : ∀ x ∈ ts, x.Fit K) (h2 : tw ts + 3 ≤ K) (h : pIf f ts = .ok e r) :
 e.size + tw r ≤ tw ts ∧ e.Fit K ∧ (∀ x ∈ r, x.Fit K) ∧ r.length < ts.length := by
 obtain ⟨a, q1, e1, h⟩ := PR.bind_ok h
 obtain ⟨_, q2, e2, h⟩ := PR.bind_ok h
 obtain ⟨b, q3, e3, h⟩ := PR.bind_ok h
 obtain ⟨_, q4, e4, h⟩ := PR.bind_ok h
 obtain ⟨c, q5, e5, h⟩ := PR.bind_ok h
 cases h
 obtain ⟨⟨w1, w2⟩, g1, g2⟩ := hf _ a q1 h1 (by omega) e1
 obtain ⟨n1, n2, n3⟩ := xHd g1 e2
 obtain ⟨⟨v1, v2⟩, l1, l2⟩ := hf _ b q3 n1 (by omega) e3
 obtain ⟨m1, m2, m3⟩ := xHd l1 e4
 obtain ⟨⟨x1, x2⟩, y1, y2⟩ := hf _ c r m1 (by omega) e5
 refine ⟨by rw [xFB]; simp only [jC, jN, List.map_cons, List.map_nil, List.sum_cons, List.sum_nil]; omega, xF6 (xDB (by omega)) (xDB (by omega)) (Nat.zero_le _) (by simp; omega) (fun x hx => ?_), y1, by omega⟩
 simp only [List.mem_cons, List.not_mem_nil, or_false] at hx
 rcases hx with rfl | rfl | rfl <;> assumption
theorem xIf {K : Nat} {f : List Tok → PR Exp} (hf : xB9 K f) (m : Nat) : xB9 K (xOM f m) := xNg (xIe (xGn hf m) m) m
theorem xLi {K : Nat} {f g : List Tok → PR Exp} (hf : xB9 K f) (hg : xB9 K g) : xB9 K (xJJ f g) := by
 intro ts e r h1 h2 h
 unfold xJJ at h
 cases c1 : seeK [108, 101, 116] ts <;> rw [c1] at h
 · cases c2 : seeK [105, 102] ts <;> rw [c2] at h
   · cases c3 : seeK [102, 111, 114] ts <;> rw [c3] at h
     · exact xNf hg ts e r h1 h2 h
     · obtain ⟨n1, n2, n3⟩ := xMj h1 c3
       obtain ⟨a1, a2, a3, a4⟩ := xKk hf (xDB (by omega)) n1 (by omega) h
       exact ⟨⟨by omega, a2⟩, a3, by omega⟩
   · obtain ⟨n1, n2, n3⟩ := xMj h1 c2
     obtain ⟨a1, a2, a3, a4⟩ := xOL hf n1 (by omega) h
     exact ⟨⟨by omega, a2⟩, a3, by omega⟩
 · obtain ⟨n1, n2, n3⟩ := xMj h1 c1
   obtain ⟨a1, a2, a3, a4⟩ := xKk hf (xDB (by omega)) n1 (by omega) h
   exact ⟨⟨by omega, a2⟩, a3, by omega⟩
theorem xEr {K : Nat} : ∀ m, xB9 K (pE m)
 | 0 => fun ts e r _ _ h => by cases h
 | m + 1 => xLi (xEr m) (xIf (xEr m) (m + 1))
end Go.Ab
end
section
namespace Go.Ab
def gp (T ts : List Tok) : Psr := ⟨T, ((T.length - ts.length : Nat) : Int), -1⟩
def BadP (T ts : List Tok) (p : Psr) : Prop := p.list = T ∧ p.bad = ((T.length - ts.length : Nat) : Int) ∧ ts <:+ T
def SimP {α : Type} (T : List Tok) (R : PR α) (x : Option (α × Psr)) : Prop := match R with
 | .ok a ts => ts <:+ T ∧ x = some (a, gp T ts)
 | .err ts => ∃ a p, x = some (a, p) ∧ BadP T ts p
theorem BadP.nn {T ts : List Tok} {p : Psr} (h : BadP T ts p) : 0 ≤ p.bad := by rw [h.2.1]; omega
theorem SimP.bind {α β : Type} {T : List Tok} {R : PR α} {x : Option (α × Psr)} {k : α → List Tok → PR β} {g : α × Psr → Option (β × Psr)} (h : SimP T R x)
 (hk : ∀ a ts, R = .ok a ts → ts <:+ T → SimP T (k a ts) (g (a, gp T ts))) (hb : ∀ a p, 0 ≤ p.bad → ∃ b, g (a, p) = some (b, p)) : SimP T (R.bind k) (Option.bind x g) := by
 cases R with
 | ok a ts =>
   obtain ⟨h1, h2⟩ := h
   rw [h2]
   exact hk a ts rfl h1
 | err ts =>
   obtain ⟨a, p, h1, h2⟩ := h
   obtain ⟨b, h3⟩ := hb a p h2.nn
   rw [h1]
   exact ⟨b, p, h3, h2⟩
def hdT : List Tok → Tok
 | [] => Tok.mk 0 0 0 []
 | t :: _ => t
theorem xJ8 (N : Nat) (t : Tok) (s : Str) : xER N t s = some (isS t s) := by unfold xER isS; cases t.kind == 4 <;> rfl
theorem xJ7 (N : Nat) (t : Tok) (s : Str) : xDD N t s = some (isK t s) := by unfold xDD isK; cases t.kind == 1 <;> rfl
theorem xXf (s : Str) (ts : List Tok) : isK (hdT ts) s = seeK s ts := by cases ts <;> rfl
theorem xSj (s : Str) (ts : List Tok) : isS (hdT ts) s = seeS s ts := by cases ts <;> rfl
theorem xB7 {T ts : List Tok} (h : ts <:+ T) : ts.tail <:+ T := (List.tail_suffix ts).trans h
theorem xGk {T ts : List Tok} (N : Nat) (h : ts <:+ T) : xBm N (gp T ts) = some (hdT ts, gp T ts) := by
 obtain ⟨pre, rfl⟩ := h
 have e : (pre ++ ts).length - ts.length = pre.length := by rw [jA]; omega
 unfold xBm
 simp only [gp, e]
 rw [show decide ((-1 : Int) < 0) = true from rfl, jT]
 cases ts with
 | nil => rw [decide_eq_false (by simp), jF]; rfl
 | cons t r =>
   rw [decide_eq_true (by simp only [jA, jC]; omega), jT, if_pos (by simp only [jA, jC]; omega)]
   simp [List.getD, hdT]
theorem xI2 {T ts : List Tok} (hT : T.length ≤ 1000) (h : ts <:+ T) (hne : ts.tail.length + 1 = ts.length) : Psr.mk (gp T ts).list (IntKind.i64.wrap ((gp T ts).pos + 1)) (gp T ts).bad = gp T ts.tail := by
 have hl := h.length_le
 unfold gp
 have : IntKind.i64.wrap (((T.length - ts.length : Nat) : Int) + 1) = ((T.length - ts.tail.length : Nat) : Int) := by rw [xBG (by omega) (by omega)]; omega
 simp only [this]
theorem xF8 {T ts : List Tok} {s : Str} (N : Nat) (hT : T.length ≤ 1000) (h : ts <:+ T) (hs : seeS s ts = true) : xAC N (gp T ts) s = some (true, gp T ts.tail) := by
 unfold xAC
 rw [xGk N h]
 simp only [jS, xJ8, xSj, hs, jT, xI2 hT h (xFc hs)]
theorem xFG {T ts : List Tok} {s : Str} (N : Nat) (h : ts <:+ T) (hs : seeS s ts = false) : xAC N (gp T ts) s = some (false, gp T ts) := by
 unfold xAC
 rw [xGk N h]
 simp only [jS, xJ8, xSj, hs, jF]
theorem xKq {T ts : List Tok} (N : Nat) (h : ts <:+ T) : ∃ p, xBI N (gp T ts) = some (.mk 0 0 [] [], p) ∧ BadP T ts p := ⟨_, rfl, rfl, rfl, h⟩
theorem xJo {p : Psr} (N : Nat) (h : 0 ≤ p.bad) : xBm N p = some (Tok.mk 0 0 0 [], p) := by
 unfold xBm; rw [decide_eq_false (by omega), jF]
theorem xFN {p : Psr} (N : Nat) (s : Str) (h : 0 ≤ p.bad) : xAC N p s = some (false, p) := by
 unfold xAC; rw [xJo N h]; rfl
theorem xMt {p : Psr} (N : Nat) (h : 0 ≤ p.bad) : xBI N p = some (.mk 0 0 [] [], p) := by
 unfold xBI; rw [decide_eq_false (by omega), jF]
theorem xGu {p : Psr} (N : Nat) (s : Str) (h : 0 ≤ p.bad) : xAx N p s = some p := by
 unfold xAx; simp only [xJo N h, jS, xJ7, xJ8, xMt N h]; rfl
theorem SimP.need {β : Type} {T ts : List Tok} {s : Str} {N : Nat} {k : Unit → List Tok → PR β} {g : Psr → Option (β × Psr)} (hT : T.length ≤ 1000) (h : ts <:+ T)
 (hk : ∀ r, xFp s ts = .ok () r → r <:+ T → SimP T (k () r) (g (gp T r))) (hb : ∀ p, 0 ≤ p.bad → ∃ b, g p = some (b, p)) : SimP T ((xFp s ts).bind k) (Option.bind (xAx N (gp T ts) s) g) := by
 have bad : isK (hdT ts) s = false → isS (hdT ts) s = false → ∀ R : PR β, R = .err ts → SimP T R (Option.bind (xAx N (gp T ts) s) g) := by
  intro h1 h2 R hR
  subst hR
  obtain ⟨p, hp1, hp2⟩ := xKq N h
  obtain ⟨b, hb⟩ := hb p hp2.nn
  refine ⟨b, p, ?_, hp2⟩
  unfold xAx
  simp only [xGk N h, jS, xJ7, xJ8, h1, h2, jF, hp1, hb]
 cases ts with
 | nil => exact bad rfl rfl _ rfl
 | cons t r =>
   cases h1 : isK t s
   · cases h2 : isS t s
     · exact bad h1 h2 _ (by simp only [xFp, h1, h2, Bool.or_false, jF, PR.bind])
     · have e : xFp s (t :: r) = .ok () r := by simp only [xFp, h1, h2, Bool.or_true, jT]
       rw [e]
       have := hk r e (xB7 h)
       unfold xAx
       simp only [xGk N h, jS, xJ7, xJ8, hdT, h1, h2, jF, jT, xI2 hT h rfl]
       exact this
   · have e : xFp s (t :: r) = .ok () r := by simp only [xFp, h1, Bool.true_or, jT]
     rw [e]
     have := hk r e (xB7 h)
     unfold xAx
     simp only [xGk N h, jS, xJ7, xJ8, hdT, h1, jF, jT, xI2 hT h rfl]
     exact this
structure TokT (K : Nat) (T : List Tok) : Prop where
 len : T.length ≤ 1000
 fit : ∀ t ∈ T, t.Fit K
 tw : tw T ≤ K
theorem xXB {T ts : List Tok} (h : ts <:+ T) : tw ts ≤ tw T := by
 obtain ⟨pre, rfl⟩ := h
 simp [tw]
theorem TokT.suf {K : Nat} {T ts : List Tok} (hT : TokT K T) (h : ts <:+ T) : (∀ t ∈ ts, t.Fit K) ∧ Ab.tw ts ≤ K := ⟨fun t ht => hT.fit t (h.subset ht), Nat.le_trans (xXB h) hT.tw⟩
theorem eat {K : Nat} {T ts r : List Tok} {f : List Tok → PR Exp} {e : Exp} (hT : TokT K T) (hf : xB9 K f) (h : ts <:+ T) (he : f ts = .ok e r) : r.length < ts.length := by
 obtain ⟨h1, h2⟩ := hT.suf h
 exact (hf ts e r h1 h2 he).2.2
theorem xPl {K : Nat} {T ts : List Tok} {N : Nat} (hT : TokT K T) (hN : K < N) (hK : K ≤ 1048576) (h : ts <:+ T) : SimP T (xLk ts) (xBJ N (gp T ts)) := by
 have bad : xBJ N (gp T ts) = Option.bind (xBI N (gp T ts)) (fun r2 => some ([], r2.2)) → SimP T (.err ts : PR Str) (xBJ N (gp T ts)) := fun he => by
  obtain ⟨p, h1, h2⟩ := xKq N h
  rw [he, h1]
  exact ⟨[], p, rfl, h2⟩
 cases ts with
 | nil =>
   refine bad ?_
   unfold xBJ
   simp only [xGk N h, jS, hdT]; rfl
 | cons t r =>
   have hft := hT.fit t (h.subset List.mem_cons_self)
   have hlen : t.text.length ≤ K := hft.2.2.2
   have hv := xFf (N := N) (s := t.text) (by omega) (by omega)
   simp only [xLk]
   cases h1 : t.kind == 1
   · refine bad ?_
     unfold xBJ
     simp only [xGk N h, jS, hdT, bne, h1, Bool.not_false, jT]
   · cases h2 : xDr t.text
     · refine bad ?_
       unfold xBJ
       simp only [xGk N h, jS, hdT, bne, h1, hv, h2, Bool.not_true, Bool.not_false, jT, jF]
     · refine ⟨xB7 h, ?_⟩
       unfold xBJ
       simp only [xGk N h, jS, hdT, bne, h1, hv, h2, Bool.not_true, jT, jF, xI2 hT.len h rfl]
       rfl
abbrev e0 : Exp := .mk 0 0 [] []
def xGc (q : Psr → Option (Exp × Psr)) : Prop := ∀ p, 0 ≤ p.bad → q p = some (e0, p)
def xNn (q : Psr → Str → Option (List Exp × Psr)) : Prop := ∀ p s, 0 ≤ p.bad → q p s = some ([], p)
def FPs (T : List Tok) (n : Nat) (f : List Tok → PR Exp) (q : Psr → Option (Exp × Psr)) : Prop := ∀ ts, ts <:+ T → ts.length < n → SimP T (f ts) (q (gp T ts))
section
variable {K : Nat} {T : List Tok} {N : Nat} {q0 q1 : Psr → Option (Exp × Psr)} {q2 : Psr → Str → Option (List Exp × Psr)} {q3 q4 : Psr → Option (Exp × Psr)}
theorem xLC : decide ((-1 : Int) < 0) = true := rfl
theorem xNA (T ts : List Tok) : (gp T ts).bad = -1 := rfl
theorem xNF (hT : TokT K T) {n : Nat} {f : List Tok → PR Exp} (hf : xB9 K f) (hq : FPs T n f q1) (hb : xGc q1) (c : Str) : ∀ (m fuel : Nat) (acc : List Exp) (ts : List Tok), ts <:+ T → ts.length < n → ts.length < m → ts.length + 1 < fuel → acc.length + ts.length ≤ 2000 →
 SimP T (xJc f c m acc ts) (xB3 N q0 q1 q2 q3 q4 fuel c acc (gp T ts)) := by
 intro m
 induction m with
 | zero => intro fuel acc ts _ _ h; omega
 | succ m ih =>
   intro fuel acc ts h hn hm hfu ha
   obtain ⟨fuel, rfl⟩ : ∃ k, fuel = k + 1 := ⟨fuel - 1, by omega⟩
   simp only [xJc, xB3, xNA, xLC, jT]
   refine SimP.bind (hq ts h hn) (fun e r he hr => ?_) (fun e p hp => ?_)
   · have hl := eat hT hf h he
     simp only [Exp.re_eq]
     rw [if_pos (by simp only [jC, jN]; unfold Lim; omega)]
     cases hs : seeS c r
     · rw [xFG N hr hs, jS]
       simp only [jF]
       refine SimP.need hT.len hr (fun q hq' hqs => ?_) (fun p hp => ?_)
       · have := xEK hq'
         exact ih fuel (acc ++ [e]) q hqs (by omega) (by omega) (by omega) (by simp only [jA, jC, jN]; omega)
       · obtain ⟨fuel, rfl⟩ : ∃ k, fuel = k + 1 := ⟨fuel - 1, by omega⟩
         exact ⟨acc ++ [e], by simp only [xB3]; rw [decide_eq_false (by omega), jF]⟩
     · rw [xF8 N hT.len hr hs, jS]
       exact ⟨xB7 hr, rfl⟩
   · obtain ⟨fuel, rfl⟩ : ∃ k, fuel = k + 1 := ⟨fuel - 1, by omega⟩
     simp only [Exp.re_eq]
     rw [if_pos (by simp only [jC, jN]; unfold Lim; omega), xFN N c hp, jS]
     simp only [jF, xGu N _ hp, jS]
     exact ⟨acc ++ [e], by simp only [xB3]; rw [decide_eq_false (by omega), jF]⟩
theorem xPi (hN : 0 < N) (s : Str) {p : Psr} (h : 0 ≤ p.bad) : xB5 N q0 q1 q2 q3 q4 p s = some ([], p) := by
 obtain ⟨M, rfl⟩ : ∃ k, N = k + 1 := ⟨N - 1, by omega⟩
 unfold xB5
 rw [xFN _ s h, jS]
 simp only [jF, xB3]
 rw [decide_eq_false (by omega), jF]
theorem xPj (hT : TokT K T) (hN : 1002 < N) {n m : Nat} {f : List Tok → PR Exp} (hf : xB9 K f) (hq : FPs T n f q1) (hb : xGc q1) (c : Str) {ts : List Tok} (h : ts <:+ T) (hn : ts.length < n) (hm : ts.length < m) :
 SimP T (xJY f m c ts) (xB5 N q0 q1 q2 q3 q4 (gp T ts) c) := by
 have hl := h.length_le
 have := hT.len
 unfold xJY xB5
 cases hs : seeS c ts
 · rw [xFG N h hs, jS]
   simp only [jF]
   exact xNF hT hf hq hb c m N [] ts h hn hm (by omega) (by simp; omega)
 · rw [xF8 N hT.len h hs, jS]
   exact ⟨xB7 h, rfl⟩
def FPl (T : List Tok) (n m : Nat) (f : List Tok → PR Exp) (q : Psr → Str → Option (List Exp × Psr)) : Prop := ∀ c ts, ts <:+ T → ts.length < n → SimP T (xJY f m c ts) (q (gp T ts) c)
theorem xMq {p : Psr} (h : 0 ≤ p.bad) : xCb N q0 q1 q2 q3 q4 p = some (e0, p) := by
 unfold xCb
 simp only [xJo N h, jS, xFN N _ h, xMt N h]
 rfl
theorem xLa (hT : TokT K T) {n m : Nat} {f : List Tok → PR Exp} (hf : xB9 K f) (hq : FPs T n f q1) (hb : xGc q1) (hl : FPl T n m f q2) (hbl : xNn q2) {t : Tok} {r : List Tok} (h : t :: r <:+ T) (hn : r.length < n) :
 SimP T (xJa f m t r) (Option.bind (xAC N (gp T (t :: r)) [91]) fun r2 =>
  bif r2.1 then (
   Option.bind (q2 r2.2 [93]) fun r3 =>
   some ((Exp.mk 4 0 [] r3.1), r3.2)
  ) else (
    Option.bind (xAC N r2.2 [40]) fun r3 =>
    bif r3.1 then (
     Option.bind (q1 r3.2) fun r4 =>
     Option.bind (xAx N r4.2 [41]) fun r5 =>
     some (r4.1, r5)
    ) else (
      Option.bind (xBI N r3.2) fun r4 =>
      some (r4.1, r4.2)
    )
  )) := by
 have hr : r <:+ T := xB7 h
 unfold xJa
 cases h1 : isS t [91]
 · rw [xFG N h h1, jS]
   simp only [jF]
   cases h2 : isS t [40]
   · rw [xFG N h h2, jS]
     simp only [jF]
     obtain ⟨p, hp1, hp2⟩ := xKq N h
     rw [hp1]
     exact ⟨_, p, rfl, hp2⟩
   · rw [xF8 N hT.len h h2, jS]
     simp only [jT, List.tail_cons]
     refine SimP.bind (hq r hr hn) (fun e u he hu => ?_) (fun e p hp => ⟨e, by simp only [xGu N _ hp, jS]⟩)
     exact SimP.need hT.len hu (fun v _ hv => ⟨hv, rfl⟩) (fun p hp => ⟨e, rfl⟩)
 · rw [xF8 N hT.len h h1, jS]
   simp only [jT, List.tail_cons]
   exact SimP.bind (hl [93] r hr hn) (fun a u _ hu => ⟨hu, rfl⟩) (fun a p hp => ⟨_, rfl⟩)
theorem xO9 (hT : TokT K T) (hN : K < N) (hK : K ≤ 1048576) {n m : Nat} {f : List Tok → PR Exp} (hf : xB9 K f) (hq : FPs T n f q1) (hb : xGc q1) (hl : FPl T n m f q2) (hbl : xNn q2) :
 FPs T (n + 1) (xJI f m) (xCb N q0 q1 q2 q3 q4) := by
 intro ts h hn
 unfold xCb
 rw [xGk N h, jS]
 cases ts with
 | nil =>
   simp only [hdT, xFG N h (s := [91]) rfl, xFG N h (s := [40]) rfl, jS]
   obtain ⟨p, hp1, hp2⟩ := xKq N h
   exact ⟨_, p, by rw [hp1]; rfl, hp2⟩
 | cons t r =>
   have hr : r <:+ T := xB7 h
   have hn' : r.length < n := by simp only [jC] at hn; omega
   have hft := hT.fit t (h.subset List.mem_cons_self)
   have hlen : t.text.length ≤ K := hft.2.2.2
   have hv := xFf (N := N) (s := t.text) (by omega) (by omega)
   have hadv := xI2 hT.len h rfl
   rw [List.tail_cons] at hadv
   simp only [xJI, hdT, hadv]
   cases h1 : t.kind == 2
   · cases h2 : t.kind == 3
     · cases h3 : t.kind == 1
       · exact xLa hT hf hq hb hl hbl h hn'
       · simp only [jT, jF, hv, jS]
         cases h4 : xDr t.text
         · simp only [jF, xFP, jS]
           cases h5 : decide (argc t.text ≥ 0)
           · exact xLa hT hf hq hb hl hbl h hn'
           · simp only [jT]
             refine SimP.need hT.len hr (fun u hu hus => ?_) (fun p hp => ⟨_, by rw [hbl p _ hp, jS]⟩)
             have := xEK hu
             exact SimP.bind (hl [41] u hus (by omega)) (fun a v _ hv => ⟨hv, rfl⟩) (fun a p hp => ⟨_, rfl⟩)
         · exact ⟨hr, rfl⟩
     · exact ⟨hr, rfl⟩
   · exact ⟨hr, rfl⟩
theorem xON (hT : TokT K T) {n : Nat} {g : List Tok → PR Exp} (hg : xB9 K g) (hq : FPs T n g q0) (hb : xGc q0) (b2 : Exp) : ∀ (m fuel : Nat) (a : Exp) (ts : List Tok), ts <:+ T → ts.length ≤ n → ts.length < m → ts.length < fuel →
 SimP T (xJd g m a ts) (xBF N q0 q1 q2 q3 q4 fuel (gp T ts) b2 a) := by
 intro m
 induction m with
 | zero => intro fuel a ts _ _ h; omega
 | succ m ih =>
   intro fuel a ts h hn hm hfu
   obtain ⟨fuel, rfl⟩ : ∃ k, fuel = k + 1 := ⟨fuel - 1, by omega⟩
   simp only [xJd, xBF]
   cases hs : seeS [42] ts
   · rw [xFG N h hs, jS]
     exact ⟨h, rfl⟩
   · have hl := xFc hs
     rw [xF8 N hT.len h hs, jS]
     simp only [jT, Exp.re_eq]
     obtain ⟨fuel, rfl⟩ : ∃ k, fuel = k + 1 := ⟨fuel - 1, by omega⟩
     refine SimP.bind (hq ts.tail (xB7 h) (by omega)) (fun b r hbr hr => ?_) (fun b p hp => ⟨.mk 6 3 [] [a, b], by simp only [xBF, xFN N _ hp, jS, jF]⟩)
     have := eat hT hg (xB7 h) hbr
     exact ih (fuel + 1) _ r hr (by omega) (by omega) (by omega)
theorem xSa (hT : TokT K T) (hN : 1002 < N) {n m : Nat} {g : List Tok → PR Exp} (hg : xB9 K g) (hq : FPs T n g q0) (hb : xGc q0) (hnm : n ≤ m) : FPs T n (xLm g m) (xBL N q0 q1 q2 q3 q4) := by
 intro ts h hn
 have hl := h.length_le
 have := hT.len
 unfold xLm xBL
 obtain ⟨M, rfl⟩ : ∃ k, N = k + 1 := ⟨N - 1, by omega⟩
 refine SimP.bind (hq ts h hn) (fun b r hbr hr => ?_) (fun b p hp => ⟨b, by simp only [xBF, xFN _ _ hp, jS, jF]⟩)
 have := eat hT hg h hbr
 exact xON hT hg hq hb e0 m (M + 1) b r hr (by omega) (by omega) (by omega)
theorem xMX (hN : 0 < N) (hb : xGc q0) : xGc (xBL N q0 q1 q2 q3 q4) := by
 intro p hp
 obtain ⟨M, rfl⟩ : ∃ k, N = k + 1 := ⟨N - 1, by omega⟩
 unfold xBL
 simp only [hb p hp, jS, xBF, xFN _ _ hp, jF]
theorem xSh (hT : TokT K T) {n : Nat} {g : List Tok → PR Exp} (hg : xB9 K g) (hq : FPs T n g q3) (hb : xGc q3) (b2 : Exp) : ∀ (m fuel : Nat) (a : Exp) (ts : List Tok), ts <:+ T → ts.length ≤ n → ts.length < m → ts.length < fuel →
 SimP T (xJj g m a ts) (xBO N q0 q1 q2 q3 q4 fuel (gp T ts) b2 a) := by
 intro m
 induction m with
 | zero => intro fuel a ts _ _ h; omega
 | succ m ih =>
   intro fuel a ts h hn hm hfu
   obtain ⟨fuel, rfl⟩ : ∃ k, fuel = k + 1 := ⟨fuel - 1, by omega⟩
   have step : ∀ s k, seeS s ts = true → SimP T ((g ts.tail).bind fun b r => xJj g m (.mk 6 k [] [a, b]) r) (Option.bind (q3 (gp T ts.tail)) fun r3 => xBO N q0 q1 q2 q3 q4 fuel r3.2 b2 (Exp.mk 6 k [] [(Exp.re a), (Exp.re r3.1)])) := by
    intro s k hs
    have hl := xFc hs
    simp only [Exp.re_eq]
    obtain ⟨fuel, rfl⟩ : ∃ k, fuel = k + 1 := ⟨fuel - 1, by omega⟩
    refine SimP.bind (hq ts.tail (xB7 h) (by omega)) (fun b r hbr hr => ?_) (fun b p hp => ⟨.mk 6 k [] [a, b], by simp only [xBO]; rw [decide_eq_false (by omega), jF]⟩)
    have := eat hT hg (xB7 h) hbr
    exact ih (fuel + 1) _ r hr (by omega) (by omega) (by omega)
   simp only [xJj, xBO, xNA, xLC, jT]
   cases hs : seeS [43] ts
   · rw [xFG N h hs, jS]
     simp only [Bool.not_false, jT, jF]
     cases hs2 : seeS [45] ts
     · rw [xFG N h hs2, jS]
       exact ⟨h, rfl⟩
     · rw [xF8 N hT.len h hs2, jS]
       simp only [Bool.not_true, jF, jT]
       exact step _ 2 hs2
   · rw [xF8 N hT.len h hs, jS]
     simp only [Bool.not_true, jF, jT]
     exact step _ 1 hs
theorem xWD (hT : TokT K T) (hN : 1002 < N) {n m : Nat} {g : List Tok → PR Exp} (hg : xB9 K g) (hq : FPs T n g q3) (hb : xGc q3) (hnm : n ≤ m) : FPs T n (pSum g m) (xCt N q0 q1 q2 q3 q4) := by
 intro ts h hn
 have hl := h.length_le
 have := hT.len
 unfold pSum xCt
 obtain ⟨M, rfl⟩ : ∃ k, N = k + 1 := ⟨N - 1, by omega⟩
 refine SimP.bind (hq ts h hn) (fun b r hbr hr => ?_) (fun b p hp => ⟨b, by simp only [xBO]; rw [decide_eq_false (by omega), jF]⟩)
 have := eat hT hg h hbr
 exact xSh hT hg hq hb e0 m (M + 1) b r hr (by omega) (by omega) (by omega)
theorem xOV (hN : 0 < N) (hb : xGc q3) : xGc (xCt N q0 q1 q2 q3 q4) := by
 intro p hp
 obtain ⟨M, rfl⟩ : ∃ k, N = k + 1 := ⟨N - 1, by omega⟩
 unfold xCt
 simp only [hb p hp, jS, xBO]
 rw [decide_eq_false (by omega), jF]
theorem xSq (N : Nat) : xFr N (List.getD [4, 5] (Int.toNat 0) Ty.int.dflt) = some [60] := rfl
theorem xSr (N : Nat) : xFr N (List.getD [4, 5] (Int.toNat 1) Ty.int.dflt) = some [61, 61] := rfl
theorem xNx {p : Psr} (hp : 0 ≤ p.bad) (fuel : Nat) (a b2 : Exp) : xCs N q0 q1 q2 q3 q4 (fuel + 3) [4, 5] (List.length [4, 5] : Int) 0 p b2 a = some (a, p) := by
 have e1 : IntKind.i64.wrap (0 + 1) = 1 := rfl
 have e2 : IntKind.i64.wrap (1 + 1) = 2 := rfl
 simp only [xCs, xSq, xSr, jS, xFN N _ hp, jF, e1, e2]
 rfl
theorem xSA (hT : TokT K T) {n : Nat} {g : List Tok → PR Exp} (hg : xB9 K g) (hq : FPs T n g q4) (hb : xGc q4) (fuel : Nat) (a b2 : Exp) {ts : List Tok} (h : ts <:+ T) (hn : ts.length ≤ n) :
 SimP T (xOK g a ts) (xCs N q0 q1 q2 q3 q4 (fuel + 3) [4, 5] (List.length [4, 5] : Int) 0 (gp T ts) b2 a) := by
 have e1 : IntKind.i64.wrap (0 + 1) = 1 := rfl
 have e2 : IntKind.i64.wrap (1 + 1) = 2 := rfl
 have c0 : decide ((0 : Int) < (List.length [4, 5] : Int)) = true := rfl
 have c1 : decide ((1 : Int) < (List.length [4, 5] : Int)) = true := rfl
 have c2 : decide ((2 : Int) < (List.length [4, 5] : Int)) = false := rfl
 have i0 : (0 : Int) ≤ 0 ∧ (0 : Int) < (List.length [4, 5] : Int) := by decide
 have i1 : (0 : Int) ≤ 1 ∧ (1 : Int) < (List.length [4, 5] : Int) := by decide
 have step : ∀ s k, seeS s ts = true → SimP T ((g ts.tail).bind fun b r => PR.ok (.mk 6 k [] [a, b]) r) (Option.bind (q4 (gp T ts.tail)) fun r3 => some ((Exp.mk 6 k [] [(Exp.re a), (Exp.re r3.1)]), r3.2)) := by
  intro s k hs
  have hl := xFc hs
  simp only [Exp.re_eq]
  exact SimP.bind (hq ts.tail (xB7 h) (by omega)) (fun b r hbr hr => ⟨hr, rfl⟩) (fun b p hp => ⟨_, rfl⟩)
 unfold xOK
 simp only [xCs, c0, c1, c2, if_pos i0, if_pos i1, jT, jF, xSq, xSr, e1, e2, jS]
 cases hs : seeS [60] ts
 · rw [xFG N h hs, jS]
   simp only [jF]
   cases hs2 : seeS [61, 61] ts
   · rw [xFG N h hs2, jS]
     exact ⟨h, rfl⟩
   · rw [xF8 N hT.len h hs2, jS]
     exact step _ 5 hs2
 · rw [xF8 N hT.len h hs, jS]
   exact step _ 4 hs
theorem xPe (hN : 3 ≤ N) (hb : xGc q4) : xGc (xCc N q0 q1 q2 q3 q4) := by
 intro p hp
 obtain ⟨M, rfl⟩ : ∃ k, N = k + 3 := ⟨N - 3, by omega⟩
 unfold xCc
 simp only [xJo _ hp, jS, xJ7, hb p hp]
 exact xNx hp M e0 e0
theorem lim1 (x : Exp) : 0 + List.length [x] ≤ Lim := by simp [Lim]
theorem lim2 (x y : Exp) : List.length ([] ++ [x]) + List.length [y] ≤ Lim := by simp [Lim]
theorem lim3 (x y z : Exp) : List.length (([] ++ [x]) ++ [y]) + List.length [z] ≤ Lim := by simp [Lim]
theorem xO0 (hT : TokT K T) (hN : K < N) (hK : K ≤ 1048576) {n : Nat} {f : List Tok → PR Exp} (hf : xB9 K f) (hq : FPs T n f q1) (hb : xGc q1) (k : Int) (s1 s2 : Str) {ts : List Tok} (h : ts <:+ T) (hn : ts.length < n) :
 SimP T (pTwo f k s1 s2 ts) (Option.bind (xBJ N (gp T ts)) fun r3 => Option.bind (xAx N r3.2 s1) fun r4 => Option.bind (q1 r4) fun r5 =>
  if 0 + List.length [(Exp.re r5.1)] ≤ Lim then Option.bind (xAx N r5.2 s2) fun r6 => Option.bind (q1 r6) fun r7 =>
   if List.length ([] ++ [(Exp.re r5.1)]) + List.length [(Exp.re r7.1)] ≤ Lim then some ((Exp.mk k 0 r3.1 (([] ++ [(Exp.re r5.1)]) ++ [(Exp.re r7.1)])), r7.2) else none else none) := by
 simp only [if_pos (lim1 _), if_pos (lim2 _ _), Exp.re_eq]
 refine SimP.bind (xPl hT hN hK h) (fun x r1 hx hr1 => ?_) (fun x p hp => ⟨.mk k 0 x [e0, e0], by simp only [xGu N _ hp, hb p hp, jS]; rfl⟩)
 have l1 := xLl hx
 refine SimP.need hT.len hr1 (fun r2 h2 hr2 => ?_) (fun p hp => ⟨.mk k 0 x [e0, e0], by simp only [xGu N _ hp, hb p hp, jS]; rfl⟩)
 have l2 := xEK h2
 refine SimP.bind (hq r2 hr2 (by omega)) (fun a r3 h3 hr3 => ?_) (fun a p hp => ⟨.mk k 0 x [a, e0], by simp only [xGu N _ hp, hb p hp, jS]; rfl⟩)
 have l3 := eat hT hf hr2 h3
 refine SimP.need hT.len hr3 (fun r4 h4 hr4 => ?_) (fun p hp => ⟨.mk k 0 x [a, e0], by simp only [hb p hp, jS]; rfl⟩)
 have l4 := xEK h4
 exact SimP.bind (hq r4 hr4 (by omega)) (fun b r5 h5 hr5 => ⟨hr5, rfl⟩) (fun b p hp => ⟨_, rfl⟩)
theorem xXe (hT : TokT K T) {n : Nat} {f : List Tok → PR Exp} (hf : xB9 K f) (hq : FPs T n f q1) (hb : xGc q1) {ts : List Tok} (h : ts <:+ T) (hn : ts.length < n) :
 SimP T (pIf f ts) (Option.bind (q1 (gp T ts)) fun r5 =>
  if 0 + List.length [(Exp.re r5.1)] ≤ Lim then
  Option.bind (xAx N r5.2 [116, 104, 101, 110]) fun r6 =>
  Option.bind (q1 r6) fun r7 =>
  if List.length ([] ++ [(Exp.re r5.1)]) + List.length [(Exp.re r7.1)] ≤ Lim then
  Option.bind (xAx N r7.2 [101, 108, 115, 101]) fun r8 =>
  Option.bind (q1 r8) fun r9 =>
  if List.length (([] ++ [(Exp.re r5.1)]) ++ [(Exp.re r7.1)]) + List.length [(Exp.re r9.1)] ≤ Lim then
  some ((Exp.mk 8 0 [] ((([] ++ [(Exp.re r5.1)]) ++ [(Exp.re r7.1)]) ++ [(Exp.re r9.1)])), r9.2)
  else none
  else none
  else none) := by
 simp only [if_pos (lim1 _), if_pos (lim2 _ _), if_pos (lim3 _ _ _), Exp.re_eq]
 refine SimP.bind (hq ts h hn) (fun a r1 h1 hr1 => ?_) (fun a p hp => ⟨.mk 8 0 [] [a, e0, e0], by simp only [xGu N _ hp, hb p hp, jS]; rfl⟩)
 have l1 := eat hT hf h h1
 refine SimP.need hT.len hr1 (fun r2 h2 hr2 => ?_) (fun p hp => ⟨.mk 8 0 [] [a, e0, e0], by simp only [xGu N _ hp, hb p hp, jS]; rfl⟩)
 have l2 := xEK h2
 refine SimP.bind (hq r2 hr2 (by omega)) (fun b r3 h3 hr3 => ?_) (fun b p hp => ⟨.mk 8 0 [] [a, b, e0], by simp only [xGu N _ hp, hb p hp, jS]; rfl⟩)
 have l3 := eat hT hf hr2 h3
 refine SimP.need hT.len hr3 (fun r4 h4 hr4 => ?_) (fun p hp => ⟨.mk 8 0 [] [a, b, e0], by simp only [hb p hp, jS]; rfl⟩)
 have l4 := xEK h4
 exact SimP.bind (hq r4 hr4 (by omega)) (fun c r5 h5 hr5 => ⟨hr5, rfl⟩) (fun c p hp => ⟨_, rfl⟩)
theorem xNy (hT : TokT K T) (hN : K < N) (hN2 : 1002 < N) (hK : K ≤ 1048576) {n : Nat} {f g : List Tok → PR Exp} (hf : xB9 K f) (hg : xB9 K g) (hq : FPs T n f q1) (hb : xGc q1) (hq4 : FPs T (n + 1) g q4) (hb4 : xGc q4) :
 FPs T (n + 1) (xJJ f g) (xCc N q0 q1 q2 q3 q4) := by
 intro ts h hn
 unfold xJJ xCc
 simp only [xGk N h, jS, xJ7, xXf]
 cases c1 : seeK [108, 101, 116] ts
 · simp only [jF]
   cases c2 : seeK [105, 102] ts
   · simp only [jF]
     cases c3 : seeK [102, 111, 114] ts
     · simp only [jF]
       obtain ⟨M, rfl⟩ : ∃ k, N = k + 3 := ⟨N - 3, by omega⟩
       unfold pCmp
       refine SimP.bind (hq4 ts h hn) (fun a r ha hr => ?_) (fun a p hp => ⟨a, xNx hp M a e0⟩)
       have := eat hT hg h ha
       exact xSA hT hg hq4 hb4 M a e0 hr (by omega)
     · simp only [jT, xI2 hT.len h (xFb c3)]
       have := xFb c3
       exact xO0 hT hN hK hf hq hb 9 _ _ (xB7 h) (by omega)
   · simp only [jT, xI2 hT.len h (xFb c2)]
     have := xFb c2
     exact xXe hT hf hq hb (xB7 h) (by omega)
 · simp only [jT, xI2 hT.len h (xFb c1)]
   have := xFb c1
   exact xO0 hT hN hK hf hq hb 7 _ _ (xB7 h) (by omega)
end
theorem xLz {N : Nat} (hN : 3 ≤ N) : ∀ d, 4 ≤ d → xGc (xAb N d).c_impl_parser_expr := by
 intro d hd
 obtain ⟨d, rfl⟩ : ∃ k, d = k + 4 := ⟨d - 4, by omega⟩
 exact xPe (q0 := (xAb N (d + 3)).c_impl_parser_atom) (q1 := (xAb N (d + 3)).c_impl_parser_expr) (q2 := (xAb N (d + 3)).c_impl_parser_list2) (q3 := (xAb N (d + 3)).c_impl_parser_product) (q4 := (xAb N (d + 3)).c_impl_parser_sum) hN (xOV (q0 := (xAb N (d + 2)).c_impl_parser_atom) (q1 := (xAb N (d + 2)).c_impl_parser_expr) (q2 := (xAb N (d + 2)).c_impl_parser_list2) (q3 := (xAb N (d + 2)).c_impl_parser_product) (q4 := (xAb N (d + 2)).c_impl_parser_sum) (by omega) (xMX (q0 := (xAb N (d + 1)).c_impl_parser_atom) (q1 := (xAb N (d + 1)).c_impl_parser_expr) (q2 := (xAb N (d + 1)).c_impl_parser_list2) (q3 := (xAb N (d + 1)).c_impl_parser_product) (q4 := (xAb N (d + 1)).c_impl_parser_sum) (by omega) fun p hp => xMq (q0 := (xAb N d).c_impl_parser_atom) (q1 := (xAb N d).c_impl_parser_expr) (q2 := (xAb N d).c_impl_parser_list2) (q3 := (xAb N d).c_impl_parser_product) (q4 := (xAb N d).c_impl_parser_sum) hp))
theorem xXw {K : Nat} {T : List Tok} {N : Nat} (hT : TokT K T) (hN : K < N) (hN2 : 1002 < N) (hK : K ≤ 1048576) : ∀ n d, 5 * n + 9 ≤ d → FPs T n (pE n) (xAb N d).c_impl_parser_expr := by
 intro n
 induction n with
 | zero => intro d _ ts _ h; omega
 | succ n ih =>
   intro d hd
   obtain ⟨d, rfl⟩ : ∃ k, d = k + 5 := ⟨d - 5, by omega⟩
   have f1 := ih d (by omega)
   have f2 := ih (d + 1) (by omega)
   have f4 := ih (d + 4) (by omega)
   have b1 := xLz (N := N) (by omega) d (by omega)
   have b2 := xLz (N := N) (by omega) (d + 1) (by omega)
   have b4 := xLz (N := N) (by omega) (d + 4) (by omega)
   have hl : FPl T n (n + 1) (pE n) (xAb N (d + 1)).c_impl_parser_list2 := fun c ts h hn => xPj (q0 := (xAb N d).c_impl_parser_atom) (q1 := (xAb N d).c_impl_parser_expr) (q2 := (xAb N d).c_impl_parser_list2) (q3 := (xAb N d).c_impl_parser_product) (q4 := (xAb N d).c_impl_parser_sum) hT hN2 (xEr n) f1 b1 c h hn (by omega)
   have hbl : xNn (xAb N (d + 1)).c_impl_parser_list2 := fun p s hp => xPi (q0 := (xAb N d).c_impl_parser_atom) (q1 := (xAb N d).c_impl_parser_expr) (q2 := (xAb N d).c_impl_parser_list2) (q3 := (xAb N d).c_impl_parser_product) (q4 := (xAb N d).c_impl_parser_sum) (by omega) s hp
   have a : FPs T (n + 1) (xJI (pE n) (n + 1)) (xAb N (d + 2)).c_impl_parser_atom := xO9 (q0 := (xAb N (d + 1)).c_impl_parser_atom) (q1 := (xAb N (d + 1)).c_impl_parser_expr) (q2 := (xAb N (d + 1)).c_impl_parser_list2) (q3 := (xAb N (d + 1)).c_impl_parser_product) (q4 := (xAb N (d + 1)).c_impl_parser_sum) hT hN hK (xEr n) f2 b2 hl hbl
   have ba : xGc (xAb N (d + 2)).c_impl_parser_atom := fun p hp => xMq (q0 := (xAb N (d + 1)).c_impl_parser_atom) (q1 := (xAb N (d + 1)).c_impl_parser_expr) (q2 := (xAb N (d + 1)).c_impl_parser_list2) (q3 := (xAb N (d + 1)).c_impl_parser_product) (q4 := (xAb N (d + 1)).c_impl_parser_sum) hp
   have p : FPs T (n + 1) (xLm (xJI (pE n) (n + 1)) (n + 1)) (xAb N (d + 3)).c_impl_parser_product := xSa (q0 := (xAb N (d + 2)).c_impl_parser_atom) (q1 := (xAb N (d + 2)).c_impl_parser_expr) (q2 := (xAb N (d + 2)).c_impl_parser_list2) (q3 := (xAb N (d + 2)).c_impl_parser_product) (q4 := (xAb N (d + 2)).c_impl_parser_sum) hT hN2 (xGn (xEr n) _) a ba (Nat.le_refl _)
   have bp : xGc (xAb N (d + 3)).c_impl_parser_product := xMX (q0 := (xAb N (d + 2)).c_impl_parser_atom) (q1 := (xAb N (d + 2)).c_impl_parser_expr) (q2 := (xAb N (d + 2)).c_impl_parser_list2) (q3 := (xAb N (d + 2)).c_impl_parser_product) (q4 := (xAb N (d + 2)).c_impl_parser_sum) (by omega) ba
   have s : FPs T (n + 1) (xOM (pE n) (n + 1)) (xAb N (d + 4)).c_impl_parser_sum := xWD (q0 := (xAb N (d + 3)).c_impl_parser_atom) (q1 := (xAb N (d + 3)).c_impl_parser_expr) (q2 := (xAb N (d + 3)).c_impl_parser_list2) (q3 := (xAb N (d + 3)).c_impl_parser_product) (q4 := (xAb N (d + 3)).c_impl_parser_sum) hT hN2 (xIe (xGn (xEr n) _) _) p bp (Nat.le_refl _)
   have bs : xGc (xAb N (d + 4)).c_impl_parser_sum := xOV (q0 := (xAb N (d + 3)).c_impl_parser_atom) (q1 := (xAb N (d + 3)).c_impl_parser_expr) (q2 := (xAb N (d + 3)).c_impl_parser_list2) (q3 := (xAb N (d + 3)).c_impl_parser_product) (q4 := (xAb N (d + 3)).c_impl_parser_sum) (by omega) bp
   exact xNy (q0 := (xAb N (d + 4)).c_impl_parser_atom) (q1 := (xAb N (d + 4)).c_impl_parser_expr) (q2 := (xAb N (d + 4)).c_impl_parser_list2) (q3 := (xAb N (d + 4)).c_impl_parser_product) (q4 := (xAb N (d + 4)).c_impl_parser_sum) hT hN hN2 hK (xEr n) (xIf (xEr n) _) f4 b4 s bs
end Go.Ab
end
section
namespace Go.Ab
def gr (T : List Tok) (L : Int) (ts : List Tok) : Rdr := ⟨T, ((T.length - ts.length : Nat) : Int), L, -1⟩
def offT (L : Int) : List Tok → Int
 | [] => L
 | t :: _ => t.pos
def BadR (T : List Tok) (L : Int) (ts : List Tok) (r : Rdr) : Prop := r.toks = T ∧ r.fin = L ∧ r.bad = offT L ts ∧ ts <:+ T
structure TokW (T : List Tok) (L : Int) : Prop where
 pos : ∀ t ∈ T, 0 ≤ t.pos
 fin : 0 ≤ L
 name : ∀ t ∈ T, t.kind = 1 → ∃ (c : UInt8) (l : Str), t.text = c :: l ∧ 97 ≤ c.toNat
 sym : ∀ t ∈ T, t.kind = 4 → ∃ (c : UInt8) (l : Str), t.text = c :: l ∧ c.toNat < 97
theorem BadR.nn {T ts : List Tok} {L : Int} {r : Rdr} (hW : TokW T L) (h : BadR T L ts r) : 0 ≤ r.bad := by
 rw [h.2.2.1]
 cases ts with
 | nil => exact hW.fin
 | cons t q => exact hW.pos t (h.2.2.2.subset List.mem_cons_self)
def SimR {α : Type} (T : List Tok) (L : Int) (R : PR α) (x : Option (α × Rdr)) : Prop := match R with
 | .ok a ts => ts <:+ T ∧ x = some (a, gr T L ts)
 | .err ts => ∃ a p, x = some (a, p) ∧ BadR T L ts p
theorem SimR.bind {α β : Type} {T : List Tok} {L : Int} (hW : TokW T L) {R : PR α} {x : Option (α × Rdr)} {k : α → List Tok → PR β} {g : α × Rdr → Option (β × Rdr)} (h : SimR T L R x)
 (hk : ∀ a ts, R = .ok a ts → ts <:+ T → SimR T L (k a ts) (g (a, gr T L ts))) (hb : ∀ a p, 0 ≤ p.bad → ∃ b, g (a, p) = some (b, p)) : SimR T L (R.bind k) (Option.bind x g) := by
 cases R with
 | ok a ts =>
   obtain ⟨h1, h2⟩ := h
   rw [h2]
   exact hk a ts rfl h1
 | err ts =>
   obtain ⟨a, p, h1, h2⟩ := h
   obtain ⟨b, h3⟩ := hb a p (h2.nn hW)
   rw [h1]
   exact ⟨b, p, h3, h2⟩
theorem xWy (N : Nat) (t : Tok) (s : Str) : xCT N t s = some (isS t s) := by unfold xCT isS; cases t.kind == 4 <;> rfl
theorem xYS (N : Nat) (t : Tok) (s : Str) : xE5 N t s = some (isK t s) := by unfold xE5 isK; cases t.kind == 1 <;> rfl
theorem xPg {T ts : List Tok} {L : Int} {t : Tok} {q : List Tok} (h : t :: q <:+ T) : (decide ((gr T L (t :: q)).i < (List.length (gr T L (t :: q)).toks : Int)) = true ∧ decide ((gr T L (t :: q)).i ≥ (List.length (gr T L (t :: q)).toks : Int)) = false) ∧
 ((0 : Int) ≤ (gr T L (t :: q)).i ∧ (gr T L (t :: q)).i < (List.length (gr T L (t :: q)).toks)) ∧ List.getD (gr T L (t :: q)).toks (Int.toNat (gr T L (t :: q)).i) Ty.tok.dflt = t := by
 obtain ⟨pre, rfl⟩ := h
 have e : (pre ++ t :: q).length - (t :: q).length = pre.length := by rw [jA]; omega
 have e2 : (pre ++ t :: q).length = pre.length + (q.length + 1) := by simp
 simp only [gr, e]
 refine ⟨⟨decide_eq_true (by omega), decide_eq_false (by omega)⟩, by omega, ?_⟩
 simp [List.getD]
theorem xMu (T : List Tok) (L : Int) : decide ((gr T L []).i < (List.length (gr T L []).toks : Int)) = false ∧ decide ((gr T L []).i ≥ (List.length (gr T L []).toks : Int)) = true := by
 simp only [gr, jN, Nat.sub_zero]
 exact ⟨decide_eq_false (by omega), decide_eq_true (by omega)⟩
theorem xIo (T ts : List Tok) (L : Int) : (gr T L ts).bad = -1 := rfl
theorem xMl {T ts : List Tok} {L : Int} (N : Nat) (s : Str) (h : ts <:+ T) : xBg N (gr T L ts) s = some (seeS s ts || seeK s ts, gr T L ts) := by
 unfold xBg
 rw [xIo, xLC, jT]
 cases ts with
 | nil => rw [(xMu T L).1, jF]; rfl
 | cons t q =>
   obtain ⟨⟨a1, _⟩, a2, a3⟩ := xPg (ts := t :: q) (L := L) h
   rw [a1, jT, if_pos a2, a3, xWy, jS, xYS]
   show _ = some (isS t s || isK t s, _)
   cases isS t s <;> rfl
def SymS (s : Str) : Prop := ∃ (c : UInt8) (l : Str), s = c :: l ∧ c.toNat < 97
def KeyS (s : Str) : Prop := ∃ (c : UInt8) (l : Str), s = c :: l ∧ 97 ≤ c.toNat
theorem xMk {T ts : List Tok} {L : Int} (hW : TokW T L) (h : ts <:+ T) {s : Str} (hs : SymS s) : seeK s ts = false := by
 cases ts with
 | nil => rfl
 | cons t q =>
   show isK t s = false
   unfold isK
   cases hk : t.kind == 1
   · rfl
   · obtain ⟨c, l, h1, h2⟩ := hW.name t (h.subset List.mem_cons_self) (by simpa using hk)
     obtain ⟨c', l', rfl, h4⟩ := hs
     rw [jT, h1, beq_eq_false_iff_ne]
     intro e
     cases e
     omega
theorem xWz {T ts : List Tok} {L : Int} (hW : TokW T L) (h : ts <:+ T) {s : Str} (hs : KeyS s) : seeS s ts = false := by
 cases ts with
 | nil => rfl
 | cons t q =>
   show isS t s = false
   unfold isS
   cases hk : t.kind == 4
   · rfl
   · obtain ⟨c, l, h1, h2⟩ := hW.sym t (h.subset List.mem_cons_self) (by simpa using hk)
     obtain ⟨c', l', rfl, h4⟩ := hs
     rw [jT, h1, beq_eq_false_iff_ne]
     intro e
     cases e
     omega
theorem xLs {T ts : List Tok} {L : Int} (hW : TokW T L) (N : Nat) {s : Str} (hs : SymS s) (h : ts <:+ T) : xBg N (gr T L ts) s = some (seeS s ts, gr T L ts) := by
 rw [xMl N s h, xMk hW h hs, Bool.or_false]
theorem xWA {T ts : List Tok} {L : Int} (hW : TokW T L) (N : Nat) {s : Str} (hs : KeyS s) (h : ts <:+ T) : xBg N (gr T L ts) s = some (seeK s ts, gr T L ts) := by
 rw [xMl N s h, xWz hW h hs, Bool.false_or]
theorem xGK {T ts : List Tok} {L : Int} (hT : T.length ≤ 1000) (h : ts <:+ T) (hne : ts.tail.length + 1 = ts.length) : Rdr.mk (gr T L ts).toks (IntKind.i64.wrap ((gr T L ts).i + 1)) (gr T L ts).fin (gr T L ts).bad = gr T L ts.tail := by
 have hl := h.length_le
 unfold gr
 have : IntKind.i64.wrap (((T.length - ts.length : Nat) : Int) + 1) = ((T.length - ts.tail.length : Nat) : Int) := by rw [xBG (by omega) (by omega)]; omega
 simp only [this]
theorem xIx {T ts : List Tok} {L : Int} (N : Nat) (h : ts <:+ T) : ∃ p, xBA N (gr T L ts) = some (e0, p) ∧ BadR T L ts p := by
 unfold xBA
 rw [xIo, xLC, jT]
 cases ts with
 | nil =>
   rw [(xMu T L).1, jF]
   exact ⟨_, rfl, rfl, rfl, rfl, h⟩
 | cons t q =>
   obtain ⟨⟨a1, _⟩, a2, a3⟩ := xPg (ts := t :: q) (L := L) h
   rw [a1, jT, if_pos a2, a3]
   exact ⟨_, rfl, rfl, rfl, rfl, h⟩
theorem xFd {p : Rdr} (N : Nat) (s : Str) (h : 0 ≤ p.bad) : xBg N p s = some (false, p) := by
 unfold xBg; rw [decide_eq_false (by omega), jF]
theorem xLt {p : Rdr} (N : Nat) (h : 0 ≤ p.bad) : xBA N p = some (e0, p) := by
 unfold xBA; rw [decide_eq_false (by omega), jF]
theorem xF9 {p : Rdr} (N : Nat) (s : Str) (h : 0 ≤ p.bad) : xBf N p s = some p := by
 unfold xBf; simp only [xFd N s h, jS, xLt N h]; rfl
theorem SimR.need {β : Type} {T ts : List Tok} {L : Int} (hW : TokW T L) {s : Str} {N : Nat} {k : Unit → List Tok → PR β} {g : Rdr → Option (β × Rdr)} (hT : T.length ≤ 1000) (h : ts <:+ T)
 (hk : ∀ r, xFp s ts = .ok () r → r <:+ T → SimR T L (k () r) (g (gr T L r))) (hb : ∀ p, 0 ≤ p.bad → ∃ b, g p = some (b, p)) : SimR T L ((xFp s ts).bind k) (Option.bind (xBf N (gr T L ts) s) g) := by
 unfold xBf
 rw [xMl N s h, jS]
 have bad : ∀ R : PR β, R = .err ts → SimR T L R (Option.bind (Option.bind (xBA N (gr T L ts)) fun r2 => some r2.2) g) := by
  intro R hR
  subst hR
  obtain ⟨p, hp1, hp2⟩ := xIx (L := L) N h
  obtain ⟨b, hb⟩ := hb p (hp2.nn hW)
  refine ⟨b, p, ?_, hp2⟩
  rw [hp1, jS, jS, hb]
 cases ts with
 | nil => exact bad _ rfl
 | cons t r =>
   show SimR T L _ (Option.bind (bif (!(isS t s || isK t s)) then _ else _) g)
   cases h1 : isS t s || isK t s
   · exact bad _ (by simp only [xFp, Bool.or_comm (isK t s), h1, jF, PR.bind])
   · have e : xFp s (t :: r) = .ok () r := by simp only [xFp, Bool.or_comm (isK t s), h1, jT]
     rw [e]
     simp only [Bool.not_true, jF, jS]
     have ha : Rdr.mk (gr T L (t :: r)).toks (IntKind.i64.wrap ((gr T L (t :: r)).i + 1)) (gr T L (t :: r)).fin (gr T L (t :: r)).bad = gr T L r := xGK hT h rfl
     rw [ha]
     exact hk r e (xB7 h)
theorem xOR {K : Nat} {T ts : List Tok} {L : Int} {N : Nat} (hT : TokT K T) (hN : K < N) (h24 : 24 < N) (hK : K ≤ 1048576) (h : ts <:+ T) : SimR T L (xLk ts) (xC2 N (gr T L ts)) := by
 have bad : xC2 N (gr T L ts) = Option.bind (xBA N (gr T L ts)) (fun r2 => some ([], r2.2)) → SimR T L (.err ts : PR Str) (xC2 N (gr T L ts)) := fun he => by
  obtain ⟨p, h1, h2⟩ := xIx (L := L) N h
  rw [he, h1]
  exact ⟨[], p, rfl, h2⟩
 have c0 : decide ((-1 : Int) ≥ 0) = false := rfl
 cases ts with
 | nil =>
   refine bad ?_
   unfold xC2
   rw [xIo, c0, jF, (xMu T L).2, jT]
 | cons t r =>
   have hft := hT.fit t (h.subset List.mem_cons_self)
   have hlen : t.text.length ≤ K := hft.2.2.2
   have hv := xFk (N := N) (s := t.text) (by omega) (by omega) h24
   obtain ⟨⟨_, a1⟩, a2, a3⟩ := xPg (ts := t :: r) (L := L) h
   simp only [xLk]
   cases h1 : t.kind == 1
   · refine bad ?_
     unfold xC2
     rw [xIo, c0, jF, a1, jF, if_pos a2, a3]
     simp only [bne, h1, Bool.not_false, jT]
   · cases h2 : xDr t.text
     · refine bad ?_
       unfold xC2
       rw [xIo, c0, jF, a1, jF, if_pos a2, a3]
       simp only [bne, h1, hv, h2, jS, Bool.not_true, Bool.not_false, jT, jF]
     · refine ⟨xB7 h, ?_⟩
       have hl := h.length_le
       have hT1 := hT.len
       have e1 : IntKind.i64.wrap ((IntKind.i64.wrap ((gr T L (t :: r)).i + 1)) - 1) = (gr T L (t :: r)).i := by
        show IntKind.i64.wrap ((IntKind.i64.wrap (((T.length - (t :: r).length : Nat) : Int) + 1)) - 1) = ((T.length - (t :: r).length : Nat) : Int)
        rw [xBG (x := ((T.length - (t :: r).length : Nat) : Int) + 1) (by omega) (by omega), xBG (by omega) (by omega)]; omega
       have ha : Rdr.mk (gr T L (t :: r)).toks (IntKind.i64.wrap ((gr T L (t :: r)).i + 1)) (gr T L (t :: r)).fin (gr T L (t :: r)).bad = gr T L r := xGK hT.len h rfl
       unfold xC2
       rw [e1, ha, xIo, c0, jF, a1, jF, if_pos a2, a3]
       simp only [bne, h1, hv, h2, jS, Bool.not_true, jT, jF, if_pos a2]
def xEZ (q : Rdr → Option (Exp × Rdr)) : Prop := ∀ p, 0 ≤ p.bad → q p = some (e0, p)
def xLy (q : Rdr → Str → Option (List Exp × Rdr)) : Prop := ∀ p s, 0 ≤ p.bad → q p s = some ([], p)
def FRs (T : List Tok) (L : Int) (n : Nat) (f : List Tok → PR Exp) (q : Rdr → Option (Exp × Rdr)) : Prop := ∀ ts, ts <:+ T → ts.length < n → SimR T L (f ts) (q (gr T L ts))
theorem sOp (N : Nat) (k : Int) (a b : Exp) : xDN N k a b = some (.mk 6 k [] [a, b]) := by unfold xDN; simp only [Exp.re_eq]
theorem xOP {s s' : Str} {ts : List Tok} (h : seeS s ts = true) (hne : s ≠ s') : seeS s' ts = false := by
 cases ts with
 | nil => cases h
 | cons t q =>
   have h : isS t s = true := h
   show isS t s' = false
   unfold isS at h ⊢
   cases hk : t.kind == 4
   · rfl
   · rw [hk, jT] at h
     rw [jT, beq_eq_false_iff_ne]
     intro e
     exact hne ((beq_iff_eq.1 h).symm.trans e)
section
variable {K : Nat} {T : List Tok} {L : Int} {N : Nat} {q0 : Rdr → Str → Option (List Exp × Rdr)} {q1 q2 q3 q4 q5 : Rdr → Option (Exp × Rdr)}
theorem xNu (hW : TokW T L) (hT : TokT K T) {n : Nat} {f : List Tok → PR Exp} (hf : xB9 K f) (hq : FRs T L n f q3) (c : Str) (hc : SymS c) (hc2 : c ≠ [44]) : ∀ (m fuel : Nat) (acc : List Exp) (ts : List Tok), ts <:+ T → ts.length < n → ts.length < m → ts.length < fuel → acc.length + ts.length ≤ 2000 →
 SimR T L (xJc f c m acc ts) (xEl N q0 q1 q2 q3 q4 q5 fuel c acc (gr T L ts)) := by
 have hco : SymS [44] := ⟨44, [], rfl, by decide⟩
 intro m
 induction m with
 | zero => intro fuel acc ts _ _ h; omega
 | succ m ih =>
   intro fuel acc ts h hn hm hfu ha
   obtain ⟨fuel, rfl⟩ : ∃ k, fuel = k + 1 := ⟨fuel - 1, by omega⟩
   simp only [xJc, xEl, xIo, xLC, jT]
   refine SimR.bind hW (hq ts h hn) (fun e r he hr => ?_) (fun e p hp => ?_)
   · have hl := eat hT hf h he
     simp only [Exp.re_eq]
     rw [if_pos (by simp only [jC, jN]; unfold Lim; omega)]
     rw [xLs hW N hco hr, jS]
     cases hs : seeS [44] r
     · simp only [Bool.not_false, jT]
       have hk := xMk hW hr hco
       have e1 : xFp [44] r = .err r := by
        cases r with
        | nil => rfl
        | cons t q =>
          have hk : isK t [44] = false := hk
          have hs : isS t [44] = false := hs
          simp only [xFp, hk, hs, Bool.or_false, jF]
       have hkc := xMk hW hr hc
       have e2 : (bif seeS c r then PR.ok (acc ++ [e]) r.tail else (xFp [44] r).bind fun _ q => xJc f c m (acc ++ [e]) q) = (xFp c r).bind fun _ q => .ok (acc ++ [e]) q := by
        rw [e1]
        cases r with
        | nil => rfl
        | cons t q =>
          have hkc : isK t c = false := hkc
          show (bif isS t c then _ else _) = _
          simp only [xFp, hkc, Bool.false_or]
          cases isS t c <;> rfl
       rw [e2]
       exact SimR.need hW hT.len hr (fun q _ hq => ⟨hq, rfl⟩) (fun p hp => ⟨_, rfl⟩)
     · have hs' := xOP hs (Ne.symm hc2)
       obtain ⟨t, q, rfl⟩ : ∃ t q, r = t :: q := by
        obtain ⟨t, h1, _⟩ := xJM hs
        exact ⟨t, _, h1⟩
       have hs2 : isS t [44] = true := hs
       have e1 : xFp [44] (t :: q) = .ok () q := by simp only [xFp, hs2, Bool.or_true, jT]
       have ha : Rdr.mk (gr T L (t :: q)).toks (IntKind.i64.wrap ((gr T L (t :: q)).i + 1)) (gr T L (t :: q)).fin (gr T L (t :: q)).bad = gr T L q := xGK hT.len hr rfl
       rw [hs', e1]
       simp only [Bool.not_true, jF, ha, PR.bind]
       exact ih fuel (acc ++ [e]) q (xB7 hr) (by simp only [jC] at hl; omega) (by simp only [jC] at hl; omega) (by simp only [jC] at hl; omega) (by simp only [jA, jC, jN] at hl ⊢; omega)
   · simp only [Exp.re_eq]
     rw [if_pos (by simp only [jC, jN]; unfold Lim; omega), xFd N _ hp, jS]
     simp only [Bool.not_false, jT, xF9 N _ hp, jS]
     exact ⟨_, rfl⟩
theorem xO5 (hN : 0 < N) (s : Str) {p : Rdr} (h : 0 ≤ p.bad) : xDe N q0 q1 q2 q3 q4 q5 p s = some ([], p) := by
 obtain ⟨M, rfl⟩ : ∃ k, N = k + 1 := ⟨N - 1, by omega⟩
 unfold xDe
 rw [xFd _ s h, jS]
 simp only [jF, xEl]
 rw [decide_eq_false (by omega), jF, xF9 _ s h]; rfl
theorem xO6 (hW : TokW T L) (hT : TokT K T) (hN : 1002 < N) {n m : Nat} {f : List Tok → PR Exp} (hf : xB9 K f) (hq : FRs T L n f q3) (c : Str) (hc : SymS c) (hc2 : c ≠ [44]) {ts : List Tok} (h : ts <:+ T) (hn : ts.length < n) (hm : ts.length < m) :
 SimR T L (xJY f m c ts) (xDe N q0 q1 q2 q3 q4 q5 (gr T L ts) c) := by
 have hl := h.length_le
 have := hT.len
 unfold xJY xDe
 rw [xLs hW N hc h, jS]
 cases hs : seeS c ts
 · simp only [jF]
   exact xNu hW hT hf hq c hc hc2 m N [] ts h hn hm (by omega) (by simp; omega)
 · simp only [jT, xGK hT.len h (xFc hs)]
   exact ⟨xB7 h, rfl⟩
def FRl (T : List Tok) (L : Int) (n m : Nat) (f : List Tok → PR Exp) (q : Rdr → Str → Option (List Exp × Rdr)) : Prop := ∀ c ts, SymS c → c ≠ [44] → ts <:+ T → ts.length < n → SimR T L (xJY f m c ts) (q (gr T L ts) c)
theorem xLq {p : Rdr} (h : 0 ≤ p.bad) : xDf N q0 q1 q2 q3 q4 q5 p = some (e0, p) := by
 unfold xDf
 rw [decide_eq_true (by omega : p.bad ≥ 0), jT, xLt N h]; rfl
theorem xKm (hW : TokW T L) (hT : TokT K T) {n m : Nat} {f : List Tok → PR Exp} (hf : xB9 K f) (hq : FRs T L n f q3) (hb : xEZ q3) (hl : FRl T L n m f q0) (hbl : xLy q0) {t : Tok} {r : List Tok} (h : t :: r <:+ T) (hn : r.length < n) :
 SimR T L (xJa f m t r) (Option.bind (xCT N t [91]) fun r1 =>
         bif r1 then (
          Option.bind (q0 (gr T L r) [93]) fun r2 =>
          some ((Exp.mk 4 0 [] r2.1), r2.2)
         ) else (
           Option.bind (xCT N t [40]) fun r2 =>
           bif r2 then (
            Option.bind (q3 (gr T L r)) fun r3 =>
            Option.bind (xBf N r3.2 [41]) fun r4 =>
            some (r3.1, r4)
           ) else (
             Option.bind (xBA N (gr T L (t :: r))) fun r3 =>
             some (r3.1, r3.2)
           )
         )) := by
 have hr : r <:+ T := xB7 h
 unfold xJa
 rw [xWy, jS]
 cases h1 : isS t [91]
 · simp only [jF, xWy, jS]
   cases h2 : isS t [40]
   · simp only [jF]
     obtain ⟨p, hp1, hp2⟩ := xIx (L := L) N h
     rw [hp1]
     exact ⟨_, p, rfl, hp2⟩
   · simp only [jT]
     refine SimR.bind hW (hq r hr hn) (fun e u he hu => ?_) (fun e p hp => ⟨e, by simp only [xF9 N _ hp, jS]⟩)
     exact SimR.need hW hT.len hu (fun v _ hv => ⟨hv, rfl⟩) (fun p hp => ⟨e, rfl⟩)
 · simp only [jT]
   exact SimR.bind hW (hl [93] r ⟨93, [], rfl, by decide⟩ (by decide) hr hn) (fun a u _ hu => ⟨hu, rfl⟩) (fun a p hp => ⟨_, rfl⟩)
theorem xOO (hW : TokW T L) (hT : TokT K T) (hN : K < N) (h24 : 24 < N) (hK : K ≤ 1048576) {n m : Nat} {f : List Tok → PR Exp} (hf : xB9 K f) (hq : FRs T L n f q3) (hb : xEZ q3) (hl : FRl T L n m f q0) (hbl : xLy q0) :
 FRs T L (n + 1) (xJI f m) (xDf N q0 q1 q2 q3 q4 q5) := by
 intro ts h hn
 have c0 : decide ((-1 : Int) ≥ 0) = false := rfl
 unfold xDf
 rw [xIo, c0, jF]
 cases ts with
 | nil =>
   rw [(xMu T L).2, jT]
   obtain ⟨p, hp1, hp2⟩ := xIx (L := L) N h
   exact ⟨_, p, by rw [hp1]; rfl, hp2⟩
 | cons t r =>
   have hr : r <:+ T := xB7 h
   have hn' : r.length < n := by simp only [jC] at hn; omega
   have hft := hT.fit t (h.subset List.mem_cons_self)
   have hlen : t.text.length ≤ K := hft.2.2.2
   have hv := xFk (N := N) (s := t.text) (by omega) (by omega) h24
   obtain ⟨⟨_, a1⟩, a2, a3⟩ := xPg (ts := t :: r) (L := L) h
   have ha : Rdr.mk (gr T L (t :: r)).toks (IntKind.i64.wrap ((gr T L (t :: r)).i + 1)) (gr T L (t :: r)).fin (gr T L (t :: r)).bad = gr T L r := xGK hT.len h rfl
   have ha' : Rdr.mk (gr T L (t :: r)).toks (IntKind.i64.wrap ((gr T L (t :: r)).i + 1)) (gr T L (t :: r)).fin (-1) = gr T L r := ha
   rw [a1, jF, if_pos a2, a3]
   simp only [xJI, ha']
   cases h1 : t.kind == 2
   · cases h2 : t.kind == 3
     · cases h3 : t.kind == 1
       · exact xKm hW hT hf hq hb hl hbl h hn'
       · simp only [jT, jF, hv, jS]
         cases h4 : xDr t.text
         · simp only [jF, xEL, jS]
           cases h5 : decide (argc t.text ≥ 0)
           · exact xKm hW hT hf hq hb hl hbl h hn'
           · simp only [jT]
             refine SimR.need hW hT.len hr (fun u hu hus => ?_) (fun p hp => ⟨_, by rw [hbl p _ hp, jS]⟩)
             have := xEK hu
             exact SimR.bind hW (hl [41] u ⟨41, [], rfl, by decide⟩ (by decide) hus (by omega)) (fun a v _ hv => ⟨hv, rfl⟩) (fun a p hp => ⟨_, rfl⟩)
         · exact ⟨hr, rfl⟩
     · exact ⟨hr, rfl⟩
   · exact ⟨hr, rfl⟩
theorem xNj (hW : TokW T L) (hT : TokT K T) {n : Nat} {g : List Tok → PR Exp} (hg : xB9 K g) (hq : FRs T L n g q1) (hb : xEZ q1) (b2 : Exp) : ∀ (m fuel : Nat) (a : Exp) (ts : List Tok), ts <:+ T → ts.length ≤ n → ts.length < m → ts.length < fuel →
 SimR T L (xJd g m a ts) (xCz N q0 q1 q2 q3 q4 q5 fuel (gr T L ts) b2 a) := by
 have hs0 : SymS [42] := ⟨42, [], rfl, by decide⟩
 intro m
 induction m with
 | zero => intro fuel a ts _ _ h; omega
 | succ m ih =>
   intro fuel a ts h hn hm hfu
   obtain ⟨fuel, rfl⟩ : ∃ k, fuel = k + 1 := ⟨fuel - 1, by omega⟩
   simp only [xJd, xCz]
   rw [xLs hW N hs0 h, jS]
   cases hs : seeS [42] ts
   · exact ⟨h, rfl⟩
   · have hl := xFc hs
     simp only [jT, sOp, jS, xGK hT.len h hl]
     obtain ⟨fuel, rfl⟩ : ∃ k, fuel = k + 1 := ⟨fuel - 1, by omega⟩
     refine SimR.bind hW (hq ts.tail (xB7 h) (by omega)) (fun b r hbr hr => ?_) (fun b p hp => ⟨.mk 6 3 [] [a, b], by simp only [xCz, xFd N _ hp, jS, jF]⟩)
     have := eat hT hg (xB7 h) hbr
     exact ih (fuel + 1) _ r hr (by omega) (by omega) (by omega)
theorem xOT (hW : TokW T L) (hT : TokT K T) (hN : 1002 < N) {n m : Nat} {g : List Tok → PR Exp} (hg : xB9 K g) (hq : FRs T L n g q1) (hb : xEZ q1) (hnm : n ≤ m) : FRs T L n (xLm g m) (xCw N q0 q1 q2 q3 q4 q5) := by
 intro ts h hn
 have hl := h.length_le
 have := hT.len
 unfold xLm xCw
 obtain ⟨M, rfl⟩ : ∃ k, N = k + 1 := ⟨N - 1, by omega⟩
 refine SimR.bind hW (hq ts h hn) (fun b r hbr hr => ?_) (fun b p hp => ⟨b, by simp only [xCz, xFd _ _ hp, jS, jF]⟩)
 have := eat hT hg h hbr
 exact xNj hW hT hg hq hb e0 m (M + 1) b r hr (by omega) (by omega) (by omega)
theorem xLw (hN : 0 < N) (hb : xEZ q1) : xEZ (xCw N q0 q1 q2 q3 q4 q5) := by
 intro p hp
 obtain ⟨M, rfl⟩ : ∃ k, N = k + 1 := ⟨N - 1, by omega⟩
 unfold xCw
 simp only [hb p hp, jS, xCz, xFd _ _ hp, jF]
theorem xOU (hW : TokW T L) (hT : TokT K T) {n : Nat} {g : List Tok → PR Exp} (hg : xB9 K g) (hq : FRs T L n g q4) (hb : xEZ q4) (b2 : Exp) : ∀ (m fuel : Nat) (a : Exp) (ts : List Tok), ts <:+ T → ts.length ≤ n → ts.length < m → ts.length < fuel →
 SimR T L (xJj g m a ts) (xCn N q0 q1 q2 q3 q4 q5 fuel (gr T L ts) b2 a) := by
 have hp0 : SymS [43] := ⟨43, [], rfl, by decide⟩
 have hm0 : SymS [45] := ⟨45, [], rfl, by decide⟩
 intro m
 induction m with
 | zero => intro fuel a ts _ _ h; omega
 | succ m ih =>
   intro fuel a ts h hn hm hfu
   obtain ⟨fuel, rfl⟩ : ∃ k, fuel = k + 1 := ⟨fuel - 1, by omega⟩
   have step : ∀ s k, seeS s ts = true → SimR T L ((g ts.tail).bind fun b r => xJj g m (.mk 6 k [] [a, b]) r) (Option.bind (q4 (gr T L ts.tail)) fun r3 => Option.bind (xDN N k a r3.1) fun r4 => xCn N q0 q1 q2 q3 q4 q5 fuel r3.2 b2 r4) := by
    intro s k hs
    have hl := xFc hs
    simp only [sOp, jS]
    obtain ⟨fuel, rfl⟩ : ∃ k, fuel = k + 1 := ⟨fuel - 1, by omega⟩
    refine SimR.bind hW (hq ts.tail (xB7 h) (by omega)) (fun b r hbr hr => ?_) (fun b p hp => ⟨.mk 6 k [] [a, b], by simp only [xCn, xFd N _ hp, jS, jF]⟩)
    have := eat hT hg (xB7 h) hbr
    exact ih (fuel + 1) _ r hr (by omega) (by omega) (by omega)
   simp only [xJj, xCn]
   rw [xLs hW N hp0 h, jS]
   cases hs : seeS [43] ts
   · simp only [jF, xLs hW N hm0 h, jS]
     cases hs2 : seeS [45] ts
     · exact ⟨h, rfl⟩
     · simp only [jT, xGK hT.len h (xFc hs2)]
       exact step _ 2 hs2
   · simp only [jT, xLs hW N hm0 h, jS, xOP hs (by decide : ([43] : Str) ≠ [45]), jF, xGK hT.len h (xFc hs)]
     exact step _ 1 hs
theorem xSf (hW : TokW T L) (hT : TokT K T) (hN : 1002 < N) {n m : Nat} {g : List Tok → PR Exp} (hg : xB9 K g) (hq : FRs T L n g q4) (hb : xEZ q4) (hnm : n ≤ m) : FRs T L n (pSum g m) (xDA N q0 q1 q2 q3 q4 q5) := by
 intro ts h hn
 have hl := h.length_le
 have := hT.len
 unfold pSum xDA
 obtain ⟨M, rfl⟩ : ∃ k, N = k + 1 := ⟨N - 1, by omega⟩
 refine SimR.bind hW (hq ts h hn) (fun b r hbr hr => ?_) (fun b p hp => ⟨b, by simp only [xCn, xFd _ _ hp, jS, jF]⟩)
 have := eat hT hg h hbr
 exact xOU hW hT hg hq hb e0 m (M + 1) b r hr (by omega) (by omega) (by omega)
theorem xMZ (hN : 0 < N) (hb : xEZ q4) : xEZ (xDA N q0 q1 q2 q3 q4 q5) := by
 intro p hp
 obtain ⟨M, rfl⟩ : ∃ k, N = k + 1 := ⟨N - 1, by omega⟩
 unfold xDA
 simp only [hb p hp, jS, xCn, xFd _ _ hp, jF]
theorem xSc (hb : xEZ q5) : xEZ (xCv N q0 q1 q2 q3 q4 q5) := by
 intro p hp
 unfold xCv
 simp only [hb p hp, jS, xFd _ _ hp, jF]
theorem xSd (hW : TokW T L) (hT : TokT K T) {n : Nat} {g : List Tok → PR Exp} (hg : xB9 K g) (hq : FRs T L n g q5) (hb : xEZ q5) : FRs T L n (pCmp g) (xCv N q0 q1 q2 q3 q4 q5) := by
 intro ts h hn
 have s1 : SymS [60] := ⟨60, [], rfl, by decide⟩
 have s2 : SymS [61, 61] := ⟨61, [61], rfl, by decide⟩
 unfold pCmp xCv
 refine SimR.bind hW (hq ts h hn) (fun a r ha hr => ?_) (fun a p hp => ⟨a, by simp only [jS, xFd _ _ hp, jF]⟩)
 have hl := eat hT hg h ha
 have step : ∀ s k, seeS s r = true → SimR T L ((g r.tail).bind fun b q => PR.ok (.mk 6 k [] [a, b]) q) (Option.bind (q5 (gr T L r.tail)) fun r3 => Option.bind (xDN N k a r3.1) fun r4 => some (r4, r3.2)) := by
  intro s k hs
  have hl := xFc hs
  simp only [sOp, jS]
  exact SimR.bind hW (hq r.tail (xB7 hr) (by omega)) (fun b r hbr hr => ⟨hr, rfl⟩) (fun b p hp => ⟨_, rfl⟩)
 unfold xOK
 simp only [xLs hW N s1 hr, xLs hW N s2 hr, jS]
 cases hs : seeS [60] r
 · simp only [jF]
   cases hs2 : seeS [61, 61] r
   · exact ⟨hr, rfl⟩
   · simp only [jT, xGK hT.len hr (xFc hs2)]
     exact step _ 5 hs2
 · simp only [jT, xGK hT.len hr (xFc hs)]
   exact step _ 4 hs
theorem xOQ (hb : xEZ q2) : xEZ (xDg N q0 q1 q2 q3 q4 q5) := by
 intro p hp
 unfold xDg
 simp only [hb p hp, jS, xFd _ _ hp, jF]
theorem xM0 (hW : TokW T L) (hT : TokT K T) (hN : K < N) (h24 : 24 < N) (hK : K ≤ 1048576) {n : Nat} {f : List Tok → PR Exp} (hf : xB9 K f) (hq : FRs T L n f q3) (hb : xEZ q3) (k : Int) (s1 s2 : Str) {ts : List Tok} (h : ts <:+ T) (hn : ts.length < n) :
 SimR T L (pTwo f k s1 s2 ts) (Option.bind (xC2 N (gr T L ts)) fun r2 =>
 Option.bind (xBf N r2.2 s1) fun r3 =>
 Option.bind (q3 r3) fun r4 =>
 Option.bind (xBf N r4.2 s2) fun r5 =>
 Option.bind (q3 r5) fun r6 =>
 some ((Exp.mk k 0 r2.1 [(Exp.re r4.1), (Exp.re r6.1)]), r6.2)) := by
 simp only [Exp.re_eq]
 refine SimR.bind hW (xOR hT hN h24 hK h) (fun x r1 hx hr1 => ?_) (fun x p hp => ⟨.mk k 0 x [e0, e0], by simp only [xF9 N _ hp, hb p hp, jS]⟩)
 have l1 := xLl hx
 refine SimR.need hW hT.len hr1 (fun r2 h2 hr2 => ?_) (fun p hp => ⟨.mk k 0 x [e0, e0], by simp only [xF9 N _ hp, hb p hp, jS]⟩)
 have l2 := xEK h2
 refine SimR.bind hW (hq r2 hr2 (by omega)) (fun a r3 h3 hr3 => ?_) (fun a p hp => ⟨.mk k 0 x [a, e0], by simp only [xF9 N _ hp, hb p hp, jS]⟩)
 have l3 := eat hT hf hr2 h3
 refine SimR.need hW hT.len hr3 (fun r4 h4 hr4 => ?_) (fun p hp => ⟨.mk k 0 x [a, e0], by simp only [hb p hp, jS]⟩)
 have l4 := xEK h4
 exact SimR.bind hW (hq r4 hr4 (by omega)) (fun b r5 h5 hr5 => ⟨hr5, rfl⟩) (fun b p hp => ⟨_, rfl⟩)
theorem xWB (hW : TokW T L) (hT : TokT K T) {n : Nat} {f : List Tok → PR Exp} (hf : xB9 K f) (hq : FRs T L n f q3) (hb : xEZ q3) {ts : List Tok} (h : ts <:+ T) (hn : ts.length < n) :
 SimR T L (pIf f ts) (Option.bind (q3 (gr T L ts)) fun r3 =>
  Option.bind (xBf N r3.2 [116, 104, 101, 110]) fun r4 =>
  Option.bind (q3 r4) fun r5 =>
  Option.bind (xBf N r5.2 [101, 108, 115, 101]) fun r6 =>
  Option.bind (q3 r6) fun r7 =>
  some ((Exp.mk 8 0 [] [(Exp.re r3.1), (Exp.re r5.1), (Exp.re r7.1)]), r7.2)) := by
 simp only [Exp.re_eq]
 refine SimR.bind hW (hq ts h hn) (fun a r1 h1 hr1 => ?_) (fun a p hp => ⟨.mk 8 0 [] [a, e0, e0], by simp only [xF9 N _ hp, hb p hp, jS]⟩)
 have l1 := eat hT hf h h1
 refine SimR.need hW hT.len hr1 (fun r2 h2 hr2 => ?_) (fun p hp => ⟨.mk 8 0 [] [a, e0, e0], by simp only [xF9 N _ hp, hb p hp, jS]⟩)
 have l2 := xEK h2
 refine SimR.bind hW (hq r2 hr2 (by omega)) (fun b r3 h3 hr3 => ?_) (fun b p hp => ⟨.mk 8 0 [] [a, b, e0], by simp only [xF9 N _ hp, hb p hp, jS]⟩)
 have l3 := eat hT hf hr2 h3
 refine SimR.need hW hT.len hr3 (fun r4 h4 hr4 => ?_) (fun p hp => ⟨.mk 8 0 [] [a, b, e0], by simp only [hb p hp, jS]⟩)
 have l4 := xEK h4
 exact SimR.bind hW (hq r4 hr4 (by omega)) (fun c r5 h5 hr5 => ⟨hr5, rfl⟩) (fun c p hp => ⟨_, rfl⟩)
theorem xNi (hW : TokW T L) (hT : TokT K T) (hN : K < N) (h24 : 24 < N) (hK : K ≤ 1048576) {n : Nat} {f g : List Tok → PR Exp} (hf : xB9 K f) (hq : FRs T L n f q3) (hb : xEZ q3) (hq2 : FRs T L (n + 1) (pCmp g) q2) :
 FRs T L (n + 1) (xJJ f g) (xDg N q0 q1 q2 q3 q4 q5) := by
 intro ts h hn
 have k1 : KeyS [108, 101, 116] := ⟨108, [101, 116], rfl, by decide⟩
 have k2 : KeyS [105, 102] := ⟨105, [102], rfl, by decide⟩
 have k3 : KeyS [102, 111, 114] := ⟨102, [111, 114], rfl, by decide⟩
 unfold xJJ xDg
 simp only [xWA hW N k1 h, xWA hW N k2 h, xWA hW N k3 h, jS]
 cases c1 : seeK [108, 101, 116] ts
 · simp only [jF]
   cases c2 : seeK [105, 102] ts
   · simp only [jF]
     cases c3 : seeK [102, 111, 114] ts
     · simp only [jF]
       have := hq2 ts h hn
       have e : (Option.bind (q2 (gr T L ts)) fun r4 => some (r4.1, r4.2)) = q2 (gr T L ts) := by cases q2 (gr T L ts) <;> rfl
       rw [e]
       exact this
     · simp only [jT, xGK hT.len h (xFb c3)]
       have := xFb c3
       exact xM0 hW hT hN h24 hK hf hq hb 9 _ _ (xB7 h) (by omega)
   · simp only [jT, xGK hT.len h (xFb c2)]
     have := xFb c2
     exact xWB hW hT hf hq hb (xB7 h) (by omega)
 · simp only [jT, xGK hT.len h (xFb c1)]
   have := xFb c1
   exact xM0 hW hT hN h24 hK hf hq hb 7 _ _ (xB7 h) (by omega)
end
theorem xMY {N : Nat} (hN : 0 < N) : ∀ d, 5 ≤ d → xEZ (xAa N d).c_spec_l11Expr := by
 intro d hd
 obtain ⟨d, rfl⟩ : ∃ k, d = k + 5 := ⟨d - 5, by omega⟩
 exact xOQ (q0 := (xAa N (d + 4)).c_spec_l11Args) (q1 := (xAa N (d + 4)).c_spec_l11Atom) (q2 := (xAa N (d + 4)).c_spec_l11Compare) (q3 := (xAa N (d + 4)).c_spec_l11Expr) (q4 := (xAa N (d + 4)).c_spec_l11Product) (q5 := (xAa N (d + 4)).c_spec_l11Sum) (xSc (q0 := (xAa N (d + 3)).c_spec_l11Args) (q1 := (xAa N (d + 3)).c_spec_l11Atom) (q2 := (xAa N (d + 3)).c_spec_l11Compare) (q3 := (xAa N (d + 3)).c_spec_l11Expr) (q4 := (xAa N (d + 3)).c_spec_l11Product) (q5 := (xAa N (d + 3)).c_spec_l11Sum) (xMZ (q0 := (xAa N (d + 2)).c_spec_l11Args) (q1 := (xAa N (d + 2)).c_spec_l11Atom) (q2 := (xAa N (d + 2)).c_spec_l11Compare) (q3 := (xAa N (d + 2)).c_spec_l11Expr) (q4 := (xAa N (d + 2)).c_spec_l11Product) (q5 := (xAa N (d + 2)).c_spec_l11Sum) hN (xLw (q0 := (xAa N (d + 1)).c_spec_l11Args) (q1 := (xAa N (d + 1)).c_spec_l11Atom) (q2 := (xAa N (d + 1)).c_spec_l11Compare) (q3 := (xAa N (d + 1)).c_spec_l11Expr) (q4 := (xAa N (d + 1)).c_spec_l11Product) (q5 := (xAa N (d + 1)).c_spec_l11Sum) hN fun p hp => xLq (q0 := (xAa N d).c_spec_l11Args) (q1 := (xAa N d).c_spec_l11Atom) (q2 := (xAa N d).c_spec_l11Compare) (q3 := (xAa N d).c_spec_l11Expr) (q4 := (xAa N d).c_spec_l11Product) (q5 := (xAa N d).c_spec_l11Sum) hp)))
theorem xWx {K : Nat} {T : List Tok} {L : Int} {N : Nat} (hW : TokW T L) (hT : TokT K T) (hN : K < N) (hN2 : 1002 < N) (hK : K ≤ 1048576) : ∀ n d, 6 * n + 11 ≤ d → FRs T L n (pE n) (xAa N d).c_spec_l11Expr := by
 intro n
 induction n with
 | zero => intro d _ ts _ h; omega
 | succ n ih =>
   intro d hd
   obtain ⟨d, rfl⟩ : ∃ k, d = k + 6 := ⟨d - 6, by omega⟩
   have f1 := ih d (by omega)
   have f2 := ih (d + 1) (by omega)
   have f5 := ih (d + 5) (by omega)
   have b2 := xMY (N := N) (by omega) (d + 1) (by omega)
   have b5 := xMY (N := N) (by omega) (d + 5) (by omega)
   have hl : FRl T L n (n + 1) (pE n) (xAa N (d + 1)).c_spec_l11Args := fun c ts hc hc2 h hn => xO6 (q0 := (xAa N d).c_spec_l11Args) (q1 := (xAa N d).c_spec_l11Atom) (q2 := (xAa N d).c_spec_l11Compare) (q3 := (xAa N d).c_spec_l11Expr) (q4 := (xAa N d).c_spec_l11Product) (q5 := (xAa N d).c_spec_l11Sum) hW hT hN2 (xEr n) f1 c hc hc2 h hn (by omega)
   have hbl : xLy (xAa N (d + 1)).c_spec_l11Args := fun p s hp => xO5 (q0 := (xAa N d).c_spec_l11Args) (q1 := (xAa N d).c_spec_l11Atom) (q2 := (xAa N d).c_spec_l11Compare) (q3 := (xAa N d).c_spec_l11Expr) (q4 := (xAa N d).c_spec_l11Product) (q5 := (xAa N d).c_spec_l11Sum) (by omega) s hp
   have a : FRs T L (n + 1) (xJI (pE n) (n + 1)) (xAa N (d + 2)).c_spec_l11Atom := xOO (q0 := (xAa N (d + 1)).c_spec_l11Args) (q1 := (xAa N (d + 1)).c_spec_l11Atom) (q2 := (xAa N (d + 1)).c_spec_l11Compare) (q3 := (xAa N (d + 1)).c_spec_l11Expr) (q4 := (xAa N (d + 1)).c_spec_l11Product) (q5 := (xAa N (d + 1)).c_spec_l11Sum) hW hT hN (by omega) hK (xEr n) f2 b2 hl hbl
   have ba : xEZ (xAa N (d + 2)).c_spec_l11Atom := fun p hp => xLq (q0 := (xAa N (d + 1)).c_spec_l11Args) (q1 := (xAa N (d + 1)).c_spec_l11Atom) (q2 := (xAa N (d + 1)).c_spec_l11Compare) (q3 := (xAa N (d + 1)).c_spec_l11Expr) (q4 := (xAa N (d + 1)).c_spec_l11Product) (q5 := (xAa N (d + 1)).c_spec_l11Sum) hp
   have p : FRs T L (n + 1) (xLm (xJI (pE n) (n + 1)) (n + 1)) (xAa N (d + 3)).c_spec_l11Product := xOT (q0 := (xAa N (d + 2)).c_spec_l11Args) (q1 := (xAa N (d + 2)).c_spec_l11Atom) (q2 := (xAa N (d + 2)).c_spec_l11Compare) (q3 := (xAa N (d + 2)).c_spec_l11Expr) (q4 := (xAa N (d + 2)).c_spec_l11Product) (q5 := (xAa N (d + 2)).c_spec_l11Sum) hW hT hN2 (xGn (xEr n) _) a ba (Nat.le_refl _)
   have bp : xEZ (xAa N (d + 3)).c_spec_l11Product := xLw (q0 := (xAa N (d + 2)).c_spec_l11Args) (q1 := (xAa N (d + 2)).c_spec_l11Atom) (q2 := (xAa N (d + 2)).c_spec_l11Compare) (q3 := (xAa N (d + 2)).c_spec_l11Expr) (q4 := (xAa N (d + 2)).c_spec_l11Product) (q5 := (xAa N (d + 2)).c_spec_l11Sum) (by omega) ba
   have s : FRs T L (n + 1) (xOM (pE n) (n + 1)) (xAa N (d + 4)).c_spec_l11Sum := xSf (q0 := (xAa N (d + 3)).c_spec_l11Args) (q1 := (xAa N (d + 3)).c_spec_l11Atom) (q2 := (xAa N (d + 3)).c_spec_l11Compare) (q3 := (xAa N (d + 3)).c_spec_l11Expr) (q4 := (xAa N (d + 3)).c_spec_l11Product) (q5 := (xAa N (d + 3)).c_spec_l11Sum) hW hT hN2 (xIe (xGn (xEr n) _) _) p bp (Nat.le_refl _)
   have bs : xEZ (xAa N (d + 4)).c_spec_l11Sum := xMZ (q0 := (xAa N (d + 3)).c_spec_l11Args) (q1 := (xAa N (d + 3)).c_spec_l11Atom) (q2 := (xAa N (d + 3)).c_spec_l11Compare) (q3 := (xAa N (d + 3)).c_spec_l11Expr) (q4 := (xAa N (d + 3)).c_spec_l11Product) (q5 := (xAa N (d + 3)).c_spec_l11Sum) (by omega) bp
   have c : FRs T L (n + 1) (pCmp (xOM (pE n) (n + 1))) (xAa N (d + 5)).c_spec_l11Compare := xSd (q0 := (xAa N (d + 4)).c_spec_l11Args) (q1 := (xAa N (d + 4)).c_spec_l11Atom) (q2 := (xAa N (d + 4)).c_spec_l11Compare) (q3 := (xAa N (d + 4)).c_spec_l11Expr) (q4 := (xAa N (d + 4)).c_spec_l11Product) (q5 := (xAa N (d + 4)).c_spec_l11Sum) hW hT (xIf (xEr n) _) s bs
   exact xNi (q0 := (xAa N (d + 5)).c_spec_l11Args) (q1 := (xAa N (d + 5)).c_spec_l11Atom) (q2 := (xAa N (d + 5)).c_spec_l11Compare) (q3 := (xAa N (d + 5)).c_spec_l11Expr) (q4 := (xAa N (d + 5)).c_spec_l11Product) (q5 := (xAa N (d + 5)).c_spec_l11Sum) hW hT hN (by omega) hK (xEr n) f5 b5 c
end Go.Ab
end
section
namespace Go.Ab
def xGO (c : UInt8) : Bool := decide (97 ≤ c.toNat) && decide (c.toNat ≤ 122)
def xCu (c : UInt8) : Bool := decide (48 ≤ c.toNat) && decide (c.toNat ≤ 57)
def isWd (c : UInt8) : Bool := xGO c || xCu c
def notQ (c : UInt8) : Bool := !(c.toNat == 34)
def xI0 (c : UInt8) : Bool := decide (Lib.indexByte [40, 41, 91, 93, 44, 43, 45, 42, 60, 61] c ≥ 0)
def xHt (p : Int) : Str → Option (Tok × Str)
 | [] => none
 | c :: l =>
   bif xGO c then (bif decide ((c :: l).length - ((c :: l).dropWhile isWd).length ≤ 8) then some (⟨1, 0, p, (c :: l).take ((c :: l).length - ((c :: l).dropWhile isWd).length)⟩, (c :: l).dropWhile isWd) else none)
   else bif xCu c then (bif (zHG ((c :: l).take ((c :: l).length - ((c :: l).dropWhile xCu).length)) 0 1000000000).2 then some (⟨2, (zHG ((c :: l).take ((c :: l).length - ((c :: l).dropWhile xCu).length)) 0 1000000000).1, p, []⟩, (c :: l).dropWhile xCu) else none)
   else bif c.toNat == 34 then (match l.dropWhile notQ with
    | [] => none
    | q :: r => bif xH4 (l.take (l.length - (q :: r).length)) then some (⟨3, 0, p, l.take (l.length - (q :: r).length)⟩, r) else none)
   else bif Lib.hasPrefix (c :: l) [61, 61] then some (⟨4, 0, p, [61, 61]⟩, l.tail)
   else bif xI0 c then some (⟨4, 0, p, [c]⟩, l) else none
theorem xD0 (p : Int) (c : UInt8) (l : Str) : xHt p (c :: l) =
 bif xGO c then (bif decide ((c :: l).length - ((c :: l).dropWhile isWd).length ≤ 8) then some (⟨1, 0, p, (c :: l).take ((c :: l).length - ((c :: l).dropWhile isWd).length)⟩, (c :: l).dropWhile isWd) else none)
 else bif xCu c then (bif (zHG ((c :: l).take ((c :: l).length - ((c :: l).dropWhile xCu).length)) 0 1000000000).2 then some (⟨2, (zHG ((c :: l).take ((c :: l).length - ((c :: l).dropWhile xCu).length)) 0 1000000000).1, p, []⟩, (c :: l).dropWhile xCu) else none)
 else bif c.toNat == 34 then (match l.dropWhile notQ with
  | [] => none
  | q :: r => bif xH4 (l.take (l.length - (q :: r).length)) then some (⟨3, 0, p, l.take (l.length - (q :: r).length)⟩, r) else none)
 else bif Lib.hasPrefix (c :: l) [61, 61] then some (⟨4, 0, p, [61, 61]⟩, l.tail)
 else bif xI0 c then some (⟨4, 0, p, [c]⟩, l) else none := rfl
def lexL : Nat → Int → List Tok → Str → List Tok × Int
 | 0, p, _, _ => ([], p)
 | _ + 1, _, acc, [] => (acc, -1)
 | n + 1, p, acc, c :: l => bif c.toNat == 32 then lexL n (p + 1) acc l else match xHt p (c :: l) with
   | none => ([], p)
   | some (t, r) => bif acc.length == 60 then ([], p) else lexL n (p + ((c :: l).length - r.length : Nat)) (acc ++ [t]) r
def lex (s : Str) : List Tok × Int := bif decide (s.length > 120) then ([], 120) else lexL (s.length + 1) 0 [] s
theorem xPc (x : UInt8) : decide (((x.toNat : Int) : Int) ≥ 97) = decide (97 ≤ x.toNat) := decide_eq_decide.2 (by omega)
theorem xMr (x : UInt8) : decide (((x.toNat : Int) : Int) ≤ 122) = decide (x.toNat ≤ 122) := decide_eq_decide.2 (by omega)
theorem xM5 (x : UInt8) : decide (((x.toNat : Int) : Int) ≥ 48) = decide (48 ≤ x.toNat) := decide_eq_decide.2 (by omega)
theorem xM6 (x : UInt8) : decide (((x.toNat : Int) : Int) ≤ 57) = decide (x.toNat ≤ 57) := decide_eq_decide.2 (by omega)
theorem beqI (x k : Nat) : ((x : Int) == (k : Int)) = (x == k) := by
 by_cases h : x = k
 · rw [h]; simp
 · rw [beq_eq_false_iff_ne.2 h, beq_eq_false_iff_ne.2 (by omega)]
theorem xSy (x : UInt8) : (((x.toNat : Int) : Int) == 34) = (x.toNat == 34) := beqI x.toNat 34
theorem xWH (x : UInt8) : (((x.toNat : Int) : Int) == 32) = (x.toNat == 32) := beqI x.toNat 32
theorem xEf {p : UInt8 → Bool} (l : Str) : (l.dropWhile p).length ≤ l.length := (List.dropWhile_suffix p).length_le
theorem xED {S : Str} {i : Nat} {x : UInt8} {l : Str} (h : S.drop i = x :: l) : S.length - (x :: l).length = i ∧ i + (x :: l).length = S.length := by
 have := congrArg List.length h
 obtain ⟨h1, _⟩ := xDm h
 rw [List.length_drop] at this
 omega
theorem xHO {S s : Str} {i : Nat} (h : S.drop i = s) (hi : i ≤ S.length) {k : Nat} (hk : k ≤ s.length) : List.drop i (List.take (S.length - k) S) = s.take (s.length - k) := by
 subst h
 rw [List.drop_take, List.length_drop, show S.length - k - i = S.length - i - k from by omega]
section
variable {N : Nat} {S : Str}
theorem xO4 (hS : S.length ≤ 1000) {i : Nat} (b4 : Tok) : ∀ n j, i ≤ j → j ≤ S.length → S.length < n + j → xCe N n S i (j : Nat) b4 =
 some (Tok.mk 1 0 i (List.drop i (List.take (S.length - ((S.drop j).dropWhile isWd).length) S)), ((S.length - ((S.drop j).dropWhile isWd).length : Nat) : Int), decide (S.length - ((S.drop j).dropWhile isWd).length - i ≤ 8)) := by
 intro n j hij hj hn
 refine xFJ (σ := Unit) (L := fun n j _ => xCe N n S i j b4) S (fun l _ => (Tok.mk 1 0 i (List.drop i (List.take (S.length - (l.dropWhile isWd).length) S)), ((S.length - (l.dropWhile isWd).length : Nat) : Int), decide (S.length - (l.dropWhile isWd).length - i ≤ 8)))
  (fun j _ => i ≤ j) (fun n _ hi => ?_) (fun j x l _ hd hj hx hi => ?_) n j () hij hj hn
 · have hi : i ≤ S.length := hi
   simp only [xCe, Int.lt_irrefl, decide_false, jF]
   rw [if_pos (by omega)]
   have e1 : IntKind.i64.wrap ((S.length : Int) - (i : Int)) = (S.length : Int) - i := xBG (by omega) (by omega)
   simp only [e1, List.dropWhile_nil, jN, Nat.sub_zero, Int.toNat_natCast]
   rw [decide_eq_decide.2 (by omega : (S.length : Int) - i ≤ 8 ↔ S.length - i ≤ 8)]
   rfl
 · have hi : i ≤ j := hi
   have hj' : (j : Int) < (S.length : Int) := by omega
   have hj2 : (0 : Int) ≤ (j : Int) ∧ (j : Int) < (S.length : Int) := ⟨by omega, hj'⟩
   have hj3 : (0 : Int) ≤ (i : Int) ∧ (i : Int) ≤ (j : Int) ∧ (j : Int) ≤ (S.length : Int) := by omega
   have e1 : IntKind.i64.wrap ((j : Int) - (i : Int)) = (j : Int) - i := xBG (by omega) (by omega)
   cases hw : isWd x
   · refine .inr fun n => ?_
     have e2 : (x :: l).dropWhile isWd = x :: l := by rw [List.dropWhile_cons]; simp [hw]
     have e3 := (xED hd).1
     have e4 : decide ((j : Int) - i ≤ 8) = decide (j - i ≤ 8) := decide_eq_decide.2 (by omega)
     simp only [xCe, decide_eq_true hj', jT, if_pos hj2, if_pos hj3, Int.toNat_natCast, xCa hx, xPc, xMr, xM5, xM6, e1, e2, e3, e4]
     unfold isWd xGO xCu at hw
     revert hw
     cases decide (97 ≤ x.toNat) <;> cases decide (x.toNat ≤ 122) <;> cases decide (48 ≤ x.toNat) <;> cases decide (x.toNat ≤ 57) <;> intro hw <;> first | rfl | (simp at hw; done)
   · refine .inl ⟨(), by omega, ?_, fun n => ?_⟩
     · have e2 : (x :: l).dropWhile isWd = l.dropWhile isWd := by rw [List.dropWhile_cons]; simp [hw]
       rw [e2]
     · simp only [xCe, decide_eq_true hj', jT, if_pos hj2, if_pos hj3, Int.toNat_natCast, xCa hx, xPc, xMr, xM5, xM6, xBD hj (by omega : S.length ≤ _)]
       unfold isWd xGO xCu at hw
       revert hw
       cases decide (97 ≤ x.toNat) <;> cases decide (x.toNat ≤ 122) <;> cases decide (48 ≤ x.toNat) <;> cases decide (x.toNat ≤ 57) <;> intro hw <;> first | rfl | (simp at hw; done)
theorem xLo {w : Str} (h : w.length ≤ 1000) : xGb N w 0 1000000000 = some (zHG w 0 1000000000) := by
 unfold xGb zEp
 rw [if_pos (by omega)]
def numG (S : Str) (i : Nat) (l : Str) : Int × Bool := zHG (List.drop i (List.take (S.length - (l.dropWhile xCu).length) S)) 0 1000000000
theorem xPm (hS : S.length ≤ 1000) {i : Nat} (b4 : Tok) : ∀ n j, i ≤ j → j ≤ S.length → S.length < n + j → xCA N n S i (j : Nat) b4 =
 some (Tok.mk 2 (numG S i (S.drop j)).1 i [], ((S.length - ((S.drop j).dropWhile xCu).length : Nat) : Int), (numG S i (S.drop j)).2) := by
 intro n j hij hj hn
 refine xFJ (σ := Unit) (L := fun n j _ => xCA N n S i j b4) S (fun l _ => (Tok.mk 2 (numG S i l).1 i [], ((S.length - (l.dropWhile xCu).length : Nat) : Int), (numG S i l).2))
  (fun j _ => i ≤ j) (fun n _ hi => ?_) (fun j x l _ hd hj hx hi => ?_) n j () hij hj hn
 · have hi : i ≤ S.length := hi
   simp only [xCA, Int.lt_irrefl, decide_false, jF]
   rw [if_pos (by omega)]
   simp only [Int.toNat_natCast]
   rw [xLo (by rw [List.length_drop, List.length_take]; omega)]
   simp only [jS, numG, List.dropWhile_nil, jN, Nat.sub_zero]
 · have hi : i ≤ j := hi
   have hj' : (j : Int) < (S.length : Int) := by omega
   have hj2 : (0 : Int) ≤ (j : Int) ∧ (j : Int) < (S.length : Int) := ⟨by omega, hj'⟩
   have hj3 : (0 : Int) ≤ (i : Int) ∧ (i : Int) ≤ (j : Int) ∧ (j : Int) ≤ (S.length : Int) := by omega
   cases hw : xCu x
   · refine .inr fun n => ?_
     have e2 : (x :: l).dropWhile xCu = x :: l := by rw [List.dropWhile_cons]; simp [hw]
     have e3 := (xED hd).1
     simp only [xCA, decide_eq_true hj', jT, if_pos hj2, if_pos hj3, Int.toNat_natCast, xCa hx, xM5, xM6, numG, e2, e3]
     rw [xLo (by rw [List.length_drop, List.length_take]; omega)]
     simp only [jS]
     unfold xCu at hw
     revert hw
     cases decide (48 ≤ x.toNat) <;> cases decide (x.toNat ≤ 57) <;> intro hw <;> first | rfl | (simp at hw; done)
   · refine .inl ⟨(), by omega, ?_, fun n => ?_⟩
     · have e2 : (x :: l).dropWhile xCu = l.dropWhile xCu := by rw [List.dropWhile_cons]; simp [hw]
       simp only [numG, e2]
     · simp only [xCA, decide_eq_true hj', jT, if_pos hj2, if_pos hj3, Int.toNat_natCast, xCa hx, xM5, xM6, xBD hj (by omega : S.length ≤ _)]
       unfold xCu at hw
       revert hw
       cases decide (48 ≤ x.toNat) <;> cases decide (x.toNat ≤ 57) <;> intro hw <;> first | rfl | (simp at hw; done)
theorem xK3 (c : UInt8) (k : UInt8) : (c == k) = (c.toNat == k.toNat) := by
 by_cases h : c = k
 · subst h; simp
 · rw [beq_eq_false_iff_ne.2 h, beq_eq_false_iff_ne.2 (fun e => h (UInt8.toNat_inj.1 e))]
theorem xNB : ∀ l : Str, Lib.indexByte l 34 = (match l.dropWhile notQ with
 | [] => -1
 | q :: r => ((l.length - (q :: r).length : Nat) : Int))
 | [] => rfl
 | x :: l => by
   have ih := xNB l
   unfold Lib.indexByte
   rw [xK3 x 34, List.dropWhile_cons]
   unfold notQ at ih ⊢
   show (if (x.toNat == 34) = true then _ else _) = _
   cases h : x.toNat == 34
   · simp only [Bool.not_false, if_true]
     have hd := xEf (p := fun c => !(c.toNat == 34)) l
     cases he : List.dropWhile (fun c => !(c.toNat == 34)) l with
     | nil => rw [he] at ih; simp only at ih; rw [ih]; rfl
     | cons q r =>
       rw [he] at ih hd
       simp only at ih
       simp only [jC] at hd ih ⊢
       rw [ih]
       have e : (((l.length - (r.length + 1) : Nat) : Int) == -1) = false := beq_eq_false_iff_ne.2 (by omega)
       rw [e]
       simp only [Bool.false_eq_true, if_false]
       omega
   · simp
def LxP (S : Str) (o : Option (Tok × Str)) (x : Tok × Int × Bool) : Prop := match o with
 | some (t, r) => x = (t, ((S.length - r.length : Nat) : Int), true)
 | none => x.2.2 = false
theorem xSb (hS : S.length ≤ 1000) (hN : 1000 < N) {i : Nat} {c : UInt8} {l : Str} (hd : S.drop i = c :: l) (h34 : (c.toNat == 34) = true) (hL : xGO c = false) (hD : xCu c = false) : ∃ x, (
         if (0 : Int) ≤ (IntKind.i64.wrap ((i : Int) + 1)) ∧ (IntKind.i64.wrap ((i : Int) + 1)) ≤ (List.length S) then
         Option.bind (strings_IndexByte N (List.drop (Int.toNat (IntKind.i64.wrap ((i : Int) + 1))) S) 34) fun r1 =>
         bif (decide ((r1 : Int) < 0)) then (
          some ((Tok.mk 0 0 0 []), 0, false)
         ) else (
           if (0 : Int) ≤ (IntKind.i64.wrap ((i : Int) + 1)) ∧ (IntKind.i64.wrap ((i : Int) + 1)) ≤ (IntKind.i64.wrap ((IntKind.i64.wrap ((i : Int) + 1)) + r1)) ∧ (IntKind.i64.wrap ((IntKind.i64.wrap ((i : Int) + 1)) + r1)) ≤ (List.length S) then
           Option.bind (xCI N (List.drop (Int.toNat (IntKind.i64.wrap ((i : Int) + 1))) (List.take (Int.toNat (IntKind.i64.wrap ((IntKind.i64.wrap ((i : Int) + 1)) + r1))) S))) fun r2 =>
           some ((Tok.mk 3 0 i (List.drop (Int.toNat (IntKind.i64.wrap ((i : Int) + 1))) (List.take (Int.toNat (IntKind.i64.wrap ((IntKind.i64.wrap ((i : Int) + 1)) + r1))) S))), (IntKind.i64.wrap ((IntKind.i64.wrap ((i : Int) + r1)) + 2)), r2)
           else none
         )
         else none) = some x ∧ LxP S (xHt i (c :: l)) x := by
 obtain ⟨e1, e2⟩ := xED hd
 obtain ⟨hi, _, hd1⟩ := xDm hd
 simp only [jC] at e2
 have w1 : IntKind.i64.wrap ((i : Int) + 1) = ((i + 1 : Nat) : Int) := xBD hi (by omega)
 simp only [w1, Int.toNat_natCast, hd1]
 rw [if_pos (by omega)]
 unfold strings_IndexByte zFI
 rw [show ((34 : Int).toNat.toUInt8) = 34 from rfl, xNB, jS]
 rw [xD0, hL, hD, h34]
 simp only [jF, jT]
 have hq := xEf (p := notQ) l
 cases he : l.dropWhile notQ with
 | nil => exact ⟨_, rfl, rfl⟩
 | cons q r =>
   rw [he] at hq
   simp only [jC] at hq ⊢
   have w2 : IntKind.i64.wrap (((i + 1 : Nat) : Int) + ((l.length - (r.length + 1) : Nat) : Int)) = ((i + 1 + (l.length - (r.length + 1)) : Nat) : Int) := by rw [xBG (by omega) (by omega)]; omega
   have w3 : IntKind.i64.wrap ((i : Int) + ((l.length - (r.length + 1) : Nat) : Int)) = ((i + (l.length - (r.length + 1)) : Nat) : Int) := by rw [xBG (by omega) (by omega)]; omega
   have w4 : IntKind.i64.wrap (((i + (l.length - (r.length + 1)) : Nat) : Int) + 2) = ((S.length - r.length : Nat) : Int) := by rw [xBG (by omega) (by omega)]; omega
   have w5 : List.drop (i + 1) (List.take (i + 1 + (l.length - (r.length + 1))) S) = l.take (l.length - (r.length + 1)) := by
    rw [List.drop_take, hd1, show i + 1 + (l.length - (r.length + 1)) - (i + 1) = l.length - (r.length + 1) from by omega]
   rw [decide_eq_false (by omega), jF]
   simp only [w2, w3, w4, Int.toNat_natCast, w5]
   rw [if_pos (by omega)]
   have ht : (l.take (l.length - (r.length + 1))).length ≤ 1000 := by rw [List.length_take]; omega
   rw [xGe (N := N) (s := l.take (l.length - (r.length + 1))) (by omega) (by omega), jS]
   refine ⟨_, rfl, ?_⟩
   cases xH4 (l.take (l.length - (r.length + 1)))
   · rfl
   · rfl
theorem xXx (hS : S.length ≤ 1000) (hN : 1000 < N) {i : Nat} {c : UInt8} {l : Str} (hd : S.drop i = c :: l) (h34 : (c.toNat == 34) = false) (hL : xGO c = false) (hD : xCu c = false) : ∃ x, (
         if (0 : Int) ≤ (i : Int) ∧ (i : Int) ≤ (List.length S) then
         Option.bind (strings_HasPrefix N (List.drop (Int.toNat (i : Int)) S) [61, 61]) fun r1 =>
         bif r1 then (
          some ((Tok.mk 4 0 i [61, 61]), (IntKind.i64.wrap ((i : Int) + 2)), true)
         ) else (
           if (0 : Int) ≤ (i : Int) ∧ (i : Int) ≤ (IntKind.i64.wrap ((i : Int) + 1)) ∧ (IntKind.i64.wrap ((i : Int) + 1)) ≤ (List.length S) then
           Option.bind (strings_IndexByte N [40, 41, 91, 93, 44, 43, 45, 42, 60, 61] ((List.getD S (Int.toNat (i : Int)) 0).toNat : Int)) fun r2 =>
           some ((Tok.mk 4 0 i (List.drop (Int.toNat (i : Int)) (List.take (Int.toNat (IntKind.i64.wrap ((i : Int) + 1))) S))), (IntKind.i64.wrap ((i : Int) + 1)), (decide ((r2 : Int) ≥ 0)))
           else none
         )
         else none) = some x ∧ LxP S (xHt i (c :: l)) x := by
 obtain ⟨e1, e2⟩ := xED hd
 obtain ⟨hi, hx, hd1⟩ := xDm hd
 simp only [jC] at e2
 have w1 : IntKind.i64.wrap ((i : Int) + 1) = ((i + 1 : Nat) : Int) := xBD hi (by omega)
 simp only [w1, Int.toNat_natCast, hd, xCa hx]
 rw [if_pos (by omega)]
 unfold strings_HasPrefix zFH
 rw [jS, xD0, hL, hD, h34]
 simp only [jF]
 cases hp : Lib.hasPrefix (c :: l) [61, 61]
 · simp only [jF]
   rw [if_pos (by omega)]
   unfold strings_IndexByte zFI
   rw [jS]
   have ec : ((c.toNat : Int)).toNat.toUInt8 = c := by simp
   have w5 : List.drop i (List.take (i + 1) S) = [c] := by
    rw [List.drop_take, hd, show i + 1 - i = 1 from by omega]; rfl
   rw [ec, w5]
   refine ⟨_, rfl, ?_⟩
   unfold xI0
   cases decide (Lib.indexByte [40, 41, 91, 93, 44, 43, 45, 42, 60, 61] c ≥ 0)
   · rfl
   · show (_, _, _) = (_, _, _)
     rw [show i + 1 = S.length - l.length from by omega]
 · simp only [jT]
   refine ⟨_, rfl, ?_⟩
   have h2 : l.tail.length + 1 = l.length := by
    cases l with
    | nil => simp [Lib.hasPrefix, List.isPrefixOf] at hp
    | cons a b => rfl
   have w2 : IntKind.i64.wrap ((i : Int) + 2) = ((S.length - l.tail.length : Nat) : Int) := by rw [xBG (by omega) (by omega)]; omega
   show (_, _, _) = (_, _, _)
   rw [w2]
theorem xNl (hS : S.length ≤ 1000) (hN : 1000 < N) {i : Nat} {c : UInt8} {l : Str} (hd : S.drop i = c :: l) : ∃ x, xFS N S i = some x ∧ LxP S (xHt i (c :: l)) x := by
 obtain ⟨e1, e2⟩ := xED hd
 obtain ⟨hi, hx, hd1⟩ := xDm hd
 have hQ := fun a b e => xSb (N := N) hS hN hd a b e
 have hY := fun a b e => xXx (N := N) hS hN hd a b e
 have word : xGO c = true → ∃ x, xCe N N S i i (Tok.mk 0 0 0 []) = some x ∧ LxP S (xHt i (c :: l)) x := fun hl => by
  refine ⟨_, xO4 hS _ N i (Nat.le_refl _) (by omega) (by omega), ?_⟩
  rw [hd]
  rw [xD0, hl, jT]
  have hq := xEf (p := isWd) (c :: l)
  rw [xHO hd (by omega) hq, show S.length - ((c :: l).dropWhile isWd).length - i = (c :: l).length - ((c :: l).dropWhile isWd).length from by omega]
  cases decide ((c :: l).length - ((c :: l).dropWhile isWd).length ≤ 8) <;> rfl
 have numb : xGO c = false → xCu c = true → ∃ x, xCA N N S i i (Tok.mk 0 0 0 []) = some x ∧ LxP S (xHt i (c :: l)) x := fun hl hg => by
  refine ⟨_, xPm hS _ N i (Nat.le_refl _) (by omega) (by omega), ?_⟩
  have hq := xEf (p := xCu) (c :: l)
  rw [hd]
  unfold numG
  rw [xD0, hl, hg, jT, jF, xHO hd (by omega) hq]
  cases hb : (zHG ((c :: l).take ((c :: l).length - ((c :: l).dropWhile xCu).length)) 0 1000000000).2 <;> rfl
 unfold xFS
 rw [if_pos (by omega)]
 simp only [Int.toNat_natCast, xCa hx, xPc, xMr, xM5, xM6, xSy] at hQ hY ⊢
 simp only [xGO, xCu] at hQ hY word numb
 generalize decide (97 ≤ c.toNat) = A at *
 generalize decide (c.toNat ≤ 122) = B at *
 generalize decide (48 ≤ c.toNat) = C at *
 generalize decide (c.toNat ≤ 57) = D at *
 generalize (c.toNat == 34) = E at *
 cases A <;> cases B <;> cases C <;> cases D <;>
  first
  | exact word rfl
  | exact numb rfl rfl
  | (cases E
     · exact hY rfl rfl rfl
     · exact hQ rfl rfl rfl)
theorem xHY {α : Type} {b : Bool} {x y : α} (h : (bif b then some x else none) = some y) : b = true ∧ x = y := by cases b <;> cases h; exact ⟨rfl, rfl⟩
theorem xJv {p : Int} {s r : Str} {t : Tok} (h : xHt p s = some (t, r)) : r.length < s.length := by
 cases s with
 | nil => cases h
 | cons c l =>
   have d1 := xEf (p := isWd) l
   have d2 := xEf (p := xCu) l
   have d3 := xEf (p := notQ) l
   rw [xD0] at h
   cases h1 : xGO c <;> rw [h1] at h
   · cases h2 : xCu c <;> rw [h2] at h
     · cases h3 : c.toNat == 34 <;> rw [h3] at h
       · cases h4 : Lib.hasPrefix (c :: l) [61, 61] <;> rw [h4] at h
         · cases h5 : xI0 c <;> rw [h5] at h
           · cases h
           · cases h; simp
         · cases h; simp; omega
       · simp only [jT, jF] at h
         split at h
         · cases h
         · rename_i q r' he
           rw [he] at d3
           simp only [jC] at d3 ⊢
           obtain ⟨hb, hx⟩ := xHY h
           cases hx; omega
     · simp only [jT, jF] at h
       obtain ⟨hb, hx⟩ := xHY h
       cases hx
       rw [List.dropWhile_cons]; simp only [h2, if_true, jC]; omega
   · simp only [jT] at h
     obtain ⟨hb, hx⟩ := xHY h
     · cases hx
       have : isWd c = true := by unfold isWd; rw [h1]; rfl
       rw [List.dropWhile_cons]; simp only [this, if_true, jC]; omega
theorem xLc {p : Int} {s r : Str} {t : Tok} (h : xHt p s = some (t, r)) : r <:+ s := by
 cases s with
 | nil => cases h
 | cons c l =>
   rw [xD0] at h
   cases h1 : xGO c <;> rw [h1] at h
   · cases h2 : xCu c <;> rw [h2] at h
     · cases h3 : c.toNat == 34 <;> rw [h3] at h
       · cases h4 : Lib.hasPrefix (c :: l) [61, 61] <;> rw [h4] at h
         · cases h5 : xI0 c <;> rw [h5] at h
           · cases h
           · cases h; exact List.suffix_cons _ _
         · cases h; exact (List.tail_suffix _).trans (List.suffix_cons _ _)
       · simp only [jT, jF] at h
         split at h
         · cases h
         · rename_i q r' he
           have hs : q :: r' <:+ l := by rw [← he]; exact List.dropWhile_suffix _
           obtain ⟨hb, hx⟩ := xHY h
           cases hx; exact ((List.suffix_cons _ _).trans hs).trans (List.suffix_cons _ _)
     · simp only [jT, jF] at h
       obtain ⟨hb, hx⟩ := xHY h
       cases hx
       exact List.dropWhile_suffix _
   · simp only [jT] at h
     obtain ⟨hb, hx⟩ := xHY h
     cases hx
     exact List.dropWhile_suffix _
theorem xMs {r : Str} (h : r <:+ S) : S.drop (S.length - r.length) = r := by
 obtain ⟨a, rfl⟩ := h
 rw [jA, show a.length + r.length - r.length = a.length from by omega, List.drop_left]
theorem xWF (hS : S.length ≤ 120) (hN : 1000 < N) : ∀ (m n i : Nat) (acc : List Tok), i ≤ S.length → S.length - i < m → S.length - i < n → acc.length ≤ 60 → xDw N n S acc (i : Nat) = some (lexL m (i : Nat) acc (S.drop i)) := by
 intro m
 induction m with
 | zero => intro n i acc _ h; omega
 | succ m ih =>
   intro n i acc hi hm hn ha
   obtain ⟨n, rfl⟩ : ∃ k, n = k + 1 := ⟨n - 1, by omega⟩
   cases hd : S.drop i with
   | nil =>
     have := xGW hd
     obtain rfl : i = S.length := by omega
     simp only [xDw, Int.lt_irrefl, decide_false, jF, lexL]
   | cons c l =>
     obtain ⟨h1, hx, hd1⟩ := xDm hd
     have hi' : (i : Int) < (S.length : Int) := by omega
     simp only [xDw, decide_eq_true hi', jT, Int.toNat_natCast, xCa hx, xWH, lexL, xBD h1 (by omega : S.length ≤ _)]
     rw [if_pos (by omega)]
     cases h32 : c.toNat == 32
     · simp only [jF]
       obtain ⟨x, hx1, hx2⟩ := xNl (N := N) (S := S) (by omega) hN hd
       rw [hx1, jS]
       cases ho : xHt i (c :: l) with
       | none =>
         rw [ho] at hx2
         have hx2 : x.2.2 = false := hx2
         simp only [hx2, Bool.not_false, jT]
       | some z =>
         obtain ⟨t, r⟩ := z
         rw [ho] at hx2
         have hx2 : x = (t, ((S.length - r.length : Nat) : Int), true) := hx2
         subst hx2
         have hl := xJv ho
         have hs : r <:+ S := by
          have : c :: l <:+ S := by rw [← hd]; exact List.drop_suffix _ _
          exact (xLc ho).trans this
         have hrl := hs.length_le
         obtain ⟨g1, g2⟩ := xED hd
         simp only [Bool.not_true, jF]
         have e60 : (((acc.length : Int) : Int) == 60) = (acc.length == 60) := beqI acc.length 60
         rw [e60]
         cases h60 : acc.length == 60
         · have h60 : acc.length ≠ 60 := beq_eq_false_iff_ne.1 h60
           simp only [jF]
           rw [if_pos (by simp only [jC, jN]; unfold Lim; omega)]
           rw [ih n (S.length - r.length) (acc ++ [t]) (by omega) (by omega) (by omega) (by simp only [jA, jC, jN]; omega), xMs hs]
           rw [show ((S.length - r.length : Nat) : Int) = (i : Int) + ((c :: l).length - r.length : Nat) from by omega]
         · rfl
     · simp only [jT]
       rw [ih n (i + 1) acc (by omega) (by omega) (by omega) ha, hd1]
       rfl
theorem xJh (hN : 1000 < N) (s : Str) : xES N s = some (lex s) := by
 unfold xES lex
 have e : decide (((s.length : Int) : Int) > 120) = decide (s.length > 120) := decide_eq_decide.2 (by omega)
 rw [e]
 cases h : decide (s.length > 120)
 · have h := of_decide_eq_false h
   simp only [jF]
   exact xWF (S := s) (by omega) hN (s.length + 1) N 0 [] (by omega) (by omega) (by omega) (by simp)
 · rfl
end
end Go.Ab
end
section
namespace Go.Ab
def valD (acc : Nat) : Str → Nat
 | [] => acc
 | c :: r => valD (acc * 10 + (c.toNat - 48)) r
theorem xMn : ∀ (l : Str) (acc : Nat), acc ≤ valD acc l
 | [], acc => Nat.le_refl _
 | c :: r, acc => Nat.le_trans (by omega) (xMn r _)
theorem xJT : ∀ (a b : Str) (acc : Nat), valD acc (a ++ b) = valD (valD acc a) b
 | [], b, acc => rfl
 | c :: r, b, acc => xJT r b _
theorem xGj {c : UInt8} : xCu c = true ↔ 48 ≤ c.toNat ∧ c.toNat ≤ 57 := by unfold xCu; rw [Bool.and_eq_true, decide_eq_true_eq, decide_eq_true_eq]
theorem xMW : ∀ (l : Str) (acc : Nat), l.all xCu = true → valD acc l < 1844674407370955162 → Lib.parseUint10 acc l = .ok (valD acc l)
 | [], acc, _, _ => rfl
 | c :: r, acc, hl, hv => by
   rw [List.all_cons, Bool.and_eq_true] at hl
   have hc := xGj.1 hl.1
   have h1 := xMn r (acc * 10 + (c.toNat - 48))
   have hv' : valD (acc * 10 + (c.toNat - 48)) r < 1844674407370955162 := hv
   show (if 48 ≤ c.toNat ∧ c.toNat ≤ 57 then _ else _) = _
   rw [if_pos hc, if_neg (by omega), if_neg (by omega)]
   exact xMW r _ hl.2 hv'
theorem xPd (k : Nat) (h : k < 10) : (UInt8.ofNat (48 + k)).toNat = 48 + k := by
 rw [UInt8.toNat_ofNat']; omega
theorem xPb : ∀ n : Nat, (dd n).all xCu = true ∧ valD 0 (dd n) = n := by
 intro n
 induction n using Nat.strongRecOn with
 | _ n ih =>
   by_cases h : n = 0
   · subst h; exact ⟨rfl, rfl⟩
   · obtain ⟨h1, h2⟩ := ih (n / 10) (by omega)
     have hd := xPd (n % 10) (by omega)
     rw [xLB h, List.all_append, h1, xJT, h2]
     refine ⟨?_, ?_⟩
     · simp only [List.all_cons, List.all_nil, Bool.and_true, Bool.true_and]
       exact xGj.2 (by omega)
     · show n / 10 * 10 + ((UInt8.ofNat (48 + n % 10)).toNat - 48) = n
       rw [hd]; omega
theorem xJ9 {v : Nat} (h : v ≤ 1000000000) : (Lib.itoa v).all xCu = true ∧ valD 0 (Lib.itoa v) = v ∧ (Lib.itoa v).length ≤ 10 ∧ Lib.itoa v ≠ [] := by
 by_cases h0 : v = 0
 · subst h0
   have e : Lib.itoa ((0 : Nat) : Int) = [48] := by
    show Lib.decDigits 0 = [48]
    rw [Lib.decDigits, dif_pos (by omega)]; rfl
   rw [e]; exact ⟨rfl, rfl, by decide, by decide⟩
 · have e : Lib.itoa (v : Int) = dd v := by
    rw [xNC (by omega), decide_eq_false (by omega)]; rfl
   obtain ⟨h1, h2⟩ := xPb v
   rw [e]
   refine ⟨h1, h2, xW9 10 v (by omega), fun he => ?_⟩
   rw [he] at h2
   exact h0 h2.symm
theorem xO8 {w : Str} (h1 : w.all xCu = true) (h2 : w ≠ []) (h3 : valD 0 w < 1844674407370955162) : Lib.atoiAll w = .ok (valD 0 w) := by
 cases w with
 | nil => exact absurd rfl h2
 | cons c r =>
   have hc := h1
   rw [List.all_cons, Bool.and_eq_true] at hc
   have hc := xGj.1 hc.1
   unfold Lib.atoiAll
   have e1 : ¬ (c.toNat = 43 ∨ c.toNat = 45) := by omega
   have e2 : ¬ c.toNat = 45 := by omega
   simp only [if_neg e1]
   unfold Lib.parseMag
   rw [if_neg h2, xMW _ 0 h1 h3]
   simp only [e2, not_false_eq_true, true_and, false_and, if_false]
   rw [if_neg (by omega)]
theorem xIE {v : Nat} (h : v ≤ 1000000000) : zHG (Lib.itoa v) 0 1000000000 = ((v : Int), true) := by
 obtain ⟨h1, h2, h3, h4⟩ := xJ9 h
 unfold zHG
 rw [xO8 h1 h4 (by rw [h2]; omega), h2]
 simp only
 rw [if_neg (by omega), if_neg (by omega)]
 first
 | exact if_pos rfl
 | exact if_pos trivial
theorem xLe {w : Str} (h : (zHG w 0 1000000000).2 = true) : ∃ v : Nat, v ≤ 1000000000 ∧ w = Lib.itoa v := by
 unfold zHG at h
 split at h
 · rename_i v hv
   split at h
   · cases h
   · split at h
     · cases h
     · split at h
       · rename_i h1 h2 h3
         exact ⟨v.toNat, by omega, by rw [show ((v.toNat : Nat) : Int) = v from by omega, h3]⟩
       · cases h
 · cases h
section
variable {N : Nat}
theorem u8d {c : UInt8} (h : xCu c = true) : IntKind.i64.wrap (IntKind.u8.wrap ((c.toNat : Int) - 48)) = ((c.toNat - 48 : Nat) : Int) := by
 have := xGj.1 h
 rw [xMo (by omega) (by omega), xBG (by omega) (by omega)]; omega
theorem xLp (w : Str) (hw : w.all xCu = true) (hl : w.length ≤ 12) (hN : 100 < N) : ∀ n, w.length < n → xCS N n w false w 0 0 =
 (bif !(Lib.itoa ((valD 0 w : Nat) : Int) == w) then some (0, false) else some (((valD 0 w : Nat) : Int), true)) := by
 intro n hn
 have big : ∀ (l : Str) (acc k : Nat), l.all xCu = true → acc < 10 ^ k → valD acc l < 10 ^ (k + l.length) := by
  intro l
  induction l with
  | nil => intro acc k _ h; exact h
  | cons c r ih =>
    intro acc k hl h
    rw [List.all_cons, Bool.and_eq_true] at hl
    have hc := xGj.1 hl.1
    have := ih (acc * 10 + (c.toNat - 48)) (k + 1) hl.2 (by rw [Nat.pow_succ]; omega)
    show valD (acc * 10 + (c.toNat - 48)) r < _
    rw [jC, show k + (r.length + 1) = k + 1 + r.length from by omega]
    exact this
 have hb := big w 0 0 hw (by decide)
 have hb2 : valD 0 w < 10 ^ 12 := Nat.lt_of_lt_of_le hb (Nat.pow_le_pow_right (by omega) (by omega))
 have e12 : (10 : Nat) ^ 12 = 1000000000000 := by decide
 have key : ∀ n j (acc : Nat), j ≤ w.length → w.length < n + j → valD acc (w.drop j) = valD 0 w → xCS N n w false w (acc : Int) (j : Nat) =
  (bif !(Lib.itoa ((valD 0 w : Nat) : Int) == w) then some (0, false) else some (((valD 0 w : Nat) : Int), true)) := by
  intro n
  induction n with
  | zero => intro j acc h1 h2; omega
  | succ n ih =>
    intro j acc h1 h2 h3
    cases hd : w.drop j with
    | nil =>
      have := xGW hd
      obtain rfl : j = w.length := by omega
      rw [hd] at h3
      have h3 : acc = valD 0 w := h3
      simp only [xCS, Int.lt_irrefl, decide_false, jF]
      rw [xIY hN (by omega), jS, h3]
    | cons c r =>
      obtain ⟨g1, g2, g3⟩ := xDm hd
      have hc : xCu c = true := List.all_eq_true.1 hw c (List.mem_of_getElem? g2)
      have hc' := xGj.1 hc
      rw [hd] at h3
      have h3 : valD (acc * 10 + (c.toNat - 48)) r = valD 0 w := h3
      have h4 := xMn r (acc * 10 + (c.toNat - 48))
      have hj' : (j : Int) < (w.length : Int) := by omega
      have e1 : IntKind.i64.wrap (10 * (acc : Int)) = 10 * (acc : Int) := xBG (by omega) (by omega)
      have e2 : IntKind.i64.wrap (10 * (acc : Int) + ((c.toNat - 48 : Nat) : Int)) = ((acc * 10 + (c.toNat - 48) : Nat) : Int) := by rw [xBG (by omega) (by omega)]; omega
      simp only [xCS, decide_eq_true hj', jT, Int.toNat_natCast, xCa g2, u8d hc, e1, e2, xBD g1 (by omega : w.length ≤ _)]
      rw [if_pos (by omega), decide_eq_false (by omega), jF, decide_eq_false (by omega), jF]
      exact ih (j + 1) _ (by omega) (by omega) (by rw [g3]; exact h3)
 exact key n 0 0 (by omega) (by omega) rfl
theorem xJk {w : Str} (hw : w.all xCu = true) (hne : w ≠ []) (hl : w.length ≤ 1000) (hN : 1000 < N) : ∃ n ok, xEs N w = some (n, ok) ∧
 (ok && !decide (n > 1000000000)) = (zHG w 0 1000000000).2 ∧ ((zHG w 0 1000000000).2 = true → n = (zHG w 0 1000000000).1) := by
 obtain ⟨c, r, rfl⟩ : ∃ c r, w = c :: r := by
  cases w with
  | nil => exact absurd rfl hne
  | cons c r => exact ⟨c, r, rfl⟩
 have hc := hw
 rw [List.all_cons, Bool.and_eq_true] at hc
 have hc' := xGj.1 hc.1
 have hlen : (c :: r).length = r.length + 1 := rfl
 have e45 : (((c.toNat : Int) : Int) == 45) = false := beq_eq_false_iff_ne.2 (by omega)
 have hr : xGq N (c :: r) 12 = (bif decide ((((c :: r).length : Int) : Int) > 12) then some (0, false) else xCS N N (c :: r) false (c :: r) 0 0) := by
  unfold xGq
  rw [decide_eq_true (by omega : (((c :: r).length : Int) : Int) > 0), jT, if_pos (by omega)]
  simp only [Int.toNat_zero, List.getD_cons_zero, e45, jF]
  rw [decide_eq_false (by omega : ¬ (((c :: r).length : Int) : Int) < 1), jF]
 unfold xEs
 rw [hr]
 by_cases hcan : (zHG (c :: r) 0 1000000000).2 = true
 · obtain ⟨v, hv, he⟩ := xLe hcan
   obtain ⟨p1, p2, p3, p4⟩ := xJ9 hv
   rw [← he] at p2 p3
   rw [decide_eq_false (by omega), jF, xLp _ hw (by omega) (by omega) N (by omega), p2, ← he]
   simp only [beq_self_eq_true, Bool.not_true, jF, jS]
   have hn : zHG (c :: r) 0 1000000000 = ((v : Int), true) := by rw [he]; exact xIE hv
   refine ⟨(v : Int), true, rfl, ?_, fun _ => by rw [hn]⟩
   rw [hn, decide_eq_false (by omega)]; rfl
 · have hcan : (zHG (c :: r) 0 1000000000).2 = false := by simpa using hcan
   rw [hcan]
   cases h12 : decide ((((c :: r).length : Int) : Int) > 12)
   · have h12 := of_decide_eq_false h12
     rw [jF, xLp _ hw (by omega) (by omega) N (by omega)]
     cases hi : Lib.itoa ((valD 0 (c :: r) : Nat) : Int) == c :: r
     · exact ⟨0, false, rfl, rfl, fun h => by cases h⟩
     · have hi := beq_iff_eq.1 hi
       have hbig : ¬ valD 0 (c :: r) ≤ 1000000000 := fun h => by
        have := xIE h
        rw [hi] at this
        rw [this] at hcan
        cases hcan
       exact ⟨_, true, rfl, by rw [decide_eq_true (by omega)]; rfl, fun h => by cases h⟩
   · exact ⟨0, false, rfl, rfl, fun h => by cases h⟩
theorem xJu (c : UInt8) : xEY N (c.toNat : Int) = some (xGO c) := by
 unfold xEY xGO
 rw [xPc, xMr]
 cases decide (97 ≤ c.toNat) <;> rfl
theorem xIn (c : UInt8) : xEP N (c.toNat : Int) = some (xCu c) := by
 unfold xEP xCu
 rw [xM5, xM6]
 cases decide (48 ≤ c.toNat) <;> rfl
variable {S : Str}
def xNm (S : Str) (i : Nat) (n6 p6 : Int) (l : Str) (p : UInt8 → Bool) : Tok × Int :=
 bif decide (S.length - (l.dropWhile p).length - i > 8) then (Tok.mk 1 n6 p6 (List.drop i (List.take (S.length - (l.dropWhile p).length) S)), 0) else (Tok.mk 1 n6 p6 (List.drop i (List.take (S.length - (l.dropWhile p).length) S)), ((S.length - (l.dropWhile p).length - i : Nat) : Int))
theorem xNk (hS : S.length ≤ 1000) {i : Nat} (b4 b6 : Tok) : ∀ n j, i ≤ j → j ≤ S.length → S.length < n + j → xDl N n S i (j : Nat) b4 b6 = some (xNm S i b6.n b6.pos (S.drop j) isWd) := by
 intro n j hij hj hn
 have fin : ∀ j : Nat, i ≤ j → j ≤ S.length → (bif (decide (((IntKind.i64.wrap ((j : Int) - (i : Int))) : Int) > 8)) then (
       some ((Tok.mk 1 (Tok.n b6) (Tok.pos b6) (List.drop i (List.take j S))), (0 : Int))
  ) else (
    some ((Tok.mk 1 (Tok.n b6) (Tok.pos b6) (List.drop i (List.take j S))), (IntKind.i64.wrap ((j : Int) - (i : Int))))
  )) = some (bif decide (j - i > 8) then (Tok.mk 1 b6.n b6.pos (List.drop i (List.take j S)), 0) else (Tok.mk 1 b6.n b6.pos (List.drop i (List.take j S)), ((j - i : Nat) : Int))) := by
  intro j h1 h2
  have e1 : IntKind.i64.wrap ((j : Int) - (i : Int)) = ((j - i : Nat) : Int) := by rw [xBG (by omega) (by omega)]; omega
  rw [e1, decide_eq_decide.2 (by omega : ((j - i : Nat) : Int) > 8 ↔ j - i > 8)]
  cases decide (j - i > 8) <;> rfl
 refine xFJ (σ := Unit) (L := fun n j _ => xDl N n S i j b4 b6) S (fun l _ => xNm S i b6.n b6.pos l isWd)
  (fun j _ => i ≤ j) (fun n _ hi => ?_) (fun j x l _ hd hj hx hi => ?_) n j () hij hj hn
 · have hi : i ≤ S.length := hi
   simp only [xDl, Int.lt_irrefl, decide_false, jF]
   rw [if_pos (by omega)]
   simp only [Int.toNat_natCast, fin _ hi (Nat.le_refl _), xNm, List.dropWhile_nil, jN, Nat.sub_zero]
   rfl
 · have hi : i ≤ j := hi
   have hj' : (j : Int) < (S.length : Int) := by omega
   have hj2 : (0 : Int) ≤ (j : Int) ∧ (j : Int) < (S.length : Int) := ⟨by omega, hj'⟩
   have hj3 : (0 : Int) ≤ (i : Int) ∧ (i : Int) ≤ (j : Int) ∧ (j : Int) ≤ (S.length : Int) := by omega
   cases hw : isWd x
   · refine .inr fun n => ?_
     have e2 : (x :: l).dropWhile isWd = x :: l := by rw [List.dropWhile_cons]; simp [hw]
     have e3 := (xED hd).1
     unfold isWd at hw
     rw [Bool.or_eq_false_iff] at hw
     simp only [xDl, decide_eq_true hj', jT, jF, if_pos hj2, if_pos hj3, Int.toNat_natCast, xCa hx, xJu, xIn, hw.1, hw.2, jS, fin _ hi (by omega : j ≤ S.length), xNm, e2, e3]
   · refine .inl ⟨(), by omega, ?_, fun n => ?_⟩
     · have e2 : (x :: l).dropWhile isWd = l.dropWhile isWd := by rw [List.dropWhile_cons]; simp [hw]
       simp only [xNm, e2]
     · unfold isWd at hw
       simp only [xDl, decide_eq_true hj', jT, if_pos hj2, Int.toNat_natCast, xCa hx, xJu, xIn, jS, xBD hj (by omega : S.length ≤ _)]
       cases h1 : xGO x
       · rw [h1, Bool.false_or] at hw
         rw [hw]; rfl
       · rfl
def LxS (s : Str) (o : Option (Tok × Str)) (x : Tok × Int) : Prop := match o with
 | some (t, r) => x = (t, ((s.length - r.length : Nat) : Int))
 | none => x.2 = 0
theorem xGa {p : UInt8 → Bool} {c : UInt8} (l : Str) (h : p c = true) : (c :: l).dropWhile p = l.dropWhile p := by rw [List.dropWhile_cons]; simp [h]
theorem xOS (hS : S.length ≤ 1000) (hN : 1000 < N) {i : Nat} {c : UInt8} {l0 : Str} (hd0 : S.drop i = c :: l0) (hc : xCu c = true) (hL : xGO c = false) (b4 : Tok) (p6 : Int) (hp : p6 = i) : ∀ n j, i < j → j ≤ S.length → S.length < n + j → (c :: l0).dropWhile xCu = (S.drop j).dropWhile xCu →
 ∃ x, xCX N n S i (j : Nat) b4 (Tok.mk 0 0 p6 []) = some x ∧ LxS (c :: l0) (xHt i (c :: l0)) x := by
 obtain ⟨g1, g2⟩ := xED hd0
 obtain ⟨gi, gx, gd⟩ := xDm hd0
 have hq := xEf (p := xCu) l0
 have hsame := xGa (p := xCu) l0 hc
 have fin : ∀ j : Nat, i < j → j ≤ S.length → S.length - j = ((c :: l0).dropWhile xCu).length → ∃ x, (Option.bind (xEs N (List.drop i (List.take j S))) fun r2 =>
       bif (!r2.2) then (
        some ((Tok.mk 2 r2.1 p6 []), 0)
       ) else (
         bif (decide ((r2.1 : Int) > 1000000000)) then (
          some ((Tok.mk 2 r2.1 p6 []), 0)
         ) else (
           some ((Tok.mk 2 r2.1 p6 []), (IntKind.i64.wrap ((j : Int) - (i : Int))))
         )
       )) = some x ∧ LxS (c :: l0) (xHt i (c :: l0)) x := by
  intro j h1 h2 h3
  have ew : List.drop i (List.take j S) = (c :: l0).take ((c :: l0).length - ((c :: l0).dropWhile xCu).length) := by
   have := xHO (S := S) (s := c :: l0) hd0 (by omega) (k := ((c :: l0).dropWhile xCu).length) (xEf _)
   rw [← this, show S.length - ((c :: l0).dropWhile xCu).length = j from by omega]
  have hall : ((c :: l0).take ((c :: l0).length - ((c :: l0).dropWhile xCu).length)).all xCu = true := by
   have : (c :: l0).take ((c :: l0).length - ((c :: l0).dropWhile xCu).length) = (c :: l0).takeWhile xCu := by
    have e := List.takeWhile_append_dropWhile (p := xCu) (l := c :: l0)
    have hl := congrArg List.length e
    rw [jA] at hl
    conv => lhs; arg 2; rw [← e]
    rw [show (c :: l0).length - ((c :: l0).dropWhile xCu).length = ((c :: l0).takeWhile xCu).length from by omega, List.take_left']
    rfl
   rw [this]
   exact List.all_takeWhile
  have hne : (c :: l0).take ((c :: l0).length - ((c :: l0).dropWhile xCu).length) ≠ [] := by
   intro he
   have := congrArg List.length he
   rw [List.length_take, hsame, jN] at this
   simp only [jC] at this
   omega
  obtain ⟨n, ok, e1, e2, e3⟩ := xJk (N := N) hall hne (by rw [List.length_take]; simp only [jC] at g2 ⊢; omega) hN
  rw [ew, e1, jS, xD0, hL, hc]
  simp only [jT, jF]
  rw [← e2] at e3 ⊢
  have e4 : IntKind.i64.wrap ((j : Int) - (i : Int)) = (((c :: l0).length - ((c :: l0).dropWhile xCu).length : Nat) : Int) := by rw [xBG (by omega) (by omega)]; omega
  cases ok
  · exact ⟨_, rfl, rfl⟩
  · cases hb : decide (n > 1000000000)
    · rw [hb] at e3
      have e3 := e3 rfl
      refine ⟨_, rfl, ?_⟩
      show (_, _) = (_, _)
      rw [e4, ← e3, hp]
    · exact ⟨_, rfl, rfl⟩
 intro n
 induction n with
 | zero => intro j h1 h2 h3; omega
 | succ n ih =>
   intro j h1 h2 h3 h4
   cases hd : S.drop j with
   | nil =>
     have := xGW hd
     obtain rfl : j = S.length := by omega
     rw [hd] at h4
     simp only [xCX, Int.lt_irrefl, decide_false, jF]
     rw [if_pos (by omega)]
     simp only [Int.toNat_natCast]
     exact fin _ h1 h2 (by rw [h4]; simp)
   | cons x l =>
     obtain ⟨k1, k2, k3⟩ := xDm hd
     have hj' : (j : Int) < (S.length : Int) := by omega
     have hj2 : (0 : Int) ≤ (j : Int) ∧ (j : Int) < (S.length : Int) := ⟨by omega, hj'⟩
     have hj3 : (0 : Int) ≤ (i : Int) ∧ (i : Int) ≤ (j : Int) ∧ (j : Int) ≤ (S.length : Int) := by omega
     simp only [xCX, decide_eq_true hj', jT, if_pos hj2, if_pos hj3, Int.toNat_natCast, xCa k2, xIn, jS, xBD k1 (by omega : S.length ≤ _)]
     cases hw : xCu x
     · have e2 : (x :: l).dropWhile xCu = x :: l := by rw [List.dropWhile_cons]; simp [hw]
       rw [hd, e2] at h4
       exact fin j h1 h2 (by rw [h4]; have := (xED hd).2; omega)
     · have e2 : (x :: l).dropWhile xCu = l.dropWhile xCu := xGa l hw
       exact ih (j + 1) (by omega) (by omega) (by omega) (by rw [h4, hd, e2, k3])
theorem xWC (hS : S.length ≤ 1000) (hN : 1000 < N) {i : Nat} {c : UInt8} {l0 : Str} (hd0 : S.drop i = c :: l0) (h34 : (c.toNat == 34) = true) (hD : xCu c = false) (hL : xGO c = false) (b4 : Tok) (p6 : Int) (hp : p6 = i) : ∀ n j, i < j → j ≤ S.length → S.length < n + j → l0.dropWhile notQ = (S.drop j).dropWhile notQ →
 ∃ x, xEn N n S i (j : Nat) b4 (Tok.mk 0 0 p6 []) = some x ∧ LxS (c :: l0) (xHt i (c :: l0)) x := by
 obtain ⟨g1, g2⟩ := xED hd0
 obtain ⟨gi, gx, gd⟩ := xDm hd0
 have hq := xEf (p := notQ) l0
 simp only [jC] at g1 g2
 have w1 : IntKind.i64.wrap ((i : Int) + 1) = ((i + 1 : Nat) : Int) := xBD gi (by omega)
 intro n
 induction n with
 | zero => intro j h1 h2 h3; omega
 | succ n ih =>
   intro j h1 h2 h3 h4
   cases hd : S.drop j with
   | nil =>
     have := xGW hd
     obtain rfl : j = S.length := by omega
     rw [hd] at h4
     simp only [xEn, Int.lt_irrefl, decide_false, jF, w1]
     rw [if_pos (by omega)]
     simp only [beq_self_eq_true, jT]
     refine ⟨_, rfl, ?_⟩
     rw [xD0, hL, hD, h34, h4]
     rfl
   | cons x l =>
     obtain ⟨k1, k2, k3⟩ := xDm hd
     have hj' : (j : Int) < (S.length : Int) := by omega
     have hj2 : (0 : Int) ≤ (j : Int) ∧ (j : Int) < (S.length : Int) := ⟨by omega, hj'⟩
     have hj3 : (0 : Int) ≤ ((i + 1 : Nat) : Int) ∧ ((i + 1 : Nat) : Int) ≤ (j : Int) ∧ (j : Int) ≤ (S.length : Int) := by omega
     simp only [xEn, decide_eq_true hj', jT, if_pos hj2, w1, if_pos hj3, Int.toNat_natCast, xCa k2, bne, xSy, xBD k1 (by omega : S.length ≤ _)]
     cases hw : x.toNat == 34
     · have e2 : (x :: l).dropWhile notQ = l.dropWhile notQ := xGa l (by unfold notQ; rw [hw]; rfl)
       exact ih (j + 1) (by omega) (by omega) (by omega) (by rw [h4, hd, e2, k3])
     · have e2 : (x :: l).dropWhile notQ = x :: l := by rw [List.dropWhile_cons]; simp [notQ, hw]
       rw [hd, e2] at h4
       rw [h4] at hq
       simp only [jC] at hq
       have hjl := (xED hd).2
       simp only [jC] at hjl
       have ew : List.drop (i + 1) (List.take j S) = l0.take (l0.length - (x :: l).length) := by
        have := xHO (S := S) (s := l0) gd (by omega) (k := (x :: l).length) (by simp only [jC]; omega)
        rw [← this, show S.length - (x :: l).length = j from by simp only [jC]; omega]
       have ht : (l0.take (l0.length - (x :: l).length)).length ≤ 1000 := by rw [List.length_take]; omega
       have ne : ((j : Int) == (S.length : Int)) = false := beq_eq_false_iff_ne.2 (by omega)
       have e4 : IntKind.i64.wrap (((j + 1 : Nat) : Int) - (i : Int)) = (((c :: l0).length - l.length : Nat) : Int) := by rw [xBG (by omega) (by omega)]; simp only [jC]; omega
       simp only [Bool.not_true, jF, ne, ew]
       rw [xFl (N := N) (by omega) (by omega), jS, xD0, hL, hD, h34, h4]
       simp only [jT, jF]
       cases xH4 (l0.take (l0.length - (x :: l).length))
       · exact ⟨_, rfl, rfl⟩
       · refine ⟨_, rfl, ?_⟩
         show (_, _) = (_, _)
         rw [e4, hp]
theorem xLG (c : UInt8) : ∀ l : Str, decide (Lib.indexByte l c ≥ 0) = l.any fun b => b.toNat == c.toNat
 | [] => rfl
 | b :: l => by
   have ih := xLG c l
   have h1 := Lib.indexByte_ge l c
   have e : Lib.indexByte (b :: l) c = if b == c then 0 else if Lib.indexByte l c == -1 then -1 else Lib.indexByte l c + 1 := rfl
   rw [List.any_cons, ← ih, e, xK3 b c]
   cases b.toNat == c.toNat
   · simp only [Bool.false_eq_true, if_false, Bool.false_or]
     by_cases h : Lib.indexByte l c = -1
     · rw [h]; rfl
     · rw [show (Lib.indexByte l c == -1) = false from beq_eq_false_iff_ne.2 h]
       simp only [Bool.false_eq_true, if_false]
       rw [decide_eq_true (by omega), decide_eq_true (by omega)]
   · rfl
theorem beqc (c : UInt8) (k : Nat) : (((c.toNat : Int) : Int) == (k : Int)) = (c.toNat == k) := beqI c.toNat k
def xLb : Str → Bool
 | [] => false
 | d :: _ => 61 == d.toNat
def symN (c : UInt8) (l : Str) : Nat := bif Lib.hasPrefix (c :: l) [61, 61] then 2 else bif xI0 c then 1 else 0
theorem xOX (hS : S.length ≤ 1000) {i : Nat} {c : UInt8} {l : Str} (hd : S.drop i = c :: l) : xFF N S i = some ((symN c l : Nat) : Int) := by
 obtain ⟨g1, g2⟩ := xED hd
 obtain ⟨gi, gx, gd⟩ := xDm hd
 have w1 : IntKind.i64.wrap ((i : Int) + 1) = ((i + 1 : Nat) : Int) := xBD gi (by omega)
 have hok : xI0 c = (40 == c.toNat || (41 == c.toNat || (91 == c.toNat || (93 == c.toNat || (44 == c.toNat || (43 == c.toNat || (45 == c.toNat || (42 == c.toNat || (60 == c.toNat || (61 == c.toNat || false)))))))))) := by
  unfold xI0; rw [xLG]; rfl
 have hpre : Lib.hasPrefix (c :: l) [61, 61] = (61 == c.toNat && xLb l) := by
  unfold Lib.hasPrefix
  cases l with
  | nil => simp [List.isPrefixOf, xLb]
  | cons d r =>
    simp only [List.isPrefixOf, xK3, Bool.and_true, xLb]; rfl
 have b (k : Nat) : (c.toNat == k) = (k == c.toNat) := by
  by_cases h : c.toNat = k
  · rw [h]
  · rw [beq_eq_false_iff_ne.2 h, beq_eq_false_iff_ne.2 (fun e => h e.symm)]
 unfold xFF
 rw [if_pos (by omega)]
 have k40 := (beqc c 40).trans (b 40); have k41 := (beqc c 41).trans (b 41); have k91 := (beqc c 91).trans (b 91); have k93 := (beqc c 93).trans (b 93); have k44 := (beqc c 44).trans (b 44)
 have k43 := (beqc c 43).trans (b 43); have k45 := (beqc c 45).trans (b 45); have k42 := (beqc c 42).trans (b 42); have k60 := (beqc c 60).trans (b 60); have k61 := (beqc c 61).trans (b 61)
 simp only [Int.toNat_natCast, xCa gx, w1]
 unfold symN
 rw [hok, hpre]
 have no61 : ∀ k : Nat, k ≠ 61 → (k == c.toNat) = true → (61 == c.toNat) = false := fun k hk h => beq_eq_false_iff_ne.2 fun e => hk ((beq_iff_eq.1 h).trans e.symm)
 have fin : (bif (decide (((i + 1 : Nat) : Int) < (List.length S : Int))) then (
                   if (0 : Int) ≤ ((i + 1 : Nat) : Int) ∧ ((i + 1 : Nat) : Int) < (List.length S) then
                   bif ((((List.getD S (i + 1) 0).toNat : Int) : Int) == 61) then (
                    some (2 : Int)
                   ) else (
                     some 1
                   )
                   else none
                   ) else (
                     some 1
                   )) = some (((bif xLb l then 2 else 1 : Nat)) : Int) := by
  cases l with
  | nil =>
    simp only [jC, jN] at g2
    rw [decide_eq_false (by omega)]; rfl
  | cons d r =>
    simp only [jC] at g2
    obtain ⟨ji, jx, jd⟩ := xDm gd
    rw [decide_eq_true (by omega), jT, if_pos (by omega), xCa jx]
    have bd : (((d.toNat : Int) : Int) == 61) = (61 == d.toNat) := (beqI d.toNat 61).trans (by
     by_cases h : d.toNat = 61
     · rw [h]
     · rw [beq_eq_false_iff_ne.2 h, beq_eq_false_iff_ne.2 (fun e => h e.symm)])
    rw [bd, show xLb (d :: r) = (61 == d.toNat) from rfl]
    cases (61 == d.toNat) <;> rfl
 rw [fin]
 have k40 : (((c.toNat : Int) : Int) == 40) = (40 == c.toNat) := k40
 have k41 : (((c.toNat : Int) : Int) == 41) = (41 == c.toNat) := k41
 have k91 : (((c.toNat : Int) : Int) == 91) = (91 == c.toNat) := k91
 have k93 : (((c.toNat : Int) : Int) == 93) = (93 == c.toNat) := k93
 have k44 : (((c.toNat : Int) : Int) == 44) = (44 == c.toNat) := k44
 have k43 : (((c.toNat : Int) : Int) == 43) = (43 == c.toNat) := k43
 have k45 : (((c.toNat : Int) : Int) == 45) = (45 == c.toNat) := k45
 have k42 : (((c.toNat : Int) : Int) == 42) = (42 == c.toNat) := k42
 have k60 : (((c.toNat : Int) : Int) == 60) = (60 == c.toNat) := k60
 have k61 : (((c.toNat : Int) : Int) == 61) = (61 == c.toNat) := k61
 rw [k40, k41, k91, k93, k44, k43, k45, k42, k60, k61]
 cases h1 : (40 == c.toNat)
 · cases h2 : (41 == c.toNat)
   · cases h3 : (91 == c.toNat)
     · cases h4 : (93 == c.toNat)
       · cases h5 : (44 == c.toNat)
         · cases h6 : (43 == c.toNat)
           · cases h7 : (45 == c.toNat)
             · cases h8 : (42 == c.toNat)
               · cases h9 : (60 == c.toNat)
                 · cases h10 : (61 == c.toNat)
                   · rfl
                   · simp only [jF, jT, Bool.true_and, Bool.or_true, Bool.false_or, Bool.true_or]
                 · rw [no61 60 (by decide) h9]; rfl
               · rw [no61 42 (by decide) h8]; rfl
             · rw [no61 45 (by decide) h7]; rfl
           · rw [no61 43 (by decide) h6]; rfl
         · rw [no61 44 (by decide) h5]; rfl
       · rw [no61 93 (by decide) h4]; rfl
     · rw [no61 91 (by decide) h3]; rfl
   · rw [no61 41 (by decide) h2]; rfl
 · rw [no61 40 (by decide) h1]; rfl
theorem xSF (hS : S.length ≤ 1000) (hN : 1000 < N) {i : Nat} {c : UInt8} {l : Str} (hd : S.drop i = c :: l) : ∃ x, xGs N S i = some x ∧ LxS (c :: l) (xHt i (c :: l)) x := by
 obtain ⟨e1, e2⟩ := xED hd
 obtain ⟨hi, hx, hd1⟩ := xDm hd
 simp only [jC] at e1 e2
 have w1 : IntKind.i64.wrap ((i : Int) + 1) = ((i + 1 : Nat) : Int) := xBD hi (by omega)
 unfold xGs
 rw [if_pos (by omega)]
 simp only [Int.toNat_natCast, xCa hx, xJu, xIn, jS, xSy, w1]
 cases hL : xGO c
 · cases hD : xCu c
   · cases h34 : c.toNat == 34
     · simp only [jF]
       rw [xOX hS hd, jS]
       have hle : symN c l ≤ (c :: l).length := by
        unfold symN
        cases hp : Lib.hasPrefix (c :: l) [61, 61]
        · cases xI0 c <;> simp
        · have : 2 ≤ (c :: l).length := by
           cases l with
           | nil => simp [Lib.hasPrefix, List.isPrefixOf] at hp
           | cons a b => simp
          simpa using this
       simp only [jC] at hle
       have s2 : symN c l ≤ 2 := by
        unfold symN
        cases Lib.hasPrefix (c :: l) [61, 61] <;> cases xI0 c <;> simp
       have v1 : IntKind.i64.wrap ((i : Int) + ((symN c l : Nat) : Int)) = ((i + symN c l : Nat) : Int) := by rw [xBG (by omega) (by omega)]; omega
       have v2 : IntKind.i64.wrap (((i + symN c l : Nat) : Int) - (i : Int)) = ((symN c l : Nat) : Int) := by rw [xBG (by omega) (by omega)]; omega
       have v3 : List.drop i (List.take (i + symN c l) S) = (c :: l).take (symN c l) := by rw [List.drop_take, hd, show i + symN c l - i = symN c l from by omega]
       simp only [v1, v2, Int.toNat_natCast, v3]
       rw [if_pos (by omega), xD0, hL, hD, h34]
       refine ⟨_, rfl, ?_⟩
       simp only [jF]
       unfold symN at s2 ⊢
       cases hp : Lib.hasPrefix (c :: l) [61, 61]
       · cases xI0 c
         · rfl
         · show (_, _) = (_, _)
           simp
       · have h2 : l.tail.length + 1 = l.length := by
          cases l with
          | nil => simp [Lib.hasPrefix, List.isPrefixOf] at hp
          | cons a b => rfl
         have h3 : (c :: l).take 2 = [61, 61] := by
          cases l with
          | nil => simp [Lib.hasPrefix, List.isPrefixOf] at hp
          | cons a b =>
            simp only [Lib.hasPrefix, List.isPrefixOf, Bool.and_eq_true, beq_iff_eq] at hp
            obtain ⟨rfl, rfl, _⟩ := hp
            rfl
         show (_, _) = (_, _)
         simp only [jT, h3, jC]
         rw [show l.length + 1 - l.tail.length = 2 from by omega]
     · exact xWC hS hN hd h34 hD hL _ _ rfl N (i + 1) (by omega) (by omega) (by omega) (by rw [hd1])
   · simp only [jT, jF]
     obtain ⟨n, rfl⟩ : ∃ n, N = n + 1 := ⟨N - 1, by omega⟩
     have hj' : (i : Int) < (S.length : Int) := by omega
     have hj2 : (0 : Int) ≤ (i : Int) ∧ (i : Int) < (S.length : Int) := ⟨by omega, hj'⟩
     have step : xCX (n + 1) (n + 1) S i i (Tok.mk 0 0 0 []) (Tok.mk 0 0 i []) = xCX (n + 1) n S i ((i + 1 : Nat) : Int) (Tok.mk 0 0 0 []) (Tok.mk 0 0 i []) := by
      simp only [xCX, decide_eq_true hj', jT, if_pos hj2, Int.toNat_natCast, xCa hx, xIn, jS, hD, w1]
     rw [step]
     exact xOS hS hN hd hD hL _ _ rfl n (i + 1) (by omega) (by omega) (by omega) (by rw [hd1, xGa l hD])
 · simp only [jT]
   have hw : isWd c = true := by unfold isWd; rw [hL]; rfl
   have hq := xEf (p := isWd) (c :: l)
   have hq2 := xEf (p := isWd) l
   refine ⟨_, xNk hS _ _ N i (Nat.le_refl _) (by omega) (by omega), ?_⟩
   rw [hd, xD0, hL, jT]
   unfold xNm
   have h0 := xGa l hw
   simp only [jC] at hq
   rw [xHO hd (by omega) (by simp only [jC]; omega), show S.length - ((c :: l).dropWhile isWd).length - i = (c :: l).length - ((c :: l).dropWhile isWd).length from by simp only [jC]; omega]
   by_cases h8 : (c :: l).length - ((c :: l).dropWhile isWd).length ≤ 8
   · rw [decide_eq_true h8, decide_eq_false (by omega)]; rfl
   · rw [decide_eq_false h8, decide_eq_true (by omega)]; rfl
theorem xSg (hS : S.length ≤ 120) (hN : 1000 < N) : ∀ (m n i : Nat) (acc : List Tok), i ≤ S.length → S.length - i < m → S.length - i < n → acc.length ≤ 60 → xDz N n S acc (i : Nat) = some (lexL m (i : Nat) acc (S.drop i)) := by
 intro m
 induction m with
 | zero => intro n i acc _ h; omega
 | succ m ih =>
   intro n i acc hi hm hn ha
   obtain ⟨n, rfl⟩ : ∃ k, n = k + 1 := ⟨n - 1, by omega⟩
   cases hd : S.drop i with
   | nil =>
     have := xGW hd
     obtain rfl : i = S.length := by omega
     simp only [xDz, Int.lt_irrefl, decide_false, jF, lexL]
   | cons c l =>
     obtain ⟨h1, hx, hd1⟩ := xDm hd
     have hi' : (i : Int) < (S.length : Int) := by omega
     simp only [xDz, decide_eq_true hi', jT, Int.toNat_natCast, xCa hx, xWH, lexL, xBD h1 (by omega : S.length ≤ _)]
     rw [if_pos (by omega)]
     cases h32 : c.toNat == 32
     · simp only [jF]
       obtain ⟨x, hx1, hx2⟩ := xSF (N := N) (S := S) (by omega) hN hd
       rw [hx1, jS]
       cases ho : xHt i (c :: l) with
       | none =>
         rw [ho] at hx2
         have hx2 : x.2 = 0 := hx2
         simp only [hx2, beq_self_eq_true, jT]
       | some z =>
         obtain ⟨t, r⟩ := z
         rw [ho] at hx2
         have hx2 : x = (t, (((c :: l).length - r.length : Nat) : Int)) := hx2
         subst hx2
         have hl := xJv ho
         have hs : r <:+ S := by
          have : c :: l <:+ S := by rw [← hd]; exact List.drop_suffix _ _
          exact (xLc ho).trans this
         have hrl := hs.length_le
         obtain ⟨g1, g2⟩ := xED hd
         have ne0 : ((((c :: l).length - r.length : Nat) : Int) == 0) = false := beq_eq_false_iff_ne.2 (by omega)
         have v1 : IntKind.i64.wrap ((i : Int) + (((c :: l).length - r.length : Nat) : Int)) = ((S.length - r.length : Nat) : Int) := by rw [xBG (by omega) (by omega)]; omega
         have e60 : (((acc.length : Int) : Int) == 60) = (acc.length == 60) := beqI acc.length 60
         simp only [ne0, jF, e60, v1]
         cases h60 : acc.length == 60
         · have h60 : acc.length ≠ 60 := beq_eq_false_iff_ne.1 h60
           simp only [jF]
           rw [if_pos (by simp only [jC, jN]; unfold Lim; omega)]
           rw [ih n (S.length - r.length) (acc ++ [t]) (by omega) (by omega) (by omega) (by simp only [jA, jC, jN]; omega), xMs hs]
           rw [show ((S.length - r.length : Nat) : Int) = (i : Int) + ((c :: l).length - r.length : Nat) from by omega]
         · rfl
     · simp only [jT]
       rw [ih n (i + 1) acc (by omega) (by omega) (by omega) ha, hd1]
       rfl
theorem xJl (hN : 1000 < N) (s : Str) : xEW N s = some (lex s) := by
 unfold xEW lex
 have e : decide (((s.length : Int) : Int) > 120) = decide (s.length > 120) := decide_eq_decide.2 (by omega)
 rw [e]
 cases h : decide (s.length > 120)
 · have h := of_decide_eq_false h
   simp only [jF]
   exact xSg (S := s) (by omega) hN (s.length + 1) N 0 [] (by omega) (by omega) (by omega) (by simp)
 · rfl
end
end Go.Ab
end
