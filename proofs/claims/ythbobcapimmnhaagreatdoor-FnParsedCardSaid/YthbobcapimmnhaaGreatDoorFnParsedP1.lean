/- The statement FnParsed holds: plain functions, certificates, laws. Conditions: none. -/
import Derived.Test.YthbobcapimmnhaaGreatDoorL2
import Derived.Test.YthbobcapimmnhaaGreatDoorFnParsedP0
set_option linter.all false
section
open Go.Proofs
namespace Go.Ab.T
set_option maxRecDepth 100000
variable [Inhabited Lb]
variable [Nonempty Tab10]
variable [Nonempty ErrVars]
noncomputable def I117 : Info := { body := (Tryz.f117.body).getD .skip, nt := 26, results := [.tmp 2], keep := [0, 4, 6, 8, 12, 24, 40, 48], live := [], modes := [] }
theorem xIo : FnOk Tryz.prog 117 Tryz.f117 I117 := ⟨Tryz.func117, by kernel_rfl, by kernel_rfl, by kernel_rfl, by kernel_rfl⟩
def xSS (a0 : Str) : rE I117 (xAl a0) [Y] [] = dn (xAg 0) [iY (xN3 a0)] := by kernel_rfl
def xST (a0 : Str) : rE I117 (xAl a0) [F, Y, Y] [] = dn (xAg 1) [xDO a0, xOE a0, xOE a0] := by kernel_rfl
def xSU (a0 : Str) : rE I117 (xAl a0) [F, F, Y, Y] [] = dn (xAg 1) [xDO a0, xD2 a0, xOF a0, xOF a0] := by kernel_rfl
def xSV (a0 : Str) : rE I117 (xAl a0) [F, F, F, Y, Y] [] = dn (xAg 1) [xDO a0, xD2 a0, xEm a0, xOG a0, xOG a0] := by kernel_rfl
def xSW (a0 : Str) : rE I117 (xAl a0) [F, F, F, F, Y, Y] [] = dn (xAg 1) [xDO a0, xD2 a0, xEm a0, xEJ a0, xOH a0, xOH a0] := by kernel_rfl
def xSX (a0 : Str) : rE I117 (xAl a0) [F, F, F, F, F, Y] [] = dn (xAg 1) [xDO a0, xD2 a0, xEm a0, xEJ a0, xE3 a0, iY (xN4 a0)] := by kernel_rfl
def xSY (a0 : Str) : rE I117 (xAl a0) [F, F, F, F, F, F, Y, Y] [] = dn (xAg 2) [xDO a0, xD2 a0, xEm a0, xEJ a0, xE3 a0, xFl a0, xOI a0, xOI a0] := by kernel_rfl
def xSZ (a0 : Str) : rE I117 (xAl a0) [F, F, F, F, F, F, F, Y, Y] [] = dn (xAg 2) [xDO a0, xD2 a0, xEm a0, xEJ a0, xE3 a0, xFl a0, xFR a0, xOJ a0, xOJ a0] := by kernel_rfl
def xS0 (a0 : Str) : rE I117 (xAl a0) [F, F, F, F, F, F, F, F, Y, Y] [] = dn (xAg 2) [xDO a0, xD2 a0, xEm a0, xEJ a0, xE3 a0, xFl a0, xFR a0, xGh a0, xOK a0, xOK a0] := by kernel_rfl
def xS1 (a0 : Str) : rE I117 (xAl a0) [F, F, F, F, F, F, F, F, F, Y, Y] [] = dn (xAg 2) [xDO a0, xD2 a0, xEm a0, xEJ a0, xE3 a0, xFl a0, xFR a0, xGh a0, xGD a0, xOL a0, xOL a0] := by kernel_rfl
def xQL (a0 : Str) : rE I117 (xAl a0) [F, F, F, F, F, F, F, F, F, F, Y, Y] [] = dn (xAg 2) [xDO a0, xD2 a0, xEm a0, xEJ a0, xE3 a0, xFl a0, xFR a0, xGh a0, xGD a0, xHc a0, xOM a0, xOM a0] := by kernel_rfl
def xQM (a0 : Str) : rE I117 (xAl a0) [F, F, F, F, F, F, F, F, F, F, F, Y, Y] [] = dn (xAg 2) [xDO a0, xD2 a0, xEm a0, xEJ a0, xE3 a0, xFl a0, xFR a0, xGh a0, xGD a0, xHc a0, xHM a0, xON a0, xON a0] := by kernel_rfl
def xQN (a0 : Str) : rE I117 (xAl a0) [F, F, F, F, F, F, F, F, F, F, F, F, Y] [] = dn (xAg 2) [xDO a0, xD2 a0, xEm a0, xEJ a0, xE3 a0, xFl a0, xFR a0, xGh a0, xGD a0, xHc a0, xHM a0, xIG a0, iY (xN5 a0)] := by kernel_rfl
def xQO (a0 : Str) : rE I117 (xAl a0) [F, F, F, F, F, F, F, F, F, F, F, F, F, Y, Y] [] = dn (xAg 3) [xDO a0, xD2 a0, xEm a0, xEJ a0, xE3 a0, xFl a0, xFR a0, xGh a0, xGD a0, xHc a0, xHM a0, xIG a0, xJK a0, xOO a0, xOO a0] := by kernel_rfl
def xQP (a0 : Str) : rE I117 (xAl a0) [F, F, F, F, F, F, F, F, F, F, F, F, F, F, Y, Y] [] = dn (xAg 3) [xDO a0, xD2 a0, xEm a0, xEJ a0, xE3 a0, xFl a0, xFR a0, xGh a0, xGD a0, xHc a0, xHM a0, xIG a0, xJK a0, xKW a0, xOP a0, xOP a0] := by kernel_rfl
def xQQ (a0 : Str) : rE I117 (xAl a0) [F, F, F, F, F, F, F, F, F, F, F, F, F, F, F, Y] [] = dn (xAg 3) [xDO a0, xD2 a0, xEm a0, xEJ a0, xE3 a0, xFl a0, xFR a0, xGh a0, xGD a0, xHc a0, xHM a0, xIG a0, xJK a0, xKW a0, xL5 a0, iY (xN6 a0)] := by kernel_rfl
def xQR (a0 : Str) : rE I117 (xAl a0) [F, F, F, F, F, F, F, F, F, F, F, F, F, F, F, F, Y] [] = dn (xAg 4) [xDO a0, xD2 a0, xEm a0, xEJ a0, xE3 a0, xFl a0, xFR a0, xGh a0, xGD a0, xHc a0, xHM a0, xIG a0, xJK a0, xKW a0, xL5 a0, xOQ a0, iY (xME a0)] := by kernel_rfl
def xQS (a0 : Str) : rE I117 (xAl a0) [F, F, F, F, F, F, F, F, F, F, F, F, F, F, F, F, F] [] = dn (xAg (-1)) [xDO a0, xD2 a0, xEm a0, xEJ a0, xE3 a0, xFl a0, xFR a0, xGh a0, xGD a0, xHc a0, xHM a0, xIG a0, xJK a0, xKW a0, xL5 a0, xOQ a0, iN (xME a0)] := by kernel_rfl
theorem xZ2 {N : Nat} : ∀ a0 r, xCM N a0 = some r → RE Tryz.f117 I117 (xAl a0) (xAg r) := fun a0 r h =>
 cE h (fun h0 h => dE h xIo (xSS a0) (oc h0 on)) fun h0 h =>
 cE h (fun h1 h => dE h xIo (xST a0) (oc3 h0 h1 h1 on)) fun h1 h =>
 cE h (fun h2 h => dE h xIo (xSU a0) (oc4 h0 h1 h2 h2 on)) fun h2 h =>
 cE h (fun h3 h => dE h xIo (xSV a0) (oc5 h0 h1 h2 h3 h3 on)) fun h3 h =>
 cE h (fun h4 h => dE h xIo (xSW a0) (oc6 h0 h1 h2 h3 h4 h4 on)) fun h4 h =>
 cE h (fun h5 h => dE h xIo (xSX a0) (oc6 h0 h1 h2 h3 h4 h5 on)) fun h5 h =>
 cE h (fun h6 h => dE h xIo (xSY a0) (oc8 h0 h1 h2 h3 h4 h5 h6 h6 on)) fun h6 h =>
 cE h (fun h7 h => dE h xIo (xSZ a0) (oc9 h0 h1 h2 h3 h4 h5 h6 h7 h7 on)) fun h7 h =>
 cE h (fun h8 h => dE h xIo (xS0 a0) (oc10 h0 h1 h2 h3 h4 h5 h6 h7 h8 h8 on)) fun h8 h =>
 cE h (fun h9 h => dE h xIo (xS1 a0) (oc11 h0 h1 h2 h3 h4 h5 h6 h7 h8 h9 h9 on)) fun h9 h =>
 cE h (fun h10 h => dE h xIo (xQL a0) (oc12 h0 h1 h2 h3 h4 h5 h6 h7 h8 h9 h10 h10 on)) fun h10 h =>
 cE h (fun h11 h => dE h xIo (xQM a0) (oc12 h0 h1 h2 h3 h4 h5 h6 h7 h8 h9 h10 h11 (oc h11 on))) fun h11 h =>
 cE h (fun h12 h => dE h xIo (xQN a0) (oc12 h0 h1 h2 h3 h4 h5 h6 h7 h8 h9 h10 h11 (oc h12 on))) fun h12 h =>
 cE h (fun h13 h => dE h xIo (xQO a0) (oc12 h0 h1 h2 h3 h4 h5 h6 h7 h8 h9 h10 h11 (oc3 h12 h13 h13 on))) fun h13 h =>
 cE h (fun h14 h => dE h xIo (xQP a0) (oc12 h0 h1 h2 h3 h4 h5 h6 h7 h8 h9 h10 h11 (oc4 h12 h13 h14 h14 on))) fun h14 h =>
 cE h (fun h15 h => dE h xIo (xQQ a0) (oc12 h0 h1 h2 h3 h4 h5 h6 h7 h8 h9 h10 h11 (oc4 h12 h13 h14 h15 on))) fun h15 h =>
 cE h (fun h16 h => dE h xIo (xQR a0) (oc12 h0 h1 h2 h3 h4 h5 h6 h7 h8 h9 h10 h11 (oc5 h12 h13 h14 h15 h16 on))) fun h16 h =>
 dE h xIo (xQS a0) (oc12 h0 h1 h2 h3 h4 h5 h6 h7 h8 h9 h10 h11 (oc5 h12 h13 h14 h15 h16 on))
theorem xC5 {N : Nat} {a0 : Str} {r : Int} (h : xCM N  a0 = some r) : AbC 117 (xAl a0) (xAg r) :=
 AbsCalls.of_reach xIo rfl rfl (Nat.le_of_ble_eq_true rfl) (xZ2 a0 r h)
noncomputable def I115 : Info := { body := (Tryz.f115.body).getD .skip, nt := 15, results := [.tmp 2], keep := [0, 4, 6, 8], live := [], modes := [] }
theorem xMe : FnOk Tryz.prog 115 Tryz.f115 I115 := ⟨Tryz.func115, by kernel_rfl, by kernel_rfl, by kernel_rfl, by kernel_rfl⟩
def xSA (a0 : Str) : rE I115 (xBK a0) [Y, Y] [] = dn (xBt true) [iY ((a0 : Str) == [108, 101, 116]), iY ((a0 : Str) == [108, 101, 116])] := by kernel_rfl
abbrev xJT (v0 : Str) : Prop := iN ((v0 : Str) == [108, 101, 116])
def xSB (a0 : Str) : rE I115 (xBK a0) [F, Y, Y] [] = dn (xBt true) [xJT a0, iY ((a0 : Str) == [105, 110]), iY ((a0 : Str) == [105, 110])] := by kernel_rfl
abbrev xKw (v0 : Str) : Prop := iN ((v0 : Str) == [105, 110])
def xSC (a0 : Str) : rE I115 (xBK a0) [F, F, Y, Y] [] = dn (xBt true) [xJT a0, xKw a0, iY ((a0 : Str) == [105, 102]), iY ((a0 : Str) == [105, 102])] := by kernel_rfl
abbrev xLq (v0 : Str) : Prop := iN ((v0 : Str) == [105, 102])
abbrev xN7 (v0 : Str) := (v0 : Str) == [116, 104, 101, 110]
def xSD (a0 : Str) : rE I115 (xBK a0) [F, F, F, Y, Y] [] = dn (xBt true) [xJT a0, xKw a0, xLq a0, iY (xN7 a0), iY (xN7 a0)] := by kernel_rfl
abbrev xMn (v0 : Str) : Prop := iN (xN7 v0)
abbrev xN8 (v0 : Str) := (v0 : Str) == [101, 108, 115, 101]
def xSE (a0 : Str) : rE I115 (xBK a0) [F, F, F, F, Y, Y] [] = dn (xBt true) [xJT a0, xKw a0, xLq a0, xMn a0, iY (xN8 a0), iY (xN8 a0)] := by kernel_rfl
abbrev xNK (v0 : Str) : Prop := iN (xN8 v0)
abbrev xMJ (v0 : Str) := (v0 : Str) == [102, 111, 114]
def xSF (a0 : Str) : rE I115 (xBK a0) [F, F, F, F, F, Y, Y] [] = dn (xBt true) [xJT a0, xKw a0, xLq a0, xMn a0, xNK a0, iY (xMJ a0), iY (xMJ a0)] := by kernel_rfl
def xSG (a0 : Str) : rE I115 (xBK a0) [F, F, F, F, F, F, Y] [] = dn (xBt true) [xJT a0, xKw a0, xLq a0, xMn a0, xNK a0, iN (xMJ a0), iY ((a0 : Str) == [100, 111])] := by kernel_rfl
def xSH (a0 : Str) (r1 : Int) : rE I115 (xBK a0) [F, F, F, F, F, F, F] [xAg r1] = dn (xBt (dc (r1 ≥ 0))) [xJT a0, xKw a0, xLq a0, xMn a0, xNK a0, iN (xMJ a0), iN ((a0 : Str) == [100, 111]), AbC 117 (xAl a0) (xAg r1)] := by kernel_rfl
theorem xZ0 {N : Nat} : ∀ a0 r, xFp N a0 = some r → RE Tryz.f115 I115 (xBK a0) (xBt r) := fun a0 r h =>
 cE h (fun h0 h => dE h xMe (xSA a0) (oc2 h0 h0 on)) fun h0 h =>
 cE h (fun h1 h => dE h xMe (xSB a0) (oc3 h0 h1 h1 on)) fun h1 h =>
 cE h (fun h2 h => dE h xMe (xSC a0) (oc4 h0 h1 h2 h2 on)) fun h2 h =>
 cE h (fun h3 h => dE h xMe (xSD a0) (oc5 h0 h1 h2 h3 h3 on)) fun h3 h =>
 cE h (fun h4 h => dE h xMe (xSE a0) (oc6 h0 h1 h2 h3 h4 h4 on)) fun h4 h =>
 cE h (fun h5 h => dE h xMe (xSF a0) (oc7 h0 h1 h2 h3 h4 h5 h5 on)) fun h5 h =>
 cE h (fun h6 h => dE h xMe (xSG a0) (oc7 h0 h1 h2 h3 h4 h5 h6 on)) fun h6 h =>
 bE h fun r1 h7 h => dE h xMe (xSH a0 r1) (oc8 h0 h1 h2 h3 h4 h5 h6 (xC5 h7) on)
theorem xKb {N : Nat} {a0 : Str} {r : Bool} (h : xFp N  a0 = some r) : AbC 115 (xBK a0) (xBt r) :=
 AbsCalls.of_reach xMe rfl rfl (Nat.le_of_ble_eq_true rfl) (xZ0 a0 r h)
noncomputable def I93 : Info := { body := (Tryz.f93.body).getD .skip, nt := 10, results := [.tmp 2], keep := [0, 4], live := [], modes := [(1, [(2, .take, false)])] }
theorem fk93 : FnOk Tryz.prog 93 Tryz.f93 I93 := ⟨Tryz.func93, by kernel_rfl, by kernel_rfl, by kernel_rfl, by kernel_rfl⟩
def xY3 (a0 : Str) (r1 r2 : Bool) : rE I93 (xDw a0) [Y] [xB2 r1, xBt r2] = dn (xAE (!r2)) [AbC 114 (xFX a0) (xB2 r1), iY r1, AbC 115 (xBK a0) (xBt r2)] := by kernel_rfl
def xY4 (a0 : Str) (r1 : Bool) : rE I93 (xDw a0) [F] [xB2 r1] = dn (xAE false) [AbC 114 (xFX a0) (xB2 r1), iN r1] := by kernel_rfl
theorem vB8 {N : Nat} : ∀ a0 r, xCW N a0 = some r → RE Tryz.f93 I93 (xDw a0) (xAE r) := fun a0 r h =>
 bE h fun r1 h0 h => cE h (fun h1 h => bE h fun r2 h2 h => dE h fk93 (xY3 a0 r1 r2) (oc3 (xJG h0) h1 (xKb h2) on)) fun h1 h =>
 dE h fk93 (xY4 a0 r1) (oc2 (xJG h0) h1 on)
theorem xBd {N : Nat} {a0 : Str} {r : Bool} (h : xCW N  a0 = some r) : AbC 93 (xDw a0) (xAE r) :=
 AbsCalls.of_reach fk93 rfl rfl (Nat.le_of_ble_eq_true rfl) (vB8 a0 r h)
noncomputable def I94 : Info := { body := (Tryz.f94.body).getD .skip, nt := 16, results := [.cell 2 25], keep := [0, 4, 14, 1, 5], live := [], modes := [], ext := [0] }
theorem fk94 : FnOk Tryz.prog 94 Tryz.f94 I94 := ⟨Tryz.func94, by kernel_rfl, by kernel_rfl, by kernel_rfl, by kernel_rfl⟩
def xY5 (a0 : Psr) : rE I94 (xB8 a0) [Y] [] = dn (xA1 ((Exp.mk 0 0 [] []), (Psr.mk (Psr.list a0) (Psr.pos a0) (Psr.pos a0)))) [xI1 a0] := by kernel_rfl
def xY6 (a0 : Psr) : rE I94 (xB8 a0) [F] [] = dn (xA1 ((Exp.mk 0 0 [] []), a0)) [xMm a0] := by kernel_rfl
theorem vB9 {N : Nat} : ∀ a0 r, xBT N a0 = some r → RE Tryz.f94 I94 (xB8 a0) (xA1 r) := fun a0 r h =>
 cE h (fun h0 h => dE h fk94 (xY5 a0) (oc h0 on)) fun h0 h =>
 dE h fk94 (xY6 a0) (oc h0 on)
theorem xEc {N : Nat} {a0 : Psr} {r : Exp × Psr} (h : xBT N  a0 = some r) : AbC 94 (xB8 a0) (xA1 r) :=
 AbsCalls.of_reach fk94 rfl rfl (Nat.le_of_ble_eq_true rfl) (vB9 a0 r h)
noncomputable def I52 : Info := { body := (Tryz.f52.body).getD .skip, nt := 26, results := [.tmp 2], keep := [0, 4, 6, 28, 1, 7], live := [], modes := [(2, [(3, .take, false)])], ext := [0] }
theorem fk52 : FnOk Tryz.prog 52 Tryz.f52 I52 := ⟨Tryz.func52, by kernel_rfl, by kernel_rfl, by kernel_rfl, by kernel_rfl⟩
abbrev xEo (v0 : Psr) (v1 : Tok × Psr) : Prop := AbC 51 (xC3 v0) (xAf v1)
def xW8 (a0 : Psr) (r1 : Tok × Psr) (r2 : Exp × Psr) : rE I52 (xDA a0) [Y, Y] [xAf r1, xA1 r2] = dn (xCt ([], r2.2)) [xEo a0 r1, iY ((Tok.kind r1.1) != 1), iY true, AbC 94 (xB8 r1.2) (xA1 r2)] := by kernel_rfl
abbrev xJU (v0 : Tok × Psr) (v1 : Bool) : Prop := AbC 93 (xDw (Tok.text v0.1)) (xAE v1)
def xW9 (a0 : Psr) (r1 : Tok × Psr) (r2 : Bool) (r3 : Exp × Psr) : rE I52 (xDA a0) [F, Y] [xAf r1, xAE r2, xA1 r3] = dn (xCt ([], r3.2)) [xEo a0 r1, iN ((Tok.kind r1.1) != 1), xJU r1 r2, iY (!r2), AbC 94 (xB8 r1.2) (xA1 r3)] := by kernel_rfl
abbrev xJc (v0 : Tok × Psr) := Psr.mk (Psr.list v0.2) (W ((Psr.pos v0.2) + 1)) (Psr.bad v0.2)
def xXa (a0 : Psr) (r1 : Tok × Psr) (r2 : Bool) : rE I52 (xDA a0) [F, F] [xAf r1, xAE r2] = dn (xCt ((Tok.text r1.1), (xJc r1))) [xEo a0 r1, iN ((Tok.kind r1.1) != 1), xJU r1 r2, iN (!r2)] := by kernel_rfl
theorem vBs {N : Nat} : ∀ a0 r, xBU N a0 = some r → RE Tryz.f52 I52 (xDA a0) (xCt r) := fun a0 r h =>
 bE h fun r1 h0 h => cE h (fun h1 h => bE h fun r2 h3 h => dE h fk52 (xW8 a0 r1 r2) (oc4 (xAk h0) h1 rfl (xEc h3) on)) fun h1 h =>
 bE h fun r2 h2 h => cE h (fun h3 h => bE h fun r3 h4 h => dE h fk52 (xW9 a0 r1 r2 r3) (oc5 (xAk h0) h1 (xBd h2) h3 (xEc h4) on)) fun h3 h =>
 dE h fk52 (xXa a0 r1 r2) (oc4 (xAk h0) h1 (xBd h2) h3 on)
theorem xHp {N : Nat} {a0 : Psr} {r : Str × Psr} (h : xBU N  a0 = some r) : AbC 52 (xDA a0) (xCt r) :=
 AbsCalls.of_reach fk52 rfl rfl (Nat.le_of_ble_eq_true rfl) (vBs a0 r h)
noncomputable def I95 : Info := { body := (Tryz.f95.body).getD .skip, nt := 14, results := [.tmp 4], keep := [0, 2, 4, 8, 5], live := [], modes := [(1, [(3, .take, false)])] }
theorem fk95 : FnOk Tryz.prog 95 Tryz.f95 I95 := ⟨Tryz.func95, by kernel_rfl, by kernel_rfl, by kernel_rfl, by kernel_rfl⟩
def xY7 (a0 : Tok) (a1 : Str) : rE I95 (xDo a0 a1) [Y] [] = dn (xBR (((Tok.text a0) : Str) == a1)) [iY ((Tok.kind a0) == 4)] := by kernel_rfl
def xY8 (a0 : Tok) (a1 : Str) : rE I95 (xDo a0 a1) [F] [] = dn (xBR false) [iN ((Tok.kind a0) == 4)] := by kernel_rfl
theorem vCa {N : Nat} : ∀ a0 a1 r, xFI N a0 a1 = some r → RE Tryz.f95 I95 (xDo a0 a1) (xBR r) := fun a0 a1 r h =>
 cE h (fun h0 h => dE h fk95 (xY7 a0 a1) (oc h0 on)) fun h0 h =>
 dE h fk95 (xY8 a0 a1) (oc h0 on)
theorem xF1 {N : Nat} {a0 : Tok} {a1 : Str} {r : Bool} (h : xFI N  a0 a1 = some r) : AbC 95 (xDo a0 a1) (xBR r) :=
 AbsCalls.of_reach fk95 rfl rfl (Nat.le_of_ble_eq_true rfl) (vCa a0 a1 r h)
noncomputable def I53 : Info := { body := (Tryz.f53.body).getD .skip, nt := 23, results := [], keep := [0, 2, 26, 1], live := [], modes := [(0, [(4, .take, false)])], ext := [0] }
theorem fk53 : FnOk Tryz.prog 53 Tryz.f53 I53 := ⟨Tryz.func53, by kernel_rfl, by kernel_rfl, by kernel_rfl, by kernel_rfl⟩
abbrev xQj (v0 : Tok × Psr) := xAp (Psr.mk (Psr.list v0.2) (W ((Psr.pos v0.2) + 1)) (Psr.bad v0.2))
def xXb (a0 : Psr) (a1 : Str) (r1 : Tok × Psr) (r2 : Bool) : rE I53 (xAU a0 a1) [Y, Y] [xAf r1, xAv r2] = dn (xQj r1) [xEo a0 r1, AbC 50 (xBs r1.1 a1) (xAv r2), iY r2, iY true] := by kernel_rfl
abbrev xJV (v0 v1 : Tok × Psr) : Prop := AbC 51 (xC3 v0.2) (xAf v1)
def xXc (a0 : Psr) (a1 : Str) (r1 : Tok × Psr) (r2 : Bool) (r3 : Tok × Psr) (r4 : Bool) : rE I53 (xAU a0 a1) [F, Y] [xAf r1, xAv r2, xAf r3, xBR r4] = dn (xQj r3) [xEo a0 r1, AbC 50 (xBs r1.1 a1) (xAv r2), iN r2, xJV r1 r3, AbC 95 (xDo r3.1 a1) (xBR r4), iY r4] := by kernel_rfl
def xXd (a0 : Psr) (a1 : Str) (r1 : Tok × Psr) (r2 : Bool) (r3 : Tok × Psr) (r4 : Bool) (r5 : Exp × Psr) : rE I53 (xAU a0 a1) [F, F] [xAf r1, xAv r2, xAf r3, xBR r4, xA1 r5] = dn (xAp r5.2) [xEo a0 r1, AbC 50 (xBs r1.1 a1) (xAv r2), iN r2, xJV r1 r3, AbC 95 (xDo r3.1 a1) (xBR r4), iN r4, AbC 94 (xB8 r3.2) (xA1 r5)] := by kernel_rfl
theorem vBt {N : Nat} : ∀ a0 a1 r, xAC N a0 a1 = some r → RE Tryz.f53 I53 (xAU a0 a1) (xAp r) := fun a0 a1 r h =>
 bE h fun r1 h0 h => bE h fun r2 h1 h => cE h (fun h2 h => dE h fk53 (xXb a0 a1 r1 r2) (oc4 (xAk h0) (xBC h1) h2 rfl on)) fun h2 h =>
 bE h fun r3 h3 h => bE h fun r4 h4 h => cE h (fun h5 h => dE h fk53 (xXc a0 a1 r1 r2 r3 r4) (oc6 (xAk h0) (xBC h1) h2 (xAk h3) (xF1 h4) h5 on)) fun h5 h =>
 bE h fun r5 h6 h => dE h fk53 (xXd a0 a1 r1 r2 r3 r4 r5) (oc7 (xAk h0) (xBC h1) h2 (xAk h3) (xF1 h4) h5 (xEc h6) on)
theorem xBP {N : Nat} {a0 : Psr} {a1 : Str} {r : Psr} (h : xAC N  a0 a1 = some r) : AbC 53 (xAU a0 a1) (xAp r) :=
 AbsCalls.of_reach fk53 rfl rfl (Nat.le_of_ble_eq_true rfl) (vBt a0 a1 r h)
noncomputable def I55 : Info := { body := (Tryz.f55.body).getD .skip, nt := 16, results := [.tmp 4], keep := [0, 2, 8, 16, 1], live := [], modes := [], ext := [0] }
theorem fk55 : FnOk Tryz.prog 55 Tryz.f55 I55 := ⟨Tryz.func55, by kernel_rfl, by kernel_rfl, by kernel_rfl, by kernel_rfl⟩
def xXj (a0 : Psr) (a1 : Str) (r1 : Tok × Psr) (r2 : Bool) : rE I55 (xAn a0 a1) [Y] [xAf r1, xBR r2] = dn (xAd (true, (xJc r1))) [xEo a0 r1, AbC 95 (xDo r1.1 a1) (xBR r2), iY r2] := by kernel_rfl
def xXk (a0 : Psr) (a1 : Str) (r1 : Tok × Psr) (r2 : Bool) : rE I55 (xAn a0 a1) [F] [xAf r1, xBR r2] = dn (xAd (false, r1.2)) [xEo a0 r1, AbC 95 (xDo r1.1 a1) (xBR r2), iN r2] := by kernel_rfl
theorem vBw {N : Nat} : ∀ a0 a1 r, xAF N a0 a1 = some r → RE Tryz.f55 I55 (xAn a0 a1) (xAd r) := fun a0 a1 r h =>
 bE h fun r1 h0 h => bE h fun r2 h1 h => cE h (fun h2 h => dE h fk55 (xXj a0 a1 r1 r2) (oc3 (xAk h0) (xF1 h1) h2 on)) fun h2 h =>
 dE h fk55 (xXk a0 a1 r1 r2) (oc3 (xAk h0) (xF1 h1) h2 on)
theorem xAm {N : Nat} {a0 : Psr} {a1 : Str} {r : Bool × Psr} (h : xAF N  a0 a1 = some r) : AbC 55 (xAn a0 a1) (xAd r) :=
 AbsCalls.of_reach fk55 rfl rfl (Nat.le_of_ble_eq_true rfl) (vBw a0 a1 r h)
noncomputable def I56 : Info := { body := (Tryz.f56.body).getD .skip, nt := 11, results := [.tmp 2], keep := [0, 4, 10], live := [], modes := [] }
theorem fk56 : FnOk Tryz.prog 56 Tryz.f56 I56 := ⟨Tryz.func56, by kernel_rfl, by kernel_rfl, by kernel_rfl, by kernel_rfl⟩
def xXl (a0 : Int) (r1 : Bool) : rE I56 (xDp a0) [Y] [xA8 r1] = dn (xBS [63]) [AbC 97 (xCP a0 1 5) (xA8 r1), iY (!r1)] := by kernel_rfl
def xXm (a0 : Int) (r1 : Bool) : rE I56 (xDp a0) [F] [xA8 r1] = dn (xBS (gD [[43], [45], [42], [60], [61, 61]] (tN (W (a0 - 1))) Ty.str.dflt)) [AbC 97 (xCP a0 1 5) (xA8 r1), iN (!r1), (0 : Int) ≤ (W (a0 - 1)) ∧ (W (a0 - 1)) < (Ln [[43], [45], [42], [60], [61, 61]])] := by kernel_rfl
theorem vBx {N : Nat} : ∀ a0 r, xEx N a0 = some r → RE Tryz.f56 I56 (xDp a0) (xBS r) := fun a0 r h =>
 bE h fun r1 h0 h => cE h (fun h1 h => dE h fk56 (xXl a0 r1) (oc2 (xDF h0) h1 on)) fun h1 h =>
 iE h fun h2 h => dE h fk56 (xXm a0 r1) (oc3 (xDF h0) h1 h2 on)
theorem xF2 {N : Nat} {a0 : Int} {r : Str} (h : xEx N  a0 = some r) : AbC 56 (xDp a0) (xBS r) :=
 AbsCalls.of_reach fk56 rfl rfl (Nat.le_of_ble_eq_true rfl) (vBx a0 r h)
def G116 (q : Psr → Option (Exp × Psr)) : Prop := ∀ a0 r, q a0 = some r → AbC 116 (xAT a0) (xAI r)
def G31 (q : Psr → Option (Exp × Psr)) : Prop := ∀ a0 r, q a0 = some r → AbC 31 (xBe a0) (xAe r)
def G131 (q : Psr → Str → Option ((List Exp) × Psr)) : Prop := ∀ a0 a1 r, q a0 a1 = some r → AbC 131 (xCd a0 a1) (xA4 r)
def G96 (q : Psr → Option (Exp × Psr)) : Prop := ∀ a0 r, q a0 = some r → AbC 96 (xCj a0) (xA9 r)
def G54 (q : Psr → Option (Exp × Psr)) : Prop := ∀ a0 r, q a0 = some r → AbC 54 (xDN a0) (xB4 r)
noncomputable def I116 : Info := { body := (Tryz.f116.body).getD .skip, nt := 94, results := [.cell 2 25], keep := [0, 4, 6, 8, 14, 42, 70, 108, 156, 168, 1, 5, 7, 9], live := [], modes := [(8, [(3, .take, false)]), (11, [(3, .take, false)]), (20, [(0, .take, false)])], ext := [0] }
theorem xLl : FnOk Tryz.prog 116 Tryz.f116 I116 := ⟨Tryz.func116, by kernel_rfl, by kernel_rfl, by kernel_rfl, by kernel_rfl⟩
def xSI (a0 : Psr) (r1 : Tok × Psr) : rE I116 (xAT a0) [Y] [xAf r1] = dn (xAI ((Exp.mk 1 (Tok.n r1.1) [] []), (xJc r1))) [xEo a0 r1, iY ((Tok.kind r1.1) == 2)] := by kernel_rfl
abbrev xIw (v0 : Tok × Psr) : Prop := iN ((Tok.kind v0.1) == 2)
def xSJ (a0 : Psr) (r1 : Tok × Psr) : rE I116 (xAT a0) [F, Y] [xAf r1] = dn (xAI ((Exp.mk 2 0 (Tok.text r1.1) []), (xJc r1))) [xEo a0 r1, xIw r1, iY ((Tok.kind r1.1) == 3)] := by kernel_rfl
abbrev xI2 (v0 : Tok × Psr) : Prop := iN ((Tok.kind v0.1) == 3)
abbrev xIx (v0 : Tok × Psr) : Prop := iY ((Tok.kind v0.1) == 1)
def xSK (a0 : Psr) (r1 : Tok × Psr) (r2 : Bool) : rE I116 (xAT a0) [F, F, Y, Y] [xAf r1, xAE r2] = dn (xAI ((Exp.mk 3 0 (Tok.text r1.1) []), (xJc r1))) [xEo a0 r1, xIw r1, xI2 r1, xIx r1, xJU r1 r2, iY r2] := by kernel_rfl
abbrev xMo (v0 : Tok × Psr) (v1 : Int) : Prop := AbC 117 (xAl (Tok.text v0.1)) (xAg v1)
def xSL (a0 : Psr) (r1 : Tok × Psr) (r2 : Bool) (r3 : Int) (r4 : Psr) (r5 : (List Exp) × Psr) : rE I116 (xAT a0) [F, F, Y, F, Y, Y] [xAf r1, xAE r2, xAg r3, xAp r4, xA4 r5] = dn (xAI ((Exp.mk 5 0 (Tok.text r1.1) r5.1), r5.2)) [xEo a0 r1, xIw r1, xI2 r1, xIx r1, xJU r1 r2, iN r2, xIx r1, xMo r1 r3, iY (dc (r3 ≥ 0)), AbC 53 (xAU (xJc r1) [40]) (xAp r4), AbC 131 (xCd r4 [41]) (xA4 r5)] := by kernel_rfl
abbrev xKx (v0 : Tok × Psr) (v1 : Bool × Psr) : Prop := AbC 55 (xAn v0.2 [91]) (xAd v1)
def xSM (a0 : Psr) (r1 : Tok × Psr) (r2 : Bool) (r3 : Int) (r4 : Bool × Psr) (r5 : (List Exp) × Psr) : rE I116 (xAT a0) [F, F, Y, F, Y, F, Y] [xAf r1, xAE r2, xAg r3, xAd r4, xA4 r5] = dn (xAI ((Exp.mk 4 0 [] r5.1), r5.2)) [xEo a0 r1, xIw r1, xI2 r1, xIx r1, xJU r1 r2, iN r2, xIx r1, xMo r1 r3, iN (dc (r3 ≥ 0)), xKx r1 r4, iY r4.1, AbC 131 (xCd r4.2 [93]) (xA4 r5)] := by kernel_rfl
def xSN (a0 : Psr) (r1 : Tok × Psr) (r2 : Bool) (r3 : Int) (r4 : Bool × Psr) (r5 : Bool × Psr) (r6 : Exp × Psr) (r7 : Psr) : rE I116 (xAT a0) [F, F, Y, F, Y, F, F, Y] [xAf r1, xAE r2, xAg r3, xAd r4, xAd r5, xAe r6, xAp r7] = dn (xAI (r6.1, r7)) [xEo a0 r1, xIw r1, xI2 r1, xIx r1, xJU r1 r2, iN r2, xIx r1, xMo r1 r3, iN (dc (r3 ≥ 0)), xKx r1 r4, iN r4.1, AbC 55 (xAn r4.2 [40]) (xAd r5), iY r5.1, AbC 31 (xBe r5.2) (xAe r6), AbC 53 (xAU r6.2 [41]) (xAp r7)] := by kernel_rfl
def xSO (a0 : Psr) (r1 : Tok × Psr) (r2 : Bool) (r3 : Int) (r4 : Bool × Psr) (r5 : Bool × Psr) (r6 : Exp × Psr) : rE I116 (xAT a0) [F, F, Y, F, Y, F, F, F] [xAf r1, xAE r2, xAg r3, xAd r4, xAd r5, xA1 r6] = dn (xAI (r6.1, r6.2)) [xEo a0 r1, xIw r1, xI2 r1, xIx r1, xJU r1 r2, iN r2, xIx r1, xMo r1 r3, iN (dc (r3 ≥ 0)), xKx r1 r4, iN r4.1, AbC 55 (xAn r4.2 [40]) (xAd r5), iN r5.1, AbC 94 (xB8 r5.2) (xA1 r6)] := by kernel_rfl
abbrev xKy (v0 : Tok × Psr) : Prop := iN ((Tok.kind v0.1) == 1)
def xSP (a0 : Psr) (r1 : Tok × Psr) (r2 : Bool × Psr) (r3 : (List Exp) × Psr) : rE I116 (xAT a0) [F, F, F, F, F, F, Y] [xAf r1, xAd r2, xA4 r3] = dn (xAI ((Exp.mk 4 0 [] r3.1), r3.2)) [xEo a0 r1, xIw r1, xI2 r1, xKy r1, iN false, xKy r1, iN false, xKx r1 r2, iY r2.1, AbC 131 (xCd r2.2 [93]) (xA4 r3)] := by kernel_rfl
def xSQ (a0 : Psr) (r1 : Tok × Psr) (r2 : Bool × Psr) (r3 : Bool × Psr) (r4 : Exp × Psr) (r5 : Psr) : rE I116 (xAT a0) [F, F, F, F, F, F, F, Y] [xAf r1, xAd r2, xAd r3, xAe r4, xAp r5] = dn (xAI (r4.1, r5)) [xEo a0 r1, xIw r1, xI2 r1, xKy r1, iN false, xKy r1, iN false, xKx r1 r2, iN r2.1, AbC 55 (xAn r2.2 [40]) (xAd r3), iY r3.1, AbC 31 (xBe r3.2) (xAe r4), AbC 53 (xAU r4.2 [41]) (xAp r5)] := by kernel_rfl
def xSR (a0 : Psr) (r1 : Tok × Psr) (r2 : Bool × Psr) (r3 : Bool × Psr) (r4 : Exp × Psr) : rE I116 (xAT a0) [F, F, F, F, F, F, F, F] [xAf r1, xAd r2, xAd r3, xA1 r4] = dn (xAI (r4.1, r4.2)) [xEo a0 r1, xIw r1, xI2 r1, xKy r1, iN false, xKy r1, iN false, xKx r1 r2, iN r2.1, AbC 55 (xAn r2.2 [40]) (xAd r3), iN r3.1, AbC 94 (xB8 r3.2) (xA1 r4)] := by kernel_rfl
theorem xZ1 {N q0 q1 q2 q3 q4} (g0 : G116 q0) (g1 : G31 q1) (g2 : G131 q2) (g3 : G96 q3) (g4 : G54 q4) : ∀ a0 r, xCr N q0 q1 q2 q3 q4 a0 = some r → RE Tryz.f116 I116 (xAT a0) (xAI r) := fun a0 r h =>
 bE h fun r1 h0 h => cE h (fun h1 h => dE h xLl (xSI a0 r1) (oc2 (xAk h0) h1 on)) fun h1 h =>
 cE h (fun h2 h => dE h xLl (xSJ a0 r1) (oc3 (xAk h0) h1 h2 on)) fun h2 h =>
 cE h (fun h3 h => bE h fun r2 h4 h => cE h (fun h5 h => dE h xLl (xSK a0 r1 r2) (oc6 (xAk h0) h1 h2 h3 (xBd h4) h5 on)) fun h5 h =>
 bE h fun r3 h7 h => cE h (fun h8 h => bE h fun r4 h9 h => bE h fun r5 h10 h => dE h xLl (xSL a0 r1 r2 r3 r4 r5) (oc11 (xAk h0) h1 h2 h3 (xBd h4) h5 h3 (xC5 h7) h8 (xBP h9) (g2 _ _ _ h10) on)) fun h8 h =>
 bE h fun r4 h9 h => cE h (fun h10 h => bE h fun r5 h11 h => dE h xLl (xSM a0 r1 r2 r3 r4 r5) (oc12 (xAk h0) h1 h2 h3 (xBd h4) h5 h3 (xC5 h7) h8 (xAm h9) h10 (g2 _ _ _ h11) on)) fun h10 h =>
 bE h fun r5 h11 h => cE h (fun h12 h => bE h fun r6 h13 h => bE h fun r7 h14 h => dE h xLl (xSN a0 r1 r2 r3 r4 r5 r6 r7) (oc12 (xAk h0) h1 h2 h3 (xBd h4) h5 h3 (xC5 h7) h8 (xAm h9) h10 (xAm h11) (oc3 h12 (g1 _ _ h13) (xBP h14) on))) fun h12 h =>
 bE h fun r6 h13 h => dE h xLl (xSO a0 r1 r2 r3 r4 r5 r6) (oc12 (xAk h0) h1 h2 h3 (xBd h4) h5 h3 (xC5 h7) h8 (xAm h9) h10 (xAm h11) (oc2 h12 (xEc h13) on))) fun h3 h =>
 bE h fun r2 h7 h => cE h (fun h8 h => bE h fun r3 h9 h => dE h xLl (xSP a0 r1 r2 r3) (oc10 (xAk h0) h1 h2 h3 rfl h3 rfl (xAm h7) h8 (g2 _ _ _ h9) on)) fun h8 h =>
 bE h fun r3 h9 h => cE h (fun h10 h => bE h fun r4 h11 h => bE h fun r5 h12 h => dE h xLl (xSQ a0 r1 r2 r3 r4 r5) (oc12 (xAk h0) h1 h2 h3 rfl h3 rfl (xAm h7) h8 (xAm h9) h10 (g1 _ _ h11) (oc (xBP h12) on))) fun h10 h =>
 bE h fun r4 h11 h => dE h xLl (xSR a0 r1 r2 r3 r4) (oc12 (xAk h0) h1 h2 h3 rfl h3 rfl (xAm h7) h8 (xAm h9) h10 (xEc h11) on)
theorem xIe {N q0 q1 q2 q3 q4} (g0 : G116 q0) (g1 : G31 q1) (g2 : G131 q2) (g3 : G96 q3) (g4 : G54 q4) {a0} {r} (h : xCr N q0 q1 q2 q3 q4 a0 = some r) : AbC 116 (xAT a0) (xAI r) :=
 AbsCalls.of_reach xLl rfl rfl (Nat.le_of_ble_eq_true rfl) (xZ1 g0 g1 g2 g3 g4 a0 r h)
noncomputable def I31 : Info := { body := (Tryz.f31.body).getD .skip, nt := 133, results := [.cell 2 25], keep := [0, 4, 6, 8, 10, 12, 16, 18, 84, 160, 230, 232, 234, 236, 248, 1, 5, 7, 9, 11, 13], live := [(28, [0, 4, 12, 230, 232, 234, 1, 5, 13])], modes := [(5, [(1, .take, false), (5, .take, false)]), (7, [(1, .take, false), (5, .take, false)]), (8, [(0, .take, false)]), (12, [(1, .take, false), (5, .take, false)]), (14, [(1, .take, false), (5, .take, false)]), (16, [(1, .take, false), (5, .take, false)]), (17, [(0, .take, false)]), (22, [(1, .take, false), (5, .take, false)]), (24, [(1, .take, false), (5, .take, false)]), (25, [(0, .take, false)]), (31, [(1, .take, false)]), (32, [(1, .take, false)]), (33, [(0, .take, false)])], ext := [0] }
theorem fk31 : FnOk Tryz.prog 31 Tryz.f31 I31 := ⟨Tryz.func31, by kernel_rfl, by kernel_rfl, by kernel_rfl, by kernel_rfl⟩
def xLU (x115 : List Int) (x116 x117 : Int) (b0 : Psr) (b2 b6 : Exp) : St := [(0, .v false [.ptr 0 0]), (4, .v false [.ptr 2 0]), (12, .v false [.ptr 6 0]), (230, .v false [.sl .own .int x115]), (232, .v false [.int .i64 x116]), (234, .v false [.int .i64 x117]), (1, .v true [.sl .ro .tok (Psr.list b0), .int .i64 (Psr.pos b0), .int .i64 (Psr.bad b0)]), (5, .v true [.int .i64 (Exp.kind b2), .int .i64 (Exp.n b2), .str (Exp.text b2), .sl .own .exp (Exp.args b2)]), (13, .v true [.int .i64 (Exp.kind b6), .int .i64 (Exp.n b6), .str (Exp.text b6), .sl .own .exp (Exp.args b6)])]
abbrev xGp (v0 v1 : Int) : Prop := iY (dc (v0 < v1))
def xTr (x115 : List Int) (x116 x117 : Int) (b0 : Psr) (b2 b6 : Exp) (r1 : Str) (r2 : Bool × Psr) (r3 : Exp × Psr) : rS 28 I31 (xLU x115 x116 x117 b0 b2 b6) [Y, Y] [xBS r1, xAd r2, xB4 r3] = dn (xAe ((Exp.mk 6 (gD x115 (tN x117) Ty.int.dflt) [] [(Exp.re b6), (Exp.re r3.1)]), r3.2)) [xGp x117 x116, (0 : Int) ≤ x117 ∧ x117 < (Ln x115), AbC 56 (xDp (gD x115 (tN x117) Ty.int.dflt)) (xBS r1), AbC 55 (xAn b0 r1) (xAd r2), iY r2.1, AbC 54 (xDN r2.2) (xB4 r3)] := by kernel_rfl
def xTs (x115 : List Int) (x116 x117 : Int) (b0 : Psr) (b2 b6 : Exp) (r1 : Str) (r2 : Bool × Psr) : rS 28 I31 (xLU x115 x116 x117 b0 b2 b6) [Y, F] [xBS r1, xAd r2] = st 28 I31 (xLU x115 x116 (W (x117 + 1)) r2.2 b2 b6) [xGp x117 x116, (0 : Int) ≤ x117 ∧ x117 < (Ln x115), AbC 56 (xDp (gD x115 (tN x117) Ty.int.dflt)) (xBS r1), AbC 55 (xAn b0 r1) (xAd r2), iN r2.1] := by kernel_rfl
abbrev xH1 (v0 v1 : Int) : Prop := iN (dc (v0 < v1))
def xTt (x115 : List Int) (x116 x117 : Int) (b0 : Psr) (b2 b6 : Exp) : rS 28 I31 (xLU x115 x116 x117 b0 b2 b6) [F] [] = dn (xAe (b6, b0)) [xH1 x117 x116] := by kernel_rfl
abbrev xMp (v0 : Tok × Psr) (v1 : Bool) : Prop := AbC 50 (xBs v0.1 [108, 101, 116]) (xAv v1)
abbrev xPX (v0 : Tok × Psr) (v1 : Str × Psr) : Prop := AbC 52 (xDA (xJc v0)) (xCt v1)
abbrev xI3 (v0 : Psr) (v1 : Exp × Psr) : Prop := AbC 31 (xBe v0) (xAe v1)
abbrev xNL (v0 v1 : Exp × Psr) : Prop := Ln ([] ++ [(Exp.re v0.1)]) + Ln [(Exp.re v1.1)] ≤ Lim
def xV1 (a0 : Psr) (r1 : Tok × Psr) (r2 : Bool) (r3 : Str × Psr) (r4 : Psr) (r5 : Exp × Psr) (r6 : Psr) (r7 : Exp × Psr) : rE I31 (xBe a0) [Y] [xAf r1, xAv r2, xCt r3, xAp r4, xAe r5, xAp r6, xAe r7] = dn (xAe ((Exp.mk 7 0 r3.1 (([] ++ [(Exp.re r5.1)]) ++ [(Exp.re r7.1)])), r7.2)) [xEo a0 r1, xMp r1 r2, iY r2, xPX r1 r3, AbC 53 (xAU r3.2 [61]) (xAp r4), xI3 r4 r5, 0 + Ln [(Exp.re r5.1)] ≤ Lim, AbC 53 (xAU r5.2 [105, 110]) (xAp r6), xI3 r6 r7, xNL r5 r7] := by kernel_rfl
def xV2 (a0 : Psr) (r1 : Tok × Psr) (r2 : Bool) (r3 : Tok × Psr) (r4 : Bool) (r5 : Exp × Psr) (r6 : Psr) (r7 : Exp × Psr) (r8 : Psr) (r9 : Exp × Psr) : rE I31 (xBe a0) [F, Y] [xAf r1, xAv r2, xAf r3, xAv r4, xAe r5, xAp r6, xAe r7, xAp r8, xAe r9] = dn (xAe ((Exp.mk 8 0 [] ((([] ++ [(Exp.re r5.1)]) ++ [(Exp.re r7.1)]) ++ [(Exp.re r9.1)])), r9.2)) [xEo a0 r1, xMp r1 r2, iN r2, xJV r1 r3, AbC 50 (xBs r3.1 [105, 102]) (xAv r4), iY r4, AbC 31 (xBe (xJc r3)) (xAe r5), 0 + Ln [(Exp.re r5.1)] ≤ Lim, AbC 53 (xAU r5.2 [116, 104, 101, 110]) (xAp r6), xI3 r6 r7, xNL r5 r7, AbC 53 (xAU r7.2 [101, 108, 115, 101]) (xAp r8), xI3 r8 r9, Ln (([] ++ [(Exp.re r5.1)]) ++ [(Exp.re r7.1)]) + Ln [(Exp.re r9.1)] ≤ Lim] := by kernel_rfl
def xV3 (a0 : Psr) (r1 : Tok × Psr) (r2 : Bool) (r3 : Tok × Psr) (r4 : Bool) (r5 : Tok × Psr) (r6 : Bool) (r7 : Str × Psr) (r8 : Psr) (r9 : Exp × Psr) (r10 : Psr) (r11 : Exp × Psr) : rE I31 (xBe a0) [F, F, Y] [xAf r1, xAv r2, xAf r3, xAv r4, xAf r5, xAv r6, xCt r7, xAp r8, xAe r9, xAp r10, xAe r11] = dn (xAe ((Exp.mk 9 0 r7.1 (([] ++ [(Exp.re r9.1)]) ++ [(Exp.re r11.1)])), r11.2)) [xEo a0 r1, xMp r1 r2, iN r2, xJV r1 r3, AbC 50 (xBs r3.1 [105, 102]) (xAv r4), iN r4, xJV r3 r5, AbC 50 (xBs r5.1 [102, 111, 114]) (xAv r6), iY r6, xPX r5 r7, AbC 53 (xAU r7.2 [105, 110]) (xAp r8), xI3 r8 r9, 0 + Ln [(Exp.re r9.1)] ≤ Lim, AbC 53 (xAU r9.2 [100, 111]) (xAp r10), xI3 r10 r11, xNL r9 r11] := by kernel_rfl
def xV4 (a0 : Psr) (r1 : Tok × Psr) (r2 : Bool) (r3 : Tok × Psr) (r4 : Bool) (r5 : Tok × Psr) (r6 : Bool) (r7 : Exp × Psr) : rE I31 (xBe a0) [F, F, F] [xAf r1, xAv r2, xAf r3, xAv r4, xAf r5, xAv r6, xB4 r7] = st 28 I31 (xLU [4, 5] (Ln [4, 5] : Int) 0 r7.2 (Exp.mk 0 0 [] []) r7.1) [xEo a0 r1, xMp r1 r2, iN r2, xJV r1 r3, AbC 50 (xBs r3.1 [105, 102]) (xAv r4), iN r4, xJV r3 r5, AbC 50 (xBs r5.1 [102, 111, 114]) (xAv r6), iN r6, AbC 54 (xDN r5.2) (xB4 r7)] := by kernel_rfl
theorem vAg {N q0 q1 q2 q3 q4} (g0 : G116 q0) (g1 : G31 q1) (g2 : G131 q2) (g3 : G96 q3) (g4 : G54 q4) : ∀ n x115 x116 x117 b0 b2 b6 r, xCK N q0 q1 q2 q3 q4 n x115 x116 x117 b0 b2 b6 = some r → RS Tryz.f31 I31 28 (xLU x115 x116 x117 b0 b2 b6) (xAe r) := by
 intro n
 induction n with
 | zero => exact fun _ _ _ _ _ _ _ h => nE h
 | succ n ih =>
  exact fun x115 x116 x117 b0 b2 b6 r h =>
   cE h (fun h0 h => iE h fun h1 h => bE h fun r1 h2 h => bE h fun r2 h3 h => cE h (fun h4 h => bE h fun r3 h5 h => dS h fk31 (xTr x115 x116 x117 b0 b2 b6 r1 r2 r3) (oc6 h0 h1 (xF2 h2) (xAm h3) h4 (g4 _ _ h5) on)) fun h4 h =>
   tS fk31 (xTs x115 x116 x117 b0 b2 b6 r1 r2) (oc5 h0 h1 (xF2 h2) (xAm h3) h4 on) (ih _ _ _ _ _ _ _ h)) fun h0 h =>
   dS h fk31 (xTt x115 x116 x117 b0 b2 b6) (oc h0 on)
theorem vA9 {N q0 q1 q2 q3 q4} (g0 : G116 q0) (g1 : G31 q1) (g2 : G131 q2) (g3 : G96 q3) (g4 : G54 q4) : ∀ a0 r, xCs N q0 q1 q2 q3 q4 a0 = some r → RE Tryz.f31 I31 (xBe a0) (xAe r) := fun a0 r h =>
 bE h fun r1 h0 h => bE h fun r2 h1 h => cE h (fun h2 h => bE h fun r3 h3 h => bE h fun r4 h4 h => bE h fun r5 h5 h => iE h fun h6 h => bE h fun r6 h7 h => bE h fun r7 h8 h => iE h fun h9 h => dE h fk31 (xV1 a0 r1 r2 r3 r4 r5 r6 r7) (oc10 (xAk h0) (xBC h1) h2 (xHp h3) (xBP h4) (g1 _ _ h5) h6 (xBP h7) (g1 _ _ h8) h9 on)) fun h2 h =>
 bE h fun r3 h3 h => bE h fun r4 h4 h => cE h (fun h5 h => bE h fun r5 h6 h => iE h fun h7 h => bE h fun r6 h8 h => bE h fun r7 h9 h => iE h fun h10 h => bE h fun r8 h11 h => bE h fun r9 h12 h => iE h fun h13 h => dE h fk31 (xV2 a0 r1 r2 r3 r4 r5 r6 r7 r8 r9) (oc12 (xAk h0) (xBC h1) h2 (xAk h3) (xBC h4) h5 (g1 _ _ h6) h7 (xBP h8) (g1 _ _ h9) h10 (xBP h11) (oc2 (g1 _ _ h12) h13 on))) fun h5 h =>
 bE h fun r5 h6 h => bE h fun r6 h7 h => cE h (fun h8 h => bE h fun r7 h9 h => bE h fun r8 h10 h => bE h fun r9 h11 h => iE h fun h12 h => bE h fun r10 h13 h => bE h fun r11 h14 h => iE h fun h15 h => dE h fk31 (xV3 a0 r1 r2 r3 r4 r5 r6 r7 r8 r9 r10 r11) (oc12 (xAk h0) (xBC h1) h2 (xAk h3) (xBC h4) h5 (xAk h6) (xBC h7) h8 (xHp h9) (xBP h10) (g1 _ _ h11) (oc4 h12 (xBP h13) (g1 _ _ h14) h15 on))) fun h8 h =>
 bE h fun r7 h9 h => tE fk31 (xV4 a0 r1 r2 r3 r4 r5 r6 r7) (oc10 (xAk h0) (xBC h1) h2 (xAk h3) (xBC h4) h5 (xAk h6) (xBC h7) h8 (g4 _ _ h9) on) (vAg g0 g1 g2 g3 g4 _ _ _ _ _ _ _ _ h)
theorem xIf {N q0 q1 q2 q3 q4} (g0 : G116 q0) (g1 : G31 q1) (g2 : G131 q2) (g3 : G96 q3) (g4 : G54 q4) {a0} {r} (h : xCs N q0 q1 q2 q3 q4 a0 = some r) : AbC 31 (xBe a0) (xAe r) :=
 AbsCalls.of_reach fk31 rfl rfl (Nat.le_of_ble_eq_true rfl) (vA9 g0 g1 g2 g3 g4 a0 r h)
noncomputable def I131 : Info := { body := (Tryz.f131.body).getD .skip, nt := 27, results := [.tmp 4], keep := [0, 2, 8, 10, 18, 30, 46, 1], live := [(4, [0, 2, 10, 1])], modes := [(3, [(0, .take, false)]), (5, [(0, .take, false), (4, .take, false)]), (8, [(0, .take, false)])], ext := [0] }
theorem xPc : FnOk Tryz.prog 131 Tryz.f131 I131 := ⟨Tryz.func131, by kernel_rfl, by kernel_rfl, by kernel_rfl, by kernel_rfl⟩
def xLT (x1 : Str) (x5 : List Exp) (b0 : Psr) : St := [(0, .v false [.ptr 0 0]), (2, .v false [.str x1]), (10, .v false [.sl .own .exp x5]), (1, .v true [.sl .ro .tok (Psr.list b0), .int .i64 (Psr.pos b0), .int .i64 (Psr.bad b0)])]
def xTl (x1 : Str) (x5 : List Exp) (b0 : Psr) (r1 : Exp × Psr) (r2 : Bool × Psr) : rS 4 I131 (xLT x1 x5 b0) [Y, Y] [xAe r1, xAd r2] = dn (xA4 ((x5 ++ [(Exp.re r1.1)]), r2.2)) [xI1 b0, xI3 b0 r1, Ln x5 + Ln [(Exp.re r1.1)] ≤ Lim, AbC 55 (xAn r1.2 x1) (xAd r2), iY r2.1] := by kernel_rfl
def xTm (x1 : Str) (x5 : List Exp) (b0 : Psr) (r1 : Exp × Psr) (r2 : Bool × Psr) (r3 : Psr) : rS 4 I131 (xLT x1 x5 b0) [Y, F] [xAe r1, xAd r2, xAp r3] = st 4 I131 (xLT x1 (x5 ++ [(Exp.re r1.1)]) r3) [xI1 b0, xI3 b0 r1, Ln x5 + Ln [(Exp.re r1.1)] ≤ Lim, AbC 55 (xAn r1.2 x1) (xAd r2), iN r2.1, AbC 53 (xAU r2.2 [44]) (xAp r3)] := by kernel_rfl
def xTn (x1 : Str) (x5 : List Exp) (b0 : Psr) : rS 4 I131 (xLT x1 x5 b0) [F] [] = dn (xA4 (x5, b0)) [xMm b0] := by kernel_rfl
def xTo (a0 : Psr) (a1 : Str) (r1 : Bool × Psr) : rE I131 (xCd a0 a1) [Y] [xAd r1] = dn (xA4 ([], r1.2)) [AbC 55 (xAn a0 a1) (xAd r1), iY r1.1] := by kernel_rfl
def xTp (a0 : Psr) (a1 : Str) (r1 : Bool × Psr) : rE I131 (xCd a0 a1) [F] [xAd r1] = st 4 I131 (xLT a1 [] r1.2) [AbC 55 (xAn a0 a1) (xAd r1), iN r1.1] := by kernel_rfl
theorem vAd {N q0 q1 q2 q3 q4} (g0 : G116 q0) (g1 : G31 q1) (g2 : G131 q2) (g3 : G96 q3) (g4 : G54 q4) : ∀ n x1 x5 b0 r, xCe N q0 q1 q2 q3 q4 n x1 x5 b0 = some r → RS Tryz.f131 I131 4 (xLT x1 x5 b0) (xA4 r) := by
 intro n
 induction n with
 | zero => exact fun _ _ _ _ h => nE h
 | succ n ih =>
  exact fun x1 x5 b0 r h =>
   cE h (fun h0 h => bE h fun r1 h1 h => iE h fun h2 h => bE h fun r2 h3 h => cE h (fun h4 h => dS h xPc (xTl x1 x5 b0 r1 r2) (oc5 h0 (g1 _ _ h1) h2 (xAm h3) h4 on)) fun h4 h =>
   bE h fun r3 h5 h => tS xPc (xTm x1 x5 b0 r1 r2 r3) (oc6 h0 (g1 _ _ h1) h2 (xAm h3) h4 (xBP h5) on) (ih _ _ _ _ h)) fun h0 h =>
   dS h xPc (xTn x1 x5 b0) (oc h0 on)
theorem vAe {N q0 q1 q2 q3 q4} (g0 : G116 q0) (g1 : G31 q1) (g2 : G131 q2) (g3 : G96 q3) (g4 : G54 q4) : ∀ a0 a1 r, xCi N q0 q1 q2 q3 q4 a0 a1 = some r → RE Tryz.f131 I131 (xCd a0 a1) (xA4 r) := fun a0 a1 r h =>
 bE h fun r1 h0 h => cE h (fun h1 h => dE h xPc (xTo a0 a1 r1) (oc2 (xAm h0) h1 on)) fun h1 h =>
 tE xPc (xTp a0 a1 r1) (oc2 (xAm h0) h1 on) (vAd g0 g1 g2 g3 g4 _ _ _ _ _ h)
theorem xHZ {N q0 q1 q2 q3 q4} (g0 : G116 q0) (g1 : G31 q1) (g2 : G131 q2) (g3 : G96 q3) (g4 : G54 q4) {a0} {a1} {r} (h : xCi N q0 q1 q2 q3 q4 a0 a1 = some r) : AbC 131 (xCd a0 a1) (xA4 r) :=
 AbsCalls.of_reach xPc rfl rfl (Nat.le_of_ble_eq_true rfl) (vAe g0 g1 g2 g3 g4 a0 a1 r h)
noncomputable def I96 : Info := { body := (Tryz.f96.body).getD .skip, nt := 14, results := [.cell 2 25], keep := [0, 4, 6, 14, 1, 5, 7], live := [(2, [0, 4, 6, 1, 5, 7])], modes := [(3, [(0, .take, false)]), (4, [(0, .take, false)])], ext := [0] }
theorem fk96 : FnOk Tryz.prog 96 Tryz.f96 I96 := ⟨Tryz.func96, by kernel_rfl, by kernel_rfl, by kernel_rfl, by kernel_rfl⟩
def xPx (b0 : Psr) (b2 b3 : Exp) : St := [(0, .v false [.ptr 0 0]), (4, .v false [.ptr 2 0]), (6, .v false [.ptr 3 0]), (1, .v true [.sl .ro .tok (Psr.list b0), .int .i64 (Psr.pos b0), .int .i64 (Psr.bad b0)]), (5, .v true [.int .i64 (Exp.kind b2), .int .i64 (Exp.n b2), .str (Exp.text b2), .sl .own .exp (Exp.args b2)]), (7, .v true [.int .i64 (Exp.kind b3), .int .i64 (Exp.n b3), .str (Exp.text b3), .sl .own .exp (Exp.args b3)])]
def xY9 (b0 : Psr) (b2 b3 : Exp) (r1 : Bool × Psr) (r2 : Exp × Psr) : rS 2 I96 (xPx b0 b2 b3) [Y] [xAd r1, xAI r2] = st 2 I96 (xPx r2.2 b2 (Exp.mk 6 3 [] [(Exp.re b3), (Exp.re r2.1)])) [AbC 55 (xAn b0 [42]) (xAd r1), iY r1.1, AbC 116 (xAT r1.2) (xAI r2)] := by kernel_rfl
def xZa (b0 : Psr) (b2 b3 : Exp) (r1 : Bool × Psr) : rS 2 I96 (xPx b0 b2 b3) [F] [xAd r1] = dn (xA9 (b3, r1.2)) [AbC 55 (xAn b0 [42]) (xAd r1), iN r1.1] := by kernel_rfl
def xZb (a0 : Psr) (r1 : Exp × Psr) : rE I96 (xCj a0) [] [xAI r1] = st 2 I96 (xPx r1.2 (Exp.mk 0 0 [] []) r1.1) [AbC 116 (xAT a0) (xAI r1)] := by kernel_rfl
theorem vCb {N q0 q1 q2 q3 q4} (g0 : G116 q0) (g1 : G31 q1) (g2 : G131 q2) (g3 : G96 q3) (g4 : G54 q4) : ∀ n b0 b2 b3 r, xBQ N q0 q1 q2 q3 q4 n b0 b2 b3 = some r → RS Tryz.f96 I96 2 (xPx b0 b2 b3) (xA9 r) := by
 intro n
 induction n with
 | zero => exact fun _ _ _ _ h => nE h
 | succ n ih =>
  exact fun b0 b2 b3 r h =>
   bE h fun r1 h0 h => cE h (fun h1 h => bE h fun r2 h2 h => tS fk96 (xY9 b0 b2 b3 r1 r2) (oc3 (xAm h0) h1 (g0 _ _ h2) on) (ih _ _ _ _ h)) fun h1 h =>
   dS h fk96 (xZa b0 b2 b3 r1) (oc2 (xAm h0) h1 on)
theorem vCc {N q0 q1 q2 q3 q4} (g0 : G116 q0) (g1 : G31 q1) (g2 : G131 q2) (g3 : G96 q3) (g4 : G54 q4) : ∀ a0 r, xBZ N q0 q1 q2 q3 q4 a0 = some r → RE Tryz.f96 I96 (xCj a0) (xA9 r) := fun a0 r h =>
 bE h fun r1 h0 h => tE fk96 (xZb a0 r1) (oc (g0 _ _ h0) on) (vCb g0 g1 g2 g3 g4 _ _ _ _ _ h)
theorem xHq {N q0 q1 q2 q3 q4} (g0 : G116 q0) (g1 : G31 q1) (g2 : G131 q2) (g3 : G96 q3) (g4 : G54 q4) {a0} {r} (h : xBZ N q0 q1 q2 q3 q4 a0 = some r) : AbC 96 (xCj a0) (xA9 r) :=
 AbsCalls.of_reach fk96 rfl rfl (Nat.le_of_ble_eq_true rfl) (vCc g0 g1 g2 g3 g4 a0 r h)
noncomputable def I54 : Info := { body := (Tryz.f54.body).getD .skip, nt := 25, results := [.cell 2 25], keep := [0, 4, 6, 8, 22, 28, 34, 1, 5, 7], live := [(2, [0, 4, 6, 1, 5, 7])], modes := [(7, [(0, .take, false), (1, .take, false)]), (8, [(0, .take, false)])], ext := [0] }
theorem fk54 : FnOk Tryz.prog 54 Tryz.f54 I54 := ⟨Tryz.func54, by kernel_rfl, by kernel_rfl, by kernel_rfl, by kernel_rfl⟩
def xMU (b0 : Psr) (b2 b3 : Exp) : St := [(0, .v false [.ptr 0 0]), (4, .v false [.ptr 2 0]), (6, .v false [.ptr 3 0]), (1, .v true [.sl .ro .tok (Psr.list b0), .int .i64 (Psr.pos b0), .int .i64 (Psr.bad b0)]), (5, .v true [.int .i64 (Exp.kind b2), .int .i64 (Exp.n b2), .str (Exp.text b2), .sl .own .exp (Exp.args b2)]), (7, .v true [.int .i64 (Exp.kind b3), .int .i64 (Exp.n b3), .str (Exp.text b3), .sl .own .exp (Exp.args b3)])]
def xXe (b0 : Psr) (b2 b3 : Exp) (r1 : Bool × Psr) (r2 : Bool × Psr) : rS 2 I54 (xMU b0 b2 b3) [Y, Y, Y] [xAd r1, xAd r2] = dn (xB4 (b3, r2.2)) [xI1 b0, AbC 55 (xAn b0 [43]) (xAd r1), iY (!r1.1), AbC 55 (xAn r1.2 [45]) (xAd r2), iY (!r2.1)] := by kernel_rfl
def xXf (b0 : Psr) (b2 b3 : Exp) (r1 : Bool × Psr) (r2 : Bool × Psr) (r3 : Exp × Psr) : rS 2 I54 (xMU b0 b2 b3) [Y, Y, F] [xAd r1, xAd r2, xA9 r3] = st 2 I54 (xMU r3.2 b2 (Exp.mk 6 2 [] [(Exp.re b3), (Exp.re r3.1)])) [xI1 b0, AbC 55 (xAn b0 [43]) (xAd r1), iY (!r1.1), AbC 55 (xAn r1.2 [45]) (xAd r2), iN (!r2.1), AbC 96 (xCj r2.2) (xA9 r3)] := by kernel_rfl
def xXg (b0 : Psr) (b2 b3 : Exp) (r1 : Bool × Psr) (r2 : Exp × Psr) : rS 2 I54 (xMU b0 b2 b3) [Y, F] [xAd r1, xA9 r2] = st 2 I54 (xMU r2.2 b2 (Exp.mk 6 1 [] [(Exp.re b3), (Exp.re r2.1)])) [xI1 b0, AbC 55 (xAn b0 [43]) (xAd r1), iN (!r1.1), AbC 96 (xCj r1.2) (xA9 r2)] := by kernel_rfl
def xXh (b0 : Psr) (b2 b3 : Exp) : rS 2 I54 (xMU b0 b2 b3) [F] [] = dn (xB4 (b3, b0)) [xMm b0] := by kernel_rfl
def xXi (a0 : Psr) (r1 : Exp × Psr) : rE I54 (xDN a0) [] [xA9 r1] = st 2 I54 (xMU r1.2 (Exp.mk 0 0 [] []) r1.1) [AbC 96 (xCj a0) (xA9 r1)] := by kernel_rfl
theorem vBu {N q0 q1 q2 q3 q4} (g0 : G116 q0) (g1 : G31 q1) (g2 : G131 q2) (g3 : G96 q3) (g4 : G54 q4) : ∀ n b0 b2 b3 r, xB3 N q0 q1 q2 q3 q4 n b0 b2 b3 = some r → RS Tryz.f54 I54 2 (xMU b0 b2 b3) (xB4 r) := by
 intro n
 induction n with
 | zero => exact fun _ _ _ _ h => nE h
 | succ n ih =>
  exact fun b0 b2 b3 r h =>
   cE h (fun h0 h => bE h fun r1 h1 h => cE h (fun h2 h => bE h fun r2 h3 h => cE h (fun h4 h => dS h fk54 (xXe b0 b2 b3 r1 r2) (oc5 h0 (xAm h1) h2 (xAm h3) h4 on)) fun h4 h =>
   bE h fun r3 h5 h => tS fk54 (xXf b0 b2 b3 r1 r2 r3) (oc6 h0 (xAm h1) h2 (xAm h3) h4 (g3 _ _ h5) on) (ih _ _ _ _ h)) fun h2 h =>
   bE h fun r2 h3 h => tS fk54 (xXg b0 b2 b3 r1 r2) (oc4 h0 (xAm h1) h2 (g3 _ _ h3) on) (ih _ _ _ _ h)) fun h0 h =>
   dS h fk54 (xXh b0 b2 b3) (oc h0 on)
theorem vBv {N q0 q1 q2 q3 q4} (g0 : G116 q0) (g1 : G31 q1) (g2 : G131 q2) (g3 : G96 q3) (g4 : G54 q4) : ∀ a0 r, xCL N q0 q1 q2 q3 q4 a0 = some r → RE Tryz.f54 I54 (xDN a0) (xB4 r) := fun a0 r h =>
 bE h fun r1 h0 h => tE fk54 (xXi a0 r1) (oc (g3 _ _ h0) on) (vBu g0 g1 g2 g3 g4 _ _ _ _ _ h)
theorem xIt {N q0 q1 q2 q3 q4} (g0 : G116 q0) (g1 : G31 q1) (g2 : G131 q2) (g3 : G96 q3) (g4 : G54 q4) {a0} {r} (h : xCL N q0 q1 q2 q3 q4 a0 = some r) : AbC 54 (xDN a0) (xB4 r) :=
 AbsCalls.of_reach fk54 rfl rfl (Nat.le_of_ble_eq_true rfl) (vBv g0 g1 g2 g3 g4 a0 r h)
theorem xIs {N : Nat} : ∀ d, G116 (xAa N d).c_impl_parser_atom ∧ G31 (xAa N d).c_impl_parser_expr ∧ G131 (xAa N d).c_impl_parser_list2 ∧ G96 (xAa N d).c_impl_parser_product ∧ G54 (xAa N d).c_impl_parser_sum := by
 intro d
 induction d with
 | zero => exact ⟨fun _ _ h => nE h, fun _ _ h => nE h, fun _ _ _ h => nE h, fun _ _ h => nE h, fun _ _ h => nE h⟩
 | succ d ih =>
  obtain ⟨ih0, ih1, ih2, ih3, ih4⟩ := ih
  exact ⟨fun _ _ h => xIe (N := N) ih0 ih1 ih2 ih3 ih4 h, fun _ _ h => xIf (N := N) ih0 ih1 ih2 ih3 ih4 h, fun _ _ _ h => xHZ (N := N) ih0 ih1 ih2 ih3 ih4 h, fun _ _ h => xHq (N := N) ih0 ih1 ih2 ih3 ih4 h, fun _ _ h => xIt (N := N) ih0 ih1 ih2 ih3 ih4 h⟩
theorem xBk {N : Nat} {a0 : Psr} {r : Exp × Psr} (h : xF3 N a0 = some r) : AbC 31 (xBe a0) (xAe r) := (xIs N).2.1 _ r h
def G57 (q : Exp → Option (Int)) : Prop := ∀ a0 r, q a0 = some r → AbC 57 (xCG a0) (xBi r)
noncomputable def I57 : Info := { body := (Tryz.f57.body).getD .skip, nt := 19, results := [.tmp 2], keep := [0, 2, 4, 6, 10, 14, 16, 18, 20, 3, 11], live := [(3, [6, 14, 16, 18])], modes := [(6, [(1, .take, false)])] }
theorem fk57 : FnOk Tryz.prog 57 Tryz.f57 I57 := ⟨Tryz.func57, by kernel_rfl, by kernel_rfl, by kernel_rfl, by kernel_rfl⟩
def xPt (x3 : Int) (x7 : List Exp) (x8 x9 : Int) : St := [(6, .v false [.int .i64 x3]), (14, .v false [.sl .ro .exp x7]), (16, .v false [.int .i64 x8]), (18, .v false [.int .i64 x9])]
abbrev xKz (v0 : Int) (v1 : List Exp) : Prop := (0 : Int) ≤ v0 ∧ v0 < (Ln v1)
abbrev xKJ (v0 : List Exp) (v1 : Int) := gD v0 (tN v1) Ty.exp.dflt
def xXn (x3 : Int) (x7 : List Exp) (x8 x9 r1 : Int) : rS 3 I57 (xPt x3 x7 x8 x9) [Y] [xBi r1] = st 3 I57 (xPt (W (x3 + r1)) x7 x8 (W (x9 + 1))) [xGp x9 x8, xKz x9 x7, AbC 57 (xCG (xKJ x7 x9)) (xBi r1)] := by kernel_rfl
def xXo (x3 : Int) (x7 : List Exp) (x8 x9 : Int) : rS 3 I57 (xPt x3 x7 x8 x9) [F] [] = dn (xBi x3) [xH1 x9 x8] := by kernel_rfl
def xXp (a0 : Exp) : rE I57 (xCG a0) [] [] = st 3 I57 (xPt 1 (Exp.args a0) (xGr a0) 0) [] := by kernel_rfl
theorem vBy {N q0} (g0 : G57 q0) : ∀ n x3 x7 x8 x9 r, xDz N q0 n x3 x7 x8 x9 = some r → RS Tryz.f57 I57 3 (xPt x3 x7 x8 x9) (xBi r) := by
 intro n
 induction n with
 | zero => exact fun _ _ _ _ _ h => nE h
 | succ n ih =>
  exact fun x3 x7 x8 x9 r h =>
   cE h (fun h0 h => iE h fun h1 h => bE h fun r1 h2 h => tS fk57 (xXn x3 x7 x8 x9 r1) (oc3 h0 h1 (g0 _ _ h2) on) (ih _ _ _ _ _ h)) fun h0 h =>
   dS h fk57 (xXo x3 x7 x8 x9) (oc h0 on)
theorem vBz {N q0} (g0 : G57 q0) : ∀ a0 r, xGb N q0 a0 = some r → RE Tryz.f57 I57 (xCG a0) (xBi r) := fun a0 r h =>
 tE fk57 (xXp a0) on (vBy g0 _ _ _ _ _ _ h)
theorem xIO {N q0} (g0 : G57 q0) {a0} {r} (h : xGb N q0 a0 = some r) : AbC 57 (xCG a0) (xBi r) :=
 AbsCalls.of_reach fk57 rfl rfl (Nat.le_of_ble_eq_true rfl) (vBz g0 a0 r h)
theorem xGZ {N : Nat} : ∀ d, G57 (xDM N d)
 | 0 => fun _ _ h => nE h
 | d + 1 => fun _ _ h => xIO (N := N) (xGZ d) h
theorem xGG {N : Nat} {a0 : Exp} {r : Int} (h : xHY N a0 = some r) : AbC 57 (xCG a0) (xBi r) := xGZ N _ r h
def G58 (q : Exp → Option (Int)) : Prop := ∀ a0 r, q a0 = some r → AbC 58 (xC6 a0) (xBD r)
noncomputable def I58 : Info := { body := (Tryz.f58.body).getD .skip, nt := 20, results := [.tmp 2], keep := [0, 2, 4, 6, 10, 14, 16, 18, 20, 3, 11], live := [(3, [6, 14, 16, 18])], modes := [(6, [(1, .take, false)])] }
theorem fk58 : FnOk Tryz.prog 58 Tryz.f58 I58 := ⟨Tryz.func58, by kernel_rfl, by kernel_rfl, by kernel_rfl, by kernel_rfl⟩
def xPu (x3 : Int) (x7 : List Exp) (x8 x9 : Int) : St := [(6, .v false [.int .i64 x3]), (14, .v false [.sl .ro .exp x7]), (16, .v false [.int .i64 x8]), (18, .v false [.int .i64 x9])]
def xXq (x3 : Int) (x7 : List Exp) (x8 x9 r1 : Int) : rS 3 I58 (xPu x3 x7 x8 x9) [Y] [xBD r1] = st 3 I58 (xPu (if r1 > x3 then r1 else x3) x7 x8 (W (x9 + 1))) [xGp x9 x8, xKz x9 x7, AbC 58 (xC6 (xKJ x7 x9)) (xBD r1)] := by kernel_rfl
def xXr (x3 : Int) (x7 : List Exp) (x8 x9 : Int) : rS 3 I58 (xPu x3 x7 x8 x9) [F] [] = dn (xBD (W (x3 + 1))) [xH1 x9 x8] := by kernel_rfl
def xXs (a0 : Exp) : rE I58 (xC6 a0) [] [] = st 3 I58 (xPu 0 (Exp.args a0) (xGr a0) 0) [] := by kernel_rfl
theorem vBA {N q0} (g0 : G58 q0) : ∀ n x3 x7 x8 x9 r, xD7 N q0 n x3 x7 x8 x9 = some r → RS Tryz.f58 I58 3 (xPu x3 x7 x8 x9) (xBD r) := by
 intro n
 induction n with
 | zero => exact fun _ _ _ _ _ h => nE h
 | succ n ih =>
  exact fun x3 x7 x8 x9 r h =>
   cE h (fun h0 h => iE h fun h1 h => bE h fun r1 h2 h => tS fk58 (xXq x3 x7 x8 x9 r1) (oc3 h0 h1 (g0 _ _ h2) on) (ih _ _ _ _ _ h)) fun h0 h =>
   dS h fk58 (xXr x3 x7 x8 x9) (oc h0 on)
theorem vBB {N q0} (g0 : G58 q0) : ∀ a0 r, xGa N q0 a0 = some r → RE Tryz.f58 I58 (xC6 a0) (xBD r) := fun a0 r h =>
 tE fk58 (xXs a0) on (vBA g0 _ _ _ _ _ _ h)
theorem xIN {N q0} (g0 : G58 q0) {a0} {r} (h : xGa N q0 a0 = some r) : AbC 58 (xC6 a0) (xBD r) :=
 AbsCalls.of_reach fk58 rfl rfl (Nat.le_of_ble_eq_true rfl) (vBB g0 a0 r h)
theorem xGY {N : Nat} : ∀ d, G58 (xEw N d)
 | 0 => fun _ _ h => nE h
 | d + 1 => fun _ _ h => xIN (N := N) (xGY d) h
theorem xId {N : Nat} {a0 : Exp} {r : Int} (h : xHX N a0 = some r) : AbC 58 (xC6 a0) (xBD r) := xGY N _ r h
noncomputable def I98 : Info := { body := (Tryz.f98.body).getD .skip, nt := 120, results := [.tmp 2], keep := [0, 2, 4, 6, 16, 18, 46, 74, 102, 130, 154, 182, 212, 3], live := [], modes := [(4, [(3, .take, false), (8, .take, false)]), (6, [(3, .take, false), (8, .take, false)]), (8, [(3, .take, false), (8, .take, false)]), (10, [(3, .take, false), (8, .take, false)]), (12, [(3, .take, false)]), (14, [(3, .take, false), (8, .take, false)]), (17, [(3, .take, false), (8, .take, false)]), (19, [(3, .take, false), (8, .take, false)])] }
theorem fk98 : FnOk Tryz.prog 98 Tryz.f98 I98 := ⟨Tryz.func98, by kernel_rfl, by kernel_rfl, by kernel_rfl, by kernel_rfl⟩
abbrev xNM (v0 : Exp) (v1 : Bool) : Prop := AbC 97 (xCP (Exp.n v0) 0 1000000000) (xA8 v1)
abbrev xN9 (v0 : Exp) := xAG ((Ln (Exp.args v0) : Int) == 0)
def xZe (a0 : Exp) (r1 : Bool) : rE I98 (xAy a0) [Y, Y, Y] [xA8 r1] = dn (xN9 a0) [xKY a0, xNM a0 r1, iY r1, xKi a0] := by kernel_rfl
def xZf (a0 : Exp) (r1 : Bool) : rE I98 (xAy a0) [Y, Y, F] [xA8 r1] = dn (xAG false) [xKY a0, xNM a0 r1, iY r1, xKZ a0] := by kernel_rfl
def xZg (a0 : Exp) (r1 : Bool) : rE I98 (xAy a0) [Y, F, F] [xA8 r1] = dn (xAG false) [xKY a0, xNM a0 r1, iN r1, iN false] := by kernel_rfl
def xZh (a0 : Exp) (r1 : Bool) : rE I98 (xAy a0) [F, Y, Y, Y] [xAO r1] = dn (xN9 a0) [xBp a0, xK0 a0, xFm a0, AbC 91 (xDx (Exp.text a0)) (xAO r1), iY r1] := by kernel_rfl
def xZi (a0 : Exp) (r1 : Bool) : rE I98 (xAy a0) [F, Y, Y, F] [xAO r1] = dn (xAG false) [xBp a0, xK0 a0, xFm a0, AbC 91 (xDx (Exp.text a0)) (xAO r1), iN r1] := by kernel_rfl
def xZj (a0 : Exp) : rE I98 (xAy a0) [F, Y, F, F] [] = dn (xAG false) [xBp a0, xK0 a0, xHN a0, iN false] := by kernel_rfl
abbrev xKA (v0 : Exp) (v1 : Bool) : Prop := AbC 93 (xDw (Exp.text v0)) (xAE v1)
def xZk (a0 : Exp) (r1 : Bool) : rE I98 (xAy a0) [F, F, Y, Y, Y] [xAE r1] = dn (xN9 a0) [xBp a0, xBO a0, xK1 a0, xFm a0, xKA a0 r1, iY r1] := by kernel_rfl
def xZl (a0 : Exp) (r1 : Bool) : rE I98 (xAy a0) [F, F, Y, Y, F] [xAE r1] = dn (xAG false) [xBp a0, xBO a0, xK1 a0, xFm a0, xKA a0 r1, iN r1] := by kernel_rfl
def xZm (a0 : Exp) : rE I98 (xAy a0) [F, F, Y, F, F] [] = dn (xAG false) [xBp a0, xBO a0, xK1 a0, xHN a0, iN false] := by kernel_rfl
def xZn (a0 : Exp) : rE I98 (xAy a0) [F, F, F, Y, Y, Y] [] = dn (xAG (dc ((xGr a0) ≤ 8))) [xBp a0, xBO a0, xCf a0, xK2 a0, xFm a0, xKi a0] := by kernel_rfl
def xUj (a0 : Exp) : rE I98 (xAy a0) [F, F, F, Y, Y, F] [] = dn (xAG false) [xBp a0, xBO a0, xCf a0, xK2 a0, xFm a0, xKZ a0] := by kernel_rfl
def xUk (a0 : Exp) : rE I98 (xAy a0) [F, F, F, Y, F, F] [] = dn (xAG false) [xBp a0, xBO a0, xCf a0, xK2 a0, xHN a0, iN false] := by kernel_rfl
def xUl (a0 : Exp) (r1 : Int) : rE I98 (xAy a0) [F, F, F, F, Y, Y] [xAg r1] = dn (xAG ((xGr a0) == r1)) [xBp a0, xBO a0, xCf a0, xC2 a0, xL7 a0, xFm a0, AbC 117 (xAl (Exp.text a0)) (xAg r1)] := by kernel_rfl
def xUm (a0 : Exp) : rE I98 (xAy a0) [F, F, F, F, Y, F] [] = dn (xAG false) [xBp a0, xBO a0, xCf a0, xC2 a0, xL7 a0, xHN a0] := by kernel_rfl
abbrev xOa (v0 : Exp) := xAG ((Ln (Exp.args v0) : Int) == 2)
def xUn (a0 : Exp) (r1 : Bool) : rE I98 (xAy a0) [F, F, F, F, F, Y, Y, Y] [xA8 r1] = dn (xOa a0) [xBp a0, xBO a0, xCf a0, xC2 a0, xDC a0, xGE a0, AbC 97 (xCP (Exp.n a0) 1 5) (xA8 r1), iY r1, xKi a0] := by kernel_rfl
def xUo (a0 : Exp) (r1 : Bool) : rE I98 (xAy a0) [F, F, F, F, F, Y, Y, F] [xA8 r1] = dn (xAG false) [xBp a0, xBO a0, xCf a0, xC2 a0, xDC a0, xGE a0, AbC 97 (xCP (Exp.n a0) 1 5) (xA8 r1), iY r1, xKZ a0] := by kernel_rfl
def xUp (a0 : Exp) (r1 : Bool) : rE I98 (xAy a0) [F, F, F, F, F, Y, F, F] [xA8 r1] = dn (xAG false) [xBp a0, xBO a0, xCf a0, xC2 a0, xDC a0, xGE a0, AbC 97 (xCP (Exp.n a0) 1 5) (xA8 r1), iN r1, iN false] := by kernel_rfl
def xUq (a0 : Exp) (r1 : Bool) : rE I98 (xAy a0) [F, F, F, F, F, F, Y, Y, Y, Y] [xAE r1] = dn (xOa a0) [xBp a0, xBO a0, xCf a0, xC2 a0, xDC a0, xFS a0, xGF a0, xGF a0, xFm a0, xKA a0 r1, iY r1] := by kernel_rfl
def xUr (a0 : Exp) (r1 : Bool) : rE I98 (xAy a0) [F, F, F, F, F, F, Y, Y, Y, F] [xAE r1] = dn (xAG false) [xBp a0, xBO a0, xCf a0, xC2 a0, xDC a0, xFS a0, xGF a0, xGF a0, xFm a0, xKA a0 r1, iN r1] := by kernel_rfl
def xUs (a0 : Exp) : rE I98 (xAy a0) [F, F, F, F, F, F, Y, Y, F, F] [] = dn (xAG false) [xBp a0, xBO a0, xCf a0, xC2 a0, xDC a0, xFS a0, xGF a0, xGF a0, xHN a0, iN false] := by kernel_rfl
def xUt (a0 : Exp) (r1 : Bool) : rE I98 (xAy a0) [F, F, F, F, F, F, F, Y, Y, Y] [xAE r1] = dn (xOa a0) [xBp a0, xBO a0, xCf a0, xC2 a0, xDC a0, xFS a0, xDc a0, xJL a0, xFm a0, xKA a0 r1, iY r1] := by kernel_rfl
def xUu (a0 : Exp) (r1 : Bool) : rE I98 (xAy a0) [F, F, F, F, F, F, F, Y, Y, F] [xAE r1] = dn (xAG false) [xBp a0, xBO a0, xCf a0, xC2 a0, xDC a0, xFS a0, xDc a0, xJL a0, xFm a0, xKA a0 r1, iN r1] := by kernel_rfl
def xUv (a0 : Exp) : rE I98 (xAy a0) [F, F, F, F, F, F, F, Y, F, F] [] = dn (xAG false) [xBp a0, xBO a0, xCf a0, xC2 a0, xDC a0, xFS a0, xDc a0, xJL a0, xHN a0, iN false] := by kernel_rfl
def xUw (a0 : Exp) : rE I98 (xAy a0) [F, F, F, F, F, F, F, F, Y, Y, Y] [] = dn (xAG ((xGr a0) == 3)) [xBp a0, xBO a0, xCf a0, xC2 a0, xDC a0, xFS a0, xDc a0, xER a0, xIH a0, xFm a0, xKi a0] := by kernel_rfl
def xUx (a0 : Exp) : rE I98 (xAy a0) [F, F, F, F, F, F, F, F, Y, Y, F] [] = dn (xAG false) [xBp a0, xBO a0, xCf a0, xC2 a0, xDC a0, xFS a0, xDc a0, xER a0, xIH a0, xFm a0, xKZ a0] := by kernel_rfl
def xUy (a0 : Exp) : rE I98 (xAy a0) [F, F, F, F, F, F, F, F, Y, F, F] [] = dn (xAG false) [xBp a0, xBO a0, xCf a0, xC2 a0, xDC a0, xFS a0, xDc a0, xER a0, xIH a0, xHN a0, iN false] := by kernel_rfl
def xUz (a0 : Exp) : rE I98 (xAy a0) [F, F, F, F, F, F, F, F, F] [] = dn (xAG false) [xBp a0, xBO a0, xCf a0, xC2 a0, xDC a0, xFS a0, xDc a0, xER a0, xEe a0] := by kernel_rfl
theorem vCe {N : Nat} : ∀ a0 r, xHo N a0 = some r → RE Tryz.f98 I98 (xAy a0) (xAG r) := fun a0 r h =>
 cE h (fun h0 h => bE h fun r1 h1 h => cE h (fun h2 h => cE h (fun h3 h => dE h fk98 (xZe a0 r1) (oc4 h0 (xDF h1) h2 h3 on)) fun h3 h =>
 dE h fk98 (xZf a0 r1) (oc4 h0 (xDF h1) h2 h3 on)) fun h2 h =>
 dE h fk98 (xZg a0 r1) (oc4 h0 (xDF h1) h2 rfl on)) fun h0 h =>
 cE h (fun h1 h => cE h (fun h2 h => bE h fun r1 h3 h => cE h (fun h4 h => dE h fk98 (xZh a0 r1) (oc5 h0 h1 h2 (xDy h3) h4 on)) fun h4 h =>
 dE h fk98 (xZi a0 r1) (oc5 h0 h1 h2 (xDy h3) h4 on)) fun h2 h =>
 dE h fk98 (xZj a0) (oc4 h0 h1 h2 rfl on)) fun h1 h =>
 cE h (fun h2 h => cE h (fun h3 h => bE h fun r1 h4 h => cE h (fun h5 h => dE h fk98 (xZk a0 r1) (oc6 h0 h1 h2 h3 (xBd h4) h5 on)) fun h5 h =>
 dE h fk98 (xZl a0 r1) (oc6 h0 h1 h2 h3 (xBd h4) h5 on)) fun h3 h =>
 dE h fk98 (xZm a0) (oc5 h0 h1 h2 h3 rfl on)) fun h2 h =>
 cE h (fun h3 h => cE h (fun h4 h => cE h (fun h5 h => dE h fk98 (xZn a0) (oc6 h0 h1 h2 h3 h4 h5 on)) fun h5 h =>
 dE h fk98 (xUj a0) (oc6 h0 h1 h2 h3 h4 h5 on)) fun h4 h =>
 dE h fk98 (xUk a0) (oc6 h0 h1 h2 h3 h4 rfl on)) fun h3 h =>
 cE h (fun h4 h => cE h (fun h5 h => bE h fun r1 h6 h => dE h fk98 (xUl a0 r1) (oc7 h0 h1 h2 h3 h4 h5 (xC5 h6) on)) fun h5 h =>
 dE h fk98 (xUm a0) (oc6 h0 h1 h2 h3 h4 h5 on)) fun h4 h =>
 cE h (fun h5 h => bE h fun r1 h6 h => cE h (fun h7 h => cE h (fun h8 h => dE h fk98 (xUn a0 r1) (oc9 h0 h1 h2 h3 h4 h5 (xDF h6) h7 h8 on)) fun h8 h =>
 dE h fk98 (xUo a0 r1) (oc9 h0 h1 h2 h3 h4 h5 (xDF h6) h7 h8 on)) fun h7 h =>
 dE h fk98 (xUp a0 r1) (oc9 h0 h1 h2 h3 h4 h5 (xDF h6) h7 rfl on)) fun h5 h =>
 cE h (fun h6 h => cE h (fun h8 h => bE h fun r1 h9 h => cE h (fun h10 h => dE h fk98 (xUq a0 r1) (oc11 h0 h1 h2 h3 h4 h5 h6 h6 h8 (xBd h9) h10 on)) fun h10 h =>
 dE h fk98 (xUr a0 r1) (oc11 h0 h1 h2 h3 h4 h5 h6 h6 h8 (xBd h9) h10 on)) fun h8 h =>
 dE h fk98 (xUs a0) (oc10 h0 h1 h2 h3 h4 h5 h6 h6 h8 rfl on)) fun h6 h =>
 cE h (fun h7 h => cE h (fun h8 h => bE h fun r1 h9 h => cE h (fun h10 h => dE h fk98 (xUt a0 r1) (oc11 h0 h1 h2 h3 h4 h5 h6 h7 h8 (xBd h9) h10 on)) fun h10 h =>
 dE h fk98 (xUu a0 r1) (oc11 h0 h1 h2 h3 h4 h5 h6 h7 h8 (xBd h9) h10 on)) fun h8 h =>
 dE h fk98 (xUv a0) (oc10 h0 h1 h2 h3 h4 h5 h6 h7 h8 rfl on)) fun h7 h =>
 cE h (fun h8 h => cE h (fun h9 h => cE h (fun h10 h => dE h fk98 (xUw a0) (oc11 h0 h1 h2 h3 h4 h5 h6 h7 h8 h9 h10 on)) fun h10 h =>
 dE h fk98 (xUx a0) (oc11 h0 h1 h2 h3 h4 h5 h6 h7 h8 h9 h10 on)) fun h9 h =>
 dE h fk98 (xUy a0) (oc11 h0 h1 h2 h3 h4 h5 h6 h7 h8 h9 rfl on)) fun h8 h =>
 dE h fk98 (xUz a0) (oc9 h0 h1 h2 h3 h4 h5 h6 h7 h8 on)
theorem xLL {N : Nat} {a0 : Exp} {r : Bool} (h : xHo N  a0 = some r) : AbC 98 (xAy a0) (xAG r) :=
 AbsCalls.of_reach fk98 rfl rfl (Nat.le_of_ble_eq_true rfl) (vCe a0 r h)
def G59 (q : Exp → Option (Bool)) : Prop := ∀ a0 r, q a0 = some r → AbC 59 (xDq a0) (xBF r)
noncomputable def I59 : Info := { body := (Tryz.f59.body).getD .skip, nt := 18, results := [.tmp 2], keep := [0, 2, 4, 8, 12, 14, 16, 18, 28, 3, 9], live := [(2, [2, 12, 14, 16, 3])], modes := [(6, [(1, .take, false)])] }
theorem fk59 : FnOk Tryz.prog 59 Tryz.f59 I59 := ⟨Tryz.func59, by kernel_rfl, by kernel_rfl, by kernel_rfl, by kernel_rfl⟩
def xO8 (x6 : List Exp) (x7 x8 : Int) (b1 : Exp) : St := [(2, .v false [.ptr 1 0]), (12, .v false [.sl .ro .exp x6]), (14, .v false [.int .i64 x7]), (16, .v false [.int .i64 x8]), (3, .v true [.int .i64 (Exp.kind b1), .int .i64 (Exp.n b1), .str (Exp.text b1), .sl .ro .exp (Exp.args b1)])]
def xXt (x6 : List Exp) (x7 x8 : Int) (b1 : Exp) (r1 : Bool) : rS 2 I59 (xO8 x6 x7 x8 b1) [Y, Y] [xBF r1] = dn (xBF false) [xGp x8 x7, xKz x8 x6, AbC 59 (xDq (xKJ x6 x8)) (xBF r1), iY (!r1)] := by kernel_rfl
def xXu (x6 : List Exp) (x7 x8 : Int) (b1 : Exp) (r1 : Bool) : rS 2 I59 (xO8 x6 x7 x8 b1) [Y, F] [xBF r1] = st 2 I59 (xO8 x6 x7 (W (x8 + 1)) b1) [xGp x8 x7, xKz x8 x6, AbC 59 (xDq (xKJ x6 x8)) (xBF r1), iN (!r1)] := by kernel_rfl
def xXv (x6 : List Exp) (x7 x8 : Int) (b1 : Exp) (r1 : Bool) : rS 2 I59 (xO8 x6 x7 x8 b1) [F] [xAG r1] = dn (xBF r1) [xH1 x8 x7, AbC 98 (xAy b1) (xAG r1)] := by kernel_rfl
def xXw (a0 : Exp) : rE I59 (xDq a0) [] [] = st 2 I59 (xO8 (Exp.args a0) (xGr a0) 0 a0) [] := by kernel_rfl
theorem vBC {N q0} (g0 : G59 q0) : ∀ n x6 x7 x8 b1 r, xDR N q0 n x6 x7 x8 b1 = some r → RS Tryz.f59 I59 2 (xO8 x6 x7 x8 b1) (xBF r) := by
 intro n
 induction n with
 | zero => exact fun _ _ _ _ _ h => nE h
 | succ n ih =>
  exact fun x6 x7 x8 b1 r h =>
   cE h (fun h0 h => iE h fun h1 h => bE h fun r1 h2 h => cE h (fun h3 h => dS h fk59 (xXt x6 x7 x8 b1 r1) (oc4 h0 h1 (g0 _ _ h2) h3 on)) fun h3 h =>
   tS fk59 (xXu x6 x7 x8 b1 r1) (oc4 h0 h1 (g0 _ _ h2) h3 on) (ih _ _ _ _ _ h)) fun h0 h =>
   bE h fun r1 h1 h => dS h fk59 (xXv x6 x7 x8 b1 r1) (oc2 h0 (xLL h1) on)
theorem vBD {N q0} (g0 : G59 q0) : ∀ a0 r, xGl N q0 a0 = some r → RE Tryz.f59 I59 (xDq a0) (xBF r) := fun a0 r h =>
 tE fk59 (xXw a0) on (vBC g0 _ _ _ _ _ _ h)
theorem xIV {N q0} (g0 : G59 q0) {a0} {r} (h : xGl N q0 a0 = some r) : AbC 59 (xDq a0) (xBF r) :=
 AbsCalls.of_reach fk59 rfl rfl (Nat.le_of_ble_eq_true rfl) (vBD g0 a0 r h)
theorem xHa {N : Nat} : ∀ d, G59 (xEO N d)
 | 0 => fun _ _ h => nE h
 | d + 1 => fun _ _ h => xIV (N := N) (xHa d) h
theorem xK7 {N : Nat} {a0 : Exp} {r : Bool} (h : xIp N a0 = some r) : AbC 59 (xDq a0) (xBF r) := xHa N _ r h
noncomputable def I32 : Info := { body := (Tryz.f32.body).getD .skip, nt := 15, results := [.tmp 2], keep := [0, 2, 4, 3], live := [], modes := [(1, [(3, .take, false), (8, .take, false)])] }
theorem fk32 : FnOk Tryz.prog 32 Tryz.f32 I32 := ⟨Tryz.func32, by kernel_rfl, by kernel_rfl, by kernel_rfl, by kernel_rfl⟩
def xV5 (a0 : Exp) (r1 r2 : Int) (r3 : Bool) : rE I32 (xCp a0) [Y, Y] [xBi r1, xBD r2, xBF r3] = dn (xAN r3) [AbC 57 (xCG a0) (xBi r1), iY (dc (r1 ≤ 40)), AbC 58 (xC6 a0) (xBD r2), iY (dc (r2 ≤ 8)), AbC 59 (xDq a0) (xBF r3)] := by kernel_rfl
def xV6 (a0 : Exp) (r1 r2 : Int) : rE I32 (xCp a0) [Y, F] [xBi r1, xBD r2] = dn (xAN false) [AbC 57 (xCG a0) (xBi r1), iY (dc (r1 ≤ 40)), AbC 58 (xC6 a0) (xBD r2), iN (dc (r2 ≤ 8))] := by kernel_rfl
def xV7 (a0 : Exp) (r1 : Int) : rE I32 (xCp a0) [F, F] [xBi r1] = dn (xAN false) [AbC 57 (xCG a0) (xBi r1), iN (dc (r1 ≤ 40)), iN false] := by kernel_rfl
theorem vBa {N : Nat} : ∀ a0 r, xCA N a0 = some r → RE Tryz.f32 I32 (xCp a0) (xAN r) := fun a0 r h =>
 bE h fun r1 h0 h => cE h (fun h1 h => bE h fun r2 h2 h => cE h (fun h3 h => bE h fun r3 h4 h => dE h fk32 (xV5 a0 r1 r2 r3) (oc5 (xGG h0) h1 (xId h2) h3 (xK7 h4) on)) fun h3 h =>
 dE h fk32 (xV6 a0 r1 r2) (oc4 (xGG h0) h1 (xId h2) h3 on)) fun h1 h =>
 dE h fk32 (xV7 a0 r1) (oc3 (xGG h0) h1 rfl on)
theorem xCq {N : Nat} {a0 : Exp} {r : Bool} (h : xCA N  a0 = some r) : AbC 32 (xCp a0) (xAN r) :=
 AbsCalls.of_reach fk32 rfl rfl (Nat.le_of_ble_eq_true rfl) (vBa a0 r h)
noncomputable def I12 : Info := { body := (Tryz.f12.body).getD .skip, nt := 72, results := [.cell 2 25, .tmp 3], keep := [0, 4, 6, 8, 10, 12, 14, 28, 70, 98, 114, 138, 5, 15, 39], live := [], modes := [(1, [(2, .take, false)]), (6, [(5, .take, false)]), (14, [(0, .take, false)])] }
theorem fk12 : FnOk Tryz.prog 12 Tryz.f12 I12 := ⟨Tryz.func12, by kernel_rfl, by kernel_rfl, by kernel_rfl, by kernel_rfl⟩
abbrev xGI (v0 : Str) (v1 : (List Tok) × Int) : Prop := AbC 30 (xFd v0) (xAL v1)
def xVm (a0 : Str) (r1 : (List Tok) × Int) : rE I12 (xA3 a0) [Y] [xAL r1] = dn (xAD ((Exp.mk 0 0 [] []), r1.2)) [xGI a0 r1, iY (dc (r1.2 ≥ 0))] := by kernel_rfl
abbrev xG6 (v0 : (List Tok) × Int) : Prop := iN (dc (v0.2 ≥ 0))
abbrev xG7 (v0 : (List Tok) × Int) (v1 : Exp × Psr) : Prop := AbC 31 (xBe (Psr.mk v0.1 0 (-1))) (xAe v1)
abbrev xI4 (v0 : Exp × Psr) : Prop := iY (dc ((Psr.bad v0.2) < 0))
abbrev xGL (v0 : (List Tok) × Int) := (Ln v0.1 : Int)
abbrev xMq (v0 : Exp × Psr) (v1 : (List Tok) × Int) : Prop := iY (dc ((Psr.pos v0.2) < (xGL v1)))
abbrev xOb (v0 : Str) := xAD ((Exp.mk 0 0 [] []), (Ln v0 : Int))
def xVn (a0 : Str) (r1 : (List Tok) × Int) (r2 : Exp × Psr) : rE I12 (xA3 a0) [F, Y, Y, Y] [xAL r1, xAe r2] = dn (xOb a0) [xGI a0 r1, xG6 r1, xG7 r1 r2, xI4 r2, xMq r2 r1, iY (dc ((Psr.pos r2.2) ≥ (xGL r1)))] := by kernel_rfl
def xVo (a0 : Str) (r1 : (List Tok) × Int) (r2 : Exp × Psr) : rE I12 (xA3 a0) [F, Y, Y, F, Y] [xAL r1, xAe r2] = dn (xAD ((Exp.mk 0 0 [] []), (Tok.pos (gD r1.1 (tN (Psr.pos r2.2)) Ty.tok.dflt)))) [xGI a0 r1, xG6 r1, xG7 r1 r2, xI4 r2, xMq r2 r1, iN (dc ((Psr.pos r2.2) ≥ (xGL r1))), iY (dc ((Psr.pos r2.2) ≥ 0)), (0 : Int) ≤ (Psr.pos r2.2) ∧ (Psr.pos r2.2) < (Ln r1.1)] := by kernel_rfl
abbrev xKB (v0 : Exp × Psr) (v1 : Bool) : Prop := AbC 32 (xCp v0.1) (xAN v1)
def xVp (a0 : Str) (r1 : (List Tok) × Int) (r2 : Exp × Psr) (r3 : Bool) : rE I12 (xA3 a0) [F, Y, Y, F, F, Y] [xAL r1, xAe r2, xAN r3] = dn (xAD ((Exp.mk 0 0 [] []), 0)) [xGI a0 r1, xG6 r1, xG7 r1 r2, xI4 r2, xMq r2 r1, iN (dc ((Psr.pos r2.2) ≥ (xGL r1))), iN (dc ((Psr.pos r2.2) ≥ 0)), xKB r2 r3, iY (!r3)] := by kernel_rfl
def xVq (a0 : Str) (r1 : (List Tok) × Int) (r2 : Exp × Psr) (r3 : Bool) : rE I12 (xA3 a0) [F, Y, Y, F, F, F] [xAL r1, xAe r2, xAN r3] = dn (xAD (r2.1, (-1))) [xGI a0 r1, xG6 r1, xG7 r1 r2, xI4 r2, xMq r2 r1, iN (dc ((Psr.pos r2.2) ≥ (xGL r1))), iN (dc ((Psr.pos r2.2) ≥ 0)), xKB r2 r3, iN (!r3)] := by kernel_rfl
abbrev xMr (v0 : Exp × Psr) (v1 : (List Tok) × Int) : Prop := iN (dc ((Psr.pos v0.2) < (xGL v1)))
def xVr (a0 : Str) (r1 : (List Tok) × Int) (r2 : Exp × Psr) : rE I12 (xA3 a0) [F, Y, F, Y] [xAL r1, xAe r2] = dn (xOb a0) [xGI a0 r1, xG6 r1, xG7 r1 r2, xI4 r2, xMr r2 r1, iY (dc ((Psr.bad r2.2) ≥ (xGL r1)))] := by kernel_rfl
abbrev xKC (v0 : Exp × Psr) (v1 : (List Tok) × Int) : Prop := iN (dc ((Psr.bad v0.2) ≥ (xGL v1)))
def xVs (a0 : Str) (r1 : (List Tok) × Int) (r2 : Exp × Psr) : rE I12 (xA3 a0) [F, Y, F, F, Y] [xAL r1, xAe r2] = dn (xAD ((Exp.mk 0 0 [] []), (Tok.pos (gD r1.1 (tN (Psr.bad r2.2)) Ty.tok.dflt)))) [xGI a0 r1, xG6 r1, xG7 r1 r2, xI4 r2, xMr r2 r1, xKC r2 r1, iY (dc ((Psr.bad r2.2) ≥ 0)), (0 : Int) ≤ (Psr.bad r2.2) ∧ (Psr.bad r2.2) < (Ln r1.1)] := by kernel_rfl
abbrev xMs (v0 : Exp × Psr) : Prop := iN (dc ((Psr.bad v0.2) ≥ 0))
def xVt (a0 : Str) (r1 : (List Tok) × Int) (r2 : Exp × Psr) (r3 : Bool) : rE I12 (xA3 a0) [F, Y, F, F, F, Y] [xAL r1, xAe r2, xAN r3] = dn (xAD ((Exp.mk 0 0 [] []), 0)) [xGI a0 r1, xG6 r1, xG7 r1 r2, xI4 r2, xMr r2 r1, xKC r2 r1, xMs r2, xKB r2 r3, iY (!r3)] := by kernel_rfl
def xVu (a0 : Str) (r1 : (List Tok) × Int) (r2 : Exp × Psr) (r3 : Bool) : rE I12 (xA3 a0) [F, Y, F, F, F, F] [xAL r1, xAe r2, xAN r3] = dn (xAD (r2.1, (-1))) [xGI a0 r1, xG6 r1, xG7 r1 r2, xI4 r2, xMr r2 r1, xKC r2 r1, xMs r2, xKB r2 r3, iN (!r3)] := by kernel_rfl
abbrev xMt (v0 : Exp × Psr) : Prop := iN (dc ((Psr.bad v0.2) < 0))
def xVv (a0 : Str) (r1 : (List Tok) × Int) (r2 : Exp × Psr) : rE I12 (xA3 a0) [F, F, F, Y] [xAL r1, xAe r2] = dn (xOb a0) [xGI a0 r1, xG6 r1, xG7 r1 r2, xMt r2, iN false, iY (dc ((Psr.bad r2.2) ≥ (xGL r1)))] := by kernel_rfl
def xTi (a0 : Str) (r1 : (List Tok) × Int) (r2 : Exp × Psr) : rE I12 (xA3 a0) [F, F, F, F, Y] [xAL r1, xAe r2] = dn (xAD ((Exp.mk 0 0 [] []), (Tok.pos (gD r1.1 (tN (Psr.bad r2.2)) Ty.tok.dflt)))) [xGI a0 r1, xG6 r1, xG7 r1 r2, xMt r2, iN false, xKC r2 r1, iY (dc ((Psr.bad r2.2) ≥ 0)), (0 : Int) ≤ (Psr.bad r2.2) ∧ (Psr.bad r2.2) < (Ln r1.1)] := by kernel_rfl
def xTj (a0 : Str) (r1 : (List Tok) × Int) (r2 : Exp × Psr) (r3 : Bool) : rE I12 (xA3 a0) [F, F, F, F, F, Y] [xAL r1, xAe r2, xAN r3] = dn (xAD ((Exp.mk 0 0 [] []), 0)) [xGI a0 r1, xG6 r1, xG7 r1 r2, xMt r2, iN false, xKC r2 r1, xMs r2, xKB r2 r3, iY (!r3)] := by kernel_rfl
def xTk (a0 : Str) (r1 : (List Tok) × Int) (r2 : Exp × Psr) (r3 : Bool) : rE I12 (xA3 a0) [F, F, F, F, F, F] [xAL r1, xAe r2, xAN r3] = dn (xAD (r2.1, (-1))) [xGI a0 r1, xG6 r1, xG7 r1 r2, xMt r2, iN false, xKC r2 r1, xMs r2, xKB r2 r3, iN (!r3)] := by kernel_rfl
theorem vAX {N : Nat} : ∀ a0 r, xDD N a0 = some r → RE Tryz.f12 I12 (xA3 a0) (xAD r) := fun a0 r h =>
 bE h fun r1 h0 h => cE h (fun h1 h => dE h fk12 (xVm a0 r1) (oc2 (xBE h0) h1 on)) fun h1 h =>
 bE h fun r2 h2 h => cE h (fun h3 h => cE h (fun h4 h => cE h (fun h5 h => dE h fk12 (xVn a0 r1 r2) (oc6 (xBE h0) h1 (xBk h2) h3 h4 h5 on)) fun h5 h =>
 cE h (fun h6 h => iE h fun h7 h => dE h fk12 (xVo a0 r1 r2) (oc8 (xBE h0) h1 (xBk h2) h3 h4 h5 h6 h7 on)) fun h6 h =>
 bE h fun r3 h7 h => cE h (fun h8 h => dE h fk12 (xVp a0 r1 r2 r3) (oc9 (xBE h0) h1 (xBk h2) h3 h4 h5 h6 (xCq h7) h8 on)) fun h8 h =>
 dE h fk12 (xVq a0 r1 r2 r3) (oc9 (xBE h0) h1 (xBk h2) h3 h4 h5 h6 (xCq h7) h8 on)) fun h4 h =>
 cE h (fun h5 h => dE h fk12 (xVr a0 r1 r2) (oc6 (xBE h0) h1 (xBk h2) h3 h4 h5 on)) fun h5 h =>
 cE h (fun h6 h => iE h fun h7 h => dE h fk12 (xVs a0 r1 r2) (oc8 (xBE h0) h1 (xBk h2) h3 h4 h5 h6 h7 on)) fun h6 h =>
 bE h fun r3 h7 h => cE h (fun h8 h => dE h fk12 (xVt a0 r1 r2 r3) (oc9 (xBE h0) h1 (xBk h2) h3 h4 h5 h6 (xCq h7) h8 on)) fun h8 h =>
 dE h fk12 (xVu a0 r1 r2 r3) (oc9 (xBE h0) h1 (xBk h2) h3 h4 h5 h6 (xCq h7) h8 on)) fun h3 h =>
 cE h (fun h5 h => dE h fk12 (xVv a0 r1 r2) (oc6 (xBE h0) h1 (xBk h2) h3 rfl h5 on)) fun h5 h =>
 cE h (fun h6 h => iE h fun h7 h => dE h fk12 (xTi a0 r1 r2) (oc8 (xBE h0) h1 (xBk h2) h3 rfl h5 h6 h7 on)) fun h6 h =>
 bE h fun r3 h7 h => cE h (fun h8 h => dE h fk12 (xTj a0 r1 r2 r3) (oc9 (xBE h0) h1 (xBk h2) h3 rfl h5 h6 (xCq h7) h8 on)) fun h8 h =>
 dE h fk12 (xTk a0 r1 r2 r3) (oc9 (xBE h0) h1 (xBk h2) h3 rfl h5 h6 (xCq h7) h8 on)
theorem xC7 {N : Nat} {a0 : Str} {r : Exp × Int} (h : xDD N  a0 = some r) : AbC 12 (xA3 a0) (xAD r) :=
 AbsCalls.of_reach fk12 rfl rfl (Nat.le_of_ble_eq_true rfl) (vAX a0 r h)
noncomputable def I10 : Info := { body := (Tryz.f10.body).getD .skip, nt := 12, results := [.tmp 2], keep := [0, 4, 8, 7], live := [], modes := [(1, [(2, .take, false)]), (2, [(0, .take, false)])] }
theorem fk10 : FnOk Tryz.prog 10 Tryz.f10 I10 := ⟨Tryz.func10, by kernel_rfl, by kernel_rfl, by kernel_rfl, by kernel_rfl⟩
abbrev xI5 (v0 : Str) (v1 : Exp × Int) : Prop := AbC 12 (xA3 v0) (xAD v1)
def xVl (a0 : Str) (r1 : Exp × Int) : rE I10 (xEy a0) [] [xAD r1] = dn (xDe (dc (r1.2 ≥ 0))) [xI5 a0 r1] := by kernel_rfl
theorem vAW {N : Nat} : ∀ a0 r, xEN N a0 = some r → RE Tryz.f10 I10 (xEy a0) (xDe r) := fun a0 r h =>
 bE h fun r1 h0 h => dE h fk10 (xVl a0 r1) (oc (xC7 h0) on)
theorem xHK {N : Nat} {a0 : Str} {r : Bool} (h : xEN N  a0 = some r) : AbC 10 (xEy a0) (xDe r) :=
 AbsCalls.of_reach fk10 rfl rfl (Nat.le_of_ble_eq_true rfl) (vAW a0 r h)
end Go.Ab.T
end
section
open Go.Proofs
namespace Go.Ab.T
set_option maxRecDepth 100000
variable [Inhabited Lb]
variable [Nonempty Tab10]
variable [Nonempty ErrVars]
noncomputable def I104 : Info := { body := (Tryz.f104.body).getD .skip, nt := 27, results := [.tmp 4], keep := [0, 2, 8, 10, 12, 22, 30], live := [(3, [0, 2, 10, 12])], modes := [(6, [(0, .take, false)]), (7, [(0, .take, false)])] }
theorem xPG : FnOk Tryz.prog 104 Tryz.f104 I104 := ⟨Tryz.func104, by kernel_rfl, by kernel_rfl, by kernel_rfl, by kernel_rfl⟩
def xLe (x0 : List Str) (x1 : Str) (x5 : List Int) (x6 : Int) : St := [(0, .v false [.sl .ro .str x0]), (2, .v false [.str x1]), (10, .v false [.sl .own .byte x5]), (12, .v false [.int .i64 x6])]
def xRP (x0 : List Str) (x1 : Str) (x5 : List Int) (x6 : Int) : rS 3 I104 (xLe x0 x1 x5 x6) [Y, Y] [] = st 3 I104 (xLe x0 x1 ((x5 ++ List.map (fun c => (c.toNat : Int)) x1) ++ List.map (fun c => (c.toNat : Int)) (xKI x0 x6)) (W (x6 + 1))) [iY (dc (x6 < (Ln x0 : Int))), iY (dc (x6 > 0)), Ln x5 + Ln x1 ≤ Lim, (0 : Int) ≤ x6 ∧ x6 < (Ln x0), Ln (x5 ++ List.map (fun c => (c.toNat : Int)) x1) + Ln (xKI x0 x6) ≤ Lim] := by kernel_rfl
def xRQ (x0 : List Str) (x1 : Str) (x5 : List Int) (x6 : Int) : rS 3 I104 (xLe x0 x1 x5 x6) [Y, F] [] = st 3 I104 (xLe x0 x1 (x5 ++ List.map (fun c => (c.toNat : Int)) (xKI x0 x6)) (W (x6 + 1))) [iY (dc (x6 < (Ln x0 : Int))), iN (dc (x6 > 0)), (0 : Int) ≤ x6 ∧ x6 < (Ln x0), Ln x5 + Ln (xKI x0 x6) ≤ Lim] := by kernel_rfl
def xRR (x0 : List Str) (x1 : Str) (x5 : List Int) (x6 : Int) : rS 3 I104 (xLe x0 x1 x5 x6) [F] [] = dn (xGi (List.map (fun n => UInt8.ofNat (tN n)) x5)) [iN (dc (x6 < (Ln x0 : Int)))] := by kernel_rfl
def xRS (a0 : List Str) (a1 : Str) : rE I104 (xHO a0 a1) [] [] = st 3 I104 (xLe a0 a1 [] 0) [] := by kernel_rfl
theorem xZQ {N : Nat} : ∀ n x0 x1 x5 x6 r, xD3 N n x0 x1 x5 x6 = some r → RS Tryz.f104 I104 3 (xLe x0 x1 x5 x6) (xGi r) := by
 intro n
 induction n with
 | zero => exact fun _ _ _ _ _ h => nE h
 | succ n ih =>
  exact fun x0 x1 x5 x6 r h =>
   cE h (fun h0 h => cE h (fun h1 h => iE h fun h2 h => iE h fun h3 h => iE h fun h4 h => tS xPG (xRP x0 x1 x5 x6) (oc5 h0 h1 h2 h3 h4 on) (ih _ _ _ _ _ h)) fun h1 h =>
   iE h fun h2 h => iE h fun h3 h => tS xPG (xRQ x0 x1 x5 x6) (oc4 h0 h1 h2 h3 on) (ih _ _ _ _ _ h)) fun h0 h =>
   dS h xPG (xRR x0 x1 x5 x6) (oc h0 on)
theorem xZR {N : Nat} : ∀ a0 a1 r, xJg N a0 a1 = some r → RE Tryz.f104 I104 (xHO a0 a1) (xGi r) := fun a0 a1 r h =>
 tE xPG (xRS a0 a1) on (xZQ _ _ _ _ _ _ h)
theorem xNo {N : Nat} {a0 : List Str} {a1 : Str} {r : Str} (h : xJg N  a0 a1 = some r) : AbC 104 (xHO a0 a1) (xGi r) :=
 AbsCalls.of_reach xPG rfl rfl (Nat.le_of_ble_eq_true rfl) (xZR a0 a1 r h)
noncomputable def I74 : Info := { body := (Tryz.f74.body).getD .skip, nt := 21, results := [.tmp 2], keep := [0, 2, 4, 8, 10, 18, 24, 26, 32, 38, 3], live := [], modes := [] }
theorem fk74 : FnOk Tryz.prog 74 Tryz.f74 I74 := ⟨Tryz.func74, by kernel_rfl, by kernel_rfl, by kernel_rfl, by kernel_rfl⟩
def xX9 (a0 : Exp) : rE I74 (xBn a0) [Y, Y] [] = dn (xAX 0) [xGF a0, xGF a0] := by kernel_rfl
def xYa (a0 : Exp) : rE I74 (xBn a0) [F, Y, Y] [] = dn (xAX 0) [xDc a0, xIH a0, xIH a0] := by kernel_rfl
def xYb (a0 : Exp) : rE I74 (xBn a0) [F, F, Y] [] = dn (xAX 0) [xDc a0, xEe a0, xJL a0] := by kernel_rfl
def xYc (a0 : Exp) : rE I74 (xBn a0) [F, F, F, Y, Y, Y] [] = dn (xAX 1) [xDc a0, xEe a0, xER a0, xGE a0, iY ((Exp.n a0) == 4), iY ((Exp.n a0) == 4)] := by kernel_rfl
abbrev xH2 (v0 : Exp) : Prop := iN ((Exp.n v0) == 4)
def xYd (a0 : Exp) : rE I74 (xBn a0) [F, F, F, Y, F, Y] [] = dn (xAX 1) [xDc a0, xEe a0, xER a0, xGE a0, xH2 a0, iY ((Exp.n a0) == 5)] := by kernel_rfl
abbrev xI6 (v0 : Exp) : Prop := iN ((Exp.n v0) == 5)
def xYe (a0 : Exp) : rE I74 (xBn a0) [F, F, F, Y, F, F, Y, Y] [] = dn (xAX 2) [xDc a0, xEe a0, xER a0, xGE a0, xH2 a0, xI6 a0, iY ((Exp.n a0) == 1), iY ((Exp.n a0) == 1)] := by kernel_rfl
abbrev xKD (v0 : Exp) : Prop := iN ((Exp.n v0) == 1)
def xYf (a0 : Exp) : rE I74 (xBn a0) [F, F, F, Y, F, F, F, Y] [] = dn (xAX 2) [xDc a0, xEe a0, xER a0, xGE a0, xH2 a0, xI6 a0, xKD a0, iY ((Exp.n a0) == 2)] := by kernel_rfl
def xYg (a0 : Exp) : rE I74 (xBn a0) [F, F, F, Y, F, F, F, F, Y] [] = dn (xAX 3) [xDc a0, xEe a0, xER a0, xGE a0, xH2 a0, xI6 a0, xKD a0, iN ((Exp.n a0) == 2), iY ((Exp.n a0) == 3)] := by kernel_rfl
def xYh (a0 : Exp) : rE I74 (xBn a0) [F, F, F, Y, F, F, F, F, F] [] = dn (xAX 4) [xDc a0, xEe a0, xER a0, xGE a0, xH2 a0, xI6 a0, xKD a0, iN ((Exp.n a0) == 2), iN ((Exp.n a0) == 3)] := by kernel_rfl
def xYi (a0 : Exp) : rE I74 (xBn a0) [F, F, F, F] [] = dn (xAX 4) [xDc a0, xEe a0, xER a0, xFS a0] := by kernel_rfl
theorem vBU {N : Nat} : ∀ a0 r, xFv N a0 = some r → RE Tryz.f74 I74 (xBn a0) (xAX r) := fun a0 r h =>
 cE h (fun h0 h => dE h fk74 (xX9 a0) (oc2 h0 h0 on)) fun h0 h =>
 cE h (fun h1 h => dE h fk74 (xYa a0) (oc3 h0 h1 h1 on)) fun h1 h =>
 cE h (fun h2 h => dE h fk74 (xYb a0) (oc3 h0 h1 h2 on)) fun h2 h =>
 cE h (fun h3 h => cE h (fun h4 h => dE h fk74 (xYc a0) (oc6 h0 h1 h2 h3 h4 h4 on)) fun h4 h =>
 cE h (fun h5 h => dE h fk74 (xYd a0) (oc6 h0 h1 h2 h3 h4 h5 on)) fun h5 h =>
 cE h (fun h6 h => dE h fk74 (xYe a0) (oc8 h0 h1 h2 h3 h4 h5 h6 h6 on)) fun h6 h =>
 cE h (fun h7 h => dE h fk74 (xYf a0) (oc8 h0 h1 h2 h3 h4 h5 h6 h7 on)) fun h7 h =>
 cE h (fun h8 h => dE h fk74 (xYg a0) (oc9 h0 h1 h2 h3 h4 h5 h6 h7 h8 on)) fun h8 h =>
 dE h fk74 (xYh a0) (oc9 h0 h1 h2 h3 h4 h5 h6 h7 h8 on)) fun h3 h =>
 dE h fk74 (xYi a0) (oc4 h0 h1 h2 h3 on)
theorem xGs {N : Nat} {a0 : Exp} {r : Int} (h : xFv N  a0 = some r) : AbC 74 (xBn a0) (xAX r) :=
 AbsCalls.of_reach fk74 rfl rfl (Nat.le_of_ble_eq_true rfl) (vBU a0 r h)
noncomputable def I76 : Info := { body := (Tryz.f76.body).getD .skip, nt := 10, results := [.tmp 2], keep := [0, 4, 10], live := [], modes := [] }
theorem fk76 : FnOk Tryz.prog 76 Tryz.f76 I76 := ⟨Tryz.func76, by kernel_rfl, by kernel_rfl, by kernel_rfl, by kernel_rfl⟩
def xYl (a0 : Int) (r1 : Bool) : rE I76 (xEq a0) [Y] [xDs r1] = dn (xDr [63]) [AbC 105 (xE4 a0 1 5) (xDs r1), iY (!r1)] := by kernel_rfl
def xYm (a0 : Int) (r1 : Bool) : rE I76 (xEq a0) [F] [xDs r1] = dn (xDr (gD [[], [43], [45], [42], [60], [61, 61]] (tN a0) Ty.str.dflt)) [AbC 105 (xE4 a0 1 5) (xDs r1), iN (!r1), (0 : Int) ≤ a0 ∧ a0 < (Ln [[], [43], [45], [42], [60], [61, 61]])] := by kernel_rfl
theorem vBW {N : Nat} : ∀ a0 r, xGt N a0 = some r → RE Tryz.f76 I76 (xEq a0) (xDr r) := fun a0 r h =>
 bE h fun r1 h0 h => cE h (fun h1 h => dE h fk76 (xYl a0 r1) (oc2 (xHT h0) h1 on)) fun h1 h =>
 iE h fun h2 h => dE h fk76 (xYm a0 r1) (oc3 (xHT h0) h1 h2 on)
theorem xIJ {N : Nat} {a0 : Int} {r : Str} (h : xGt N  a0 = some r) : AbC 76 (xEq a0) (xDr r) :=
 AbsCalls.of_reach fk76 rfl rfl (Nat.le_of_ble_eq_true rfl) (vBW a0 r h)
def G75 (q : Exp → Int → Option (Str)) : Prop := ∀ a0 a1 r, q a0 a1 = some r → AbC 75 (xD0 a0 a1) (xCJ r)
def G73 (q : (List Exp) → Option (Str)) : Prop := ∀ a0 r, q a0 = some r → AbC 73 (xEY a0) (xDk r)
def G39 (q : Exp → Option (Str)) : Prop := ∀ a0 r, q a0 = some r → AbC 39 (xAS a0) (xAs r)
noncomputable def I75 : Info := { body := (Tryz.f75.body).getD .skip, nt := 16, results := [.tmp 4], keep := [0, 2, 4, 8, 10, 22, 5], live := [], modes := [] }
theorem fk75 : FnOk Tryz.prog 75 Tryz.f75 I75 := ⟨Tryz.func75, by kernel_rfl, by kernel_rfl, by kernel_rfl, by kernel_rfl⟩
def xYj (a0 : Exp) (a1 : Int) (r1 : Str) (r2 : Int) : rE I75 (xD0 a0 a1) [Y] [xAs r1, xAX r2] = dn (xCJ (([40] ++ r1) ++ [41])) [AbC 39 (xAS a0) (xAs r1), AbC 74 (xBn a0) (xAX r2), xGp r2 a1, Ln [40] + Ln r1 ≤ Lim, Ln ([40] ++ r1) + Ln [41] ≤ Lim] := by kernel_rfl
def xYk (a0 : Exp) (a1 : Int) (r1 : Str) (r2 : Int) : rE I75 (xD0 a0 a1) [F] [xAs r1, xAX r2] = dn (xCJ r1) [AbC 39 (xAS a0) (xAs r1), AbC 74 (xBn a0) (xAX r2), xH1 r2 a1] := by kernel_rfl
theorem vBV {N q0 q1 q2} (g0 : G75 q0) (g1 : G73 q1) (g2 : G39 q2) : ∀ a0 a1 r, xFC N q0 q1 q2 a0 a1 = some r → RE Tryz.f75 I75 (xD0 a0 a1) (xCJ r) := fun a0 a1 r h =>
 bE h fun r1 h0 h => bE h fun r2 h1 h => cE h (fun h2 h => iE h fun h3 h => iE h fun h4 h => dE h fk75 (xYj a0 a1 r1 r2) (oc5 (g2 _ _ h0) (xGs h1) h2 h3 h4 on)) fun h2 h =>
 dE h fk75 (xYk a0 a1 r1 r2) (oc3 (g2 _ _ h0) (xGs h1) h2 on)
theorem xKn {N q0 q1 q2} (g0 : G75 q0) (g1 : G73 q1) (g2 : G39 q2) {a0} {a1} {r} (h : xFC N q0 q1 q2 a0 a1 = some r) : AbC 75 (xD0 a0 a1) (xCJ r) :=
 AbsCalls.of_reach fk75 rfl rfl (Nat.le_of_ble_eq_true rfl) (vBV g0 g1 g2 a0 a1 r h)
noncomputable def I73 : Info := { body := (Tryz.f73.body).getD .skip, nt := 22, results := [.tmp 2], keep := [0, 4, 6, 8, 18], live := [(3, [0, 6, 8])], modes := [(5, [(0, .take, false)])] }
theorem fk73 : FnOk Tryz.prog 73 Tryz.f73 I73 := ⟨Tryz.func73, by kernel_rfl, by kernel_rfl, by kernel_rfl, by kernel_rfl⟩
def xPw (x0 : List Exp) (x3 : List Str) (x4 : Int) : St := [(0, .v false [.sl .ro .exp x0]), (6, .v false [.sl .own .str x3]), (8, .v false [.int .i64 x4])]
def xX6 (x0 : List Exp) (x3 : List Str) (x4 : Int) (r1 : Str) : rS 3 I73 (xPw x0 x3 x4) [Y] [xAs r1] = st 3 I73 (xPw x0 (x3 ++ [r1]) (W (x4 + 1))) [iY (dc (x4 < (Ln x0 : Int))), xKz x4 x0, AbC 39 (xAS (xKJ x0 x4)) (xAs r1), Ln x3 + Ln [r1] ≤ Lim] := by kernel_rfl
def xX7 (x0 : List Exp) (x3 : List Str) (x4 : Int) (r1 : Str) : rS 3 I73 (xPw x0 x3 x4) [F] [xGi r1] = dn (xDk r1) [iN (dc (x4 < (Ln x0 : Int))), AbC 104 (xHO x3 [44, 32]) (xGi r1)] := by kernel_rfl
def xX8 (a0 : List Exp) : rE I73 (xEY a0) [] [] = st 3 I73 (xPw a0 [] 0) [] := by kernel_rfl
theorem vBS {N q0 q1 q2} (g0 : G75 q0) (g1 : G73 q1) (g2 : G39 q2) : ∀ n x0 x3 x4 r, xEk N q0 q1 q2 n x0 x3 x4 = some r → RS Tryz.f73 I73 3 (xPw x0 x3 x4) (xDk r) := by
 intro n
 induction n with
 | zero => exact fun _ _ _ _ h => nE h
 | succ n ih =>
  exact fun x0 x3 x4 r h =>
   cE h (fun h0 h => iE h fun h1 h => bE h fun r1 h2 h => iE h fun h3 h => tS fk73 (xX6 x0 x3 x4 r1) (oc4 h0 h1 (g2 _ _ h2) h3 on) (ih _ _ _ _ h)) fun h0 h =>
   bE h fun r1 h1 h => dS h fk73 (xX7 x0 x3 x4 r1) (oc2 h0 (xNo h1) on)
theorem vBT {N q0 q1 q2} (g0 : G75 q0) (g1 : G73 q1) (g2 : G39 q2) : ∀ a0 r, xGO N q0 q1 q2 a0 = some r → RE Tryz.f73 I73 (xEY a0) (xDk r) := fun a0 r h =>
 tE fk73 (xX8 a0) on (vBS g0 g1 g2 _ _ _ _ _ h)
theorem xJB {N q0 q1 q2} (g0 : G75 q0) (g1 : G73 q1) (g2 : G39 q2) {a0} {r} (h : xGO N q0 q1 q2 a0 = some r) : AbC 73 (xEY a0) (xDk r) :=
 AbsCalls.of_reach fk73 rfl rfl (Nat.le_of_ble_eq_true rfl) (vBT g0 g1 g2 a0 r h)
noncomputable def I39 : Info := { body := (Tryz.f39.body).getD .skip, nt := 124, results := [.tmp 2], keep := [0, 2, 4, 6, 8, 12, 14, 24, 36, 44, 58, 78, 116, 154, 206, 3], live := [], modes := [(22, [(4, .take, false)])] }
theorem fk39 : FnOk Tryz.prog 39 Tryz.f39 I39 := ⟨Tryz.func39, by kernel_rfl, by kernel_rfl, by kernel_rfl, by kernel_rfl⟩
def xWs (a0 : Exp) (r1 : Str) : rE I39 (xAS a0) [Y] [xA5 r1] = dn (xAs r1) [xKY a0, AbC 72 (xCH (Exp.n a0)) (xA5 r1)] := by kernel_rfl
def xWt (a0 : Exp) : rE I39 (xAS a0) [F, Y] [] = dn (xAs (([34] ++ (Exp.text a0)) ++ [34])) [xBp a0, xK0 a0, Ln [34] + Ln (Exp.text a0) ≤ Lim, Ln ([34] ++ (Exp.text a0)) + Ln [34] ≤ Lim] := by kernel_rfl
def xWu (a0 : Exp) : rE I39 (xAS a0) [F, F, Y] [] = dn (xAs (Exp.text a0)) [xBp a0, xBO a0, xK1 a0] := by kernel_rfl
def xWv (a0 : Exp) (r1 : Str) : rE I39 (xAS a0) [F, F, F, Y] [xDk r1] = dn (xAs (([91] ++ r1) ++ [93])) [xBp a0, xBO a0, xCf a0, xK2 a0, AbC 73 (xEY (Exp.args a0)) (xDk r1), Ln [91] + Ln r1 ≤ Lim, Ln ([91] ++ r1) + Ln [93] ≤ Lim] := by kernel_rfl
def xWw (a0 : Exp) (r1 : Str) : rE I39 (xAS a0) [F, F, F, F, Y] [xDk r1] = dn (xAs ((((Exp.text a0) ++ [40]) ++ r1) ++ [41])) [xBp a0, xBO a0, xCf a0, xC2 a0, xL7 a0, Ln (Exp.text a0) + Ln [40] ≤ Lim, AbC 73 (xEY (Exp.args a0)) (xDk r1), Ln ((Exp.text a0) ++ [40]) + Ln r1 ≤ Lim, Ln (((Exp.text a0) ++ [40]) ++ r1) + Ln [41] ≤ Lim] := by kernel_rfl
abbrev xPZ (v0 : Exp) : Prop := Ln ([108, 101, 116, 32] ++ (Exp.text v0)) + Ln [32, 61, 32] ≤ Lim
abbrev xH3 (v0 : Exp) : Prop := (0 : Int) ≤ 0 ∧ (0 : Int) < (Ln (Exp.args v0))
abbrev xKK (v0 : Exp) := gD (Exp.args v0) (tN 0) Ty.exp.dflt
abbrev xNN (v0 : Exp) (v1 : Str) : Prop := AbC 39 (xAS (xKK v0)) (xAs v1)
abbrev xP0 (v0 : Exp) (v1 : Str) : Prop := Ln (([108, 101, 116, 32] ++ (Exp.text v0)) ++ [32, 61, 32]) + Ln v1 ≤ Lim
abbrev xP1 (v0 : Exp) (v1 : Str) : Prop := Ln ((([108, 101, 116, 32] ++ (Exp.text v0)) ++ [32, 61, 32]) ++ v1) + Ln [32, 105, 110, 32] ≤ Lim
abbrev xH4 (v0 : Exp) : Prop := (0 : Int) ≤ 1 ∧ (1 : Int) < (Ln (Exp.args v0))
abbrev xKL (v0 : Exp) := gD (Exp.args v0) (tN 1) Ty.exp.dflt
abbrev xNO (v0 : Exp) (v1 : Str) : Prop := AbC 39 (xAS (xKL v0)) (xAs v1)
abbrev xP2 (v0 : Exp) (v1 v2 : Str) : Prop := Ln (((([108, 101, 116, 32] ++ (Exp.text v0)) ++ [32, 61, 32]) ++ v1) ++ [32, 105, 110, 32]) + Ln v2 ≤ Lim
def xWx (a0 : Exp) (r1 r2 : Str) : rE I39 (xAS a0) [F, F, F, F, F, Y] [xAs r1, xAs r2] = dn (xAs ((((([108, 101, 116, 32] ++ (Exp.text a0)) ++ [32, 61, 32]) ++ r1) ++ [32, 105, 110, 32]) ++ r2)) [xBp a0, xBO a0, xCf a0, xC2 a0, xDC a0, xGF a0, Ln [108, 101, 116, 32] + Ln (Exp.text a0) ≤ Lim, xPZ a0, xH3 a0, xNN a0 r1, xP0 a0 r1, xP1 a0 r1, xH4 a0, xNO a0 r2, xP2 a0 r1 r2] := by kernel_rfl
abbrev xP3 (v0 : Exp) : Prop := Ln ([102, 111, 114, 32] ++ (Exp.text v0)) + Ln [32, 105, 110, 32] ≤ Lim
abbrev xP4 (v0 : Exp) (v1 : Str) : Prop := Ln (([102, 111, 114, 32] ++ (Exp.text v0)) ++ [32, 105, 110, 32]) + Ln v1 ≤ Lim
abbrev xP5 (v0 : Exp) (v1 : Str) : Prop := Ln ((([102, 111, 114, 32] ++ (Exp.text v0)) ++ [32, 105, 110, 32]) ++ v1) + Ln [32, 100, 111, 32] ≤ Lim
abbrev xP6 (v0 : Exp) (v1 v2 : Str) : Prop := Ln (((([102, 111, 114, 32] ++ (Exp.text v0)) ++ [32, 105, 110, 32]) ++ v1) ++ [32, 100, 111, 32]) + Ln v2 ≤ Lim
def xWy (a0 : Exp) (r1 r2 : Str) : rE I39 (xAS a0) [F, F, F, F, F, F, Y] [xAs r1, xAs r2] = dn (xAs ((((([102, 111, 114, 32] ++ (Exp.text a0)) ++ [32, 105, 110, 32]) ++ r1) ++ [32, 100, 111, 32]) ++ r2)) [xBp a0, xBO a0, xCf a0, xC2 a0, xDC a0, xDc a0, xJL a0, Ln [102, 111, 114, 32] + Ln (Exp.text a0) ≤ Lim, xP3 a0, xH3 a0, xNN a0 r1, xP4 a0 r1, xP5 a0 r1, xH4 a0, xNO a0 r2, xP6 a0 r1 r2] := by kernel_rfl
abbrev xP7 (v0 : Str) : Prop := Ln ([105, 102, 32] ++ v0) + Ln [32, 116, 104, 101, 110, 32] ≤ Lim
abbrev xP8 (v0 v1 : Str) : Prop := Ln (([105, 102, 32] ++ v0) ++ [32, 116, 104, 101, 110, 32]) + Ln v1 ≤ Lim
abbrev xP9 (v0 v1 : Str) : Prop := Ln ((([105, 102, 32] ++ v0) ++ [32, 116, 104, 101, 110, 32]) ++ v1) + Ln [32, 101, 108, 115, 101, 32] ≤ Lim
abbrev xQa (v0 v1 v2 : Str) : Prop := Ln (((([105, 102, 32] ++ v0) ++ [32, 116, 104, 101, 110, 32]) ++ v1) ++ [32, 101, 108, 115, 101, 32]) + Ln v2 ≤ Lim
def xWz (a0 : Exp) (r1 r2 r3 : Str) : rE I39 (xAS a0) [F, F, F, F, F, F, F, Y] [xAs r1, xAs r2, xAs r3] = dn (xAs ((((([105, 102, 32] ++ r1) ++ [32, 116, 104, 101, 110, 32]) ++ r2) ++ [32, 101, 108, 115, 101, 32]) ++ r3)) [xBp a0, xBO a0, xCf a0, xC2 a0, xDC a0, xDc a0, xER a0, xIH a0, xH3 a0, xNN a0 r1, Ln [105, 102, 32] + Ln r1 ≤ Lim, xP7 r1, xH4 a0, xNO a0 r2, xP8 r1 r2, xP9 r1 r2, (0 : Int) ≤ 2 ∧ (2 : Int) < (Ln (Exp.args a0)), AbC 39 (xAS (gD (Exp.args a0) (tN 2) Ty.exp.dflt)) (xAs r3), xQa r1 r2 r3] := by kernel_rfl
abbrev xMu (v0 v1 : Str) : Prop := Ln ((v0 ++ [32]) ++ v1) + Ln [32] ≤ Lim
abbrev xMv (v0 v1 v2 : Str) : Prop := Ln (((v0 ++ [32]) ++ v1) ++ [32]) + Ln v2 ≤ Lim
def xWA (a0 : Exp) (r1 : Int) (r2 r3 r4 : Str) : rE I39 (xAS a0) [F, F, F, F, F, F, F, F, Y] [xAX r1, xCJ r2, xDr r3, xCJ r4] = dn (xAs ((((r2 ++ [32]) ++ r3) ++ [32]) ++ r4)) [xBp a0, xBO a0, xCf a0, xC2 a0, xDC a0, xDc a0, xER a0, xEe a0, AbC 74 (xBn a0) (xAX r1), iY (r1 == 1), xH3 a0, AbC 75 (xD0 (xKK a0) 2) (xCJ r2), Ln r2 + Ln [32] ≤ Lim, AbC 76 (xEq (Exp.n a0)) (xDr r3), Ln (r2 ++ [32]) + Ln r3 ≤ Lim, xMu r2 r3, xH4 a0, AbC 75 (xD0 (xKL a0) (W (r1 + 1))) (xCJ r4), xMv r2 r3 r4] := by kernel_rfl
def xWB (a0 : Exp) (r1 : Int) (r2 r3 r4 : Str) : rE I39 (xAS a0) [F, F, F, F, F, F, F, F, F] [xAX r1, xCJ r2, xDr r3, xCJ r4] = dn (xAs ((((r2 ++ [32]) ++ r3) ++ [32]) ++ r4)) [xBp a0, xBO a0, xCf a0, xC2 a0, xDC a0, xDc a0, xER a0, xEe a0, AbC 74 (xBn a0) (xAX r1), iN (r1 == 1), xH3 a0, AbC 75 (xD0 (xKK a0) r1) (xCJ r2), Ln r2 + Ln [32] ≤ Lim, AbC 76 (xEq (Exp.n a0)) (xDr r3), Ln (r2 ++ [32]) + Ln r3 ≤ Lim, xMu r2 r3, xH4 a0, AbC 75 (xD0 (xKL a0) (W (r1 + 1))) (xCJ r4), xMv r2 r3 r4] := by kernel_rfl
theorem vBf {N q0 q1 q2} (g0 : G75 q0) (g1 : G73 q1) (g2 : G39 q2) : ∀ a0 r, xBI N q0 q1 q2 a0 = some r → RE Tryz.f39 I39 (xAS a0) (xAs r) := fun a0 r h =>
 cE h (fun h0 h => bE h fun r1 h1 h => dE h fk39 (xWs a0 r1) (oc2 h0 (xET h1) on)) fun h0 h =>
 cE h (fun h1 h => iE h fun h2 h => iE h fun h3 h => dE h fk39 (xWt a0) (oc4 h0 h1 h2 h3 on)) fun h1 h =>
 cE h (fun h2 h => dE h fk39 (xWu a0) (oc3 h0 h1 h2 on)) fun h2 h =>
 cE h (fun h3 h => bE h fun r1 h4 h => iE h fun h5 h => iE h fun h6 h => dE h fk39 (xWv a0 r1) (oc7 h0 h1 h2 h3 (g1 _ _ h4) h5 h6 on)) fun h3 h =>
 cE h (fun h4 h => iE h fun h5 h => bE h fun r1 h6 h => iE h fun h7 h => iE h fun h8 h => dE h fk39 (xWw a0 r1) (oc9 h0 h1 h2 h3 h4 h5 (g1 _ _ h6) h7 h8 on)) fun h4 h =>
 cE h (fun h5 h => iE h fun h6 h => iE h fun h7 h => iE h fun h8 h => bE h fun r1 h9 h => iE h fun h10 h => iE h fun h11 h => iE h fun h12 h => bE h fun r2 h13 h => iE h fun h14 h => dE h fk39 (xWx a0 r1 r2) (oc12 h0 h1 h2 h3 h4 h5 h6 h7 h8 (g2 _ _ h9) h10 h11 (oc3 h12 (g2 _ _ h13) h14 on))) fun h5 h =>
 cE h (fun h6 h => iE h fun h7 h => iE h fun h8 h => iE h fun h9 h => bE h fun r1 h10 h => iE h fun h11 h => iE h fun h12 h => iE h fun h13 h => bE h fun r2 h14 h => iE h fun h15 h => dE h fk39 (xWy a0 r1 r2) (oc12 h0 h1 h2 h3 h4 h5 h6 h7 h8 h9 (g2 _ _ h10) h11 (oc4 h12 h13 (g2 _ _ h14) h15 on))) fun h6 h =>
 cE h (fun h7 h => iE h fun h8 h => bE h fun r1 h9 h => iE h fun h10 h => iE h fun h11 h => iE h fun h12 h => bE h fun r2 h13 h => iE h fun h14 h => iE h fun h15 h => iE h fun h16 h => bE h fun r3 h17 h => iE h fun h18 h => dE h fk39 (xWz a0 r1 r2 r3) (oc12 h0 h1 h2 h3 h4 h5 h6 h7 h8 (g2 _ _ h9) h10 h11 (oc7 h12 (g2 _ _ h13) h14 h15 h16 (g2 _ _ h17) h18 on))) fun h7 h =>
 bE h fun r1 h8 h => cE h (fun h9 h => iE h fun h10 h => bE h fun r2 h11 h => iE h fun h12 h => bE h fun r3 h13 h => iE h fun h14 h => iE h fun h15 h => iE h fun h16 h => bE h fun r4 h17 h => iE h fun h18 h => dE h fk39 (xWA a0 r1 r2 r3 r4) (oc12 h0 h1 h2 h3 h4 h5 h6 h7 (xGs h8) h9 h10 (g0 _ _ _ h11) (oc7 h12 (xIJ h13) h14 h15 h16 (g0 _ _ _ h17) h18 on))) fun h9 h =>
 iE h fun h10 h => bE h fun r2 h11 h => iE h fun h12 h => bE h fun r3 h13 h => iE h fun h14 h => iE h fun h15 h => iE h fun h16 h => bE h fun r4 h17 h => iE h fun h18 h => dE h fk39 (xWB a0 r1 r2 r3 r4) (oc12 h0 h1 h2 h3 h4 h5 h6 h7 (xGs h8) h9 h10 (g0 _ _ _ h11) (oc7 h12 (xIJ h13) h14 h15 h16 (g0 _ _ _ h17) h18 on))
theorem xJC {N q0 q1 q2} (g0 : G75 q0) (g1 : G73 q1) (g2 : G39 q2) {a0} {r} (h : xBI N q0 q1 q2 a0 = some r) : AbC 39 (xAS a0) (xAs r) :=
 AbsCalls.of_reach fk39 rfl rfl (Nat.le_of_ble_eq_true rfl) (vBf g0 g1 g2 a0 r h)
theorem xKP {N : Nat} : ∀ d, G75 (xAr N d).c_spec_l12At ∧ G73 (xAr N d).c_spec_l12List ∧ G39 (xAr N d).c_spec_l12Text := by
 intro d
 induction d with
 | zero => exact ⟨fun _ _ _ h => nE h, fun _ _ h => nE h, fun _ _ h => nE h⟩
 | succ d ih =>
  obtain ⟨ih0, ih1, ih2⟩ := ih
  exact ⟨fun _ _ _ h => xKn (N := N) ih0 ih1 ih2 h, fun _ _ h => xJB (N := N) ih0 ih1 ih2 h, fun _ _ h => xJC (N := N) ih0 ih1 ih2 h⟩
theorem xLE {N : Nat} {a0 : Exp} {r : Str} (h : xJl N a0 = some r) : AbC 39 (xAS a0) (xAs r) := (xKP N).2.2 _ r h
noncomputable def I21 : Info := { body := (Tryz.f21.body).getD .skip, nt := 8, results := [.tmp 2], keep := [0, 2, 4, 10, 3], live := [], modes := [] }
theorem fk21 : FnOk Tryz.prog 21 Tryz.f21 I21 := ⟨Tryz.func21, by kernel_rfl, by kernel_rfl, by kernel_rfl, by kernel_rfl⟩
abbrev xH5 (v0 : Exp) (v1 : Bool) : Prop := AbC 22 (xCv v0) (xAz v1)
def xVA (a0 : Exp) (r1 : Bool) : rE I21 (xEB a0) [Y] [xAz r1] = dn (xBc []) [xH5 a0 r1, iY (!r1)] := by kernel_rfl
def xVB (a0 : Exp) (r1 : Bool) (r2 : Str) : rE I21 (xEB a0) [F] [xAz r1, xAs r2] = dn (xBc r2) [xH5 a0 r1, iN (!r1), AbC 39 (xAS a0) (xAs r2)] := by kernel_rfl
theorem vA1 {N : Nat} : ∀ a0 r, xES N a0 = some r → RE Tryz.f21 I21 (xEB a0) (xBc r) := fun a0 r h =>
 bE h fun r1 h0 h => cE h (fun h1 h => dE h fk21 (xVA a0 r1) (oc2 (xBl h0) h1 on)) fun h1 h =>
 bE h fun r2 h2 h => dE h fk21 (xVB a0 r1 r2) (oc3 (xBl h0) h1 (xLE h2) on)
theorem xCl {N : Nat} {a0 : Exp} {r : Str} (h : xES N  a0 = some r) : AbC 21 (xEB a0) (xBc r) :=
 AbsCalls.of_reach fk21 rfl rfl (Nat.le_of_ble_eq_true rfl) (vA1 a0 r h)
theorem xLG {N : Nat} {a0 : Int} {r : Str} (h : strconv_Itoa N a0 = some r) : AbC 102 (xJm a0) (xHF r) :=
 zIv (xPa Tryz.laysM171) (xVa (Any.strconv_Itoa Tryz.laysM171) vAN) h
noncomputable def I68 : Info := { body := (Tryz.f68.body).getD .skip, nt := 5, results := [.tmp 2], keep := [0, 4], live := [], modes := [] }
theorem fk68 : FnOk Tryz.prog 68 Tryz.f68 I68 := ⟨Tryz.func68, by kernel_rfl, by kernel_rfl, by kernel_rfl, by kernel_rfl⟩
def xXK (a0 : Int) (r1 : Str) : rE I68 (xFH a0) [] [xHF r1] = dn (xEM r1) [AbC 102 (xJm a0) (xHF r1)] := by kernel_rfl
theorem vBL {N : Nat} : ∀ a0 r, xFW N a0 = some r → RE Tryz.f68 I68 (xFH a0) (xEM r) := fun a0 r h =>
 bE h fun r1 h0 h => dE h fk68 (xXK a0 r1) (oc (xLG h0) on)
theorem xKt {N : Nat} {a0 : Int} {r : Str} (h : xFW N  a0 = some r) : AbC 68 (xFH a0) (xEM r) :=
 AbsCalls.of_reach fk68 rfl rfl (Nat.le_of_ble_eq_true rfl) (vBL a0 r h)
theorem xLH {N : Nat} {a0 : List Str} {a1 : Str} {r : Str} (h : strings_Join N a0 a1 = some r) : AbC 124 (xJn a0 a1) (xHG r) :=
 zIw (xPb Tryz.lays156) (fun a c s w => Any.strings_Join_none Tryz.lays156 Tryz.Builder_Extra_156 a c s w) (fun b o c xs s w h1 h2 h3 h4 h5 => Any.strings_Join Tryz.lays156 Tryz.Builder_Extra_156 b o c xs s w h1 h2 h3 h4 h5) h
noncomputable def I103 : Info := { body := (Tryz.f103.body).getD .skip, nt := 8, results := [.tmp 4], keep := [0, 2, 8], live := [], modes := [] }
theorem vAn : FnOk Tryz.prog 103 Tryz.f103 I103 := ⟨Tryz.func103, by kernel_rfl, by kernel_rfl, by kernel_rfl, by kernel_rfl⟩
def xRO (a0 : List Str) (a1 r1 : Str) : rE I103 (xHJ a0 a1) [] [xHG r1] = dn (xGX r1) [AbC 124 (xJn a0 a1) (xHG r1)] := by kernel_rfl
theorem xZP {N : Nat} : ∀ a0 a1 r, xIT N a0 a1 = some r → RE Tryz.f103 I103 (xHJ a0 a1) (xGX r) := fun a0 a1 r h =>
 bE h fun r1 h0 h => dE h vAn (xRO a0 a1 r1) (oc (xLH h0) on)
theorem xM4 {N : Nat} {a0 : List Str} {a1 : Str} {r : Str} (h : xIT N  a0 a1 = some r) : AbC 103 (xHJ a0 a1) (xGX r) :=
 AbsCalls.of_reach vAn rfl rfl (Nat.le_of_ble_eq_true rfl) (xZP a0 a1 r h)
noncomputable def I70 : Info := { body := (Tryz.f70.body).getD .skip, nt := 21, results := [.tmp 2], keep := [0, 2, 4, 8, 10, 18, 24, 26, 32, 38, 3], live := [], modes := [] }
theorem fk70 : FnOk Tryz.prog 70 Tryz.f70 I70 := ⟨Tryz.func70, by kernel_rfl, by kernel_rfl, by kernel_rfl, by kernel_rfl⟩
def xXO (a0 : Exp) : rE I70 (xBm a0) [Y, Y] [] = dn (xAW 0) [xGF a0, xGF a0] := by kernel_rfl
def xXP (a0 : Exp) : rE I70 (xBm a0) [F, Y, Y] [] = dn (xAW 0) [xDc a0, xIH a0, xIH a0] := by kernel_rfl
def xXQ (a0 : Exp) : rE I70 (xBm a0) [F, F, Y] [] = dn (xAW 0) [xDc a0, xEe a0, xJL a0] := by kernel_rfl
def xXR (a0 : Exp) : rE I70 (xBm a0) [F, F, F, Y, Y, Y] [] = dn (xAW 1) [xDc a0, xEe a0, xER a0, xGE a0, iY ((Exp.n a0) == 4), iY ((Exp.n a0) == 4)] := by kernel_rfl
def xXS (a0 : Exp) : rE I70 (xBm a0) [F, F, F, Y, F, Y] [] = dn (xAW 1) [xDc a0, xEe a0, xER a0, xGE a0, xH2 a0, iY ((Exp.n a0) == 5)] := by kernel_rfl
def xXT (a0 : Exp) : rE I70 (xBm a0) [F, F, F, Y, F, F, Y, Y] [] = dn (xAW 2) [xDc a0, xEe a0, xER a0, xGE a0, xH2 a0, xI6 a0, iY ((Exp.n a0) == 1), iY ((Exp.n a0) == 1)] := by kernel_rfl
def xXU (a0 : Exp) : rE I70 (xBm a0) [F, F, F, Y, F, F, F, Y] [] = dn (xAW 2) [xDc a0, xEe a0, xER a0, xGE a0, xH2 a0, xI6 a0, xKD a0, iY ((Exp.n a0) == 2)] := by kernel_rfl
def xXV (a0 : Exp) : rE I70 (xBm a0) [F, F, F, Y, F, F, F, F, Y] [] = dn (xAW 3) [xDc a0, xEe a0, xER a0, xGE a0, xH2 a0, xI6 a0, xKD a0, iN ((Exp.n a0) == 2), iY ((Exp.n a0) == 3)] := by kernel_rfl
def xXW (a0 : Exp) : rE I70 (xBm a0) [F, F, F, Y, F, F, F, F, F] [] = dn (xAW 4) [xDc a0, xEe a0, xER a0, xGE a0, xH2 a0, xI6 a0, xKD a0, iN ((Exp.n a0) == 2), iN ((Exp.n a0) == 3)] := by kernel_rfl
def xXX (a0 : Exp) : rE I70 (xBm a0) [F, F, F, F] [] = dn (xAW 4) [xDc a0, xEe a0, xER a0, xFS a0] := by kernel_rfl
theorem vBO {N : Nat} : ∀ a0 r, xGg N a0 = some r → RE Tryz.f70 I70 (xBm a0) (xAW r) := fun a0 r h =>
 cE h (fun h0 h => dE h fk70 (xXO a0) (oc2 h0 h0 on)) fun h0 h =>
 cE h (fun h1 h => dE h fk70 (xXP a0) (oc3 h0 h1 h1 on)) fun h1 h =>
 cE h (fun h2 h => dE h fk70 (xXQ a0) (oc3 h0 h1 h2 on)) fun h2 h =>
 cE h (fun h3 h => cE h (fun h4 h => dE h fk70 (xXR a0) (oc6 h0 h1 h2 h3 h4 h4 on)) fun h4 h =>
 cE h (fun h5 h => dE h fk70 (xXS a0) (oc6 h0 h1 h2 h3 h4 h5 on)) fun h5 h =>
 cE h (fun h6 h => dE h fk70 (xXT a0) (oc8 h0 h1 h2 h3 h4 h5 h6 h6 on)) fun h6 h =>
 cE h (fun h7 h => dE h fk70 (xXU a0) (oc8 h0 h1 h2 h3 h4 h5 h6 h7 on)) fun h7 h =>
 cE h (fun h8 h => dE h fk70 (xXV a0) (oc9 h0 h1 h2 h3 h4 h5 h6 h7 h8 on)) fun h8 h =>
 dE h fk70 (xXW a0) (oc9 h0 h1 h2 h3 h4 h5 h6 h7 h8 on)) fun h3 h =>
 dE h fk70 (xXX a0) (oc4 h0 h1 h2 h3 on)
theorem xGk {N : Nat} {a0 : Exp} {r : Int} (h : xGg N  a0 = some r) : AbC 70 (xBm a0) (xAW r) :=
 AbsCalls.of_reach fk70 rfl rfl (Nat.le_of_ble_eq_true rfl) (vBO a0 r h)
def G71 (q : Exp → Int → Option (Str)) : Prop := ∀ a0 a1 r, q a0 a1 = some r → AbC 71 (xCY a0 a1) (xBG r)
def G38 (q : Exp → Option (Str)) : Prop := ∀ a0 r, q a0 = some r → AbC 38 (xAY a0) (xAw r)
def G69 (q : (List Exp) → Option (Str)) : Prop := ∀ a0 r, q a0 = some r → AbC 69 (xEP a0) (xDf r)
noncomputable def I71 : Info := { body := (Tryz.f71.body).getD .skip, nt := 16, results := [.tmp 4], keep := [0, 2, 4, 8, 10, 22, 5], live := [], modes := [] }
theorem fk71 : FnOk Tryz.prog 71 Tryz.f71 I71 := ⟨Tryz.func71, by kernel_rfl, by kernel_rfl, by kernel_rfl, by kernel_rfl⟩
def xXY (a0 : Exp) (a1 : Int) (r1 : Str) (r2 : Int) : rE I71 (xCY a0 a1) [Y] [xAw r1, xAW r2] = dn (xBG (([40] ++ r1) ++ [41])) [AbC 38 (xAY a0) (xAw r1), AbC 70 (xBm a0) (xAW r2), xGp r2 a1, Ln [40] + Ln r1 ≤ Lim, Ln ([40] ++ r1) + Ln [41] ≤ Lim] := by kernel_rfl
def xXZ (a0 : Exp) (a1 : Int) (r1 : Str) (r2 : Int) : rE I71 (xCY a0 a1) [F] [xAw r1, xAW r2] = dn (xBG r1) [AbC 38 (xAY a0) (xAw r1), AbC 70 (xBm a0) (xAW r2), xH1 r2 a1] := by kernel_rfl
theorem vBP {N q0 q1 q2} (g0 : G71 q0) (g1 : G38 q1) (g2 : G69 q2) : ∀ a0 a1 r, xEz N q0 q1 q2 a0 a1 = some r → RE Tryz.f71 I71 (xCY a0 a1) (xBG r) := fun a0 a1 r h =>
 bE h fun r1 h0 h => bE h fun r2 h1 h => cE h (fun h2 h => iE h fun h3 h => iE h fun h4 h => dE h fk71 (xXY a0 a1 r1 r2) (oc5 (g1 _ _ h0) (xGk h1) h2 h3 h4 on)) fun h2 h =>
 dE h fk71 (xXZ a0 a1 r1 r2) (oc3 (g1 _ _ h0) (xGk h1) h2 on)
theorem xIW {N q0 q1 q2} (g0 : G71 q0) (g1 : G38 q1) (g2 : G69 q2) {a0} {a1} {r} (h : xEz N q0 q1 q2 a0 a1 = some r) : AbC 71 (xCY a0 a1) (xBG r) :=
 AbsCalls.of_reach fk71 rfl rfl (Nat.le_of_ble_eq_true rfl) (vBP g0 g1 g2 a0 a1 r h)
noncomputable def I38 : Info := { body := (Tryz.f38.body).getD .skip, nt := 124, results := [.tmp 2], keep := [0, 2, 4, 6, 8, 12, 14, 24, 36, 44, 58, 78, 116, 160, 208, 3], live := [], modes := [(22, [(16, .take, false)])] }
theorem fk38 : FnOk Tryz.prog 38 Tryz.f38 I38 := ⟨Tryz.func38, by kernel_rfl, by kernel_rfl, by kernel_rfl, by kernel_rfl⟩
def xWi (a0 : Exp) (r1 : Str) : rE I38 (xAY a0) [Y] [xEM r1] = dn (xAw r1) [xKY a0, AbC 68 (xFH (Exp.n a0)) (xEM r1)] := by kernel_rfl
def xWj (a0 : Exp) : rE I38 (xAY a0) [F, Y] [] = dn (xAw (([34] ++ (Exp.text a0)) ++ [34])) [xBp a0, xK0 a0, Ln [34] + Ln (Exp.text a0) ≤ Lim, Ln ([34] ++ (Exp.text a0)) + Ln [34] ≤ Lim] := by kernel_rfl
def xWk (a0 : Exp) : rE I38 (xAY a0) [F, F, Y] [] = dn (xAw (Exp.text a0)) [xBp a0, xBO a0, xK1 a0] := by kernel_rfl
def xWl (a0 : Exp) (r1 : Str) : rE I38 (xAY a0) [F, F, F, Y] [xDf r1] = dn (xAw (([91] ++ r1) ++ [93])) [xBp a0, xBO a0, xCf a0, xK2 a0, AbC 69 (xEP (Exp.args a0)) (xDf r1), Ln [91] + Ln r1 ≤ Lim, Ln ([91] ++ r1) + Ln [93] ≤ Lim] := by kernel_rfl
def xWm (a0 : Exp) (r1 : Str) : rE I38 (xAY a0) [F, F, F, F, Y] [xDf r1] = dn (xAw ((((Exp.text a0) ++ [40]) ++ r1) ++ [41])) [xBp a0, xBO a0, xCf a0, xC2 a0, xL7 a0, Ln (Exp.text a0) + Ln [40] ≤ Lim, AbC 69 (xEP (Exp.args a0)) (xDf r1), Ln ((Exp.text a0) ++ [40]) + Ln r1 ≤ Lim, Ln (((Exp.text a0) ++ [40]) ++ r1) + Ln [41] ≤ Lim] := by kernel_rfl
abbrev xNP (v0 : Exp) (v1 : Str) : Prop := AbC 38 (xAY (xKK v0)) (xAw v1)
abbrev xNQ (v0 : Exp) (v1 : Str) : Prop := AbC 38 (xAY (xKL v0)) (xAw v1)
def xWn (a0 : Exp) (r1 r2 : Str) : rE I38 (xAY a0) [F, F, F, F, F, Y] [xAw r1, xAw r2] = dn (xAw ((((([108, 101, 116, 32] ++ (Exp.text a0)) ++ [32, 61, 32]) ++ r1) ++ [32, 105, 110, 32]) ++ r2)) [xBp a0, xBO a0, xCf a0, xC2 a0, xDC a0, xGF a0, Ln [108, 101, 116, 32] + Ln (Exp.text a0) ≤ Lim, xPZ a0, xH3 a0, xNP a0 r1, xP0 a0 r1, xP1 a0 r1, xH4 a0, xNQ a0 r2, xP2 a0 r1 r2] := by kernel_rfl
def xWo (a0 : Exp) (r1 r2 r3 : Str) : rE I38 (xAY a0) [F, F, F, F, F, F, Y] [xAw r1, xAw r2, xAw r3] = dn (xAw ((((([105, 102, 32] ++ r1) ++ [32, 116, 104, 101, 110, 32]) ++ r2) ++ [32, 101, 108, 115, 101, 32]) ++ r3)) [xBp a0, xBO a0, xCf a0, xC2 a0, xDC a0, xDc a0, xIH a0, xH3 a0, xNP a0 r1, Ln [105, 102, 32] + Ln r1 ≤ Lim, xP7 r1, xH4 a0, xNQ a0 r2, xP8 r1 r2, xP9 r1 r2, (0 : Int) ≤ 2 ∧ (2 : Int) < (Ln (Exp.args a0)), AbC 38 (xAY (gD (Exp.args a0) (tN 2) Ty.exp.dflt)) (xAw r3), xQa r1 r2 r3] := by kernel_rfl
def xWp (a0 : Exp) (r1 r2 : Str) : rE I38 (xAY a0) [F, F, F, F, F, F, F, Y] [xAw r1, xAw r2] = dn (xAw ((((([102, 111, 114, 32] ++ (Exp.text a0)) ++ [32, 105, 110, 32]) ++ r1) ++ [32, 100, 111, 32]) ++ r2)) [xBp a0, xBO a0, xCf a0, xC2 a0, xDC a0, xDc a0, xEe a0, xJL a0, Ln [102, 111, 114, 32] + Ln (Exp.text a0) ≤ Lim, xP3 a0, xH3 a0, xNP a0 r1, xP4 a0 r1, xP5 a0 r1, xH4 a0, xNQ a0 r2, xP6 a0 r1 r2] := by kernel_rfl
def xWq (a0 : Exp) (r1 : Int) (r2 r3 r4 : Str) : rE I38 (xAY a0) [F, F, F, F, F, F, F, F, Y] [xAW r1, xBG r2, xBS r3, xBG r4] = dn (xAw ((((r2 ++ [32]) ++ r3) ++ [32]) ++ r4)) [xBp a0, xBO a0, xCf a0, xC2 a0, xDC a0, xDc a0, xEe a0, xER a0, AbC 70 (xBm a0) (xAW r1), iY (r1 == 1), xH3 a0, AbC 71 (xCY (xKK a0) 2) (xBG r2), Ln r2 + Ln [32] ≤ Lim, AbC 56 (xDp (Exp.n a0)) (xBS r3), Ln (r2 ++ [32]) + Ln r3 ≤ Lim, xMu r2 r3, xH4 a0, AbC 71 (xCY (xKL a0) (W (r1 + 1))) (xBG r4), xMv r2 r3 r4] := by kernel_rfl
def xWr (a0 : Exp) (r1 : Int) (r2 r3 r4 : Str) : rE I38 (xAY a0) [F, F, F, F, F, F, F, F, F] [xAW r1, xBG r2, xBS r3, xBG r4] = dn (xAw ((((r2 ++ [32]) ++ r3) ++ [32]) ++ r4)) [xBp a0, xBO a0, xCf a0, xC2 a0, xDC a0, xDc a0, xEe a0, xER a0, AbC 70 (xBm a0) (xAW r1), iN (r1 == 1), xH3 a0, AbC 71 (xCY (xKK a0) r1) (xBG r2), Ln r2 + Ln [32] ≤ Lim, AbC 56 (xDp (Exp.n a0)) (xBS r3), Ln (r2 ++ [32]) + Ln r3 ≤ Lim, xMu r2 r3, xH4 a0, AbC 71 (xCY (xKL a0) (W (r1 + 1))) (xBG r4), xMv r2 r3 r4] := by kernel_rfl
theorem vBe {N q0 q1 q2} (g0 : G71 q0) (g1 : G38 q1) (g2 : G69 q2) : ∀ a0 r, xBV N q0 q1 q2 a0 = some r → RE Tryz.f38 I38 (xAY a0) (xAw r) := fun a0 r h =>
 cE h (fun h0 h => bE h fun r1 h1 h => dE h fk38 (xWi a0 r1) (oc2 h0 (xKt h1) on)) fun h0 h =>
 cE h (fun h1 h => iE h fun h2 h => iE h fun h3 h => dE h fk38 (xWj a0) (oc4 h0 h1 h2 h3 on)) fun h1 h =>
 cE h (fun h2 h => dE h fk38 (xWk a0) (oc3 h0 h1 h2 on)) fun h2 h =>
 cE h (fun h3 h => bE h fun r1 h4 h => iE h fun h5 h => iE h fun h6 h => dE h fk38 (xWl a0 r1) (oc7 h0 h1 h2 h3 (g2 _ _ h4) h5 h6 on)) fun h3 h =>
 cE h (fun h4 h => iE h fun h5 h => bE h fun r1 h6 h => iE h fun h7 h => iE h fun h8 h => dE h fk38 (xWm a0 r1) (oc9 h0 h1 h2 h3 h4 h5 (g2 _ _ h6) h7 h8 on)) fun h4 h =>
 cE h (fun h5 h => iE h fun h6 h => iE h fun h7 h => iE h fun h8 h => bE h fun r1 h9 h => iE h fun h10 h => iE h fun h11 h => iE h fun h12 h => bE h fun r2 h13 h => iE h fun h14 h => dE h fk38 (xWn a0 r1 r2) (oc12 h0 h1 h2 h3 h4 h5 h6 h7 h8 (g1 _ _ h9) h10 h11 (oc3 h12 (g1 _ _ h13) h14 on))) fun h5 h =>
 cE h (fun h6 h => iE h fun h7 h => bE h fun r1 h8 h => iE h fun h9 h => iE h fun h10 h => iE h fun h11 h => bE h fun r2 h12 h => iE h fun h13 h => iE h fun h14 h => iE h fun h15 h => bE h fun r3 h16 h => iE h fun h17 h => dE h fk38 (xWo a0 r1 r2 r3) (oc12 h0 h1 h2 h3 h4 h5 h6 h7 (g1 _ _ h8) h9 h10 h11 (oc6 (g1 _ _ h12) h13 h14 h15 (g1 _ _ h16) h17 on))) fun h6 h =>
 cE h (fun h7 h => iE h fun h8 h => iE h fun h9 h => iE h fun h10 h => bE h fun r1 h11 h => iE h fun h12 h => iE h fun h13 h => iE h fun h14 h => bE h fun r2 h15 h => iE h fun h16 h => dE h fk38 (xWp a0 r1 r2) (oc12 h0 h1 h2 h3 h4 h5 h6 h7 h8 h9 h10 (g1 _ _ h11) (oc5 h12 h13 h14 (g1 _ _ h15) h16 on))) fun h7 h =>
 bE h fun r1 h8 h => cE h (fun h9 h => iE h fun h10 h => bE h fun r2 h11 h => iE h fun h12 h => bE h fun r3 h13 h => iE h fun h14 h => iE h fun h15 h => iE h fun h16 h => bE h fun r4 h17 h => iE h fun h18 h => dE h fk38 (xWq a0 r1 r2 r3 r4) (oc12 h0 h1 h2 h3 h4 h5 h6 h7 (xGk h8) h9 h10 (g0 _ _ _ h11) (oc7 h12 (xF2 h13) h14 h15 h16 (g0 _ _ _ h17) h18 on))) fun h9 h =>
 iE h fun h10 h => bE h fun r2 h11 h => iE h fun h12 h => bE h fun r3 h13 h => iE h fun h14 h => iE h fun h15 h => iE h fun h16 h => bE h fun r4 h17 h => iE h fun h18 h => dE h fk38 (xWr a0 r1 r2 r3 r4) (oc12 h0 h1 h2 h3 h4 h5 h6 h7 (xGk h8) h9 h10 (g0 _ _ _ h11) (oc7 h12 (xF2 h13) h14 h15 h16 (g0 _ _ _ h17) h18 on))
theorem xJR {N q0 q1 q2} (g0 : G71 q0) (g1 : G38 q1) (g2 : G69 q2) {a0} {r} (h : xBV N q0 q1 q2 a0 = some r) : AbC 38 (xAY a0) (xAw r) :=
 AbsCalls.of_reach fk38 rfl rfl (Nat.le_of_ble_eq_true rfl) (vBe g0 g1 g2 a0 r h)
noncomputable def I69 : Info := { body := (Tryz.f69.body).getD .skip, nt := 21, results := [.tmp 2], keep := [0, 4, 6, 10, 14, 16, 18, 20, 11], live := [(3, [6, 14, 16, 18])], modes := [(5, [(0, .take, false)]), (6, [(1, .take, false)])] }
theorem fk69 : FnOk Tryz.prog 69 Tryz.f69 I69 := ⟨Tryz.func69, by kernel_rfl, by kernel_rfl, by kernel_rfl, by kernel_rfl⟩
def xPv (x3 : List Str) (x7 : List Exp) (x8 x9 : Int) : St := [(6, .v false [.sl .own .str x3]), (14, .v false [.sl .ro .exp x7]), (16, .v false [.int .i64 x8]), (18, .v false [.int .i64 x9])]
def xXL (x3 : List Str) (x7 : List Exp) (x8 x9 : Int) (r1 : Str) : rS 3 I69 (xPv x3 x7 x8 x9) [Y] [xAw r1] = st 3 I69 (xPv (x3 ++ [r1]) x7 x8 (W (x9 + 1))) [xGp x9 x8, xKz x9 x7, AbC 38 (xAY (xKJ x7 x9)) (xAw r1), Ln x3 + Ln [r1] ≤ Lim] := by kernel_rfl
def xXM (x3 : List Str) (x7 : List Exp) (x8 x9 : Int) (r1 : Str) : rS 3 I69 (xPv x3 x7 x8 x9) [F] [xGX r1] = dn (xDf r1) [xH1 x9 x8, AbC 103 (xHJ x3 [44, 32]) (xGX r1)] := by kernel_rfl
def xXN (a0 : List Exp) : rE I69 (xEP a0) [] [] = st 3 I69 (xPv [] a0 (Ln a0 : Int) 0) [] := by kernel_rfl
theorem vBM {N q0 q1 q2} (g0 : G71 q0) (g1 : G38 q1) (g2 : G69 q2) : ∀ n x3 x7 x8 x9 r, xEd N q0 q1 q2 n x3 x7 x8 x9 = some r → RS Tryz.f69 I69 3 (xPv x3 x7 x8 x9) (xDf r) := by
 intro n
 induction n with
 | zero => exact fun _ _ _ _ _ h => nE h
 | succ n ih =>
  exact fun x3 x7 x8 x9 r h =>
   cE h (fun h0 h => iE h fun h1 h => bE h fun r1 h2 h => iE h fun h3 h => tS fk69 (xXL x3 x7 x8 x9 r1) (oc4 h0 h1 (g1 _ _ h2) h3 on) (ih _ _ _ _ _ h)) fun h0 h =>
   bE h fun r1 h1 h => dS h fk69 (xXM x3 x7 x8 x9 r1) (oc2 h0 (xM4 h1) on)
theorem vBN {N q0 q1 q2} (g0 : G71 q0) (g1 : G38 q1) (g2 : G69 q2) : ∀ a0 r, xGH N q0 q1 q2 a0 = some r → RE Tryz.f69 I69 (xEP a0) (xDf r) := fun a0 r h =>
 tE fk69 (xXN a0) on (vBM g0 g1 g2 _ _ _ _ _ _ h)
theorem xJw {N q0 q1 q2} (g0 : G71 q0) (g1 : G38 q1) (g2 : G69 q2) {a0} {r} (h : xGH N q0 q1 q2 a0 = some r) : AbC 69 (xEP a0) (xDf r) :=
 AbsCalls.of_reach fk69 rfl rfl (Nat.le_of_ble_eq_true rfl) (vBN g0 g1 g2 a0 r h)
theorem xJv {N : Nat} : ∀ d, G71 (xAj N d).c_impl_enclosed ∧ G38 (xAj N d).c_impl_source ∧ G69 (xAj N d).c_impl_sources := by
 intro d
 induction d with
 | zero => exact ⟨fun _ _ _ h => nE h, fun _ _ h => nE h, fun _ _ h => nE h⟩
 | succ d ih =>
  obtain ⟨ih0, ih1, ih2⟩ := ih
  exact ⟨fun _ _ _ h => xIW (N := N) ih0 ih1 ih2 h, fun _ _ h => xJR (N := N) ih0 ih1 ih2 h, fun _ _ h => xJw (N := N) ih0 ih1 ih2 h⟩
theorem xLN {N : Nat} {a0 : Exp} {r : Str} (h : xJQ N a0 = some r) : AbC 38 (xAY a0) (xAw r) := (xJv N).2.1 _ r h
noncomputable def I20 : Info := { body := (Tryz.f20.body).getD .skip, nt := 8, results := [.tmp 2], keep := [0, 2, 4, 10, 3], live := [], modes := [] }
theorem fk20 : FnOk Tryz.prog 20 Tryz.f20 I20 := ⟨Tryz.func20, by kernel_rfl, by kernel_rfl, by kernel_rfl, by kernel_rfl⟩
def xVy (a0 : Exp) (r1 : Bool) : rE I20 (xEv a0) [Y] [xAN r1] = dn (xBb []) [AbC 32 (xCp a0) (xAN r1), iY (!r1)] := by kernel_rfl
def xVz (a0 : Exp) (r1 : Bool) (r2 : Str) : rE I20 (xEv a0) [F] [xAN r1, xAw r2] = dn (xBb r2) [AbC 32 (xCp a0) (xAN r1), iN (!r1), AbC 38 (xAY a0) (xAw r2)] := by kernel_rfl
theorem vA0 {N : Nat} : ∀ a0 r, xEL N a0 = some r → RE Tryz.f20 I20 (xEv a0) (xBb r) := fun a0 r h =>
 bE h fun r1 h0 h => cE h (fun h1 h => dE h fk20 (xVy a0 r1) (oc2 (xCq h0) h1 on)) fun h1 h =>
 bE h fun r2 h2 h => dE h fk20 (xVz a0 r1 r2) (oc3 (xCq h0) h1 (xLN h2) on)
theorem xCk {N : Nat} {a0 : Exp} {r : Str} (h : xEL N  a0 = some r) : AbC 20 (xEv a0) (xBb r) :=
 AbsCalls.of_reach fk20 rfl rfl (Nat.le_of_ble_eq_true rfl) (vA0 a0 r h)
noncomputable def I18 : Info := { body := (Tryz.f18.body).getD .skip, nt := 6, results := [.tmp 2], keep := [0, 4], live := [], modes := [] }
theorem fk18 : FnOk Tryz.prog 18 Tryz.f18 I18 := ⟨Tryz.func18, by kernel_rfl, by kernel_rfl, by kernel_rfl, by kernel_rfl⟩
def xVw (a0 : List Int) : rE I18 (xIu a0) [] [] = dn (xDg (dc ((Ln a0 : Int) > 1048576))) [] := by kernel_rfl
theorem vAY {N : Nat} : ∀ a0 r, xJr N a0 = some r → RE Tryz.f18 I18 (xIu a0) (xDg r) := fun a0 r h =>
 dE h fk18 (xVw a0) on
theorem xEF {N : Nat} {a0 : List Int} {r : Bool} (h : xJr N  a0 = some r) : AbC 18 (xIu a0) (xDg r) :=
 AbsCalls.of_reach fk18 rfl rfl (Nat.le_of_ble_eq_true rfl) (vAY a0 r h)
noncomputable def I37 : Info := { body := (Tryz.f37.body).getD .skip, nt := 32, results := [.tmp 2], keep := [0, 4, 6, 8, 30, 63], live := [(3, [0, 6, 8])], modes := [(3, [(4, .take, false)])] }
theorem fk37 : FnOk Tryz.prog 37 Tryz.f37 I37 := ⟨Tryz.func37, by kernel_rfl, by kernel_rfl, by kernel_rfl, by kernel_rfl⟩
def xO5 (x0 : List Int) (x3 x4 : Int) : St := [(0, .v false [.sl .ro .byte x0]), (6, .v false [.int .i64 x3]), (8, .v false [.int .i64 x4])]
def xWe (x0 : List Int) (x3 x4 : Int) : rS 3 I37 (xO5 x0 x3 x4) [Y, Y] [] = st 3 I37 (xO5 x0 (andI .i64 (W ((W ((W (x3 * 131)) + (W ((gD x0 (tN x4) Ty.byte.dflt))))) + 7)) 1073741823) (W (x4 + 1))) [iY (dc (x4 < (Ln x0 : Int))), iY (dc (x4 < 4000)), (0 : Int) ≤ x4 ∧ x4 < (Ln x0)] := by kernel_rfl
def xWf (x0 : List Int) (x3 x4 : Int) : rS 3 I37 (xO5 x0 x3 x4) [Y, F] [] = dn (xFc (Cur.mk x0 0 x3)) [iY (dc (x4 < (Ln x0 : Int))), iN (dc (x4 < 4000))] := by kernel_rfl
def xWg (x0 : List Int) (x3 x4 : Int) : rS 3 I37 (xO5 x0 x3 x4) [F, F] [] = dn (xFc (Cur.mk x0 0 x3)) [iN (dc (x4 < (Ln x0 : Int))), iN false] := by kernel_rfl
def xWh (a0 : List Int) : rE I37 (xHg a0) [] [] = st 3 I37 (xO5 a0 (W (26583 + (Ln a0 : Int))) 0) [] := by kernel_rfl
theorem vBc {N : Nat} : ∀ n x0 x3 x4 r, xFN N n x0 x3 x4 = some r → RS Tryz.f37 I37 3 (xO5 x0 x3 x4) (xFc r) := by
 intro n
 induction n with
 | zero => exact fun _ _ _ _ h => nE h
 | succ n ih =>
  exact fun x0 x3 x4 r h =>
   cE h (fun h0 h => cE h (fun h1 h => iE h fun h2 h => tS fk37 (xWe x0 x3 x4) (oc3 h0 h1 h2 on) (ih _ _ _ _ h)) fun h1 h =>
   dS h fk37 (xWf x0 x3 x4) (oc2 h0 h1 on)) fun h0 h =>
   dS h fk37 (xWg x0 x3 x4) (oc2 h0 rfl on)
theorem vBd {N : Nat} : ∀ a0 r, xGP N a0 = some r → RE Tryz.f37 I37 (xHg a0) (xFc r) := fun a0 r h =>
 tE fk37 (xWh a0) on (vBc _ _ _ _ _ h)
theorem xMN {N : Nat} {a0 : List Int} {r : Cur} (h : xGP N  a0 = some r) : AbC 37 (xHg a0) (xFc r) :=
 AbsCalls.of_reach fk37 rfl rfl (Nat.le_of_ble_eq_true rfl) (vBd a0 r h)
noncomputable def I100 : Info := { body := (Tryz.f100.body).getD .skip, nt := 58, results := [.tmp 2], keep := [0, 4, 6, 68, 1], live := [], modes := [], ext := [0] }
theorem xU4 : FnOk Tryz.prog 100 Tryz.f100 I100 := ⟨Tryz.func100, by kernel_rfl, by kernel_rfl, by kernel_rfl, by kernel_rfl⟩
abbrev xQl (v0 : Cur) := andI .i64 (xorI .i64 (Int.fdiv (W ((W ((Cur.h v0) * 6364136223846793005)) + 1442695040888963407)) ((2 : Int) ^ (tN 33))) (Int.fdiv (W ((W ((Cur.h v0) * 6364136223846793005)) + 1442695040888963407)) ((2 : Int) ^ (tN 45)))) 255
abbrev xQk (v0 : Cur) := W ((W ((Cur.h v0) * 6364136223846793005)) + 1442695040888963407)
def xRL (a0 : Cur) : rE I100 (xDG a0) [Y] [] = dn (xB5 ((andI .i64 (W ((xQl a0) + (W ((gD (Cur.b a0) (tN (Cur.i a0)) Ty.byte.dflt))))) 255), (Cur.mk (Cur.b a0) (W ((Cur.i a0) + 1)) (xQk a0)))) [(0 : Int) ≤ 33 ∧ (33 : Int) < 64, (0 : Int) ≤ 45 ∧ (45 : Int) < 64, iY (dc ((Cur.i a0) < (Ln (Cur.b a0) : Int))), (0 : Int) ≤ (Cur.i a0) ∧ (Cur.i a0) < (Ln (Cur.b a0))] := by kernel_rfl
def xRM (a0 : Cur) : rE I100 (xDG a0) [F] [] = dn (xB5 ((xQl a0), (Cur.mk (Cur.b a0) (Cur.i a0) (xQk a0)))) [(0 : Int) ≤ 33 ∧ (33 : Int) < 64, (0 : Int) ≤ 45 ∧ (45 : Int) < 64, iN (dc ((Cur.i a0) < (Ln (Cur.b a0) : Int)))] := by kernel_rfl
theorem xZN {N : Nat} : ∀ a0 r, xE9 N a0 = some r → RE Tryz.f100 I100 (xDG a0) (xB5 r) := fun a0 r h =>
 cE h (fun h2 h => iE h fun h3 h => dE h xU4 (xRL a0) (oc4 (by decide) (by decide) h2 h3 on)) fun h2 h =>
 dE h xU4 (xRM a0) (oc3 (by decide) (by decide) h2 on)
theorem xF0 {N : Nat} {a0 : Cur} {r : Int × Cur} (h : xE9 N  a0 = some r) : AbC 100 (xDG a0) (xB5 r) :=
 AbsCalls.of_reach xU4 rfl rfl (Nat.le_of_ble_eq_true rfl) (xZN a0 r h)
noncomputable def I62 : Info := { body := (Tryz.f62.body).getD .skip, nt := 37, results := [.tmp 4], keep := [0, 2, 8, 10, 12, 14, 16, 20, 24, 1], live := [], modes := [(9, [(0, .take, false), (2, .take, false), (5, .take, false), (8, .take, false)])], ext := [0] }
theorem fk62 : FnOk Tryz.prog 62 Tryz.f62 I62 := ⟨Tryz.func62, by kernel_rfl, by kernel_rfl, by kernel_rfl, by kernel_rfl⟩
def xXz (a0 : Cur) (a1 : Int) : rE I62 (xAB a0 a1) [Y] [] = dn (xAc (0, a0)) [iY (dc (a1 ≤ 0))] := by kernel_rfl
def xXA (a0 : Cur) (a1 : Int) (r1 : Int × Cur) : rE I62 (xAB a0 a1) [F, Y] [xB5 r1] = dn (xAc ((Int.tmod r1.1 a1), r1.2)) [iN (dc (a1 ≤ 0)), iY (dc (a1 ≤ 256)), AbC 100 (xDG a0) (xB5 r1), a1 ≠ (0 : Int)] := by kernel_rfl
def xXB (a0 : Cur) (a1 : Int) (r1 : Int × Cur) (r2 : Int × Cur) (r3 : Int × Cur) (r4 : Int × Cur) : rE I62 (xAB a0 a1) [F, F] [xB5 r1, xB5 r2, xB5 r3, xB5 r4] = dn (xAc ((Int.tmod (W ((W ((W ((W (r1.1 * 16777216)) + (W (r2.1 * 65536)))) + (W (r3.1 * 256)))) + r4.1)) a1), r4.2)) [iN (dc (a1 ≤ 0)), iN (dc (a1 ≤ 256)), AbC 100 (xDG a0) (xB5 r1), AbC 100 (xDG r1.2) (xB5 r2), AbC 100 (xDG r2.2) (xB5 r3), AbC 100 (xDG r3.2) (xB5 r4), a1 ≠ (0 : Int)] := by kernel_rfl
theorem vBF {N : Nat} : ∀ a0 a1 r, xAK N a0 a1 = some r → RE Tryz.f62 I62 (xAB a0 a1) (xAc r) := fun a0 a1 r h =>
 cE h (fun h0 h => dE h fk62 (xXz a0 a1) (oc h0 on)) fun h0 h =>
 cE h (fun h1 h => bE h fun r1 h2 h => iE h fun h3 h => dE h fk62 (xXA a0 a1 r1) (oc4 h0 h1 (xF0 h2) h3 on)) fun h1 h =>
 bE h fun r1 h2 h => bE h fun r2 h3 h => bE h fun r3 h4 h => bE h fun r4 h5 h => iE h fun h6 h => dE h fk62 (xXB a0 a1 r1 r2 r3 r4) (oc7 h0 h1 (xF0 h2) (xF0 h3) (xF0 h4) (xF0 h5) h6 on)
theorem xAh {N : Nat} {a0 : Cur} {a1 : Int} {r : Int × Cur} (h : xAK N  a0 a1 = some r) : AbC 62 (xAB a0 a1) (xAc r) :=
 AbsCalls.of_reach fk62 rfl rfl (Nat.le_of_ble_eq_true rfl) (vBF a0 a1 r h)
noncomputable def I64 : Info := { body := (Tryz.f64.body).getD .skip, nt := 12, results := [.tmp 4], keep := [0, 2, 8, 1], live := [], modes := [], ext := [0] }
theorem fk64 : FnOk Tryz.prog 64 Tryz.f64 I64 := ⟨Tryz.func64, by kernel_rfl, by kernel_rfl, by kernel_rfl, by kernel_rfl⟩
def xXG (a0 : Cur) (a1 : List Str) (r1 : Int × Cur) : rE I64 (xCE a0 a1) [] [xAc r1] = dn (xAZ ((gD a1 (tN r1.1) Ty.str.dflt), r1.2)) [AbC 62 (xAB a0 (Ln a1 : Int)) (xAc r1), (0 : Int) ≤ r1.1 ∧ r1.1 < (Ln a1)] := by kernel_rfl
theorem vBH {N : Nat} : ∀ a0 a1 r, xC4 N a0 a1 = some r → RE Tryz.f64 I64 (xCE a0 a1) (xAZ r) := fun a0 a1 r h =>
 bE h fun r1 h0 h => iE h fun h1 h => dE h fk64 (xXG a0 a1 r1) (oc2 (xAh h0) h1 on)
theorem xDH {N : Nat} {a0 : Cur} {a1 : List Str} {r : Str × Cur} (h : xC4 N  a0 a1 = some r) : AbC 64 (xCE a0 a1) (xAZ r) :=
 AbsCalls.of_reach fk64 rfl rfl (Nat.le_of_ble_eq_true rfl) (vBH a0 a1 r h)
noncomputable def I63 : Info := { body := (Tryz.f63.body).getD .skip, nt := 23, results := [.cell 4 25], keep := [0, 2, 8, 12, 14, 26, 1, 9], live := [], modes := [(3, [(1, .cp, true)])], ext := [0] }
theorem fk63 : FnOk Tryz.prog 63 Tryz.f63 I63 := ⟨Tryz.func63, by kernel_rfl, by kernel_rfl, by kernel_rfl, by kernel_rfl⟩
abbrev xKE (v0 : Cur) (v1 : Int × Cur) : Prop := AbC 62 (xAB v0 5) (xAc v1)
def xXC (a0 : Cur) (a1 : List Str) (r1 : Int × Cur) (r2 : Str × Cur) : rE I63 (xCR a0 a1) [Y] [xAc r1, xAZ r2] = dn (xBM ((Exp.mk 2 0 r2.1 []), r2.2)) [xKE a0 r1, iY (r1.1 == 0), AbC 64 (xCE r1.2 [[97], [97, 98], [], [98]]) (xAZ r2)] := by kernel_rfl
abbrev xEQ (v0 : Int × Cur) : Prop := iN (v0.1 == 0)
abbrev xH6 (v0 : Int × Cur) (v1 : Exp) : Prop := AbC 67 (xFj v0.1) (xBj v1)
def xXD (a0 : Cur) (a1 : List Str) (r1 : Int × Cur) (r2 : Int × Cur) (r3 : Exp) : rE I63 (xCR a0 a1) [F, Y, Y] [xAc r1, xAc r2, xBj r3] = dn (xBM (r3, r2.2)) [xKE a0 r1, xEQ r1, iY (r1.1 == 1), iY (r1.1 == 1), AbC 62 (xAB r1.2 6) (xAc r2), xH6 r2 r3] := by kernel_rfl
abbrev xFr (v0 : Int × Cur) : Prop := iN (v0.1 == 1)
def xXE (a0 : Cur) (a1 : List Str) (r1 : Int × Cur) (r2 : Int × Cur) (r3 : Exp) : rE I63 (xCR a0 a1) [F, F, Y] [xAc r1, xAc r2, xBj r3] = dn (xBM (r3, r2.2)) [xKE a0 r1, xEQ r1, xFr r1, iY (r1.1 == 2), AbC 62 (xAB r1.2 6) (xAc r2), xH6 r2 r3] := by kernel_rfl
abbrev xGq (v0 : Int × Cur) : Prop := iN (v0.1 == 2)
def xXF (a0 : Cur) (a1 : List Str) (r1 : Int × Cur) (r2 : Str × Cur) (r3 : Exp) : rE I63 (xCR a0 a1) [F, F, F] [xAc r1, xAZ r2, xFA r3] = dn (xBM (r3, r2.2)) [xKE a0 r1, xEQ r1, xFr r1, xGq r1, AbC 64 (xCE r1.2 a1) (xAZ r2), AbC 101 (xGw r2.1) (xFA r3)] := by kernel_rfl
theorem vBG {N : Nat} : ∀ a0 a1 r, xFy N a0 a1 = some r → RE Tryz.f63 I63 (xCR a0 a1) (xBM r) := fun a0 a1 r h =>
 bE h fun r1 h0 h => cE h (fun h1 h => bE h fun r2 h2 h => dE h fk63 (xXC a0 a1 r1 r2) (oc3 (xAh h0) h1 (xDH h2) on)) fun h1 h =>
 cE h (fun h2 h => bE h fun r2 h4 h => bE h fun r3 h5 h => dE h fk63 (xXD a0 a1 r1 r2 r3) (oc6 (xAh h0) h1 h2 h2 (xAh h4) (xCC h5) on)) fun h2 h =>
 cE h (fun h3 h => bE h fun r2 h4 h => bE h fun r3 h5 h => dE h fk63 (xXE a0 a1 r1 r2 r3) (oc6 (xAh h0) h1 h2 h3 (xAh h4) (xCC h5) on)) fun h3 h =>
 bE h fun r2 h4 h => bE h fun r3 h5 h => dE h fk63 (xXF a0 a1 r1 r2 r3) (oc6 (xAh h0) h1 h2 h3 (xDH h4) (xLB h5) on)
theorem xGu {N : Nat} {a0 : Cur} {a1 : List Str} {r : Exp × Cur} (h : xFy N  a0 a1 = some r) : AbC 63 (xCR a0 a1) (xBM r) :=
 AbsCalls.of_reach fk63 rfl rfl (Nat.le_of_ble_eq_true rfl) (vBG a0 a1 r h)
noncomputable def I132 : Info := { body := (Tryz.f132.body).getD .skip, nt := 9, results := [.tmp 4], keep := [0, 2, 8, 1], live := [], modes := [], ext := [0] }
theorem vAs : FnOk Tryz.prog 132 Tryz.f132 I132 := ⟨Tryz.func132, by kernel_rfl, by kernel_rfl, by kernel_rfl, by kernel_rfl⟩
def xTq (a0 : Cur) (a1 : Int) (r1 : Int × Cur) : rE I132 (xEI a0 a1) [] [xAc r1] = dn (xCT ((r1.1 == 0), r1.2)) [AbC 62 (xAB a0 a1) (xAc r1)] := by kernel_rfl
theorem vAf {N : Nat} : ∀ a0 a1 r, xFD N a0 a1 = some r → RE Tryz.f132 I132 (xEI a0 a1) (xCT r) := fun a0 a1 r h =>
 bE h fun r1 h0 h => dE h vAs (xTq a0 a1 r1) (oc (xAh h0) on)
theorem xGT {N : Nat} {a0 : Cur} {a1 : Int} {r : Bool × Cur} (h : xFD N  a0 a1 = some r) : AbC 132 (xEI a0 a1) (xCT r) :=
 AbsCalls.of_reach vAs rfl rfl (Nat.le_of_ble_eq_true rfl) (vAf a0 a1 r h)
noncomputable def I118 : Info := { body := (Tryz.f118.body).getD .skip, nt := 34, results := [.cell 4 25], keep := [0, 2, 8, 10, 12, 14, 26, 50, 1, 9, 11], live := [(4, [0, 2, 8, 10, 12, 14, 1, 9, 11])], modes := [(4, [(1, .take, false)]), (6, [(1, .take, false), (6, .take, false)]), (8, [(1, .ref, false)]), (9, [(0, .take, false)])], ext := [0] }
theorem xPH : FnOk Tryz.prog 118 Tryz.f118 I118 := ⟨Tryz.func118, by kernel_rfl, by kernel_rfl, by kernel_rfl, by kernel_rfl⟩
def xLf (x1 : List Str) (x6 x7 : Int) (b0 : Cur) (b4 b5 : Exp) : St := [(0, .v false [.ptr 0 0]), (2, .v false [.sl .ro .str x1]), (8, .v false [.ptr 4 0]), (10, .v false [.ptr 5 0]), (12, .v false [.int .i64 x6]), (14, .v false [.int .i64 x7]), (1, .v true [.sl .ro .byte (Cur.b b0), .int .i64 (Cur.i b0), .int .i64 (Cur.h b0)]), (9, .v true [.int .i64 (Exp.kind b4), .int .i64 (Exp.n b4), .str (Exp.text b4), .sl .own .exp (Exp.args b4)]), (11, .v true [.int .i64 (Exp.kind b5), .int .i64 (Exp.n b5), .str (Exp.text b5), .sl .own .exp (Exp.args b5)])]
def xS2 (x1 : List Str) (x6 x7 : Int) (b0 : Cur) (b4 b5 : Exp) (r1 : Int × Cur) (r2 : Exp) (r3 : Bool × Cur) (r4 : Exp × Cur) : rS 4 I118 (xLf x1 x6 x7 b0 b4 b5) [Y, Y] [xAc r1, xBj r2, xCT r3, xBM r4] = st 4 I118 (xLf x1 x6 (W (x7 + 1)) r4.2 b4 (Exp.mk (Exp.kind b5) (Exp.n b5) (Exp.text b5) ((fun (z2 : List Exp) => List.set z2 (tN x7) (Exp.re r4.1)) ((Exp.args b5) ++ [(Exp.re r2)])))) [xGp x7 x6, xKE b0 r1, xH6 r1 r2, Ln (Exp.args b5) + Ln [(Exp.re r2)] ≤ Lim, AbC 132 (xEI r1.2 4) (xCT r3), iY r3.1, AbC 63 (xCR r3.2 x1) (xBM r4), (0 : Int) ≤ x7 ∧ x7 < (Ln ((Exp.args b5) ++ [(Exp.re r2)]))] := by kernel_rfl
def xS3 (x1 : List Str) (x6 x7 : Int) (b0 : Cur) (b4 b5 : Exp) (r1 : Int × Cur) (r2 : Exp) (r3 : Bool × Cur) : rS 4 I118 (xLf x1 x6 x7 b0 b4 b5) [Y, F] [xAc r1, xBj r2, xCT r3] = st 4 I118 (xLf x1 x6 (W (x7 + 1)) r3.2 b4 (Exp.mk (Exp.kind b5) (Exp.n b5) (Exp.text b5) ((Exp.args b5) ++ [(Exp.re r2)]))) [xGp x7 x6, xKE b0 r1, xH6 r1 r2, Ln (Exp.args b5) + Ln [(Exp.re r2)] ≤ Lim, AbC 132 (xEI r1.2 4) (xCT r3), iN r3.1] := by kernel_rfl
def xS4 (x1 : List Str) (x6 x7 : Int) (b0 : Cur) (b4 b5 : Exp) : rS 4 I118 (xLf x1 x6 x7 b0 b4 b5) [F] [] = dn (xCa (b5, b0)) [xH1 x7 x6] := by kernel_rfl
def xS5 (a0 : Cur) (a1 : List Str) (r1 : Int × Cur) : rE I118 (xEi a0 a1) [] [xAc r1] = st 4 I118 (xLf a1 r1.1 0 r1.2 (Exp.mk 0 0 [] []) (Exp.mk 4 0 [] [])) [AbC 62 (xAB a0 4) (xAc r1)] := by kernel_rfl
theorem xZ3 {N : Nat} : ∀ n x1 x6 x7 b0 b4 b5 r, xEj N n x1 x6 x7 b0 b4 b5 = some r → RS Tryz.f118 I118 4 (xLf x1 x6 x7 b0 b4 b5) (xCa r) := by
 intro n
 induction n with
 | zero => exact fun _ _ _ _ _ _ _ h => nE h
 | succ n ih =>
  exact fun x1 x6 x7 b0 b4 b5 r h =>
   cE h (fun h0 h => bE h fun r1 h1 h => bE h fun r2 h2 h => iE h fun h3 h => bE h fun r3 h4 h => cE h (fun h5 h => bE h fun r4 h6 h => iE h fun h7 h => tS xPH (xS2 x1 x6 x7 b0 b4 b5 r1 r2 r3 r4) (oc8 h0 (xAh h1) (xCC h2) h3 (xGT h4) h5 (xGu h6) h7 on) (ih _ _ _ _ _ _ _ h)) fun h5 h =>
   tS xPH (xS3 x1 x6 x7 b0 b4 b5 r1 r2 r3) (oc6 h0 (xAh h1) (xCC h2) h3 (xGT h4) h5 on) (ih _ _ _ _ _ _ _ h)) fun h0 h =>
   dS h xPH (xS4 x1 x6 x7 b0 b4 b5) (oc h0 on)
theorem xZ4 {N : Nat} : ∀ a0 a1 r, xFz N a0 a1 = some r → RE Tryz.f118 I118 (xEi a0 a1) (xCa r) := fun a0 a1 r h =>
 bE h fun r1 h0 h => tE xPH (xS5 a0 a1 r1) (oc (xAh h0) on) (xZ3 _ _ _ _ _ _ _ _ h)
theorem xGv {N : Nat} {a0 : Cur} {a1 : List Str} {r : Exp × Cur} (h : xFz N  a0 a1 = some r) : AbC 118 (xEi a0 a1) (xCa r) :=
 AbsCalls.of_reach xPH rfl rfl (Nat.le_of_ble_eq_true rfl) (xZ4 a0 a1 r h)
noncomputable def I120 : Info := { body := (Tryz.f120.body).getD .skip, nt := 11, results := [.cell 6 25], keep := [0, 2, 4, 8, 10, 12, 16, 1, 9, 11, 13], live := [], modes := [(2, [(0, .take, false)]), (3, [(0, .take, false)])], ext := [0] }
theorem xU6 : FnOk Tryz.prog 120 Tryz.f120 I120 := ⟨Tryz.func120, by kernel_rfl, by kernel_rfl, by kernel_rfl, by kernel_rfl⟩
def xS7 (a0 : Cur) (a1 a2 : Exp) (r1 : Bool × Cur) : rE I120 (xB6 a0 a1 a2) [Y] [xCT r1] = dn (xAV (a1, r1.2)) [AbC 132 (xEI a0 2) (xCT r1), iY r1.1] := by kernel_rfl
def xS8 (a0 : Cur) (a1 a2 : Exp) (r1 : Bool × Cur) : rE I120 (xB6 a0 a1 a2) [F] [xCT r1] = dn (xAV (a2, r1.2)) [AbC 132 (xEI a0 2) (xCT r1), iN r1.1] := by kernel_rfl
theorem xZ6 {N : Nat} : ∀ a0 a1 a2 r, xDl N a0 a1 a2 = some r → RE Tryz.f120 I120 (xB6 a0 a1 a2) (xAV r) := fun a0 a1 a2 r h =>
 bE h fun r1 h0 h => cE h (fun h1 h => dE h xU6 (xS7 a0 a1 a2 r1) (oc2 (xGT h0) h1 on)) fun h1 h =>
 dE h xU6 (xS8 a0 a1 a2 r1) (oc2 (xGT h0) h1 on)
theorem xDP {N : Nat} {a0 : Cur} {a1 : Exp} {a2 : Exp} {r : Exp × Cur} (h : xDl N  a0 a1 a2 = some r) : AbC 120 (xB6 a0 a1 a2) (xAV r) :=
 AbsCalls.of_reach xU6 rfl rfl (Nat.le_of_ble_eq_true rfl) (xZ6 a0 a1 a2 r h)
noncomputable def I119 : Info := { body := (Tryz.f119.body).getD .skip, nt := 8, results := [.cell 4 25], keep := [0, 2, 8, 9], live := [], modes := [(1, [(1, .take, false)])] }
theorem vAp : FnOk Tryz.prog 119 Tryz.f119 I119 := ⟨Tryz.func119, by kernel_rfl, by kernel_rfl, by kernel_rfl, by kernel_rfl⟩
def xS6 (a0 : Str) (a1 : List Exp) : rE I119 (xB0 a0 a1) [] [] = dn (xAJ (Exp.mk 5 0 a0 a1)) [] := by kernel_rfl
theorem xZ5 {N : Nat} : ∀ a0 a1 r, xCN N a0 a1 = some r → RE Tryz.f119 I119 (xB0 a0 a1) (xAJ r) := fun a0 a1 r h =>
 dE h vAp (xS6 a0 a1) on
theorem xCQ {N : Nat} {a0 : Str} {a1 : List Exp} {r : Exp} (h : xCN N  a0 a1 = some r) : AbC 119 (xB0 a0 a1) (xAJ r) :=
 AbsCalls.of_reach vAp rfl rfl (Nat.le_of_ble_eq_true rfl) (xZ5 a0 a1 r h)
noncomputable def I121 : Info := { body := (Tryz.f121.body).getD .skip, nt := 7, results := [.cell 2 25], keep := [0, 4, 1, 5], live := [], modes := [(1, [(1, .cp, true)])], ext := [0] }
theorem vAq : FnOk Tryz.prog 121 Tryz.f121 I121 := ⟨Tryz.func121, by kernel_rfl, by kernel_rfl, by kernel_rfl, by kernel_rfl⟩
def xS9 (a0 : Cur) (r1 : Str × Cur) : rE I121 (xD9 a0) [] [xAZ r1] = dn (xCI ((Exp.mk 2 0 r1.1 []), r1.2)) [AbC 64 (xCE a0 [[97], [97], [98], [99], [120]]) (xAZ r1)] := by kernel_rfl
theorem xZ7 {N : Nat} : ∀ a0 r, xFi N a0 = some r → RE Tryz.f121 I121 (xD9 a0) (xCI r) := fun a0 r h =>
 bE h fun r1 h0 h => dE h vAq (xS9 a0 r1) (oc (xDH h0) on)
theorem xGM {N : Nat} {a0 : Cur} {r : Exp × Cur} (h : xFi N  a0 = some r) : AbC 121 (xD9 a0) (xCI r) :=
 AbsCalls.of_reach vAq rfl rfl (Nat.le_of_ble_eq_true rfl) (xZ7 a0 r h)
noncomputable def I122 : Info := { body := (Tryz.f122.body).getD .skip, nt := 31, results := [.cell 2 25], keep := [0, 4, 6, 8, 10, 22, 1, 5, 7], live := [(4, [0, 4, 6, 8, 10, 1, 5, 7])], modes := [(4, [(1, .take, false)]), (6, [(1, .take, false), (11, .take, false)]), (7, [(1, .take, false), (3, .take, false)])], ext := [0] }
theorem xRA : FnOk Tryz.prog 122 Tryz.f122 I122 := ⟨Tryz.func122, by kernel_rfl, by kernel_rfl, by kernel_rfl, by kernel_rfl⟩
def xMR (x4 x5 : Int) (b0 : Cur) (b2 b3 : Exp) : St := [(0, .v false [.ptr 0 0]), (4, .v false [.ptr 2 0]), (6, .v false [.ptr 3 0]), (8, .v false [.int .i64 x4]), (10, .v false [.int .i64 x5]), (1, .v true [.sl .ro .byte (Cur.b b0), .int .i64 (Cur.i b0), .int .i64 (Cur.h b0)]), (5, .v true [.int .i64 (Exp.kind b2), .int .i64 (Exp.n b2), .str (Exp.text b2), .sl .own .exp (Exp.args b2)]), (7, .v true [.int .i64 (Exp.kind b3), .int .i64 (Exp.n b3), .str (Exp.text b3), .sl .own .exp (Exp.args b3)])]
def xTa (x4 x5 : Int) (b0 : Cur) (b2 b3 : Exp) (r1 : Int × Cur) (r2 : Exp) (r3 : Int × Cur) (r4 : Exp) : rS 4 I122 (xMR x4 x5 b0 b2 b3) [Y] [xAc r1, xBj r2, xAc r3, xBj r4] = st 4 I122 (xMR x4 (W (x5 + 1)) r3.2 b2 (Exp.mk (Exp.kind b3) (Exp.n b3) (Exp.text b3) ((Exp.args b3) ++ [(Exp.mk 4 0 [] [(Exp.re r2), (Exp.re r4)])]))) [xGp x5 x4, AbC 62 (xAB b0 3) (xAc r1), xH6 r1 r2, AbC 62 (xAB r1.2 4) (xAc r3), xH6 r3 r4, Ln (Exp.args b3) + Ln [(Exp.mk 4 0 [] [(Exp.re r2), (Exp.re r4)])] ≤ Lim] := by kernel_rfl
def xTb (x4 x5 : Int) (b0 : Cur) (b2 b3 r1 : Exp) : rS 4 I122 (xMR x4 x5 b0 b2 b3) [F] [xAJ r1] = dn (xCD (r1, b0)) [xH1 x5 x4, AbC 119 (xB0 [116, 97, 98, 108, 101] [(Exp.mk 2 0 [97, 32, 98] []), (Exp.re b3)]) (xAJ r1)] := by kernel_rfl
def xTc (a0 : Cur) (r1 : Int × Cur) : rE I122 (xEt a0) [] [xAc r1] = st 4 I122 (xMR r1.1 0 r1.2 (Exp.mk 0 0 [] []) (Exp.mk 4 0 [] [])) [AbC 62 (xAB a0 4) (xAc r1)] := by kernel_rfl
theorem xZ8 {N : Nat} : ∀ n x4 x5 b0 b2 b3 r, xEu N n x4 x5 b0 b2 b3 = some r → RS Tryz.f122 I122 4 (xMR x4 x5 b0 b2 b3) (xCD r) := by
 intro n
 induction n with
 | zero => exact fun _ _ _ _ _ _ h => nE h
 | succ n ih =>
  exact fun x4 x5 b0 b2 b3 r h =>
   cE h (fun h0 h => bE h fun r1 h1 h => bE h fun r2 h2 h => bE h fun r3 h3 h => bE h fun r4 h4 h => iE h fun h5 h => tS xRA (xTa x4 x5 b0 b2 b3 r1 r2 r3 r4) (oc6 h0 (xAh h1) (xCC h2) (xAh h3) (xCC h4) h5 on) (ih _ _ _ _ _ _ h)) fun h0 h =>
   bE h fun r1 h1 h => dS h xRA (xTb x4 x5 b0 b2 b3 r1) (oc2 h0 (xCQ h1) on)
theorem xZ9 {N : Nat} : ∀ a0 r, xFL N a0 = some r → RE Tryz.f122 I122 (xEt a0) (xCD r) := fun a0 r h =>
 bE h fun r1 h0 h => tE xRA (xTc a0 r1) (oc (xAh h0) on) (xZ8 _ _ _ _ _ _ _ h)
theorem xG9 {N : Nat} {a0 : Cur} {r : Exp × Cur} (h : xFL N  a0 = some r) : AbC 122 (xEt a0) (xCD r) :=
 AbsCalls.of_reach xRA rfl rfl (Nat.le_of_ble_eq_true rfl) (xZ9 a0 r h)
def G99 (q : Cur → (List Str) → Int → Option (Exp × Cur)) : Prop := ∀ a0 a1 a2 r, q a0 a1 a2 = some r → AbC 99 (xAA a0 a1 a2) (xAi r)
noncomputable def I99 : Info := { body := (Tryz.f99.body).getD .skip, nt := 209, results := [.cell 6 25], keep := [0, 2, 4, 12, 14, 16, 20, 30, 32, 66, 114, 152, 198, 208, 242, 288, 324, 358, 384, 1, 13], live := [], modes := [(6, [(13, .take, false)]), (8, [(4, .cp, true)]), (9, [(10, .cp, true)]), (13, [(4, .cp, true)]), (14, [(9, .cp, true)]), (18, [(1, .cp, true), (12, .take, false), (14, .take, false)]), (20, [(1, .cp, true), (17, .take, false), (18, .take, false), (20, .take, false)]), (22, [(13, .take, false), (15, .take, false)]), (24, [(12, .take, false), (14, .take, false)]), (26, [(8, .take, false), (10, .take, false)]), (28, [(5, .take, false)]), (29, [(1, .take, false), (3, .cp, true), (7, .take, false), (8, .take, false)])], ext := [0], fcast := [(13, 3, false)] }
theorem fk99 : FnOk Tryz.prog 99 Tryz.f99 I99 := ⟨Tryz.func99, by kernel_rfl, by kernel_rfl, by kernel_rfl, by kernel_rfl⟩
def xZo (a0 : Cur) (a1 : List Str) (a2 : Int) (r1 : Exp × Cur) : rE I99 (xAA a0 a1 a2) [Y] [xBM r1] = dn (xAi (r1.1, r1.2)) [iY (dc (a2 < 2)), AbC 63 (xCR a0 a1) (xBM r1)] := by kernel_rfl
abbrev xGJ (v0 : Int) : Prop := iN (dc (v0 < 2))
abbrev xGK (v0 : Cur) (v1 : Int × Cur) : Prop := AbC 62 (xAB v0 13) (xAc v1)
abbrev xI7 (v0 : Exp × Cur) (v1 : List Str) (v2 : Int) (v3 : Exp × Cur) : Prop := AbC 99 (xAA v0.2 v1 (W (v2 - 1))) (xAi v3)
def xZp (a0 : Cur) (a1 : List Str) (a2 : Int) (r1 : Int × Cur) (r2 : Int × Cur) (r3 : Exp × Cur) (r4 : Exp × Cur) (r5 : Exp) : rE I99 (xAA a0 a1 a2) [F, Y, Y] [xAc r1, xAc r2, xAi r3, xAi r4, xDZ r5] = dn (xAi (r5, r4.2)) [xGJ a2, xGK a0 r1, iY (r1.1 == 0), iY (r1.1 == 0), AbC 62 (xAB r1.2 5) (xAc r2), AbC 99 (xAA r2.2 a1 (W (a2 - 1))) (xAi r3), xI7 r3 a1 a2 r4, AbC 66 (xFK (W (1 + r2.1)) r3.1 r4.1) (xDZ r5)] := by kernel_rfl
def xZq (a0 : Cur) (a1 : List Str) (a2 : Int) (r1 : Int × Cur) (r2 : Int × Cur) (r3 : Exp × Cur) (r4 : Exp × Cur) (r5 : Exp) : rE I99 (xAA a0 a1 a2) [F, F, Y] [xAc r1, xAc r2, xAi r3, xAi r4, xDZ r5] = dn (xAi (r5, r4.2)) [xGJ a2, xGK a0 r1, xEQ r1, iY (r1.1 == 1), AbC 62 (xAB r1.2 5) (xAc r2), AbC 99 (xAA r2.2 a1 (W (a2 - 1))) (xAi r3), xI7 r3 a1 a2 r4, AbC 66 (xFK (W (1 + r2.1)) r3.1 r4.1) (xDZ r5)] := by kernel_rfl
def xZr (a0 : Cur) (a1 : List Str) (a2 : Int) (r1 : Int × Cur) (r2 : Str × Cur) (r3 : Exp × Cur) (r4 : Exp × Cur) : rE I99 (xAA a0 a1 a2) [F, F, F, Y] [xAc r1, xAZ r2, xAi r3, xAi r4] = dn (xAi ((Exp.mk 7 0 r2.1 [(Exp.re r3.1), (Exp.re r4.1)]), r4.2)) [xGJ a2, xGK a0 r1, xEQ r1, xFr r1, iY (r1.1 == 2), (0 : Int) ≤ 0 ∧ (0 : Int) < (Ln a1), AbC 64 (xCE r1.2 [[117], [118], (gD a1 (tN 0) Ty.str.dflt)]) (xAZ r2), AbC 99 (xAA r2.2 a1 (W (a2 - 1))) (xAi r3), Ln [r2.1] + Ln a1 ≤ Lim, AbC 99 (xAA r3.2 ([r2.1] ++ a1) (W (a2 - 1))) (xAi r4)] := by kernel_rfl
def xZs (a0 : Cur) (a1 : List Str) (a2 : Int) (r1 : Int × Cur) (r2 : Exp × Cur) (r3 : Exp × Cur) (r4 : Exp × Cur) : rE I99 (xAA a0 a1 a2) [F, F, F, F, Y] [xAc r1, xAi r2, xAi r3, xAi r4] = dn (xAi ((Exp.mk 8 0 [] [(Exp.re r2.1), (Exp.re r3.1), (Exp.re r4.1)]), r4.2)) [xGJ a2, xGK a0 r1, xEQ r1, xFr r1, xGq r1, iY (r1.1 == 3), AbC 99 (xAA r1.2 a1 (W (a2 - 1))) (xAi r2), xI7 r2 a1 a2 r3, xI7 r3 a1 a2 r4] := by kernel_rfl
abbrev xHu (v0 : Int × Cur) : Prop := iN (v0.1 == 3)
def xZt (a0 : Cur) (a1 : List Str) (a2 : Int) (r1 : Int × Cur) (r2 : Str × Cur) (r3 : Exp × Cur) (r4 : Exp × Cur) : rE I99 (xAA a0 a1 a2) [F, F, F, F, F, Y] [xAc r1, xAZ r2, xCa r3, xAi r4] = dn (xAi ((Exp.mk 9 0 r2.1 [(Exp.re r3.1), (Exp.re r4.1)]), r4.2)) [xGJ a2, xGK a0 r1, xEQ r1, xFr r1, xGq r1, xHu r1, iY (r1.1 == 4), (0 : Int) ≤ 0 ∧ (0 : Int) < (Ln a1), AbC 64 (xCE r1.2 [[117], [118], (gD a1 (tN 0) Ty.str.dflt)]) (xAZ r2), AbC 118 (xEi r2.2 a1) (xCa r3), Ln [r2.1, r2.1] + Ln a1 ≤ Lim, AbC 99 (xAA r3.2 ([r2.1, r2.1] ++ a1) (W (a2 - 1))) (xAi r4)] := by kernel_rfl
abbrev xIy (v0 : Int × Cur) : Prop := iN (v0.1 == 4)
def xZu (a0 : Cur) (a1 : List Str) (a2 : Int) (r1 : Int × Cur) (r2 : Exp × Cur) : rE I99 (xAA a0 a1 a2) [F, F, F, F, F, F, Y] [xAc r1, xCa r2] = dn (xAi (r2.1, r2.2)) [xGJ a2, xGK a0 r1, xEQ r1, xFr r1, xGq r1, xHu r1, xIy r1, iY (r1.1 == 5), AbC 118 (xEi r1.2 a1) (xCa r2)] := by kernel_rfl
def xZv (a0 : Cur) (a1 : List Str) (a2 : Int) (r1 : Int × Cur) (r2 : Str × Cur) (r3 : Exp × Cur) (r4 : Exp × Cur) (r5 : Exp × Cur) (r6 : Exp) : rE I99 (xAA a0 a1 a2) [F, F, F, F, F, F, F, Y] [xAc r1, xAZ r2, xCa r3, xAi r4, xAV r5, xAJ r6] = dn (xAi (r6, r5.2)) [xGJ a2, xGK a0 r1, xEQ r1, xFr r1, xGq r1, xHu r1, xIy r1, iN (r1.1 == 5), iY (r1.1 == 6), AbC 64 (xCE r1.2 [[108, 101, 110], [115, 117, 109]]) (xAZ r2), AbC 118 (xEi r2.2 a1) (xCa r3), xI7 r3 a1 a2 r4, AbC 120 (xB6 r4.2 r3.1 r4.1) (xAV r5), AbC 119 (xB0 r2.1 [(Exp.re r5.1)]) (xAJ r6)] := by kernel_rfl
def xZw (a0 : Cur) (a1 : List Str) (a2 : Int) (r1 : Int × Cur) (r2 : Str × Cur) (r3 : Int × Cur) (r4 : Exp) (r5 : Exp × Cur) (r6 : Int × Cur) (r7 : Exp) (r8 : Int × Cur) (r9 r10 : Exp) (r11 : Exp × Cur) (r12 : Exp) : rE I99 (xAA a0 a1 a2) [F, F, F, F, F, F, F, F, Y] [xAc r1, xAZ r2, xAc r3, xBj r4, xCa r5, xAc r6, xBj r7, xAc r8, xBj r9, xAJ r10, xAV r11, xAJ r12] = dn (xAi (r12, r11.2)) [xGJ a2, xGK a0 r1, xEQ r1, xFr r1, xGq r1, xHu r1, xIy r1, iN (r1.1 == 5), iN (r1.1 == 6), iY (r1.1 == 7), AbC 64 (xCE r1.2 [[116, 97, 107, 101], [115, 107, 105, 112], [110, 116, 104], [116, 97, 107, 101]]) (xAZ r2), AbC 62 (xAB r2.2 4) (xAc r3), xH6 r3 r4, AbC 118 (xEi r3.2 a1) (xCa r5), AbC 62 (xAB r5.2 9) (xAc r6), xH6 r6 r7, AbC 62 (xAB r6.2 4) (xAc r8), xH6 r8 r9, AbC 119 (xB0 [114, 97, 110, 103, 101] [(Exp.re r7), (Exp.re r9)]) (xAJ r10), AbC 120 (xB6 r8.2 r5.1 r10) (xAV r11), AbC 119 (xB0 r2.1 [(Exp.re r4), (Exp.re r11.1)]) (xAJ r12)] := by kernel_rfl
def xZx (a0 : Cur) (a1 : List Str) (a2 : Int) (r1 : Int × Cur) (r2 : Exp × Cur) (r3 : Int × Cur) (r4 : Exp) (r5 : Exp × Cur) (r6 : Exp × Cur) (r7 : Exp × Cur) (r8 : Exp) : rE I99 (xAA a0 a1 a2) [F, F, F, F, F, F, F, F, F, Y] [xAc r1, xCI r2, xAc r3, xBj r4, xCD r5, xAi r6, xAV r7, xAJ r8] = dn (xAi (r8, r7.2)) [xGJ a2, xGK a0 r1, xEQ r1, xFr r1, xGq r1, xHu r1, xIy r1, iN (r1.1 == 5), iN (r1.1 == 6), iN (r1.1 == 7), iY (r1.1 == 8), AbC 121 (xD9 r1.2) (xCI r2), AbC 62 (xAB r2.2 3) (xAc r3), xH6 r3 r4, AbC 122 (xEt r3.2) (xCD r5), xI7 r5 a1 a2 r6, AbC 120 (xB6 r6.2 r5.1 r6.1) (xAV r7), AbC 119 (xB0 [119, 104, 101, 114, 101] [(Exp.re r2.1), (Exp.re r4), (Exp.re r7.1)]) (xAJ r8)] := by kernel_rfl
def xUA (a0 : Cur) (a1 : List Str) (a2 : Int) (r1 : Int × Cur) (r2 : Exp × Cur) (r3 : Exp × Cur) (r4 : Exp × Cur) (r5 : Exp × Cur) (r6 : Exp × Cur) (r7 : Exp) : rE I99 (xAA a0 a1 a2) [F, F, F, F, F, F, F, F, F, F, Y] [xAc r1, xCI r2, xCI r3, xCD r4, xAi r5, xAV r6, xAJ r7] = dn (xAi (r7, r6.2)) [xGJ a2, xGK a0 r1, xEQ r1, xFr r1, xGq r1, xHu r1, xIy r1, iN (r1.1 == 5), iN (r1.1 == 6), iN (r1.1 == 7), iN (r1.1 == 8), iY (r1.1 == 9), AbC 121 (xD9 r1.2) (xCI r2), AbC 121 (xD9 r2.2) (xCI r3), AbC 122 (xEt r3.2) (xCD r4), xI7 r4 a1 a2 r5, AbC 120 (xB6 r5.2 r4.1 r5.1) (xAV r6), AbC 119 (xB0 [103, 114, 111, 117, 112] [(Exp.re r2.1), (Exp.re r3.1), (Exp.re r6.1)]) (xAJ r7)] := by kernel_rfl
def xUB (a0 : Cur) (a1 : List Str) (a2 : Int) (r1 : Int × Cur) (r2 : Exp × Cur) (r3 : Exp × Cur) (r4 : Exp × Cur) (r5 : Exp) : rE I99 (xAA a0 a1 a2) [F, F, F, F, F, F, F, F, F, F, F, Y] [xAc r1, xCD r2, xAi r3, xAV r4, xAJ r5] = dn (xAi (r5, r4.2)) [xGJ a2, xGK a0 r1, xEQ r1, xFr r1, xGq r1, xHu r1, xIy r1, iN (r1.1 == 5), iN (r1.1 == 6), iN (r1.1 == 7), iN (r1.1 == 8), iN (r1.1 == 9), iY (r1.1 == 10), AbC 122 (xEt r1.2) (xCD r2), xI7 r2 a1 a2 r3, AbC 120 (xB6 r3.2 r2.1 r3.1) (xAV r4), AbC 119 (xB0 [114, 111, 119, 115] [(Exp.re r4.1)]) (xAJ r5)] := by kernel_rfl
def xUC (a0 : Cur) (a1 : List Str) (a2 : Int) (r1 : Int × Cur) (r2 : Int × Cur) (r3 r4 : Exp) : rE I99 (xAA a0 a1 a2) [F, F, F, F, F, F, F, F, F, F, F, F, Y] [xAc r1, xAc r2, xBj r3, xAJ r4] = dn (xAi (r4, r2.2)) [xGJ a2, xGK a0 r1, xEQ r1, xFr r1, xGq r1, xHu r1, xIy r1, iN (r1.1 == 5), iN (r1.1 == 6), iN (r1.1 == 7), iN (r1.1 == 8), iN (r1.1 == 9), iN (r1.1 == 10), iY (r1.1 == 11), AbC 62 (xAB r1.2 6) (xAc r2), AbC 67 (xFj (W (1 + r2.1))) (xBj r3), AbC 119 (xB0 [99, 104, 97, 110, 99, 101] [(Exp.re r3)]) (xAJ r4)] := by kernel_rfl
def xUD (a0 : Cur) (a1 : List Str) (a2 : Int) (r1 : Int × Cur) (r2 : Exp) (r3 : Str × Cur) (r4 : Exp) (r5 : Exp × Cur) : rE I99 (xAA a0 a1 a2) [F, F, F, F, F, F, F, F, F, F, F, F, F] [xAc r1, xAJ r2, xAZ r3, xAJ r4, xAV r5] = dn (xAi (r5.1, r5.2)) [xGJ a2, xGK a0 r1, xEQ r1, xFr r1, xGq r1, xHu r1, xIy r1, iN (r1.1 == 5), iN (r1.1 == 6), iN (r1.1 == 7), iN (r1.1 == 8), iN (r1.1 == 9), iN (r1.1 == 10), iN (r1.1 == 11), AbC 119 (xB0 [99, 108, 111, 99, 107] []) (xAJ r2), AbC 64 (xCE r1.2 [[102], [103], [104]]) (xAZ r3), AbC 119 (xB0 [102, 105, 108, 101] [(Exp.mk 2 0 r3.1 [])]) (xAJ r4), AbC 120 (xB6 r3.2 r2 r4) (xAV r5)] := by kernel_rfl
theorem vCf {N q0} (g0 : G99 q0) : ∀ a0 a1 a2 r, xDB N q0 a0 a1 a2 = some r → RE Tryz.f99 I99 (xAA a0 a1 a2) (xAi r) := fun a0 a1 a2 r h =>
 cE h (fun h0 h => bE h fun r1 h1 h => dE h fk99 (xZo a0 a1 a2 r1) (oc2 h0 (xGu h1) on)) fun h0 h =>
 bE h fun r1 h1 h => cE h (fun h2 h => bE h fun r2 h4 h => bE h fun r3 h5 h => bE h fun r4 h6 h => bE h fun r5 h7 h => dE h fk99 (xZp a0 a1 a2 r1 r2 r3 r4 r5) (oc8 h0 (xAh h1) h2 h2 (xAh h4) (g0 _ _ _ _ h5) (g0 _ _ _ _ h6) (xID h7) on)) fun h2 h =>
 cE h (fun h3 h => bE h fun r2 h4 h => bE h fun r3 h5 h => bE h fun r4 h6 h => bE h fun r5 h7 h => dE h fk99 (xZq a0 a1 a2 r1 r2 r3 r4 r5) (oc8 h0 (xAh h1) h2 h3 (xAh h4) (g0 _ _ _ _ h5) (g0 _ _ _ _ h6) (xID h7) on)) fun h3 h =>
 cE h (fun h4 h => iE h fun h5 h => bE h fun r2 h6 h => bE h fun r3 h7 h => iE h fun h8 h => bE h fun r4 h9 h => dE h fk99 (xZr a0 a1 a2 r1 r2 r3 r4) (oc10 h0 (xAh h1) h2 h3 h4 h5 (xDH h6) (g0 _ _ _ _ h7) h8 (g0 _ _ _ _ h9) on)) fun h4 h =>
 cE h (fun h5 h => bE h fun r2 h6 h => bE h fun r3 h7 h => bE h fun r4 h8 h => dE h fk99 (xZs a0 a1 a2 r1 r2 r3 r4) (oc9 h0 (xAh h1) h2 h3 h4 h5 (g0 _ _ _ _ h6) (g0 _ _ _ _ h7) (g0 _ _ _ _ h8) on)) fun h5 h =>
 cE h (fun h6 h => iE h fun h7 h => bE h fun r2 h8 h => bE h fun r3 h9 h => iE h fun h10 h => bE h fun r4 h11 h => dE h fk99 (xZt a0 a1 a2 r1 r2 r3 r4) (oc12 h0 (xAh h1) h2 h3 h4 h5 h6 h7 (xDH h8) (xGv h9) h10 (g0 _ _ _ _ h11) on)) fun h6 h =>
 cE h (fun h7 h => bE h fun r2 h8 h => dE h fk99 (xZu a0 a1 a2 r1 r2) (oc9 h0 (xAh h1) h2 h3 h4 h5 h6 h7 (xGv h8) on)) fun h7 h =>
 cE h (fun h8 h => bE h fun r2 h9 h => bE h fun r3 h10 h => bE h fun r4 h11 h => bE h fun r5 h12 h => bE h fun r6 h13 h => dE h fk99 (xZv a0 a1 a2 r1 r2 r3 r4 r5 r6) (oc12 h0 (xAh h1) h2 h3 h4 h5 h6 h7 h8 (xDH h9) (xGv h10) (g0 _ _ _ _ h11) (oc2 (xDP h12) (xCQ h13) on))) fun h8 h =>
 cE h (fun h9 h => bE h fun r2 h10 h => bE h fun r3 h11 h => bE h fun r4 h12 h => bE h fun r5 h13 h => bE h fun r6 h14 h => bE h fun r7 h15 h => bE h fun r8 h16 h => bE h fun r9 h17 h => bE h fun r10 h18 h => bE h fun r11 h19 h => bE h fun r12 h20 h => dE h fk99 (xZw a0 a1 a2 r1 r2 r3 r4 r5 r6 r7 r8 r9 r10 r11 r12) (oc12 h0 (xAh h1) h2 h3 h4 h5 h6 h7 h8 h9 (xDH h10) (xAh h11) (oc9 (xCC h12) (xGv h13) (xAh h14) (xCC h15) (xAh h16) (xCC h17) (xCQ h18) (xDP h19) (xCQ h20) on))) fun h9 h =>
 cE h (fun h10 h => bE h fun r2 h11 h => bE h fun r3 h12 h => bE h fun r4 h13 h => bE h fun r5 h14 h => bE h fun r6 h15 h => bE h fun r7 h16 h => bE h fun r8 h17 h => dE h fk99 (xZx a0 a1 a2 r1 r2 r3 r4 r5 r6 r7 r8) (oc12 h0 (xAh h1) h2 h3 h4 h5 h6 h7 h8 h9 h10 (xGM h11) (oc6 (xAh h12) (xCC h13) (xG9 h14) (g0 _ _ _ _ h15) (xDP h16) (xCQ h17) on))) fun h10 h =>
 cE h (fun h11 h => bE h fun r2 h12 h => bE h fun r3 h13 h => bE h fun r4 h14 h => bE h fun r5 h15 h => bE h fun r6 h16 h => bE h fun r7 h17 h => dE h fk99 (xUA a0 a1 a2 r1 r2 r3 r4 r5 r6 r7) (oc12 h0 (xAh h1) h2 h3 h4 h5 h6 h7 h8 h9 h10 h11 (oc6 (xGM h12) (xGM h13) (xG9 h14) (g0 _ _ _ _ h15) (xDP h16) (xCQ h17) on))) fun h11 h =>
 cE h (fun h12 h => bE h fun r2 h13 h => bE h fun r3 h14 h => bE h fun r4 h15 h => bE h fun r5 h16 h => dE h fk99 (xUB a0 a1 a2 r1 r2 r3 r4 r5) (oc12 h0 (xAh h1) h2 h3 h4 h5 h6 h7 h8 h9 h10 h11 (oc5 h12 (xG9 h13) (g0 _ _ _ _ h14) (xDP h15) (xCQ h16) on))) fun h12 h =>
 cE h (fun h13 h => bE h fun r2 h14 h => bE h fun r3 h15 h => bE h fun r4 h16 h => dE h fk99 (xUC a0 a1 a2 r1 r2 r3 r4) (oc12 h0 (xAh h1) h2 h3 h4 h5 h6 h7 h8 h9 h10 h11 (oc5 h12 h13 (xAh h14) (xCC h15) (xCQ h16) on))) fun h13 h =>
 bE h fun r2 h14 h => bE h fun r3 h15 h => bE h fun r4 h16 h => bE h fun r5 h17 h => dE h fk99 (xUD a0 a1 a2 r1 r2 r3 r4 r5) (oc12 h0 (xAh h1) h2 h3 h4 h5 h6 h7 h8 h9 h10 h11 (oc6 h12 h13 (xCQ h14) (xDH h15) (xCQ h16) (xDP h17) on))
theorem xJA {N q0} (g0 : G99 q0) {a0} {a1} {a2} {r} (h : xDB N q0 a0 a1 a2 = some r) : AbC 99 (xAA a0 a1 a2) (xAi r) :=
 AbsCalls.of_reach fk99 rfl rfl (Nat.le_of_ble_eq_true rfl) (vCf g0 a0 a1 a2 r h)
theorem xHA {N : Nat} : ∀ d, G99 (xC1 N d)
 | 0 => fun _ _ _ _ h => nE h
 | d + 1 => fun _ _ _ _ h => xJA (N := N) (xHA d) h
theorem xJj {N : Nat} {a0 : Cur} {a1 : List Str} {a2 : Int} {r : Exp × Cur} (h : xJi N a0 a1 a2 = some r) : AbC 99 (xAA a0 a1 a2) (xAi r) := xHA N _ _ _ r h
noncomputable def I61 : Info := { body := (Tryz.f61.body).getD .skip, nt := 17, results := [.cell 2 25], keep := [0, 4, 6, 24, 1, 5, 7], live := [], modes := [(1, [(1, .cp, true)]), (3, [(1, .cp, true)]), (4, [(0, .take, false)])], ext := [0], fcast := [(5, 3, false)] }
theorem fk61 : FnOk Tryz.prog 61 Tryz.f61 I61 := ⟨Tryz.func61, by kernel_rfl, by kernel_rfl, by kernel_rfl, by kernel_rfl⟩
def xXx (a0 : Cur) (r1 : Int × Cur) (r2 : Exp × Cur) (r3 : Bool) (r4 : Exp × Cur) : rE I61 (xFx a0) [Y] [xAc r1, xAi r2, xAz r3, xBM r4] = dn (xCz (r4.1, r4.2)) [AbC 62 (xAB a0 4) (xAc r1), AbC 99 (xAA r1.2 [[97], [98], [99]] (W (1 + r1.1))) (xAi r2), AbC 22 (xCv r2.1) (xAz r3), iY (!r3), AbC 63 (xCR r2.2 [[97], [98], [99]]) (xBM r4)] := by kernel_rfl
def xXy (a0 : Cur) (r1 : Int × Cur) (r2 : Exp × Cur) (r3 : Bool) : rE I61 (xFx a0) [F] [xAc r1, xAi r2, xAz r3] = dn (xCz (r2.1, r2.2)) [AbC 62 (xAB a0 4) (xAc r1), AbC 99 (xAA r1.2 [[97], [98], [99]] (W (1 + r1.1))) (xAi r2), AbC 22 (xCv r2.1) (xAz r3), iN (!r3)] := by kernel_rfl
theorem vBE {N : Nat} : ∀ a0 r, xHR N a0 = some r → RE Tryz.f61 I61 (xFx a0) (xCz r) := fun a0 r h =>
 bE h fun r1 h0 h => bE h fun r2 h1 h => bE h fun r3 h2 h => cE h (fun h3 h => bE h fun r4 h4 h => dE h fk61 (xXx a0 r1 r2 r3 r4) (oc5 (xAh h0) (xJj h1) (xBl h2) h3 (xGu h4) on)) fun h3 h =>
 dE h fk61 (xXy a0 r1 r2 r3) (oc4 (xAh h0) (xJj h1) (xBl h2) h3 on)
theorem xEU {N : Nat} {a0 : Cur} {r : Exp × Cur} (h : xHR N  a0 = some r) : AbC 61 (xFx a0) (xCz r) :=
 AbsCalls.of_reach fk61 rfl rfl (Nat.le_of_ble_eq_true rfl) (vBE a0 r h)
end Go.Ab.T
end
section
open Go.Proofs
namespace Go.Ab.T
set_option maxRecDepth 100000
variable [Inhabited Lb]
variable [Nonempty Tab10]
variable [Nonempty ErrVars]
def G24 (q : Exp → Exp → Option (Bool)) : Prop := ∀ a0 a1 r, q a0 a1 = some r → AbC 24 (xBr a0 a1) (xAM r)
noncomputable def I24 : Info := { body := (Tryz.f24.body).getD .skip, nt := 53, results := [.tmp 4], keep := [0, 2, 4, 6, 8, 10, 66, 72, 74, 76, 102, 5, 7], live := [(4, [4, 6, 72, 74, 5, 7])], modes := [(1, [(5, .take, false), (12, .take, false), (19, .take, false)]), (8, [(1, .take, false)])] }
theorem fk24 : FnOk Tryz.prog 24 Tryz.f24 I24 := ⟨Tryz.func24, by kernel_rfl, by kernel_rfl, by kernel_rfl, by kernel_rfl⟩
def xO4 (x36 x37 : Int) (b2 b3 : Exp) : St := [(4, .v false [.ptr 2 0]), (6, .v false [.ptr 3 0]), (72, .v false [.int .i64 x36]), (74, .v false [.int .i64 x37]), (5, .v true [.int .i64 (Exp.kind b2), .int .i64 (Exp.n b2), .str (Exp.text b2), .sl .ro .exp (Exp.args b2)]), (7, .v true [.int .i64 (Exp.kind b3), .int .i64 (Exp.n b3), .str (Exp.text b3), .sl .ro .exp (Exp.args b3)])]
def xVM (x36 x37 : Int) (b2 b3 : Exp) (r1 : Bool) : rS 4 I24 (xO4 x36 x37 b2 b3) [Y, Y] [xAM r1] = dn (xAM false) [xGp x37 x36, xKX x37 b2, xKX x37 b3, AbC 24 (xBr (xJb b2 x37) (xJb b3 x37)) (xAM r1), iY (!r1)] := by kernel_rfl
def xVN (x36 x37 : Int) (b2 b3 : Exp) (r1 : Bool) : rS 4 I24 (xO4 x36 x37 b2 b3) [Y, F] [xAM r1] = st 4 I24 (xO4 x36 (W (x37 + 1)) b2 b3) [xGp x37 x36, xKX x37 b2, xKX x37 b3, AbC 24 (xBr (xJb b2 x37) (xJb b3 x37)) (xAM r1), iN (!r1)] := by kernel_rfl
def xVO (x36 x37 : Int) (b2 b3 : Exp) : rS 4 I24 (xO4 x36 x37 b2 b3) [F] [] = dn (xAM true) [xH1 x37 x36] := by kernel_rfl
def xVP (a0 a1 : Exp) : rE I24 (xBr a0 a1) [Y, Y, Y, Y] [] = dn (xAM false) [iY ((Exp.kind a0) != (Exp.kind a1)), iY true, iY true, iY true] := by kernel_rfl
abbrev xMw (v0 v1 : Exp) : Prop := iN ((Exp.kind v0) != (Exp.kind v1))
def xVQ (a0 a1 : Exp) : rE I24 (xBr a0 a1) [F, Y, Y, Y] [] = dn (xAM false) [xMw a0 a1, iY ((Exp.n a0) != (Exp.n a1)), iY true, iY true] := by kernel_rfl
def xVR (a0 a1 : Exp) : rE I24 (xBr a0 a1) [F, F, Y, Y] [] = dn (xAM false) [xMw a0 a1, iN ((Exp.n a0) != (Exp.n a1)), iY (!(((Exp.text a0) : Str) == (Exp.text a1))), iY true] := by kernel_rfl
def xVS (a0 a1 : Exp) : rE I24 (xBr a0 a1) [F, F, F, Y] [] = dn (xAM false) [xMw a0 a1, iN ((Exp.n a0) != (Exp.n a1)), iN (!(((Exp.text a0) : Str) == (Exp.text a1))), iY ((xGr a0) != (xGr a1))] := by kernel_rfl
def xVT (a0 a1 : Exp) : rE I24 (xBr a0 a1) [F, F, F, F] [] = st 4 I24 (xO4 (xGr a0) 0 a0 a1) [xMw a0 a1, iN ((Exp.n a0) != (Exp.n a1)), iN (!(((Exp.text a0) : Str) == (Exp.text a1))), iN ((xGr a0) != (xGr a1))] := by kernel_rfl
theorem vA5 {N q0} (g0 : G24 q0) : ∀ n x36 x37 b2 b3 r, xD6 N q0 n x36 x37 b2 b3 = some r → RS Tryz.f24 I24 4 (xO4 x36 x37 b2 b3) (xAM r) := by
 intro n
 induction n with
 | zero => exact fun _ _ _ _ _ h => nE h
 | succ n ih =>
  exact fun x36 x37 b2 b3 r h =>
   cE h (fun h0 h => iE h fun h1 h => iE h fun h2 h => bE h fun r1 h3 h => cE h (fun h4 h => dS h fk24 (xVM x36 x37 b2 b3 r1) (oc5 h0 h1 h2 (g0 _ _ _ h3) h4 on)) fun h4 h =>
   tS fk24 (xVN x36 x37 b2 b3 r1) (oc5 h0 h1 h2 (g0 _ _ _ h3) h4 on) (ih _ _ _ _ _ h)) fun h0 h =>
   dS h fk24 (xVO x36 x37 b2 b3) (oc h0 on)
theorem vA6 {N q0} (g0 : G24 q0) : ∀ a0 a1 r, xEa N q0 a0 a1 = some r → RE Tryz.f24 I24 (xBr a0 a1) (xAM r) := fun a0 a1 r h =>
 cE h (fun h0 h => dE h fk24 (xVP a0 a1) (oc4 h0 rfl rfl rfl on)) fun h0 h =>
 cE h (fun h1 h => dE h fk24 (xVQ a0 a1) (oc4 h0 h1 rfl rfl on)) fun h1 h =>
 cE h (fun h2 h => dE h fk24 (xVR a0 a1) (oc4 h0 h1 h2 rfl on)) fun h2 h =>
 cE h (fun h3 h => dE h fk24 (xVS a0 a1) (oc4 h0 h1 h2 h3 on)) fun h3 h =>
 tE fk24 (xVT a0 a1) (oc4 h0 h1 h2 h3 on) (vA5 g0 _ _ _ _ _ _ h)
theorem xIL {N q0} (g0 : G24 q0) {a0} {a1} {r} (h : xEa N q0 a0 a1 = some r) : AbC 24 (xBr a0 a1) (xAM r) :=
 AbsCalls.of_reach fk24 rfl rfl (Nat.le_of_ble_eq_true rfl) (vA6 g0 a0 a1 r h)
theorem xGW {N : Nat} : ∀ d, G24 (xDL N d)
 | 0 => fun _ _ _ h => nE h
 | d + 1 => fun _ _ _ h => xIL (N := N) (xGW d) h
theorem xIc {N : Nat} {a0 : Exp} {a1 : Exp} {r : Bool} (h : xHW N a0 a1 = some r) : AbC 24 (xBr a0 a1) (xAM r) := xGW N _ _ r h
noncomputable def I65 : Info := { body := (Tryz.f65.body).getD .skip, nt := 12, results := [.tmp 4], keep := [0, 2, 8, 1], live := [], modes := [], ext := [0] }
theorem fk65 : FnOk Tryz.prog 65 Tryz.f65 I65 := ⟨Tryz.func65, by kernel_rfl, by kernel_rfl, by kernel_rfl, by kernel_rfl⟩
def xXH (a0 : Cur) (a1 : List Int) (r1 : Int × Cur) : rE I65 (xFO a0 a1) [] [xAc r1] = dn (xEZ ((gD a1 (tN r1.1) Ty.int.dflt), r1.2)) [AbC 62 (xAB a0 (Ln a1 : Int)) (xAc r1), (0 : Int) ≤ r1.1 ∧ r1.1 < (Ln a1)] := by kernel_rfl
theorem vBI {N : Nat} : ∀ a0 a1 r, xGU N a0 a1 = some r → RE Tryz.f65 I65 (xFO a0 a1) (xEZ r) := fun a0 a1 r h =>
 bE h fun r1 h0 h => iE h fun h1 h => dE h fk65 (xXH a0 a1 r1) (oc2 (xAh h0) h1 on)
theorem xKQ {N : Nat} {a0 : Cur} {a1 : List Int} {r : Int × Cur} (h : xGU N  a0 a1 = some r) : AbC 65 (xFO a0 a1) (xEZ r) :=
 AbsCalls.of_reach fk65 rfl rfl (Nat.le_of_ble_eq_true rfl) (vBI a0 a1 r h)
noncomputable def I36 : Info := { body := (Tryz.f36.body).getD .skip, nt := 47, results := [.cell 2 25], keep := [0, 4, 6, 8, 16, 18, 28, 48, 60, 72, 78, 1, 5, 7], live := [(13, [0, 4, 6, 8, 1, 5, 7])], modes := [(6, [(1, .take, false), (3, .cp, true), (6, .take, false)]), (8, [(1, .cp, true)]), (10, [(1, .cp, true)]), (15, [(0, .take, false), (3, .take, false)]), (16, [(0, .take, false)])], ext := [0] }
theorem fk36 : FnOk Tryz.prog 36 Tryz.f36 I36 := ⟨Tryz.func36, by kernel_rfl, by kernel_rfl, by kernel_rfl, by kernel_rfl⟩
def xMS (x4 : Int) (b0 : Cur) (b2 b3 : Exp) : St := [(0, .v false [.ptr 0 0]), (4, .v false [.ptr 2 0]), (6, .v false [.ptr 3 0]), (8, .v false [.int .i64 x4]), (1, .v true [.sl .ro .byte (Cur.b b0), .int .i64 (Cur.i b0), .int .i64 (Cur.h b0)]), (5, .v true [.int .i64 (Exp.kind b2), .int .i64 (Exp.n b2), .str (Exp.text b2), .sl .own .exp (Exp.args b2)]), (7, .v true [.int .i64 (Exp.kind b3), .int .i64 (Exp.n b3), .str (Exp.text b3), .sl .tip .exp (Exp.args b3)])]
def xTu (x4 : Int) (b0 : Cur) (b2 b3 r1 r2 : Exp) : rS 13 I36 (xMS x4 b0 b2 b3) [Y] [xBj r1, xDZ r2] = st 13 I36 (xMS (W (x4 + 1)) b0 b2 r2) [iY (dc (x4 < 7)), AbC 67 (xFj x4) (xBj r1), AbC 66 (xFK 1 b3 r1) (xDZ r2)] := by kernel_rfl
def xTv (x4 : Int) (b0 : Cur) (b2 b3 : Exp) : rS 13 I36 (xMS x4 b0 b2 b3) [F] [] = dn (xCy (b3, b0)) [iN (dc (x4 < 7))] := by kernel_rfl
abbrev xKF (v0 : Cur) (v1 : Exp × Cur) : Prop := AbC 61 (xFx v0) (xCz v1)
abbrev xKG (v0 : Exp × Cur) (v1 : Int × Cur) : Prop := AbC 62 (xAB v0.2 12) (xAc v1)
def xV8 (a0 : Cur) (r1 : Exp × Cur) (r2 : Int × Cur) (r3 : Int × Cur) : rE I36 (xDh a0) [Y] [xCz r1, xAc r2, xAc r3] = dn (xCy ((Exp.mk r3.1 (Exp.n r1.1) (Exp.text r1.1) (Exp.args r1.1)), r3.2)) [xKF a0 r1, xKG r1 r2, iY (r2.1 == 0), AbC 62 (xAB r2.2 11) (xAc r3)] := by kernel_rfl
def xV9 (a0 : Cur) (r1 : Exp × Cur) (r2 : Int × Cur) (r3 : Exp × Cur) : rE I36 (xDh a0) [F, Y] [xCz r1, xAc r2, xBM r3] = dn (xCy ((Exp.mk (Exp.kind r1.1) (Exp.n r1.1) (Exp.text r1.1) ((Exp.args r1.1) ++ [(Exp.re r3.1)])), r3.2)) [xKF a0 r1, xKG r1 r2, xEQ r2, iY (r2.1 == 1), AbC 63 (xCR r2.2 [[97]]) (xBM r3), Ln (Exp.args r1.1) + Ln [(Exp.re r3.1)] ≤ Lim] := by kernel_rfl
def xWa (a0 : Cur) (r1 : Exp × Cur) (r2 : Int × Cur) (r3 : Str × Cur) : rE I36 (xDh a0) [F, F, Y] [xCz r1, xAc r2, xAZ r3] = dn (xCy ((Exp.mk (Exp.kind r1.1) (Exp.n r1.1) r3.1 (Exp.args r1.1)), r3.2)) [xKF a0 r1, xKG r1 r2, xEQ r2, xFr r2, iY (r2.1 == 2), AbC 64 (xCE r2.2 [[108, 101, 116], [115, 117, 109], [], [120]]) (xAZ r3)] := by kernel_rfl
def xWb (a0 : Cur) (r1 : Exp × Cur) (r2 : Int × Cur) (r3 : Int × Cur) : rE I36 (xDh a0) [F, F, F, Y] [xCz r1, xAc r2, xEZ r3] = dn (xCy ((Exp.mk (Exp.kind r1.1) r3.1 (Exp.text r1.1) (Exp.args r1.1)), r3.2)) [xKF a0 r1, xKG r1 r2, xEQ r2, xFr r2, xGq r2, iY (r2.1 == 3), AbC 65 (xFO r2.2 [(-1), 7, 1000000001]) (xEZ r3)] := by kernel_rfl
def xWc (a0 : Cur) (r1 : Exp × Cur) (r2 : Int × Cur) : rE I36 (xDh a0) [F, F, F, F, Y] [xCz r1, xAc r2] = st 13 I36 (xMS 0 r2.2 (Exp.mk 0 0 [] []) r1.1) [xKF a0 r1, xKG r1 r2, xEQ r2, xFr r2, xGq r2, xHu r2, iY (r2.1 == 4)] := by kernel_rfl
def xWd (a0 : Cur) (r1 : Exp × Cur) (r2 : Int × Cur) : rE I36 (xDh a0) [F, F, F, F, F] [xCz r1, xAc r2] = dn (xCy (r1.1, r2.2)) [xKF a0 r1, xKG r1 r2, xEQ r2, xFr r2, xGq r2, xHu r2, xIy r2] := by kernel_rfl
theorem vAh {N : Nat} : ∀ n x4 b0 b2 b3 r, xDU N n x4 b0 b2 b3 = some r → RS Tryz.f36 I36 13 (xMS x4 b0 b2 b3) (xCy r) := by
 intro n
 induction n with
 | zero => exact fun _ _ _ _ _ h => nE h
 | succ n ih =>
  exact fun x4 b0 b2 b3 r h =>
   cE h (fun h0 h => bE h fun r1 h1 h => bE h fun r2 h2 h => tS fk36 (xTu x4 b0 b2 b3 r1 r2) (oc3 h0 (xCC h1) (xID h2) on) (ih _ _ _ _ _ h)) fun h0 h =>
   dS h fk36 (xTv x4 b0 b2 b3) (oc h0 on)
theorem vBb {N : Nat} : ∀ a0 r, xHQ N a0 = some r → RE Tryz.f36 I36 (xDh a0) (xCy r) := fun a0 r h =>
 bE h fun r1 h0 h => bE h fun r2 h1 h => cE h (fun h2 h => bE h fun r3 h3 h => dE h fk36 (xV8 a0 r1 r2 r3) (oc4 (xEU h0) (xAh h1) h2 (xAh h3) on)) fun h2 h =>
 cE h (fun h3 h => bE h fun r3 h4 h => iE h fun h5 h => dE h fk36 (xV9 a0 r1 r2 r3) (oc6 (xEU h0) (xAh h1) h2 h3 (xGu h4) h5 on)) fun h3 h =>
 cE h (fun h4 h => bE h fun r3 h5 h => dE h fk36 (xWa a0 r1 r2 r3) (oc6 (xEU h0) (xAh h1) h2 h3 h4 (xDH h5) on)) fun h4 h =>
 cE h (fun h5 h => bE h fun r3 h6 h => dE h fk36 (xWb a0 r1 r2 r3) (oc7 (xEU h0) (xAh h1) h2 h3 h4 h5 (xKQ h6) on)) fun h5 h =>
 cE h (fun h6 h => tE fk36 (xWc a0 r1 r2) (oc7 (xEU h0) (xAh h1) h2 h3 h4 h5 h6 on) (vAh _ _ _ _ _ _ h)) fun h6 h =>
 dE h fk36 (xWd a0 r1 r2) (oc7 (xEU h0) (xAh h1) h2 h3 h4 h5 h6 on)
theorem xLA {N : Nat} {a0 : Cur} {r : Exp × Cur} (h : xHQ N  a0 = some r) : AbC 36 (xDh a0) (xCy r) :=
 AbsCalls.of_reach fk36 rfl rfl (Nat.le_of_ble_eq_true rfl) (vBb a0 r h)
noncomputable def I19 : Info := { body := (Tryz.f19.body).getD .skip, nt := 6, results := [.cell 2 25], keep := [0, 4, 5, 9], live := [], modes := [] }
theorem fk19 : FnOk Tryz.prog 19 Tryz.f19 I19 := ⟨Tryz.func19, by kernel_rfl, by kernel_rfl, by kernel_rfl, by kernel_rfl⟩
def xVx (a0 : List Int) (r1 : Cur) (r2 : Exp × Cur) : rE I19 (xEl a0) [] [xFc r1, xCy r2] = dn (xAQ r2.1) [AbC 37 (xHg a0) (xFc r1), AbC 36 (xDh r1) (xCy r2)] := by kernel_rfl
theorem vAZ {N : Nat} : ∀ a0 r, xEf N a0 = some r → RE Tryz.f19 I19 (xEl a0) (xAQ r) := fun a0 r h =>
 bE h fun r1 h0 h => bE h fun r2 h1 h => dE h fk19 (xVx a0 r1 r2) (oc2 (xMN h0) (xLA h1) on)
theorem xBz {N : Nat} {a0 : List Int} {r : Exp} (h : xEf N  a0 = some r) : AbC 19 (xEl a0) (xAQ r) :=
 AbsCalls.of_reach fk19 rfl rfl (Nat.le_of_ble_eq_true rfl) (vAZ a0 r h)
noncomputable def I6 : Info := { body := (Tryz.f6.body).getD .skip, nt := 66, results := [.tmp 2], keep := [0, 4, 6, 8, 10, 12, 14, 20, 50, 64, 102, 7, 11], live := [], modes := [(5, [(4, .take, false)]), (7, [(2, .take, false)]), (9, [(2, .take, false)]), (10, [(2, .take, false)]), (11, [(3, .take, false), (4, .take, false)]), (13, [(2, .take, false), (7, .take, false)])] }
theorem fk6 : FnOk Tryz.prog 6 Tryz.f6 I6 := ⟨Tryz.func6, by kernel_rfl, by kernel_rfl, by kernel_rfl, by kernel_rfl⟩
abbrev xH7 (v0 : List Int) (v1 : Bool) : Prop := AbC 18 (xIu v0) (xDg v1)
def vAA (a0 : List Int) (r1 : Bool) : rE I6 (xBW a0) [Y] [xDg r1] = dn (xBX true) [xH7 a0 r1, iY r1] := by kernel_rfl
abbrev xIz (v0 : List Int) (v1 : Exp) : Prop := AbC 19 (xEl v0) (xAQ v1)
abbrev xIA (v0 : Exp) (v1 : Str) : Prop := AbC 20 (xEv v0) (xBb v1)
abbrev xIB (v0 : Exp) (v1 : Str) : Prop := AbC 21 (xEB v0) (xBc v1)
def vAB (a0 : List Int) (r1 : Bool) (r2 : Exp) (r3 r4 : Str) : rE I6 (xBW a0) [F, Y, Y] [xDg r1, xAQ r2, xBb r3, xBc r4] = dn (xBX false) [xH7 a0 r1, iN r1, xIz a0 r2, xIA r2 r3, xIB r2 r4, iY (!((r3 : Str) == r4)), iY true] := by kernel_rfl
def vAC (a0 : List Int) (r1 : Bool) (r2 : Exp) (r3 r4 : Str) (r5 : Bool) : rE I6 (xBW a0) [F, F, Y] [xDg r1, xAQ r2, xBb r3, xBc r4, xAz r5] = dn (xBX false) [xH7 a0 r1, iN r1, xIz a0 r2, xIA r2 r3, xIB r2 r4, xLO r3 r4, xH5 r2 r5, iY (!(((!((r3 : Str) == [])) : Bool) == r5))] := by kernel_rfl
abbrev xJW (v0 : Str) (v1 : Bool) : Prop := iN (!(((!((v0 : Str) == [])) : Bool) == v1))
def vAD (a0 : List Int) (r1 : Bool) (r2 : Exp) (r3 r4 : Str) (r5 : Bool) (r6 : Exp × Int) (r7 : Bool) : rE I6 (xBW a0) [F, F, F, Y, Y] [xDg r1, xAQ r2, xBb r3, xBc r4, xAz r5, xAD r6, xDe r7] = dn (xBX r7) [xH7 a0 r1, iN r1, xIz a0 r2, xIA r2 r3, xIB r2 r4, xLO r3 r4, xH5 r2 r5, xJW r3 r5, xI5 r3 r6, iY ((r3 : Str) == []), iY (dc (r6.2 ≥ 0)), AbC 10 (xEy r3) (xDe r7)] := by kernel_rfl
def vAE (a0 : List Int) (r1 : Bool) (r2 : Exp) (r3 r4 : Str) (r5 : Bool) (r6 : Exp × Int) : rE I6 (xBW a0) [F, F, F, Y, F] [xDg r1, xAQ r2, xBb r3, xBc r4, xAz r5, xAD r6] = dn (xBX false) [xH7 a0 r1, iN r1, xIz a0 r2, xIA r2 r3, xIB r2 r4, xLO r3 r4, xH5 r2 r5, xJW r3 r5, xI5 r3 r6, iY ((r3 : Str) == []), iN (dc (r6.2 ≥ 0))] := by kernel_rfl
abbrev xLr (v0 : Str) : Prop := iN ((v0 : Str) == [])
def vAF (a0 : List Int) (r1 : Bool) (r2 : Exp) (r3 r4 : Str) (r5 : Bool) (r6 : Exp × Int) (r7 : (List Tok) × Int) : rE I6 (xBW a0) [F, F, F, F, Y, Y] [xDg r1, xAQ r2, xBb r3, xBc r4, xAz r5, xAD r6, xA6 r7] = dn (xBX (dc (r6.2 ≥ 0))) [xH7 a0 r1, iN r1, xIz a0 r2, xIA r2 r3, xIB r2 r4, xLO r3 r4, xH5 r2 r5, xJW r3 r5, xI5 r3 r6, xLr r3, AbC 23 (xC0 r3) (xA6 r7), iY (xMD r3), iY true] := by kernel_rfl
def vAG (a0 : List Int) (r1 : Bool) (r2 : Exp) (r3 r4 : Str) (r5 : Bool) (r6 : Exp × Int) (r7 : (List Tok) × Int) : rE I6 (xBW a0) [F, F, F, F, F, Y] [xDg r1, xAQ r2, xBb r3, xBc r4, xAz r5, xAD r6, xA6 r7] = dn (xBX (dc (r6.2 ≥ 0))) [xH7 a0 r1, iN r1, xIz a0 r2, xIA r2 r3, xIB r2 r4, xLO r3 r4, xH5 r2 r5, xJW r3 r5, xI5 r3 r6, xLr r3, AbC 23 (xC0 r3) (xA6 r7), xL4 r3, iY ((xGL r7) == 0)] := by kernel_rfl
def vAH (a0 : List Int) (r1 : Bool) (r2 : Exp) (r3 r4 : Str) (r5 : Bool) (r6 : Exp × Int) (r7 : (List Tok) × Int) (r8 r9 : Bool) : rE I6 (xBW a0) [F, F, F, F, F, F, Y, Y] [xDg r1, xAQ r2, xBb r3, xBc r4, xAz r5, xAD r6, xA6 r7, xAM r8, xDe r9] = dn (xBX (!r9)) [xH7 a0 r1, iN r1, xIz a0 r2, xIA r2 r3, xIB r2 r4, xLO r3 r4, xH5 r2 r5, xJW r3 r5, xI5 r3 r6, xLr r3, AbC 23 (xC0 r3) (xA6 r7), xL4 r3, iN ((xGL r7) == 0), iY (r6.2 == (-1)), AbC 24 (xBr r6.1 r2) (xAM r8), iY r8, AbC 10 (xEy r3) (xDe r9)] := by kernel_rfl
def vAI (a0 : List Int) (r1 : Bool) (r2 : Exp) (r3 r4 : Str) (r5 : Bool) (r6 : Exp × Int) (r7 : (List Tok) × Int) (r8 : Bool) : rE I6 (xBW a0) [F, F, F, F, F, F, Y, F] [xDg r1, xAQ r2, xBb r3, xBc r4, xAz r5, xAD r6, xA6 r7, xAM r8] = dn (xBX false) [xH7 a0 r1, iN r1, xIz a0 r2, xIA r2 r3, xIB r2 r4, xLO r3 r4, xH5 r2 r5, xJW r3 r5, xI5 r3 r6, xLr r3, AbC 23 (xC0 r3) (xA6 r7), xL4 r3, iN ((xGL r7) == 0), iY (r6.2 == (-1)), AbC 24 (xBr r6.1 r2) (xAM r8), iN r8] := by kernel_rfl
def vAJ (a0 : List Int) (r1 : Bool) (r2 : Exp) (r3 r4 : Str) (r5 : Bool) (r6 : Exp × Int) (r7 : (List Tok) × Int) : rE I6 (xBW a0) [F, F, F, F, F, F, F, F] [xDg r1, xAQ r2, xBb r3, xBc r4, xAz r5, xAD r6, xA6 r7] = dn (xBX false) [xH7 a0 r1, iN r1, xIz a0 r2, xIA r2 r3, xIB r2 r4, xLO r3 r4, xH5 r2 r5, xJW r3 r5, xI5 r3 r6, xLr r3, AbC 23 (xC0 r3) (xA6 r7), xL4 r3, iN ((xGL r7) == 0), iN (r6.2 == (-1)), iN false] := by kernel_rfl
theorem c6_e {N : Nat} : ∀ a0 r, xGo N a0 = some r → RE Tryz.f6 I6 (xBW a0) (xBX r) := fun a0 r h =>
 bE h fun r1 h0 h => cE h (fun h1 h => dE h fk6 (vAA a0 r1) (oc2 (xEF h0) h1 on)) fun h1 h =>
 bE h fun r2 h2 h => bE h fun r3 h3 h => bE h fun r4 h4 h => cE h (fun h5 h => dE h fk6 (vAB a0 r1 r2 r3 r4) (oc7 (xEF h0) h1 (xBz h2) (xCk h3) (xCl h4) h5 rfl on)) fun h5 h =>
 bE h fun r5 h6 h => cE h (fun h7 h => dE h fk6 (vAC a0 r1 r2 r3 r4 r5) (oc8 (xEF h0) h1 (xBz h2) (xCk h3) (xCl h4) h5 (xBl h6) h7 on)) fun h7 h =>
 bE h fun r6 h8 h => cE h (fun h9 h => cE h (fun h10 h => bE h fun r7 h11 h => dE h fk6 (vAD a0 r1 r2 r3 r4 r5 r6 r7) (oc12 (xEF h0) h1 (xBz h2) (xCk h3) (xCl h4) h5 (xBl h6) h7 (xC7 h8) h9 h10 (xHK h11) on)) fun h10 h =>
 dE h fk6 (vAE a0 r1 r2 r3 r4 r5 r6) (oc11 (xEF h0) h1 (xBz h2) (xCk h3) (xCl h4) h5 (xBl h6) h7 (xC7 h8) h9 h10 on)) fun h9 h =>
 bE h fun r7 h10 h => cE h (fun h11 h => dE h fk6 (vAF a0 r1 r2 r3 r4 r5 r6 r7) (oc12 (xEF h0) h1 (xBz h2) (xCk h3) (xCl h4) h5 (xBl h6) h7 (xC7 h8) h9 (xFf h10) h11 (oc rfl on))) fun h11 h =>
 cE h (fun h12 h => dE h fk6 (vAG a0 r1 r2 r3 r4 r5 r6 r7) (oc12 (xEF h0) h1 (xBz h2) (xCk h3) (xCl h4) h5 (xBl h6) h7 (xC7 h8) h9 (xFf h10) h11 (oc h12 on))) fun h12 h =>
 cE h (fun h13 h => bE h fun r8 h14 h => cE h (fun h15 h => bE h fun r9 h16 h => dE h fk6 (vAH a0 r1 r2 r3 r4 r5 r6 r7 r8 r9) (oc12 (xEF h0) h1 (xBz h2) (xCk h3) (xCl h4) h5 (xBl h6) h7 (xC7 h8) h9 (xFf h10) h11 (oc5 h12 h13 (xIc h14) h15 (xHK h16) on))) fun h15 h =>
 dE h fk6 (vAI a0 r1 r2 r3 r4 r5 r6 r7 r8) (oc12 (xEF h0) h1 (xBz h2) (xCk h3) (xCl h4) h5 (xBl h6) h7 (xC7 h8) h9 (xFf h10) h11 (oc4 h12 h13 (xIc h14) h15 on))) fun h13 h =>
 dE h fk6 (vAJ a0 r1 r2 r3 r4 r5 r6 r7) (oc12 (xEF h0) h1 (xBz h2) (xCk h3) (xCl h4) h5 (xBl h6) h7 (xC7 h8) h9 (xFf h10) h11 (oc3 h12 h13 rfl on))
theorem laws_FnParsed_ok {N : Nat} {a0 : List Int} {r : Bool} (h : xGo N  a0 = some r) : AbC 6 (xBW a0) (xBX r) :=
 AbsCalls.of_reach fk6 rfl rfl (Nat.le_of_ble_eq_true rfl) (c6_e a0 r h)
end Go.Ab.T
end
section
namespace Go.Ab
def Big (p : Nat → Prop) : Prop := ∃ k, ∀ N, k ≤ N → p N
def Big2 (p : Nat → Nat → Prop) : Prop := ∃ k, ∀ N n, k ≤ N → k ≤ n → p N n
theorem Big.imp {p q : Nat → Prop} (h : Big p) (f : ∀ N, p N → q N) : Big q := h.elim fun k hk => ⟨k, fun N hN => f N (hk N hN)⟩
theorem Big2.imp {p q : Nat → Nat → Prop} (h : Big2 p) (f : ∀ N n, p N n → q N n) : Big2 q := h.elim fun k hk => ⟨k, fun N n h1 h2 => f N n (hk N n h1 h2)⟩
theorem Big.of {p : Nat → Prop} (h : ∀ N, p N) : Big p := ⟨0, fun N _ => h N⟩
theorem Big2.of {p : Nat → Nat → Prop} (h : ∀ N n, p N n) : Big2 p := ⟨0, fun N n _ _ => h N n⟩
theorem Big.and {p q : Nat → Prop} (h : Big p) (h' : Big q) : Big fun N => p N ∧ q N := by
 obtain ⟨a, ha⟩ := h; obtain ⟨b, hb⟩ := h'
 exact ⟨max a b, fun N hN => ⟨ha N (by omega), hb N (by omega)⟩⟩
theorem Big2.and {p q : Nat → Nat → Prop} (h : Big2 p) (h' : Big2 q) : Big2 fun N n => p N n ∧ q N n := by
 obtain ⟨a, ha⟩ := h; obtain ⟨b, hb⟩ := h'
 exact ⟨max a b, fun N n h1 h2 => ⟨ha N n (by omega) (by omega), hb N n (by omega) (by omega)⟩⟩
theorem Big.two {p : Nat → Prop} (h : Big p) : Big2 fun N _ => p N := h.elim fun k hk => ⟨k, fun N _ h _ => hk N h⟩
theorem Big2.diag {p : Nat → Nat → Prop} (h : Big2 p) : Big fun N => p N N := h.elim fun k hk => ⟨k, fun N h => hk N N h h⟩
theorem Big2.succ {p : Nat → Nat → Prop} (h : Big2 fun N n => p N (n + 1)) : Big2 p := by
 obtain ⟨k, hk⟩ := h
 refine ⟨k + 1, fun N n h1 h2 => ?_⟩
 obtain ⟨m, rfl⟩ : ∃ m, n = m + 1 := ⟨n - 1, by omega⟩
 exact hk N m (by omega) (by omega)
theorem Big2.list {α : Type} {p : α → Nat → Nat → Prop} {l : List α} (h : ∀ x ∈ l, Big2 (p x)) : Big2 fun N n => ∀ x ∈ l, p x N n := by
 induction l with
 | nil => exact .of fun N n x hx => by cases hx
 | cons a l ih =>
   refine ((h a List.mem_cons_self).and (ih fun x hx => h x (List.mem_cons_of_mem _ hx))).imp fun N n ⟨h1, h2⟩ x hx => ?_
   rcases List.mem_cons.1 hx with rfl | hx
   · exact h1
   · exact h2 x hx
theorem Big.get {p : Nat → Prop} (h : Big p) : ∃ N, p N := h.elim fun k hk => ⟨k, hk k (Nat.le_refl k)⟩
def I64 (x : Int) : Prop := -9223372036854775808 ≤ x ∧ x ≤ 9223372036854775807
theorem xNt (x : Int) : IntKind.i64.wrap x = if x % 18446744073709551616 ≥ 9223372036854775808 then x % 18446744073709551616 - 18446744073709551616 else x % 18446744073709551616 := by
 show (if (true && decide (x % 18446744073709551616 ≥ 9223372036854775808)) = true then x % 18446744073709551616 - 18446744073709551616 else x % 18446744073709551616) = _
 simp only [Bool.true_and, decide_eq_true_eq]
theorem xOp (x : Int) : IntKind.u8.wrap x = x % 256 := by
 show (if (false && decide (x % 256 ≥ 128)) = true then x % 256 - 256 else x % 256) = _
 simp
theorem xBh {x : Int} (h1 : -9223372036854775808 ≤ x) (h2 : x ≤ 9223372036854775807) : IntKind.i64.wrap x = x := by
 rw [xNt]
 split <;> omega
theorem xOo {x : Int} (h1 : 0 ≤ x) (h2 : x ≤ 255) : IntKind.u8.wrap x = x := by
 rw [xOp]
 omega
theorem xDu {α : Type} {xs : List α} {i : Nat} {x : α} {l : List α} (h : xs.drop i = x :: l) : i < xs.length ∧ xs[i]? = some x ∧ xs.drop (i + 1) = l := by
 have h1 : i < xs.length := by
  rcases Nat.lt_or_ge i xs.length with h1 | h1
  · exact h1
  · rw [List.drop_eq_nil_of_le h1] at h; cases h
 rw [List.drop_eq_getElem_cons h1] at h
 cases h
 exact ⟨h1, by simp [h1], rfl⟩
theorem xHI {α : Type} {xs : List α} {i : Nat} (h : xs.drop i = []) : xs.length ≤ i := by simpa using h
end Go.Ab
end
section
namespace Go.Ab
inductive DK (K : Nat) : D → Prop where
 | int {k n} (h : (Lit.int k n).wf = true) : DK K (.int k n)
 | bool (b) : DK K (.bool b)
 | str {s : Str} (h : s.length ≤ K) : DK K (.str s)
 | sl {sz rows} (h : rows.length ≤ K) (hr : ∀ r ∈ rows, ∀ x ∈ r, DK K x) : DK K (.sl sz rows)
theorem DK.mono {K M : Nat} (hKM : K ≤ M) {d : D} (h : DK K d) : DK M d := by
 induction h with
 | int h => exact .int h
 | bool b => exact .bool b
 | str h => exact .str (by omega)
 | sl h _ ih => exact .sl (by omega) ih
theorem xUX {n : Int} : (Lit.int .i64 n).wf = true ↔ I64 n := by
 show (decide (_ ≤ n) && decide (n ≤ _)) = true ↔ _
 rw [Bool.and_eq_true, decide_eq_true_eq, decide_eq_true_eq]
 exact Iff.rfl
theorem DK.i64 {K : Nat} {n : Int} : DK K (.int .i64 n) ↔ I64 n := ⟨fun h => by cases h with | int h => exact xUX.1 h, fun h => .int (xUX.2 h)⟩
theorem DK.str_iff {K : Nat} {s : Str} : DK K (.str s) ↔ s.length ≤ K := ⟨fun h => by cases h; assumption, .str⟩
theorem DK.sl_iff {K sz : Nat} {α : Type} {f : α → List D} {xs : List α} : DK K (.sl sz (xs.map f)) ↔ xs.length ≤ K ∧ ∀ x ∈ xs, ∀ d ∈ f x, DK K d := by
 constructor
 · intro h
   cases h with
   | sl h hr => exact ⟨by simpa using h, fun x hx => hr _ (List.mem_map_of_mem hx)⟩
 · rintro ⟨h, hr⟩
   refine .sl (by simpa using h) fun r hr' => ?_
   obtain ⟨x, hx, rfl⟩ := List.mem_map.1 hr'
   exact hr x hx
def LFit {α : Type} (K : Nat) (p : α → Prop) (l : List α) : Prop := l.length ≤ K ∧ ∀ x ∈ l, p x
def Ty.Fit (K : Nat) (T : Ty) (x : T.den) : Prop := ∀ d ∈ T.toD x, DK K d
def Org.Fit (o : Org) : Prop := I64 o.cell ∧ I64 o.row
def Rowd.Fit (K : Nat) (r : Rowd) : Prop := LFit K I64 r.cells ∧ LFit K Org.Fit r.frm
def Str.Fit (K : Nat) (s : Str) : Prop := s.length ≤ K
def Exp.Fit (K : Nat) (v : Exp) : Prop := ∀ d ∈ Exp.toD v, DK K d
def Fil.Fit (K : Nat) (v : Fil) : Prop := Str.Fit K v.name ∧ I64 v.n
def Tok.Fit (K : Nat) (v : Tok) : Prop := I64 v.kind ∧ I64 v.n ∧ I64 v.pos ∧ Str.Fit K v.text
theorem vAT {K : Nat} {r : Rowd} : (∀ d ∈ Rowd.toD r, DK K d) ↔ r.Fit K := by
 simp only [Rowd.toD, List.mem_cons, List.not_mem_nil, or_false, forall_eq_or_imp, forall_eq, DK.sl_iff, DK.i64, Rowd.Fit, LFit, Org.Fit]
theorem vCh {K : Nat} {r : Fil} : Ty.Fit K .fil r ↔ r.Fit K := by
 simp only [Ty.Fit, Ty.toD, List.mem_cons, List.not_mem_nil, or_false, forall_eq_or_imp, forall_eq, DK.str_iff, DK.i64, Fil.Fit, Str.Fit]
theorem Exp.fit_iff {K : Nat} {v : Exp} : v.Fit K ↔ I64 v.kind ∧ I64 v.n ∧ Str.Fit K v.text ∧ LFit K (Exp.Fit K) v.args := by
 cases v
 simp only [Exp.Fit, Exp.toD, Exp.toDs_eq, List.mem_cons, List.not_mem_nil, or_false, forall_eq_or_imp, forall_eq, DK.sl_iff, DK.i64, DK.str_iff, Str.Fit, LFit, Exp.kind, Exp.n, Exp.text, Exp.args]
theorem xLz {l : List Exp} {x : Exp} (h : x ∈ l) (k n : Int) (t : Str) : SizeOf.sizeOf x < SizeOf.sizeOf (Exp.mk k n t l) := by
 have := List.sizeOf_lt_of_mem h
 simp only [Exp.mk.sizeOf_spec]
 omega
theorem Exp.ind {p : Exp → Prop} (h : ∀ k n t l, (∀ x ∈ l, p x) → p (.mk k n t l)) : ∀ v, p v
 | .mk k n t l => h k n t l fun x hx => Exp.ind h x
termination_by v => SizeOf.sizeOf v
decreasing_by exact xLz hx k n t
end Go.Ab
end
section
namespace Go.Ab
theorem xF8 {α σ ρ : Type} {L : Nat → Int → σ → Option ρ} (x0 : List α) (g : List α → σ → ρ) (Inv : Nat → σ → Prop)
 (hnil : ∀ n s, Inv x0.length s → L (n + 1) (x0.length : Nat) s = some (g [] s))
 (hcons : ∀ i x l s, x0.drop i = x :: l → i < x0.length → x0[i]? = some x → Inv i s →
   (∃ s', Inv (i + 1) s' ∧ g (x :: l) s = g l s' ∧ ∀ n, L (n + 1) (i : Nat) s = L n ((i + 1 : Nat) : Int) s') ∨ (∀ n, L (n + 1) (i : Nat) s = some (g (x :: l) s))) :
 ∀ n i s, Inv i s → i ≤ x0.length → x0.length < n + i → L n (i : Nat) s = some (g (x0.drop i) s) := by
 intro n
 induction n with
 | zero => intro i s _ h1 h2; omega
 | succ n ih =>
   intro i s hs hi hn
   cases hd : x0.drop i with
   | nil =>
     have := xHI hd
     obtain rfl : i = x0.length := by omega
     exact hnil n s hs
   | cons x l =>
     obtain ⟨h1, h2, h3⟩ := xDu hd
     rcases hcons i x l s hd h1 h2 hs with ⟨s', h4, h5, h6⟩ | h
     · rw [h6, ih (i + 1) s' h4 (by omega) (by omega), h3, h5]
     · exact h n
theorem xCh {α : Type} {xs : List α} {i : Nat} {x : α} (h : xs[i]? = some x) (d : α) : xs.getD i d = x := by simp [List.getD, h]
theorem xBo {i : Nat} {len : Nat} (h : i < len) (hl : len ≤ 9223372036854775807) : IntKind.i64.wrap ((i : Int) + 1) = ((i + 1 : Nat) : Int) := by
 rw [xBh (by omega) (by omega)]; omega
def left (s : Nat) (l : Int) : Int := if (s : Int) ≤ l then l - s else -1
theorem xMh {s : Nat} {l : Int} (h : (s : Int) ≤ l) : left s l = l - s := by unfold left; rw [if_pos h]
theorem xLc {s : Nat} {l : Int} (h : ¬ (s : Int) ≤ l) : left s l = -1 := by unfold left; rw [if_neg h]
section
variable {α : Type} {d : α}
theorem vAl {L : Nat → Int → Option Bool} {x0 : List α} (hend : ∀ n, L (n + 1) (x0.length : Nat) = some true)
 (hcons : ∀ (i : Nat) x n, i < x0.length → x0[i]? = some x → x ∈ x0 → L (n + 1) (i : Nat) = L n ((i + 1 : Nat) : Int)) {n : Nat} (hn : x0.length < n) : L n 0 = some true := by
 have key := xF8 (σ := Unit) (L := fun n i _ => L n i) x0 (fun _ _ => true) (fun _ _ => True) (fun n _ _ => hend n)
  (fun i x r s hd hi hx _ => .inl ⟨(), trivial, rfl, fun n => hcons i x n hi hx (List.mem_of_getElem? hx)⟩) n 0 () trivial (by omega) (by omega)
 exact key
end
end Go.Ab
end
section
namespace Go.Ab
theorem vk (a b c : Int) (t : Str) (l : List Val) (k : List Str) (r : List Rowd) : (Val.mk a b c t l k r).kind = a := rfl
theorem vs (a b c : Int) (t : Str) (l : List Val) (k : List Str) (r : List Rowd) : (Val.mk a b c t l k r).step = c := rfl
theorem vl (a b c : Int) (t : Str) (l : List Val) (k : List Str) (r : List Rowd) : (Val.mk a b c t l k r).list = l := rfl
theorem ek (a b : Int) (t : Str) (l : List Exp) : (Exp.mk a b t l).kind = a := rfl
theorem en (a b : Int) (t : Str) (l : List Exp) : (Exp.mk a b t l).n = b := rfl
theorem et (a b : Int) (t : Str) (l : List Exp) : (Exp.mk a b t l).text = t := rfl
theorem ea (a b : Int) (t : Str) (l : List Exp) : (Exp.mk a b t l).args = l := rfl
mutual
def Exp.size : Exp → Nat
 | .mk _ _ t a => t.length + (a.length + Exp.sizes a)
def Exp.sizes : List Exp → Nat
 | [] => 0
 | x :: r => Exp.size x + Exp.sizes r
end
theorem Exp.sizes_eq (l : List Exp) : Exp.sizes l = (l.map Exp.size).sum := by
 induction l with
 | nil => rfl
 | cons x l ih => simp [Exp.sizes, ih]
theorem xOW {α : Type} {f : α → Nat} {l : List α} {x : α} (h : x ∈ l) : f x ≤ (l.map f).sum := by
 induction l with
 | nil => cases h
 | cons a l ih =>
   simp only [List.map_cons, List.sum_cons]
   rcases List.mem_cons.1 h with rfl | h
   · omega
   · have := ih h; omega
theorem Exp.size_eq (e : Exp) : e.size = e.text.length + (e.args.length + (e.args.map Exp.size).sum) := by
 cases e; simp [Exp.size, Exp.sizes_eq, Exp.text, Exp.args]
theorem xKS (n : Nat) : Big fun N => n < N := ⟨n + 1, fun N h => by omega⟩
end Go.Ab
end
section
namespace Go.Ab
def xIv (c : UInt8) : Bool := decide ((c.toNat : Int) ≥ 97) && decide ((c.toNat : Int) ≤ 122)
def xJ7 (c : UInt8) : Bool := decide ((c.toNat : Int) ≥ 48) && decide ((c.toNat : Int) ≤ 57)
def xG2 : List UInt8 → Bool → Bool
 | [], _ => true
 | x :: r, f => (xIv x || (!f && xJ7 x)) && xG2 r false
theorem xLF {N : Nat} {s : Str} (hl : s.length ≤ 9223372036854775807) (hn : s.length < N) : xHU N s = some (xG2 s true && decide ((s.length : Int) > 0)) :=
 xF8 (L := fun n i _ => xCU N n s i) s (fun l f => xG2 l f && decide ((s.length : Int) > 0)) (fun i f => f = (i == 0)) (fun n _ _ => by simp [xCU, xG2])
  (fun i x l f hd hi hx hf => by
    have hi' : (i : Int) < (s.length : Int) := by omega
    have hi0 : ((i : Int) == 0) = f := by rw [hf]; cases i <;> simp <;> omega
    by_cases h1 : (xIv x || (!f && xJ7 x)) = true
    · refine .inl ⟨false, by simp, by simp [xG2, h1], fun n => ?_⟩
      simp only [xCU, decide_eq_true hi', jT, Int.toNat_natCast, xCh hx, xBo hi hl, hi0]
      rw [if_pos (by omega)]
      unfold xIv xJ7 at h1
      by_cases c1 : (x.toNat : Int) ≥ 97 <;> by_cases c2 : (x.toNat : Int) ≤ 122 <;> by_cases c3 : (x.toNat : Int) ≥ 48 <;> by_cases c4 : (x.toNat : Int) ≤ 57 <;> cases f <;>
       simp only [c1, c2, c3, c4, decide_true, decide_false, jT, jF, Bool.not_true, Bool.not_false, Bool.and_true, Bool.and_false, Bool.or_true, Bool.or_false, Bool.false_and, Bool.true_and, Bool.false_or, Bool.false_eq_true] at h1 ⊢
    · refine .inr fun n => ?_
      have h1 := Bool.eq_false_iff.2 h1
      simp only [xCU, decide_eq_true hi', jT, Int.toNat_natCast, xCh hx, xBo hi hl, hi0, xG2, h1, Bool.false_and]
      rw [if_pos (by omega)]
      unfold xIv xJ7 at h1
      by_cases c1 : (x.toNat : Int) ≥ 97 <;> by_cases c2 : (x.toNat : Int) ≤ 122 <;> by_cases c3 : (x.toNat : Int) ≥ 48 <;> by_cases c4 : (x.toNat : Int) ≤ 57 <;> cases f <;>
       simp only [c1, c2, c3, c4, decide_true, decide_false, jT, jF, Bool.not_true, Bool.not_false, Bool.and_true, Bool.and_false, Bool.or_true, Bool.or_false, Bool.false_and, Bool.true_and, Bool.false_or, Bool.true_eq_false] at h1 ⊢) N 0 true rfl (by omega) (by omega)
theorem xJH (N : Nat) (a b c : Int) : xFq N a b c = some (decide (b ≤ a) && decide (a ≤ c)) := by
 unfold xFq
 cases h : decide (b ≤ a) <;> simp
theorem xNp (N : Nat) (a b c : Int) : xHB N a b c = some (decide (b ≤ a) && decide (a ≤ c)) := by
 unfold xHB
 cases h : decide (b ≤ a)
 · rfl
 · rfl
theorem xLM {N : Nat} {s : Str} (hl : s.length ≤ 9223372036854775807) (hn : s.length < N) : xIq N s = some (xG2 s true && (decide ((1 : Int) ≤ s.length) && decide ((s.length : Int) ≤ 8))) :=
 xF8 (L := fun n i _ => xDE N n s i) s (fun l f => xG2 l f && (decide ((1 : Int) ≤ s.length) && decide ((s.length : Int) ≤ 8))) (fun i f => f = (i == 0)) (fun n _ _ => by simp [xDE, xG2, xJH])
  (fun i x l f hd hi hx hf => by
    have hi' : (i : Int) < (s.length : Int) := by omega
    have hi0 : ((i : Int) == 0) = f := by rw [hf]; cases i <;> simp <;> omega
    have e1 : decide ((x.toNat : Int) < 48) = !decide ((x.toNat : Int) ≥ 48) := by by_cases c : (x.toNat : Int) ≥ 48 <;> simp [c] <;> omega
    have e2 : decide ((x.toNat : Int) > 57) = !decide ((x.toNat : Int) ≤ 57) := by by_cases c : (x.toNat : Int) ≤ 57 <;> simp [c] <;> omega
    by_cases h1 : (xIv x || (!f && xJ7 x)) = true
    · refine .inl ⟨false, by simp, by simp [xG2, h1], fun n => ?_⟩
      simp only [xDE, decide_eq_true hi', jT, Int.toNat_natCast, xCh hx, xBo hi hl, hi0, e1, e2]
      rw [if_pos (by omega)]
      unfold xIv xJ7 at h1
      by_cases c1 : (x.toNat : Int) ≥ 97 <;> by_cases c2 : (x.toNat : Int) ≤ 122 <;> by_cases c3 : (x.toNat : Int) ≥ 48 <;> by_cases c4 : (x.toNat : Int) ≤ 57 <;> cases f <;>
       simp only [c1, c2, c3, c4, decide_true, decide_false, jT, jF, Bool.not_true, Bool.not_false, Bool.and_true, Bool.and_false, Bool.or_true, Bool.or_false, Bool.false_and, Bool.true_and, Bool.false_or, Bool.false_eq_true] at h1 ⊢
    · refine .inr fun n => ?_
      have h1 := Bool.eq_false_iff.2 h1
      simp only [xDE, decide_eq_true hi', jT, Int.toNat_natCast, xCh hx, xBo hi hl, hi0, e1, e2, xG2, h1, Bool.false_and]
      rw [if_pos (by omega)]
      unfold xIv xJ7 at h1
      by_cases c1 : (x.toNat : Int) ≥ 97 <;> by_cases c2 : (x.toNat : Int) ≤ 122 <;> by_cases c3 : (x.toNat : Int) ≥ 48 <;> by_cases c4 : (x.toNat : Int) ≤ 57 <;> cases f <;>
       simp only [c1, c2, c3, c4, decide_true, decide_false, jT, jF, Bool.not_true, Bool.not_false, Bool.and_true, Bool.and_false, Bool.or_true, Bool.or_false, Bool.false_and, Bool.true_and, Bool.false_or, Bool.true_eq_false] at h1 ⊢) N 0 true rfl (by omega) (by omega)
def xIh : List Str := [[108, 101, 116], [105, 110], [105, 102], [116, 104, 101, 110], [101, 108, 115, 101], [102, 111, 114], [100, 111], [108, 101, 110], [115, 117, 109], [116, 97, 107, 101], [115, 107, 105, 112], [114, 97, 110, 103, 101], [110, 116, 104], [119, 104, 101, 114, 101], [107, 101, 101, 112], [97, 100, 100], [103, 114, 111, 117, 112], [106, 111, 105, 110], [99, 111, 108, 117, 109, 110], [114, 111, 119, 115], [99, 108, 111, 99, 107], [99, 104, 97, 110, 99, 101], [102, 105, 108, 101], [116, 97, 98, 108, 101]]
theorem xMK {N : Nat} {xs : List Str} {s : Str} (hl : xs.length ≤ 9223372036854775807) (hn : xs.length < N) : xJu N xs s = some (xs.any (· == s)) :=
 xF8 (σ := Unit) (L := fun n i _ => xFa N n xs s i) xs (fun l _ => l.any (· == s)) (fun _ _ => True) (fun n _ _ => by simp [xFa])
  (fun i x l _ hd hi hx _ => by
    have hi' : (i : Int) < (xs.length : Int) := by omega
    cases h1 : x == s
    · refine .inl ⟨(), trivial, by simp [h1], fun n => ?_⟩
      simp only [xFa, decide_eq_true hi', jT, Int.toNat_natCast, xCh hx, h1, jF, xBo hi hl]
      rw [if_pos (by omega)]
    · refine .inr fun n => ?_
      simp only [xFa, decide_eq_true hi', jT, Int.toNat_natCast, xCh hx, h1]
      rw [if_pos (by omega)]
      simp [h1]) N 0 () trivial (by omega) (by omega)
def xJt (s : Str) : Bool := xIh.any (· == s)
theorem xKl {N : Nat} {s : Str} (hn : 24 < N) : xFu N s = some (xJt s) := by
 unfold xFu xGy
 rw [jS, show ([[108, 101, 116], [105, 110], [105, 102], [116, 104, 101, 110], [101, 108, 115, 101], [102, 111, 114], [100, 111], [108, 101, 110], [115, 117, 109], [116, 97, 107, 101], [115, 107, 105, 112], [114, 97, 110, 103, 101], [110, 116, 104], [119, 104, 101, 114, 101], [107, 101, 101, 112], [97, 100, 100], [103, 114, 111, 117, 112], [106, 111, 105, 110], [99, 111, 108, 117, 109, 110], [114, 111, 119, 115], [99, 108, 111, 99, 107], [99, 104, 97, 110, 99, 101], [102, 105, 108, 101], [116, 97, 98, 108, 101]] : List Str) = xIh from rfl, xMK (by decide) hn]
 rfl
theorem xKa (N : Nat) (s : Str) : xFp N s = some (xJt s) := by
 by_cases h : s ∈ xIh
 · have h' : xJt s = true := List.any_eq_true.2 ⟨s, h, by simp⟩
   rw [h']
   simp only [xIh, List.mem_cons, List.not_mem_nil, or_false] at h
   rcases h with h | h | h | h | h | h | h | h | h | h | h | h | h | h | h | h | h | h | h | h | h | h | h | h <;> subst h <;> rfl
 · have h' : xJt s = false := by
    unfold xJt
    rw [List.any_eq_false]
    intro x hx hxs
    exact h (by rw [← eq_of_beq hxs]; exact hx)
   rw [h']
   have hne : ∀ x ∈ xIh, (s == x) = false := by
    intro x hx
    cases hb : s == x
    · rfl
    · exact absurd (by rw [eq_of_beq hb]; exact hx) h
   simp only [xIh, List.mem_cons, List.not_mem_nil, or_false, forall_eq_or_imp, forall_eq] at hne
   simp only [xFp, xCM, hne, jF, jS]
   rfl
def xB1 (s : Str) : Bool := xG2 s true && (decide ((1 : Int) ≤ s.length) && decide ((s.length : Int) ≤ 8)) && !xJt s
theorem xF9 {N : Nat} {s : Str} (hl : s.length ≤ 9223372036854775807) (hn : s.length < N) : xCW N s = some (xB1 s) := by
 unfold xCW xB1
 rw [xLM hl hn, jS]
 cases (xG2 s true && (decide ((1 : Int) ≤ s.length) && decide ((s.length : Int) ≤ 8)))
 · rfl
 · rw [xKa]; rfl
theorem xGc {N : Nat} {s : Str} (hl : s.length ≤ 9223372036854775807) (hn : s.length < N) (hn2 : 24 < N) : xCZ N s = some (xB1 s) := by
 unfold xCZ xB1
 rw [xLF hl hn, jS, xKl hn2]
 have : decide ((s.length : Int) > 0) = decide ((1 : Int) ≤ s.length) := by by_cases c : (s.length : Int) > 0 <;> simp [c] <;> omega
 rw [this]
 cases xG2 s true <;> cases decide ((1 : Int) ≤ s.length) <;> cases decide ((s.length : Int) ≤ 8) <;> rfl
end Go.Ab
end
section
namespace Go.Ab
theorem xPd (N : Nat) (e : Exp) : xGg N e = xFv N e := rfl
end Go.Ab
end
section
namespace Go.Ab
def allI {α : Type} (p : Nat → α → Bool) : List α → Nat → Bool
 | [], _ => true
 | x :: r, i => p i x && allI p r (i + 1)
theorem xU0 {α : Type} {L : Nat → Int → Option Bool} {x0 : List α} {p : Nat → α → Bool} {e : Option Bool} (hend : ∀ n, L (n + 1) (x0.length : Nat) = e)
 (hcons : ∀ (i : Nat) x n, i < x0.length → x0[i]? = some x → x ∈ x0 → L (n + 1) (i : Nat) = bif p i x then L n ((i + 1 : Nat) : Int) else some false) {n : Nat} (hn : x0.length < n) :
 L n 0 = bif allI p x0 0 then e else some false := by
 have key : ∀ (m i : Nat), i ≤ x0.length → x0.length < m + i → L m (i : Nat) = bif allI p (x0.drop i) i then e else some false := by
  intro m
  induction m with
  | zero => intro i h1 h2; omega
  | succ m ih =>
    intro i h1 h2
    cases hd : x0.drop i with
    | nil =>
      have := xHI hd
      obtain rfl : i = x0.length := by omega
      rw [hend]; rfl
    | cons x l =>
      obtain ⟨g1, g2, g3⟩ := xDu hd
      rw [hcons i x m g1 g2 (List.mem_of_getElem? g2), ih (i + 1) (by omega) (by omega), g3]
      simp only [allI]
      cases p i x <;> rfl
 exact key n 0 (by omega) (by omega)
def xUP (c : UInt8) : Bool := !(decide ((c.toNat : Int) < 32)) && (!(decide ((c.toNat : Int) > 126)) && !((c.toNat : Int) == 34))
def xHe (s : Str) : Bool := allI (fun _ => xUP) s 0 && decide ((s.length : Int) ≤ 20)
theorem xU1 {a b : Bool} : (bif a then some b else some false) = some (a && b) := by cases a <;> rfl
theorem xGe {N : Nat} {s : Str} (hl : s.length ≤ 9223372036854775807) (hn : s.length < N) : xEp N s = some (xHe s) := by
 rw [xHe, ← xU1]
 exact xU0 (L := fun n i => xCx N n s i) (fun n => by simp [xCx]) (fun i x n hi hx hm => by
  have hi' : (i : Int) < (s.length : Int) := by omega
  simp only [xCx, decide_eq_true hi', jT, Int.toNat_natCast, xCh hx, xBo hi hl, xUP]
  rw [if_pos (by omega)]
  cases decide ((x.toNat : Int) < 32) <;> cases decide ((x.toNat : Int) > 126) <;> cases ((x.toNat : Int) == 34) <;> rfl) hn
theorem xIM (N n : Nat) (s : Str) (i : Int) : xEb N n s i = xCx N n s i := by
 induction n generalizing i with
 | zero => rfl
 | succ n ih => simp only [xEb, xCx, ih]
theorem xHn {N : Nat} {s : Str} (hl : s.length ≤ 9223372036854775807) (hn : s.length < N) : xCX N s = some (xHe s) := (xIM N N s 0).trans (xGe hl hn)
end Go.Ab
end
section
namespace Go.Ab
theorem Big2.up {p : Nat → Nat → Prop} (h : Big2 p) : Big2 fun N d => p N (d + 1) := h.elim fun k hk => ⟨k, fun N d h1 h2 => hk N (d + 1) h1 (by omega)⟩
end Go.Ab
end
section
namespace Go.Ab
def kb : List Val → List Int → Bool
 | [], _ => false
 | _ :: _, [] => false
 | x :: r, k :: ks => (x.kind != k) || kb r ks
end Go.Ab
end
section
namespace Go.Ab
def pick (k : Int) (n : Int) (rs : List Rowd) : List Rowd := rs.filter fun r => r.cells.getD k.toNat Ty.int.dflt == n
end Go.Ab
end
section
namespace Go.Ab
def dd (n : Nat) : Str := if n = 0 then [] else Lib.decDigits n
theorem xNx {n : Nat} (h : n ≠ 0) : dd n = dd (n / 10) ++ [UInt8.ofNat (48 + n % 10)] := by
 unfold dd
 rw [if_neg h]
 by_cases h1 : n < 10
 · rw [Lib.decDigits, dif_pos h1, if_pos (by omega), Nat.mod_eq_of_lt h1]; rfl
 · rw [Lib.decDigits, dif_neg h1, if_neg (by omega)]
theorem xNG {n : Int} (h : n ≠ 0) : Lib.itoa n = (bif decide (n < 0) then [45] else []) ++ dd n.natAbs := by
 have h2 : ¬ n.natAbs = 0 := by omega
 unfold Lib.itoa dd
 by_cases h1 : n < 0
 · rw [if_pos h1, decide_eq_true h1, if_neg h2]; rfl
 · rw [if_neg h1, decide_eq_false h1, if_neg h2, show n.toNat = n.natAbs from by omega]; rfl
theorem xUR : ∀ (k n : Nat), n < 10 ^ k → (dd n).length ≤ k := by
 intro k
 induction k with
 | zero => intro n h; have : n = 0 := by simpa using h
           subst this; exact Nat.le_refl _
 | succ k ih =>
   intro n h
   by_cases h0 : n = 0
   · subst h0; exact Nat.zero_le _
   · rw [xNx h0, jA]
     have := ih (n / 10) (by rw [Nat.pow_succ] at h; omega)
     simp only [jC, jN]; omega
theorem xRD {n : Int} (h : -9223372036854775808 ≤ n ∧ n ≤ 9223372036854775807) : (Lib.itoa n).length ≤ 21 := by
 by_cases h0 : n = 0
 · subst h0
   show (Lib.decDigits 0).length ≤ 21
   rw [Lib.decDigits, dif_pos (by omega)]; simp
 · rw [xNG h0, jA]
   have := xUR 20 n.natAbs (by have : (10 : Nat) ^ 20 = 100000000000000000000 := by decide
                               omega)
   cases decide (n < 0) <;> simp <;> omega
theorem xLV (s : Str) : List.map (fun n => UInt8.ofNat (Int.toNat n)) (List.map (fun c : UInt8 => (c.toNat : Int)) s) = s := by
 rw [List.map_map]
 have : ((fun n => UInt8.ofNat (Int.toNat n)) ∘ fun c : UInt8 => (c.toNat : Int)) = id := by
  funext c
  simp
 rw [this, List.map_id]
theorem xMf : ∀ (xs : List Str) (sep : Str), (Lib.join xs sep).length ≤ (xs.map List.length).sum + sep.length * xs.length := by
 intro xs sep
 cases xs with
 | nil => simp [Lib.join, List.intercalate]
 | cons x r =>
   rw [Lib.join_cons, jA, Lib.joinTail_length]
   simp only [Lib.lens, List.map_cons, List.sum_cons, jC, Nat.mul_add, Nat.mul_one]
   have e : (List.map (fun x => List.length x) r) = List.map List.length r := rfl
   rw [e]; omega
mutual
def Exp.cnt : Exp → Nat
 | .mk _ _ _ a => 1 + Exp.cnts a
def Exp.cnts : List Exp → Nat
 | [] => 0
 | x :: r => Exp.cnt x + Exp.cnts r
end
theorem Exp.cnts_eq (l : List Exp) : Exp.cnts l = (l.map Exp.cnt).sum := by
 induction l with
 | nil => rfl
 | cons x l ih => simp only [Exp.cnts, List.map_cons, List.sum_cons, ih]
theorem Exp.cnt_eq (e : Exp) : e.cnt = 1 + (e.args.map Exp.cnt).sum := by
 cases e; simp only [Exp.cnt, Exp.cnts_eq, Exp.args]
mutual
def Exp.nest : Exp → Nat
 | .mk _ _ _ a => Exp.nests a + 1
def Exp.nests : List Exp → Nat
 | [] => 0
 | x :: r => max (Exp.nest x) (Exp.nests r)
end
theorem Exp.nest_eq (e : Exp) : e.nest = Exp.nests e.args + 1 := by cases e; rfl
theorem xOm {f g : Exp → Nat} : ∀ {a : List Exp}, (∀ x ∈ a, f x ≤ g x + 1) → (a.map f).sum ≤ a.length + (a.map g).sum
 | [], _ => Nat.le_refl _
 | x :: l, ih => by
   have h1 := ih x List.mem_cons_self
   have h2 := xOm fun y hy => ih y (List.mem_cons_of_mem _ hy)
   simp only [List.map_cons, List.sum_cons, jC]; omega
theorem Exp.cnt_le : ∀ e : Exp, e.cnt ≤ e.size + 1 := by
 refine Exp.ind fun k n t a ih => ?_
 rw [Exp.cnt_eq, Exp.size_eq]
 have := xOm ih
 show 1 + (a.map Exp.cnt).sum ≤ t.length + (a.length + (a.map Exp.size).sum) + 1
 omega
theorem xOz : ∀ {a : List Exp}, (∀ x ∈ a, x.nest ≤ x.cnt) → Exp.nests a ≤ (a.map Exp.cnt).sum
 | [], _ => Nat.le_refl _
 | x :: l, ih => by
   have h1 := ih x List.mem_cons_self
   have h2 := xOz fun y hy => ih y (List.mem_cons_of_mem _ hy)
   simp only [Exp.nests, List.map_cons, List.sum_cons]; omega
theorem Exp.nest_le : ∀ e : Exp, e.nest ≤ e.cnt := by
 refine Exp.ind fun k n t a ih => ?_
 rw [Exp.nest_eq, Exp.cnt_eq]
 have := xOz ih
 show Exp.nests a + 1 ≤ 1 + (a.map Exp.cnt).sum
 omega
def xJX (n : Int) : Str := bif n == 1 then [43] else bif n == 2 then [45] else bif n == 3 then [42] else bif n == 4 then [60] else [61, 61]
def lvl (e : Exp) : Int := bif e.kind == 7 then 0 else bif e.kind == 8 then 0 else bif e.kind == 9 then 0 else bif e.kind == 6 then (bif e.n == 4 then 1 else bif e.n == 5 then 1 else bif e.n == 1 then 2 else bif e.n == 2 then 2 else bif e.n == 3 then 3 else 4) else 4
def encl (l : Int) (x : Exp) (s : Str) : Str := bif decide (lvl x < l) then [40] ++ s ++ [41] else s
def xHH (k n : Int) (t : Str) (a : List Exp) (s : List Str) : Str :=
 bif k == 1 then Lib.itoa n else bif k == 2 then [34] ++ t ++ [34] else bif k == 3 then t else bif k == 4 then [91] ++ Lib.join s [44, 32] ++ [93]
 else bif k == 5 then t ++ [40] ++ Lib.join s [44, 32] ++ [41]
 else bif k == 7 then [108, 101, 116, 32] ++ t ++ [32, 61, 32] ++ s.getD 0 [] ++ [32, 105, 110, 32] ++ s.getD 1 []
 else bif k == 9 then [102, 111, 114, 32] ++ t ++ [32, 105, 110, 32] ++ s.getD 0 [] ++ [32, 100, 111, 32] ++ s.getD 1 []
 else bif k == 8 then [105, 102, 32] ++ s.getD 0 [] ++ [32, 116, 104, 101, 110, 32] ++ s.getD 1 [] ++ [32, 101, 108, 115, 101, 32] ++ s.getD 2 []
 else encl (bif lvl (.mk k n t a) == 1 then 2 else lvl (.mk k n t a)) (a.getD 0 Ty.exp.dflt) (s.getD 0 []) ++ [32] ++ xJX n ++ [32] ++ encl (lvl (.mk k n t a) + 1) (a.getD 1 Ty.exp.dflt) (s.getD 1 [])
mutual
def srcE : Exp → Str
 | .mk k n t a => xHH k n t a (xUJ a)
def xUJ : List Exp → List Str
 | [] => []
 | x :: r => srcE x :: xUJ r
end
theorem xUK (l : List Exp) : xUJ l = l.map srcE := by
 induction l with
 | nil => rfl
 | cons x l ih => simp only [xUJ, List.map_cons, ih]
theorem xOl (k n : Int) (t : Str) (a : List Exp) : srcE (.mk k n t a) = xHH k n t a (a.map srcE) := by
 simp only [srcE, xUK]
def xFe (vT vN : Str → Bool) (ac : Str → Int) (k n : Int) (t : Str) (l : Nat) : Bool :=
 bif k == 1 then (decide (0 ≤ n) && decide (n ≤ 1000000000)) && ((t == []) && (l == 0))
 else bif k == 2 then (n == 0) && (vT t && (l == 0))
 else bif k == 3 then (n == 0) && (vN t && (l == 0))
 else bif k == 4 then (n == 0) && ((t == []) && decide (l ≤ 8))
 else bif k == 5 then (n == 0) && ((l : Int) == ac t)
 else bif k == 6 then (decide (1 ≤ n) && decide (n ≤ 5)) && ((t == []) && (l == 2))
 else bif k == 7 then (n == 0) && (vN t && (l == 2))
 else bif k == 9 then (n == 0) && (vN t && (l == 2))
 else bif k == 8 then (n == 0) && ((t == []) && (l == 3)) else false
end Go.Ab
end
section
namespace Go.Ab
theorem xJ2 {N : Nat} : ∀ (k n : Nat) (x : Int) (b : Bool) (q : Str), x.natAbs < 10 ^ k → k < n → k + q.length ≤ 1000 → (-9223372036854775808 ≤ x ∧ x ≤ 9223372036854775807) →
 xCb N n x b q = some ((bif b then [45] else []) ++ (dd x.natAbs ++ q)) := by
 intro k
 induction k with
 | zero =>
   intro n x b q hx hn hq hi
   obtain ⟨n, rfl⟩ : ∃ m, n = m + 1 := ⟨n - 1, by omega⟩
   have : x = 0 := by have : x.natAbs < 1 := by simpa using hx
                      omega
   subst this
   simp only [xCb, show ((0 : Int) != 0) = false from rfl, jF]
   cases b
   · rfl
   · simp only [jT]
     rw [if_pos (by simp only [jC, jN]; unfold Lim; omega)]; rfl
 | succ k ih =>
   intro n x b q hx hn hq hi
   obtain ⟨n, rfl⟩ : ∃ m, n = m + 1 := ⟨n - 1, by omega⟩
   by_cases h0 : x = 0
   · subst h0
     simp only [xCb, show ((0 : Int) != 0) = false from rfl, jF]
     cases b
     · rfl
     · simp only [jT]
       rw [if_pos (by simp only [jC, jN]; unfold Lim; omega)]; rfl
   · have hne : (x != 0) = true := by simpa using h0
     have hn0 : x.natAbs ≠ 0 := by omega
     have hd : (Int.tdiv x 10).natAbs = x.natAbs / 10 := by rw [Int.natAbs_tdiv]; rfl
     have hm : (Int.tmod x 10).natAbs = x.natAbs % 10 := by rw [Int.natAbs_tmod]; rfl
     have hdi : -9223372036854775808 ≤ Int.tdiv x 10 ∧ Int.tdiv x 10 ≤ 9223372036854775807 := by omega
     have hb : (Int.tdiv x 10).natAbs < 10 ^ k := by rw [hd]; rw [Nat.pow_succ] at hx; omega
     have hw : IntKind.i64.wrap (Int.tdiv x 10) = Int.tdiv x 10 := xBh (by omega) (by omega)
     have fin : ∀ c : Int, c = ((48 + x.natAbs % 10 : Nat) : Int) → xCb N n (Int.tdiv x 10) b ((List.map (fun n => UInt8.ofNat (Int.toNat n)) [c]) ++ q) = some ((bif b then [45] else []) ++ (dd x.natAbs ++ q)) := by
      intro c hc
      rw [ih n _ b _ hb (by omega) (by simp only [jA, List.length_map, jC, jN]; omega) hdi, hd, xNx hn0, hc]
      simp only [List.map_cons, List.map_nil, Int.toNat_natCast, List.append_assoc, List.cons_append, List.nil_append]
     have hlim : ∀ c : Int, List.length (List.map (fun n => UInt8.ofNat (Int.toNat n)) [c]) + List.length q ≤ Lim := fun c => by
      simp only [List.length_map, jC, jN]; unfold Lim; omega
     by_cases hneg : Int.tmod x 10 < 0
     · have e1 : IntKind.i64.wrap (0 - Int.tmod x 10) = 0 - Int.tmod x 10 := xBh (by omega) (by omega)
       have e2 : IntKind.i64.wrap (48 + (0 - Int.tmod x 10)) = 48 + (0 - Int.tmod x 10) := xBh (by omega) (by omega)
       have e3 : IntKind.u8.wrap (48 + (0 - Int.tmod x 10)) = 48 + (0 - Int.tmod x 10) := xOo (by omega) (by omega)
       simp only [xCb, hne, jT, decide_eq_true hneg, e1, e2, e3, hw]
       rw [if_pos (hlim _)]
       exact fin _ (by omega)
     · have e2 : IntKind.i64.wrap (48 + Int.tmod x 10) = 48 + Int.tmod x 10 := xBh (by omega) (by omega)
       have e3 : IntKind.u8.wrap (48 + Int.tmod x 10) = 48 + Int.tmod x 10 := xOo (by omega) (by omega)
       simp only [xCb, hne, jT, decide_eq_false hneg, jF, e2, e3, hw]
       rw [if_pos (hlim _)]
       exact fin _ (by omega)
theorem xIj {N : Nat} {x : Int} (hN : 100 < N) (hi : -9223372036854775808 ≤ x ∧ x ≤ 9223372036854775807) : xEG N x = some (Lib.itoa x) := by
 unfold xEG
 by_cases h0 : x = 0
 · subst h0
   simp only [beq_self_eq_true, jT]
   show some [48] = some (Lib.decDigits 0)
   rw [Lib.decDigits, dif_pos (by omega)]; rfl
 · have e20 : x.natAbs < 10 ^ 20 := by
    have : (10 : Nat) ^ 20 = 100000000000000000000 := by decide
    omega
   rw [show (x == 0) = false from beq_eq_false_iff_ne.2 h0, jF, xJ2 20 N x _ [] e20 (by omega) (by simp) hi, xNG h0, List.append_nil]
theorem xKs {N : Nat} {x : Int} (hi : -9223372036854775808 ≤ x ∧ x ≤ 9223372036854775807) : xFW N x = some (Lib.itoa x) := by
 unfold xFW strconv_Itoa zIj
 rw [if_pos hi.1, if_pos hi.2]; rfl
theorem xM3 {N : Nat} {xs : List Str} {sep : Str} (h1 : xs.length ≤ 100000000000) (h2 : (xs.map List.length).sum + sep.length * xs.length ≤ 100000000000) : xIT N xs sep = some (Lib.join xs sep) := by
 have := xMf xs sep
 unfold xIT strings_Join zIk
 rw [if_pos (by omega), if_pos (by omega)]; rfl
theorem xNn {N : Nat} {xs : List Str} {sep : Str} (h1 : xs.length ≤ 100000000000) (h2 : (xs.map List.length).sum + sep.length * xs.length ≤ 100000000000) (hN : xs.length < N) : xJg N xs sep = some (Lib.join xs sep) := by
 have key : ∀ (n i : Nat) (q : List Int), 0 < i → i ≤ xs.length → xs.length < n + i → q.length + (((xs.drop i).map List.length).sum + sep.length * (xs.drop i).length) ≤ 100000000000 →
  xD3 N n xs sep q (i : Nat) = some (List.map (fun n => UInt8.ofNat (Int.toNat n)) q ++ Lib.joinTail sep (xs.drop i)) := by
  intro n
  induction n with
  | zero => intro i q _ h1 h2; omega
  | succ n ih =>
    intro i q hp hi hn hl
    cases hd : xs.drop i with
    | nil =>
      have hi2 : i = xs.length := by have := xHI hd; omega
      subst hi2
      simp only [xD3, Int.lt_irrefl, decide_false, jF, Lib.joinTail, List.map_nil, List.flatten_nil, List.append_nil]
    | cons x l =>
      obtain ⟨e1, e2, e3⟩ := xDu hd
      rw [hd] at hl
      simp only [List.map_cons, List.sum_cons, jC, Nat.mul_add, Nat.mul_one] at hl
      have hi' : (i : Int) < (xs.length : Int) := by omega
      have hp' : (i : Int) > 0 := by omega
      have := ih (i + 1) ((q ++ List.map (fun c => (c.toNat : Int)) sep) ++ List.map (fun c => (c.toNat : Int)) x) (by omega) (by omega) (by omega) (by rw [e3]; simp only [jA, List.length_map]; omega)
      rw [e3] at this
      simp only [xD3, decide_eq_true hi', decide_eq_true hp', jT, Int.toNat_natCast, xCh e2, xBo e1 (by omega : xs.length ≤ _), this]
      rw [if_pos (by unfold Lim; omega), if_pos (by omega), if_pos (by simp only [jA, List.length_map]; unfold Lim; omega)]
      simp only [List.map_append, xLV, Lib.joinTail, List.map_cons, List.flatten_cons, List.append_assoc]
 obtain ⟨n, rfl⟩ : ∃ m, N = m + 1 := ⟨N - 1, by omega⟩
 cases xs with
 | nil => simp [xJg, xD3, Lib.join, List.intercalate]
 | cons x l =>
   have := key n 1 (List.map (fun c => (c.toNat : Int)) x) (by omega) (by simp only [jC]; omega) (by simp only [jC] at hN ⊢; omega) (by
    simp only [List.drop_succ_cons, List.drop_zero, List.length_map]
    simp only [List.map_cons, List.sum_cons, jC, Nat.mul_add, Nat.mul_one] at h2; omega)
   simp only [List.map_cons, List.sum_cons, jC, Nat.mul_add, Nat.mul_one] at h2 h1
   have hi' : ((0 : Nat) : Int) < (((x :: l).length : Nat) : Int) := by simp only [jC]; omega
   have hp' : ¬ ((0 : Nat) : Int) > 0 := by omega
   show xD3 (n + 1) (n + 1) (x :: l) sep [] ((0 : Nat) : Int) = _
   simp only [xD3, decide_eq_true hi', decide_eq_false hp', jT, jF, Int.toNat_natCast, List.getD_cons_zero, xBo (show 0 < (x :: l).length by simp) (by simp only [jC]; omega : (x :: l).length ≤ _), List.nil_append]
   rw [if_pos (by simp only [jC]; omega), if_pos (by simp only [jN]; unfold Lim; omega)]
   rw [this, xLV, Lib.join_cons]; rfl
theorem xZL {α : Type} {b : Bool} {x y : Option α} (h1 : ∃ r, x = some r) (h2 : ∃ r, y = some r) : ∃ r, (bif b then x else y) = some r := by cases b <;> assumption
theorem xDX {α : Type} {b : Bool} {x y : Option α} {p q : α} (h1 : x = some p) (h2 : y = some q) : (bif b then x else y) = some (bif b then p else q) := by cases b <;> assumption
def argc (s : Str) : Int := (xBL 0 s).getD 0
theorem xEA (N : Nat) (s : Str) : xBL N s = some (argc s) := by
 have key : ∃ r, xBL 0 s = some r := by
  unfold xBL
  repeat (first | exact ⟨_, rfl⟩ | refine xZL ⟨_, rfl⟩ ?_)
 obtain ⟨r, hr⟩ := key
 show xBL 0 s = _
 rw [argc, hr]; rfl
theorem xGV (N : Nat) (s : Str) : xCM N s = some (argc s) := (show xCM N s = xBL N s from rfl).trans (xEA N s)
def xM7 (e : Exp) : Bool := xFe xHe xB1 argc e.kind e.n e.text e.args.length
theorem vAv (l : Nat) : ((l : Int) == 0) = (l == 0) := by
 rcases Nat.eq_zero_or_pos l with rfl | h
 · rfl
 · rw [beq_eq_false_iff_ne.2 (by omega : l ≠ 0), beq_eq_false_iff_ne.2 (by omega : (l : Int) ≠ 0)]
theorem vAw (l : Nat) : ((l : Int) == 2) = (l == 2) := by
 rcases Decidable.em (l = 2) with rfl | h
 · rfl
 · rw [beq_eq_false_iff_ne.2 h, beq_eq_false_iff_ne.2 (by omega : (l : Int) ≠ 2)]
theorem vAx (l : Nat) : ((l : Int) == 3) = (l == 3) := by
 rcases Decidable.em (l = 3) with rfl | h
 · rfl
 · rw [beq_eq_false_iff_ne.2 h, beq_eq_false_iff_ne.2 (by omega : (l : Int) ≠ 3)]
theorem vAy (l : Nat) : decide ((l : Int) ≤ 8) = decide (l ≤ 8) := by
 rcases Decidable.em (l ≤ 8) with h | h
 · rw [decide_eq_true h, decide_eq_true (by omega : (l : Int) ≤ 8)]
 · rw [decide_eq_false h, decide_eq_false (by omega : ¬ (l : Int) ≤ 8)]
theorem xLK {N : Nat} {e : Exp} (ht : e.text.length ≤ 9223372036854775807) (hn : e.text.length < N) : xHo N e = some (xM7 e) := by
 simp only [xHo, xM7, xFe, xJH, xHn ht hn, xF9 (N := N) ht hn, xGV, jS, vAv, vAw, vAx, vAy]
 refine xDX ?_ (xDX ?_ (xDX ?_ (xDX ?_ (xDX ?_ (xDX ?_ (xDX ?_ (xDX ?_ (xDX ?_ rfl)))))))) <;>
  first
  | rfl
  | (cases (decide ((0 : Int) ≤ e.n) && decide (e.n ≤ 1000000000)) <;> cases (e.text == []) <;> rfl)
  | (cases (decide ((1 : Int) ≤ e.n) && decide (e.n ≤ 5)) <;> cases (e.text == []) <;> rfl)
  | (cases (e.n == 0) <;> cases (e.text == []) <;> rfl)
  | (cases (e.n == 0) <;> cases (xHe e.text) <;> rfl)
  | (cases (e.n == 0) <;> cases (xB1 e.text) <;> rfl)
theorem xLC {N : Nat} {e : Exp} (ht : e.text.length ≤ 9223372036854775807) (hn : e.text.length < N) (h24 : 24 < N) : xG4 N e = some (xM7 e) := by
 simp only [xG4, xM7, xFe, xNp, xGe ht hn, xGc (N := N) (s := e.text) ht hn h24, xEA, jS, vAv, vAw, vAx, vAy]
 refine xDX ?_ (xDX ?_ (xDX ?_ (xDX ?_ (xDX ?_ (xDX ?_ (xDX ?_ (xDX ?_ (xDX ?_ rfl)))))))) <;>
  first
  | rfl
  | (cases (e.args.length == 0) <;> cases (e.text == []) <;> cases (decide ((0 : Int) ≤ e.n) && decide (e.n ≤ 1000000000)) <;> rfl)
  | (cases (e.args.length == 0) <;> cases (e.n == 0) <;> cases (xHe e.text) <;> rfl)
  | (cases (e.args.length == 0) <;> cases (e.n == 0) <;> cases (xB1 e.text) <;> rfl)
  | (cases (e.n == 0) <;> cases (e.text == []) <;> rfl)
  | (cases (e.args.length == 2) <;> cases (e.text == []) <;> cases (decide ((1 : Int) ≤ e.n) && decide (e.n ≤ 5)) <;> rfl)
  | (cases (e.args.length == 2) <;> cases (e.n == 0) <;> cases (xB1 e.text) <;> rfl)
  | (cases (e.args.length == 3) <;> cases (e.n == 0) <;> cases (e.text == []) <;> rfl)
mutual
def okE : Exp → Bool
 | .mk k n t a => okEs a && xM7 (.mk k n t a)
def okEs : List Exp → Bool
 | [] => true
 | x :: r => okE x && okEs r
end
theorem xVj (l : List Exp) : okEs l = l.all okE := by
 induction l with
 | nil => rfl
 | cons x l ih => simp only [okEs, List.all_cons, ih]
theorem xNb (e : Exp) : okE e = (e.args.all okE && xM7 e) := by
 cases e; simp only [okE, xVj]; rfl
theorem xZJ {K : Nat} (hK : K ≤ 1048576) : ∀ e : Exp, e.Fit K → Big2 fun N d => xEO N d e = some (okE e) ∧ xFw N d e = some (okE e) := by
 refine Exp.ind fun k n t a ih h => ?_
 obtain ⟨h1, h2, h3, h4⟩ := Exp.fit_iff.1 h
 refine Big2.succ ?_
 refine ((Big2.list fun x hx => ih x hx (h4.2 x hx)).and (xKS (K + 30)).two).imp fun N d ⟨hx, hn⟩ => ?_
 have hl : a.length ≤ K := h4.1
 have ht : (Exp.mk k n t a).text.length ≤ K := h3
 rw [xNb]
 refine ⟨?_, ?_⟩
 · exact xF8 (σ := Unit) (L := fun m i _ => xDR N (xEO N d) m a a.length i (.mk k n t a)) a (fun l _ => l.all okE && xM7 (.mk k n t a)) (fun _ _ => True) (fun m _ _ => by simp [xDR, xLK (N := N) (e := .mk k n t a) (by omega) (by omega)])
    (fun i x l _ hd hi hxi _ => by
      have hi' : (i : Int) < (a.length : Int) := by omega
      have hm := List.mem_of_getElem? hxi
      cases ho : okE x
      · refine .inr fun m => ?_
        simp only [xDR, decide_eq_true hi', jT, Int.toNat_natCast, xCh hxi, (hx x hm).1, ho, jS, Bool.not_false, List.all_cons, Bool.false_and]
        rw [if_pos (by omega)]
      · refine .inl ⟨(), trivial, by simp [ho], fun m => ?_⟩
        simp only [xDR, decide_eq_true hi', jT, Int.toNat_natCast, xCh hxi, (hx x hm).1, ho, jS, Bool.not_true, jF, xBo hi (by omega : a.length ≤ _)]
        rw [if_pos (by omega)]) N 0 () trivial (by omega) (by omega)
 · exact xF8 (σ := Unit) (L := fun m i _ => xEH N (xFw N d) m i (.mk k n t a)) a (fun l _ => l.all okE && xM7 (.mk k n t a)) (fun _ _ => True) (fun m _ _ => by simp [xEH, ea, xLC (N := N) (e := .mk k n t a) (by omega) (by omega) (by omega)])
    (fun i x l _ hd hi hxi _ => by
      have hi' : (i : Int) < ((Exp.mk k n t a).args.length : Int) := by show (i : Int) < (a.length : Int); omega
      have hi2 : (0 : Int) ≤ (i : Int) ∧ (i : Int) < ((Exp.mk k n t a).args.length : Int) := ⟨by omega, hi'⟩
      have hm := List.mem_of_getElem? hxi
      have hxi2 : (Exp.mk k n t a).args[i]? = some x := hxi
      cases ho : okE x
      · refine .inr fun m => ?_
        simp only [xEH, decide_eq_true hi', if_pos hi2, jT, Int.toNat_natCast, xCh hxi2, (hx x hm).2, ho, jS, Bool.not_false, List.all_cons, Bool.false_and]
      · refine .inl ⟨(), trivial, by simp [ho], fun m => ?_⟩
        simp only [xEH, decide_eq_true hi', if_pos hi2, jT, Int.toNat_natCast, xCh hxi2, (hx x hm).2, ho, jS, Bool.not_true, jF, xBo hi (by omega : a.length ≤ _)]) N 0 () trivial (by omega) (by omega)
end Go.Ab
end
section
namespace Go.Ab
def sumC (l : List Exp) : Nat := (l.map Exp.cnt).sum
theorem xKp (x : Exp) (l : List Exp) : sumC (x :: l) = x.cnt + sumC l := by simp only [sumC, List.map_cons, List.sum_cons]
theorem xPQ (c s : Nat) {l : Int} (h : 0 ≤ l) : left (c + s) l = if left c l < 0 then left c l else left s (left c l) := by
 by_cases c1 : (c : Int) ≤ l
 · rw [xMh c1, if_neg (by omega)]
   by_cases c2 : (s : Int) ≤ l - c
   · rw [xMh c2, xMh (by omega)]; omega
   · rw [xLc c2, xLc (by omega)]
 · rw [xLc c1, if_pos (by omega), xLc (by omega)]
theorem xRw {K : Nat} (hK : K ≤ 1048576) : ∀ e : Exp, e.Fit K → e.cnt ≤ 2000000 → Big2 fun N d => xDM N d e = some (e.cnt : Int) ∧ ∀ l : Int, 0 ≤ l → l ≤ 1000 → xEs N d e l = some (left e.cnt l) := by
 refine Exp.ind fun k n t a ih h hc => ?_
 obtain ⟨h1, h2, h3, h4⟩ := Exp.fit_iff.1 h
 rw [Exp.cnt_eq] at hc
 have hc : 1 + sumC a ≤ 2000000 := hc
 have hmem : ∀ x ∈ a, x.cnt ≤ sumC a := fun x hx => xOW (f := Exp.cnt) hx
 refine Big2.succ ?_
 refine ((Big2.list fun x hx => ih x hx (h4.2 x hx) (by have := hmem x hx; omega)).and (xKS (K + 30)).two).imp fun N d ⟨hx, hn⟩ => ?_
 have hl : a.length ≤ K := h4.1
 rw [Exp.cnt_eq]
 refine ⟨?_, fun l hl0 hl1 => ?_⟩
 · have := xF8 (L := fun m i s => xDz N (xDM N d) m s a a.length i) a (fun l s => s + (sumC l : Int)) (fun i s => 0 ≤ s ∧ s + (sumC (a.drop i) : Int) ≤ 2000000) (fun m s _ => by simp [xDz, sumC])
    (fun i x l s hd hi hxi hs => by
      have hi' : (i : Int) < (a.length : Int) := by omega
      have hm := List.mem_of_getElem? hxi
      rw [hd, xKp] at hs
      have hw : IntKind.i64.wrap (s + (x.cnt : Int)) = s + (x.cnt : Int) := xBh (by omega) (by omega)
      refine .inl ⟨s + (x.cnt : Int), ⟨by omega, by rw [(xDu hd).2.2]; omega⟩, by rw [xKp]; omega, fun m => ?_⟩
      simp only [xDz, decide_eq_true hi', jT, Int.toNat_natCast, xCh hxi, (hx x hm).1, jS, hw, xBo hi (by omega : a.length ≤ _)]
      rw [if_pos (by omega)]) N 0 1 ⟨by omega, by rw [List.drop_zero]; omega⟩ (by omega) (by omega)
   rw [List.drop_zero] at this
   show xDz N (xDM N d) N 1 a a.length 0 = some ((1 + sumC a : Nat) : Int)
   rw [show ((1 + sumC a : Nat) : Int) = 1 + (sumC a : Int) from by omega]
   exact this
 · have := xF8 (L := fun m i s => xDK N (xEs N d) m s i (.mk k n t a)) a (fun l s => if s < 0 then s else left (sumC l) s) (fun i s => -1 ≤ s ∧ s ≤ 1000) (fun m s hs => by
    simp only [xDK, ea, Int.lt_irrefl, decide_false, jF, sumC, List.map_nil, List.sum_nil]
    split
    · rfl
    · rw [xMh (by omega)]; simp)
    (fun i x l s hd hi hxi hs => by
      have hi' : (i : Int) < ((Exp.mk k n t a).args.length : Int) := by show (i : Int) < (a.length : Int); omega
      have hi2 : (0 : Int) ≤ (i : Int) ∧ (i : Int) < ((Exp.mk k n t a).args.length : Int) := ⟨by omega, hi'⟩
      have hm := List.mem_of_getElem? hxi
      have hxi2 : (Exp.mk k n t a).args[i]? = some x := hxi
      by_cases hneg : s < 0
      · refine .inr fun m => ?_
        have h2 : ¬ s ≥ 0 := by omega
        simp only [xDK, decide_eq_true hi', jT, decide_eq_false h2, jF, if_pos hneg]
      · have h2 : s ≥ 0 := by omega
        refine .inl ⟨left x.cnt s, ?_, ?_, fun m => ?_⟩
        · unfold left; split <;> omega
        · rw [if_neg hneg, xKp, xPQ _ _ (by omega)]
        · simp only [xDK, decide_eq_true hi', jT, decide_eq_true h2, if_pos hi2, Int.toNat_natCast, xCh hxi2, (hx x hm).2 s (by omega) (by omega), jS, xBo hi (by omega : a.length ≤ _)]) N 0 (l - 1) ⟨by omega, by omega⟩ (by omega) (by omega)
   rw [List.drop_zero] at this
   show xDK N (xEs N d) N (IntKind.i64.wrap (l - 1)) 0 (.mk k n t a) = some (left (1 + sumC a) l)
   rw [xBh (by omega) (by omega)]
   refine Eq.trans this ?_
   unfold left
   by_cases c0 : l - 1 < 0
   · rw [if_pos c0, if_neg (by omega)]; congr 1; omega
   · rw [if_neg c0]
     by_cases c2 : (sumC a : Int) ≤ l - 1
     · rw [if_pos c2, if_pos (by omega)]; congr 1; omega
     · rw [if_neg c2, if_neg (by omega)]
theorem xOy {x : Exp} : ∀ {a : List Exp}, x ∈ a → x.nest ≤ Exp.nests a
 | y :: l, h => by
   rcases List.mem_cons.1 h with rfl | h
   · simp only [Exp.nests]; omega
   · have := xOy h; simp only [Exp.nests]; omega
theorem maxI (a b : Nat) : (if (a : Int) > (b : Int) then (a : Int) else (b : Int)) = ((max b a : Nat) : Int) := by
 split <;> omega
theorem nest_eq {K : Nat} (hK : K ≤ 1048576) : ∀ e : Exp, e.Fit K → e.nest ≤ 2000000 → Big2 fun N d => xEw N d e = some (e.nest : Int) ∧ xED N d e = some (e.nest : Int) := by
 refine Exp.ind fun k n t a ih h hc => ?_
 obtain ⟨h1, h2, h3, h4⟩ := Exp.fit_iff.1 h
 rw [Exp.nest_eq] at hc
 have hc : Exp.nests a + 1 ≤ 2000000 := hc
 have hmem : ∀ x ∈ a, x.nest ≤ Exp.nests a := fun x hx => xOy hx
 refine Big2.succ ?_
 refine ((Big2.list fun x hx => ih x hx (h4.2 x hx) (by have := hmem x hx; omega)).and (xKS (K + 30)).two).imp fun N d ⟨hx, hn⟩ => ?_
 have hl : a.length ≤ K := h4.1
 rw [Exp.nest_eq]
 refine ⟨?_, ?_⟩
 · have := xF8 (L := fun m i (s : Nat) => xD7 N (xEw N d) m (s : Int) a a.length i) a (fun l s => ((max s (Exp.nests l) + 1 : Nat) : Int)) (fun i s => s ≤ 2000000) (fun m s hs => by
    have hw : IntKind.i64.wrap ((s : Int) + 1) = ((max s 0 + 1 : Nat) : Int) := by rw [xBh (by omega) (by omega)]; omega
    simp only [xD7, Int.lt_irrefl, decide_false, jF, hw, Exp.nests])
    (fun i x l s hd hi hxi hs => by
      have hi' : (i : Int) < (a.length : Int) := by omega
      have hm := List.mem_of_getElem? hxi
      have := hmem x hm
      refine .inl ⟨max s x.nest, by omega, by simp only [Exp.nests]; omega, fun m => ?_⟩
      simp only [xD7, decide_eq_true hi', jT, Int.toNat_natCast, xCh hxi, (hx x hm).1, jS, maxI, xBo hi (by omega : a.length ≤ _)]
      rw [if_pos (by omega)]) N 0 0 (by omega) (by omega) (by omega)
   rw [List.drop_zero] at this
   refine Eq.trans this ?_
   simp; rfl
 · have := xF8 (L := fun m i (s : Nat) => xD8 N (xED N d) m (s : Int) i (.mk k n t a)) a (fun l s => ((max s (Exp.nests l) + 1 : Nat) : Int)) (fun i s => s ≤ 2000000) (fun m s hs => by
    have hw : IntKind.i64.wrap ((s : Int) + 1) = ((max s 0 + 1 : Nat) : Int) := by rw [xBh (by omega) (by omega)]; omega
    simp only [xD8, ea, Int.lt_irrefl, decide_false, jF, hw, Exp.nests])
    (fun i x l s hd hi hxi hs => by
      have hi' : (i : Int) < ((Exp.mk k n t a).args.length : Int) := by show (i : Int) < (a.length : Int); omega
      have hi2 : (0 : Int) ≤ (i : Int) ∧ (i : Int) < ((Exp.mk k n t a).args.length : Int) := ⟨by omega, hi'⟩
      have hm := List.mem_of_getElem? hxi
      have hxi2 : (Exp.mk k n t a).args[i]? = some x := hxi
      have := hmem x hm
      have hmax : xIl N (s : Int) (x.nest : Int) = some ((max s x.nest : Nat) : Int) := by
       unfold xIl
       by_cases c : (s : Int) > (x.nest : Int)
       · rw [decide_eq_true c]; show some (s : Int) = _; congr 1; omega
       · rw [decide_eq_false c]; show some (x.nest : Int) = _; congr 1; omega
      refine .inl ⟨max s x.nest, by omega, by simp only [Exp.nests]; omega, fun m => ?_⟩
      simp only [xD8, decide_eq_true hi', jT, if_pos hi2, Int.toNat_natCast, xCh hxi2, (hx x hm).2, jS, hmax, xBo hi (by omega : a.length ≤ _)]) N 0 0 (by omega) (by omega) (by omega)
   rw [List.drop_zero] at this
   refine Eq.trans this ?_
   simp; rfl
def xFG (e : Exp) : Bool := (decide (e.cnt ≤ 40) && decide (e.nest ≤ 8)) && okE e
theorem xJp {K : Nat} (hK : K ≤ 1048576) {e : Exp} (h : e.Fit K) (hs : e.size ≤ 1048576) : Big fun N => xCA N e = some (xFG e) ∧ xBY N e = some (xFG e) := by
 have h1 := Exp.cnt_le e
 have h2 := Exp.nest_le e
 refine (((xRw hK e h (by omega)).diag.and (nest_eq hK e h (by omega)).diag).and (xZJ hK e h).diag).imp fun N ⟨⟨⟨c1, c2⟩, n1, n2⟩, a1, a2⟩ => ?_
 have c3 : xHY N e = some (e.cnt : Int) := c1
 have c4 : xJh N e 40 = some (left e.cnt 40) := c2 40 (by omega) (by omega)
 have n3 : xHX N e = some (e.nest : Int) := n1
 have n4 : xH9 N e = some (e.nest : Int) := n2
 have a3 : xIp N e = some (okE e) := a1
 have a4 : xJ3 N e = some (okE e) := a2
 have d1 : decide ((e.cnt : Int) ≤ 40) = decide (e.cnt ≤ 40) := decide_eq_decide.2 (by omega)
 have d2 : decide (left e.cnt 40 ≥ 0) = decide (e.cnt ≤ 40) := decide_eq_decide.2 (by unfold left; split <;> omega)
 have d3 : decide ((e.nest : Int) ≤ 8) = decide (e.nest ≤ 8) := decide_eq_decide.2 (by omega)
 refine ⟨?_, ?_⟩
 · simp only [xCA, c3, n3, a3, jS, d1, d3, xFG]
   cases decide (e.cnt ≤ 40) <;> cases decide (e.nest ≤ 8) <;> rfl
 · simp only [xBY, c4, n4, a4, jS, d2, d3, xFG]
   cases decide (e.cnt ≤ 40) <;> cases decide (e.nest ≤ 8) <;> rfl
theorem xHx (N : Nat) (e : Exp) : xFv N e = some (lvl e) := by
 unfold xFv lvl
 repeat (first | rfl | refine xDX ?_ ?_)
theorem xIU (N : Nat) (e : Exp) : xGg N e = some (lvl e) := (xPd N e).trans (xHx N e)
theorem xU7 : ∀ s : List Str, (s.getD 0 []).length + (s.getD 1 []).length + (s.getD 2 []).length ≤ (s.map List.length).sum
 | [] => by simp
 | [x] => by simp
 | [x, y] => by simp
 | x :: y :: z :: r => by simp only [List.getD_cons_zero, List.getD_cons_succ, List.map_cons, List.sum_cons]; omega
theorem xNc (n : Int) : (xJX n).length ≤ 2 := by
 unfold xJX
 cases (n == 1) <;> cases (n == 2) <;> cases (n == 3) <;> cases (n == 4) <;> simp
theorem xLb (l : Int) (x : Exp) (s : Str) : (encl l x s).length ≤ s.length + 2 := by
 unfold encl
 cases decide (lvl x < l) <;> simp
theorem xPU {k n : Int} (hn : -9223372036854775808 ≤ n ∧ n ≤ 9223372036854775807) (t : Str) (a : List Exp) (s : List Str) : (xHH k n t a s).length ≤ 60 + t.length + (s.map List.length).sum + 2 * s.length := by
 have h1 := xRD hn
 have h2 := xMf s [44, 32]
 have h3 := xU7 s
 have h4 := xNc n
 have h5 := xLb (bif lvl (.mk k n t a) == 1 then 2 else lvl (.mk k n t a)) (a.getD 0 Ty.exp.dflt) (s.getD 0 [])
 have h6 := xLb (lvl (.mk k n t a) + 1) (a.getD 1 Ty.exp.dflt) (s.getD 1 [])
 have h7 : ([44, 32] : Str).length = 2 := rfl
 rw [h7] at h2
 unfold xHH
 cases (k == 1) <;> cases (k == 2) <;> cases (k == 3) <;> cases (k == 4) <;> cases (k == 5) <;> cases (k == 7) <;> cases (k == 9) <;> cases (k == 8) <;> simp only [jT, jF, jA, jC, jN] <;> omega
theorem xOY : ∀ (K : Nat) (e : Exp), e.Fit K → (srcE e).length + 4 ≤ 64 * e.cnt + e.size := by
 intro K
 refine Exp.ind fun k n t a ih h => ?_
 obtain ⟨h1, h2, h3, h4⟩ := Exp.fit_iff.1 h
 have h5 : (a.map fun x => (srcE x).length).sum + 4 * a.length ≤ 64 * sumC a + (a.map Exp.size).sum := by
  have h6 := fun x hx => ih x hx (h4.2 x hx)
  clear ih h h1 h2 h3 h4
  induction a with
  | nil => exact Nat.le_refl _
  | cons x l ih2 =>
    have g1 := h6 x List.mem_cons_self
    have g2 := ih2 fun y hy => h6 y (List.mem_cons_of_mem _ hy)
    simp only [List.map_cons, List.sum_cons, xKp, jC]; omega
 have h6 := xPU (k := k) (n := n) h2 t a (a.map srcE)
 rw [xOl, Exp.cnt_eq, Exp.size_eq]
 rw [List.map_map, List.length_map] at h6
 have e1 : (List.length ∘ srcE) = fun x => (srcE x).length := rfl
 rw [e1] at h6
 show _ ≤ 64 * (1 + sumC a) + (t.length + (a.length + (a.map Exp.size).sum))
 omega
theorem xPL {N d : Nat} {x : Exp} {s : Str} (h : (xAj N d).c_impl_source x = some s) (hs : s.length ≤ 1000000000) (l : Int) : (xAj N (d + 1)).c_impl_enclosed x l = some (encl l x s) := by
 show xEz N (xAj N d).c_impl_enclosed (xAj N d).c_impl_source (xAj N d).c_impl_sources x l = _
 simp only [xEz, h, jS, xIU, encl]
 cases decide (lvl x < l)
 · rfl
 · simp only [jT]
   rw [if_pos (by simp only [jC, jN]; unfold Lim; omega), if_pos (by simp only [jA, jC, jN]; unfold Lim; omega)]
theorem xRb {N d : Nat} {x : Exp} {s : Str} (h : (xAr N d).c_spec_l12Text x = some s) (hs : s.length ≤ 1000000000) (l : Int) : (xAr N (d + 1)).c_spec_l12At x l = some (encl l x s) := by
 show xFC N (xAr N d).c_spec_l12At (xAr N d).c_spec_l12List (xAr N d).c_spec_l12Text x l = _
 simp only [xFC, h, jS, xHx, encl]
 cases decide (lvl x < l)
 · rfl
 · simp only [jT]
   rw [if_pos (by simp only [jC, jN]; unfold Lim; omega), if_pos (by simp only [jA, jC, jN]; unfold Lim; omega)]
theorem xPM {N d : Nat} {a : List Exp} (h : ∀ x ∈ a, (xAj N d).c_impl_source x = some (srcE x)) (hl : a.length ≤ 1048576) (hN : 1048576 < N) (hs : ((a.map srcE).map List.length).sum ≤ 1000000000) :
 (xAj N (d + 1)).c_impl_sources a = some (Lib.join (a.map srcE) [44, 32]) := by
 show xEd N (xAj N d).c_impl_enclosed (xAj N d).c_impl_source (xAj N d).c_impl_sources N [] a a.length 0 = _
 refine xF8 (L := fun m i q => xEd N (xAj N d).c_impl_enclosed (xAj N d).c_impl_source (xAj N d).c_impl_sources m q a a.length i) a (fun l q => Lib.join (q ++ l.map srcE) [44, 32]) (fun i q => q = (a.take i).map srcE) (fun m q hq => ?_)
  (fun i x l q hd hi hxi hq => ?_) N 0 [] rfl (by omega) (by omega)
 · have hq : q = a.map srcE := by rw [List.take_length] at hq; exact hq
   subst hq
   have e : ([44, 32] : Str).length = 2 := rfl
   simp only [xEd, Int.lt_irrefl, decide_false, jF, xM3 (N := N) (xs := a.map srcE) (sep := [44, 32]) (by rw [List.length_map]; omega) (by rw [List.length_map, e]; omega), jS, List.map_nil, List.append_nil]
 · have hi' : (i : Int) < (a.length : Int) := by omega
   refine .inl ⟨q ++ [srcE x], by rw [hq, List.take_add_one, hxi]; simp, by simp, fun m => ?_⟩
   have hql : q.length ≤ 1048576 := by rw [hq, List.length_map, List.length_take]; omega
   simp only [xEd, decide_eq_true hi', jT, Int.toNat_natCast, xCh hxi, h x (List.mem_of_getElem? hxi), jS, xBo hi (by omega : a.length ≤ _)]
   rw [if_pos (by omega), if_pos (by simp only [jC, jN]; unfold Lim; omega)]
theorem xRc {N d : Nat} {a : List Exp} (h : ∀ x ∈ a, (xAr N d).c_spec_l12Text x = some (srcE x)) (hl : a.length ≤ 1048576) (hN : 1048576 < N) (hs : ((a.map srcE).map List.length).sum ≤ 1000000000) :
 (xAr N (d + 1)).c_spec_l12List a = some (Lib.join (a.map srcE) [44, 32]) := by
 show xEk N (xAr N d).c_spec_l12At (xAr N d).c_spec_l12List (xAr N d).c_spec_l12Text N a [] 0 = _
 refine xF8 (L := fun m i q => xEk N (xAr N d).c_spec_l12At (xAr N d).c_spec_l12List (xAr N d).c_spec_l12Text m a q i) a (fun l q => Lib.join (q ++ l.map srcE) [44, 32]) (fun i q => q = (a.take i).map srcE) (fun m q hq => ?_)
  (fun i x l q hd hi hxi hq => ?_) N 0 [] rfl (by omega) (by omega)
 · have hq : q = a.map srcE := by rw [List.take_length] at hq; exact hq
   subst hq
   have e : ([44, 32] : Str).length = 2 := rfl
   simp only [xEk, Int.lt_irrefl, decide_false, jF, xNn (N := N) (xs := a.map srcE) (sep := [44, 32]) (by rw [List.length_map]; omega) (by rw [List.length_map, e]; omega) (by rw [List.length_map]; omega), jS, List.map_nil, List.append_nil]
 · have hi' : (i : Int) < (a.length : Int) := by omega
   refine .inl ⟨q ++ [srcE x], by rw [hq, List.take_add_one, hxi]; simp, by simp, fun m => ?_⟩
   have hql : q.length ≤ 1048576 := by rw [hq, List.length_map, List.length_take]; omega
   simp only [xEk, decide_eq_true hi', jT, Int.toNat_natCast, xCh hxi, h x (List.mem_of_getElem? hxi), jS, xBo hi (by omega : a.length ≤ _)]
   rw [if_pos (by omega), if_pos (by simp only [jC, jN]; unfold Lim; omega)]
theorem xRK {N : Nat} {n : Int} (h1 : 1 ≤ n) (h5 : n ≤ 5) : xEx N n = some (xJX n) ∧ xGt N n = some (xJX n) := by
 have hw : IntKind.i64.wrap (n - 1) = n - 1 := xBh (by omega) (by omega)
 rcases (by omega : n = 1 ∨ n = 2 ∨ n = 3 ∨ n = 4 ∨ n = 5) with rfl | rfl | rfl | rfl | rfl <;> exact ⟨rfl, rfl⟩
theorem kinds {k n : Int} {t : Str} {l : Nat} (h : xFe xHe xB1 argc k n t l = true) : k = 1 ∨ k = 2 ∨ k = 3 ∨ k = 4 ∨ k = 5 ∨ (k = 6 ∧ 1 ≤ n ∧ n ≤ 5 ∧ l = 2) ∨ (k = 7 ∧ l = 2) ∨ (k = 9 ∧ l = 2) ∨ (k = 8 ∧ l = 3) := by
 unfold xFe at h
 by_cases h1 : k = 1; · exact .inl h1
 by_cases h2 : k = 2; · exact .inr (.inl h2)
 by_cases h3 : k = 3; · exact .inr (.inr (.inl h3))
 by_cases h4 : k = 4; · exact .inr (.inr (.inr (.inl h4)))
 by_cases h5 : k = 5; · exact .inr (.inr (.inr (.inr (.inl h5))))
 rw [beq_eq_false_iff_ne.2 h1, beq_eq_false_iff_ne.2 h2, beq_eq_false_iff_ne.2 h3, beq_eq_false_iff_ne.2 h4, beq_eq_false_iff_ne.2 h5] at h
 simp only [jF] at h
 by_cases h6 : k = 6
 · subst h6
   simp only [beq_self_eq_true, jT, Bool.and_eq_true, decide_eq_true_eq, beq_iff_eq] at h
   exact .inr (.inr (.inr (.inr (.inr (.inl ⟨rfl, h.1.1, h.1.2, h.2.2⟩)))))
 by_cases h7 : k = 7
 · subst h7
   simp only [show ((7 : Int) == 6) = false from rfl, jF, beq_self_eq_true, jT, Bool.and_eq_true, beq_iff_eq] at h
   exact .inr (.inr (.inr (.inr (.inr (.inr (.inl ⟨rfl, h.2.2⟩))))))
 by_cases h9 : k = 9
 · subst h9
   simp only [show ((9 : Int) == 6) = false from rfl, show ((9 : Int) == 7) = false from rfl, jF, beq_self_eq_true, jT, Bool.and_eq_true, beq_iff_eq] at h
   exact .inr (.inr (.inr (.inr (.inr (.inr (.inr (.inl ⟨rfl, h.2.2⟩)))))))
 by_cases h8 : k = 8
 · subst h8
   simp only [show ((8 : Int) == 6) = false from rfl, show ((8 : Int) == 7) = false from rfl, show ((8 : Int) == 9) = false from rfl, jF, beq_self_eq_true, jT, Bool.and_eq_true, beq_iff_eq] at h
   exact .inr (.inr (.inr (.inr (.inr (.inr (.inr (.inr ⟨rfl, h.2.2⟩)))))))
 rw [beq_eq_false_iff_ne.2 h6, beq_eq_false_iff_ne.2 h7, beq_eq_false_iff_ne.2 h9, beq_eq_false_iff_ne.2 h8] at h
 cases h
theorem xJN {α : Type} {l : List α} (h : l.length = 2) : ∃ x y, l = [x, y] := by
 match l, h with
 | [x, y], _ => exact ⟨x, y, rfl⟩
theorem xMO {α : Type} {l : List α} (h : l.length = 3) : ∃ x y z, l = [x, y, z] := by
 match l, h with
 | [x, y, z], _ => exact ⟨x, y, z, rfl⟩
theorem lvl6 {n : Int} {t : Str} {a : List Exp} (h1 : 1 ≤ n) (h5 : n ≤ 5) : 1 ≤ lvl (.mk 6 n t a) ∧ lvl (.mk 6 n t a) ≤ 3 := by
 rcases (by omega : n = 1 ∨ n = 2 ∨ n = 3 ∨ n = 4 ∨ n = 5) with rfl | rfl | rfl | rfl | rfl <;> simp [lvl, ek, en]
theorem xNs {f g h : Exp → Nat} : ∀ {a : List Exp}, (∀ x ∈ a, f x + 4 ≤ 64 * g x + h x) → (a.map f).sum ≤ 64 * (a.map g).sum + (a.map h).sum
 | [], _ => Nat.le_refl _
 | x :: l, H => by
   have g1 := H x List.mem_cons_self
   have g2 := xNs fun y hy => H y (List.mem_cons_of_mem _ hy)
   simp only [List.map_cons, List.sum_cons]; omega
theorem xZF {K : Nat} (hK : K ≤ 1048576) : ∀ e : Exp, e.Fit K → e.size ≤ 1048576 → okE e = true → Big2 fun N d => (xAj N d).c_impl_source e = some (srcE e) ∧ (xAr N d).c_spec_l12Text e = some (srcE e) := by
 refine Exp.ind fun k n t a ih h hs ho => ?_
 obtain ⟨h1, h2, h3, h4⟩ := Exp.fit_iff.1 h
 have hnn : -9223372036854775808 ≤ n ∧ n ≤ 9223372036854775807 := h2
 have ht : t.length ≤ K := h3
 have hl : a.length ≤ K := h4.1
 rw [Exp.size_eq] at hs
 have hs : t.length + (a.length + (a.map Exp.size).sum) ≤ 1048576 := hs
 rw [xNb, Bool.and_eq_true] at ho
 have hoa : ∀ x ∈ a, okE x = true := List.all_eq_true.1 ho.1
 have hsz : ∀ x ∈ a, x.size ≤ 1048576 := fun x hx => by have := xOW (f := Exp.size) hx; omega
 have IH := fun x hx => ih x hx (h4.2 x hx) (hsz x hx) (hoa x hx)
 refine Big2.succ (Big2.succ ?_)
 refine ((Big2.list fun x hx => (IH x hx).and (IH x hx).up).and (xKS 1048576).two).imp fun N d ⟨hx, hn⟩ => ?_
 have hlen : ∀ x ∈ a, (srcE x).length ≤ 200000000 := fun x hx => by
  have e1 := xOY K x (h4.2 x hx)
  have e2 := Exp.cnt_le x
  have e3 := hsz x hx
  omega
 have hsum : ((a.map srcE).map List.length).sum ≤ 200000000 := by
  rw [List.map_map]
  have e1 := xNs (f := List.length ∘ srcE) (g := Exp.cnt) (h := Exp.size) (a := a) fun x hx => xOY K x (h4.2 x hx)
  have e2 := xOm (f := Exp.cnt) (g := Exp.size) (a := a) fun x _ => Exp.cnt_le x
  omega
 have A1 : ∀ x ∈ a, ∀ l, (xAj N (d + 1)).c_impl_enclosed x l = some (encl l x (srcE x)) := fun x hm l => xPL (hx x hm).1.1 (by have := hlen x hm; omega) l
 have A2 : ∀ x ∈ a, ∀ l, (xAr N (d + 1)).c_spec_l12At x l = some (encl l x (srcE x)) := fun x hm l => xRb (hx x hm).1.2 (by have := hlen x hm; omega) l
 have B1 := xPM (N := N) (d := d) (a := a) (fun x hm => (hx x hm).1.1) (by omega) hn (by omega)
 have B2 := xRc (N := N) (d := d) (a := a) (fun x hm => (hx x hm).1.2) (by omega) hn (by omega)
 have hj := xMf (a.map srcE) [44, 32]
 have h7 : ([44, 32] : Str).length = 2 := rfl
 rw [h7, List.length_map] at hj
 rw [xOl]
 show xBV N (xAj N (d + 1)).c_impl_enclosed (xAj N (d + 1)).c_impl_source (xAj N (d + 1)).c_impl_sources (.mk k n t a) = _ ∧
  xBI N (xAr N (d + 1)).c_spec_l12At (xAr N (d + 1)).c_spec_l12List (xAr N (d + 1)).c_spec_l12Text (.mk k n t a) = _
 have C1 : ∀ x ∈ a, (xAj N (d + 1)).c_impl_source x = some (srcE x) := fun x hm => (hx x hm).2.1
 have C2 : ∀ x ∈ a, (xAr N (d + 1)).c_spec_l12Text x = some (srcE x) := fun x hm => (hx x hm).2.2
 generalize (xAj N (d + 1)).c_impl_enclosed = q0 at A1 ⊢
 generalize (xAj N (d + 1)).c_impl_source = q1 at C1 ⊢
 generalize (xAj N (d + 1)).c_impl_sources = q2 at B1 ⊢
 generalize (xAr N (d + 1)).c_spec_l12At = r0 at A2 ⊢
 generalize (xAr N (d + 1)).c_spec_l12Text = r1 at C2 ⊢
 generalize (xAr N (d + 1)).c_spec_l12List = r2 at B2 ⊢
 rcases kinds ho.2 with hk | hk | hk | hk | hk | ⟨hk, hn1, hn5, hl2⟩ | ⟨hk, hl2⟩ | ⟨hk, hl2⟩ | ⟨hk, hl2⟩ <;> (have hk : k = _ := hk; subst hk)
 · exact ⟨by simp [xBV, ek, en, xKs hnn, xHH], by simp [xBI, ek, en, xIj (by omega : 100 < N) hnn, xHH]⟩
 · have e1 : List.length [34] + List.length t ≤ Lim := by simp only [jC, jN]; unfold Lim; omega
   have e2 : List.length (([34] : Str) ++ t) + List.length [34] ≤ Lim := by simp only [jA, jC, jN]; unfold Lim; omega
   refine ⟨?_, ?_⟩
   · simp only [xBV, ek, et, show ((2 : Int) == 1) = false from rfl, beq_self_eq_true, jT, jF, xHH]
     repeat (first | refine Eq.trans (if_pos (by simp only [jA, jC, jN]; unfold Lim; omega)) ?_ | refine Eq.trans (if_pos (by simp only [jC, jN]; omega)) ?_)
     rfl
   · simp only [xBI, ek, et, show ((2 : Int) == 1) = false from rfl, beq_self_eq_true, jT, jF, xHH]
     repeat (first | refine Eq.trans (if_pos (by simp only [jA, jC, jN]; unfold Lim; omega)) ?_ | refine Eq.trans (if_pos (by simp only [jC, jN]; omega)) ?_)
     rfl
 · exact ⟨rfl, rfl⟩
 · have e1 : List.length [91] + List.length (Lib.join (a.map srcE) [44, 32]) ≤ Lim := by simp only [jC, jN]; unfold Lim; omega
   have e2 : List.length (([91] : Str) ++ Lib.join (a.map srcE) [44, 32]) + List.length [93] ≤ Lim := by simp only [jA, jC, jN]; unfold Lim; omega
   refine ⟨?_, ?_⟩
   · simp only [xBV, ek, ea, show ((4 : Int) == 1) = false from rfl, show ((4 : Int) == 2) = false from rfl, show ((4 : Int) == 3) = false from rfl, beq_self_eq_true, jT, jF, xHH, B1, jS]
     repeat (first | refine Eq.trans (if_pos (by simp only [jA, jC, jN]; unfold Lim; omega)) ?_ | refine Eq.trans (if_pos (by simp only [jC, jN]; omega)) ?_)
     rfl
   · simp only [xBI, ek, ea, show ((4 : Int) == 1) = false from rfl, show ((4 : Int) == 2) = false from rfl, show ((4 : Int) == 3) = false from rfl, beq_self_eq_true, jT, jF, xHH, B2, jS]
     repeat (first | refine Eq.trans (if_pos (by simp only [jA, jC, jN]; unfold Lim; omega)) ?_ | refine Eq.trans (if_pos (by simp only [jC, jN]; omega)) ?_)
     rfl
 · have e0 : List.length t + List.length [40] ≤ Lim := by simp only [jC, jN]; unfold Lim; omega
   have e1 : List.length (t ++ [40]) + List.length (Lib.join (a.map srcE) [44, 32]) ≤ Lim := by simp only [jA, jC, jN]; unfold Lim; omega
   have e2 : List.length ((t ++ [40]) ++ Lib.join (a.map srcE) [44, 32]) + List.length [41] ≤ Lim := by simp only [jA, jC, jN]; unfold Lim; omega
   refine ⟨?_, ?_⟩
   · simp only [xBV, ek, ea, et, show ((5 : Int) == 1) = false from rfl, show ((5 : Int) == 2) = false from rfl, show ((5 : Int) == 3) = false from rfl, show ((5 : Int) == 4) = false from rfl, beq_self_eq_true, jT, jF, xHH, B1, jS]
     repeat (first | refine Eq.trans (if_pos (by simp only [jA, jC, jN]; unfold Lim; omega)) ?_ | refine Eq.trans (if_pos (by simp only [jC, jN]; omega)) ?_)
     rfl
   · simp only [xBI, ek, ea, et, show ((5 : Int) == 1) = false from rfl, show ((5 : Int) == 2) = false from rfl, show ((5 : Int) == 3) = false from rfl, show ((5 : Int) == 4) = false from rfl, beq_self_eq_true, jT, jF, xHH, B2, jS]
     repeat (first | refine Eq.trans (if_pos (by simp only [jA, jC, jN]; unfold Lim; omega)) ?_ | refine Eq.trans (if_pos (by simp only [jC, jN]; omega)) ?_)
     rfl
 · obtain ⟨x, y, rfl⟩ := xJN hl2
   have lx := hlen x (by simp)
   have ly := hlen y (by simp)
   have cx := A1 x (by simp)
   have cy := A1 y (by simp)
   have dx := A2 x (by simp)
   have dy := A2 y (by simp)
   have gx : List.getD [x, y] (Int.toNat 0) Ty.exp.dflt = x := rfl
   have gy : List.getD [x, y] (Int.toNat 1) Ty.exp.dflt = y := rfl
   have hv := lvl6 (n := n) (t := t) (a := [x, y]) hn1 hn5
   have hw : IntKind.i64.wrap (lvl (.mk 6 n t [x, y]) + 1) = lvl (.mk 6 n t [x, y]) + 1 := xBh (by omega) (by omega)
   obtain ⟨o1, o2⟩ := xRK (N := N) (n := n) hn1 hn5
   have ol := xNc n
   have kx := fun l => xLb l x (srcE x)
   have ky := fun l => xLb l y (srcE y)
   have k1 := kx 2
   have k2 := kx (lvl (.mk 6 n t [x, y]))
   have k3 := ky (lvl (.mk 6 n t [x, y]) + 1)
   refine ⟨?_, ?_⟩
   · cases hb : (lvl (.mk 6 n t [x, y]) == 1)
     all_goals
      simp only [xBV, ek, en, et, ea, show ((6 : Int) == 1) = false from rfl, show ((6 : Int) == 2) = false from rfl, show ((6 : Int) == 3) = false from rfl, show ((6 : Int) == 4) = false from rfl, show ((6 : Int) == 5) = false from rfl, show ((6 : Int) == 7) = false from rfl, show ((6 : Int) == 8) = false from rfl, show ((6 : Int) == 9) = false from rfl, jT, jF, xIU, jS, hb, gx, gy, cx, cy, hw, o1]
      repeat (first | refine Eq.trans (if_pos (by simp only [jA, jC, jN]; unfold Lim; omega)) ?_ | rw [o1, jS] | refine Eq.trans (if_pos (by simp only [jC, jN]; omega)) ?_)
      simp only [xHH, show ((6 : Int) == 1) = false from rfl, show ((6 : Int) == 2) = false from rfl, show ((6 : Int) == 3) = false from rfl, show ((6 : Int) == 4) = false from rfl, show ((6 : Int) == 5) = false from rfl, show ((6 : Int) == 7) = false from rfl, show ((6 : Int) == 8) = false from rfl, show ((6 : Int) == 9) = false from rfl, jT, jF, hb]
      rfl
   · cases hb : (lvl (.mk 6 n t [x, y]) == 1)
     all_goals
      simp only [xBI, ek, en, et, ea, show ((6 : Int) == 1) = false from rfl, show ((6 : Int) == 2) = false from rfl, show ((6 : Int) == 3) = false from rfl, show ((6 : Int) == 4) = false from rfl, show ((6 : Int) == 5) = false from rfl, show ((6 : Int) == 7) = false from rfl, show ((6 : Int) == 8) = false from rfl, show ((6 : Int) == 9) = false from rfl, jT, jF, xHx, jS, hb, gx, gy, dx, dy, hw, o2]
      repeat (first | refine Eq.trans (if_pos (by simp only [jA, jC, jN]; unfold Lim; omega)) ?_ | rw [o2, jS] | refine Eq.trans (if_pos (by simp only [jC, jN]; omega)) ?_)
      simp only [xHH, show ((6 : Int) == 1) = false from rfl, show ((6 : Int) == 2) = false from rfl, show ((6 : Int) == 3) = false from rfl, show ((6 : Int) == 4) = false from rfl, show ((6 : Int) == 5) = false from rfl, show ((6 : Int) == 7) = false from rfl, show ((6 : Int) == 8) = false from rfl, show ((6 : Int) == 9) = false from rfl, jT, jF, hb]
      rfl
 · obtain ⟨x, y, rfl⟩ := xJN hl2
   have lx := hlen x (by simp)
   have cx := C1 x (by simp)
   have dx := C2 x (by simp)
   have gx : List.getD [x, y] (Int.toNat 0) Ty.exp.dflt = x := rfl
   have ly := hlen y (by simp)
   have cy := C1 y (by simp)
   have dy := C2 y (by simp)
   have gy : List.getD [x, y] (Int.toNat 1) Ty.exp.dflt = y := rfl
   refine ⟨?_, ?_⟩
   · simp only [xBV, ek, en, et, ea, show ((7 : Int) == 1) = false from rfl, show ((7 : Int) == 2) = false from rfl, show ((7 : Int) == 3) = false from rfl, show ((7 : Int) == 4) = false from rfl, show ((7 : Int) == 5) = false from rfl, show ((7 : Int) == 6) = false from rfl, beq_self_eq_true, jT, jF, gx, gy, cx, cy, jS]
     repeat (first | refine Eq.trans (if_pos (by simp only [jA, jC, jN]; unfold Lim; omega)) ?_ | refine Eq.trans (if_pos (by simp only [jC, jN]; omega)) ?_)
     rfl
   · simp only [xBI, ek, en, et, ea, show ((7 : Int) == 1) = false from rfl, show ((7 : Int) == 2) = false from rfl, show ((7 : Int) == 3) = false from rfl, show ((7 : Int) == 4) = false from rfl, show ((7 : Int) == 5) = false from rfl, show ((7 : Int) == 6) = false from rfl, beq_self_eq_true, jT, jF, gx, gy, dx, dy, jS]
     repeat (first | refine Eq.trans (if_pos (by simp only [jA, jC, jN]; unfold Lim; omega)) ?_ | refine Eq.trans (if_pos (by simp only [jC, jN]; omega)) ?_)
     rfl
 · obtain ⟨x, y, rfl⟩ := xJN hl2
   have lx := hlen x (by simp)
   have cx := C1 x (by simp)
   have dx := C2 x (by simp)
   have gx : List.getD [x, y] (Int.toNat 0) Ty.exp.dflt = x := rfl
   have ly := hlen y (by simp)
   have cy := C1 y (by simp)
   have dy := C2 y (by simp)
   have gy : List.getD [x, y] (Int.toNat 1) Ty.exp.dflt = y := rfl
   refine ⟨?_, ?_⟩
   · simp only [xBV, ek, en, et, ea, show ((9 : Int) == 1) = false from rfl, show ((9 : Int) == 2) = false from rfl, show ((9 : Int) == 3) = false from rfl, show ((9 : Int) == 4) = false from rfl, show ((9 : Int) == 5) = false from rfl, show ((9 : Int) == 7) = false from rfl, show ((9 : Int) == 8) = false from rfl, beq_self_eq_true, jT, jF, gx, gy, cx, cy, jS]
     repeat (first | refine Eq.trans (if_pos (by simp only [jA, jC, jN]; unfold Lim; omega)) ?_ | refine Eq.trans (if_pos (by simp only [jC, jN]; omega)) ?_)
     rfl
   · simp only [xBI, ek, en, et, ea, show ((9 : Int) == 1) = false from rfl, show ((9 : Int) == 2) = false from rfl, show ((9 : Int) == 3) = false from rfl, show ((9 : Int) == 4) = false from rfl, show ((9 : Int) == 5) = false from rfl, show ((9 : Int) == 7) = false from rfl, show ((9 : Int) == 8) = false from rfl, beq_self_eq_true, jT, jF, gx, gy, dx, dy, jS]
     repeat (first | refine Eq.trans (if_pos (by simp only [jA, jC, jN]; unfold Lim; omega)) ?_ | refine Eq.trans (if_pos (by simp only [jC, jN]; omega)) ?_)
     rfl
 · obtain ⟨x, y, z, rfl⟩ := xMO hl2
   have lx := hlen x (by simp)
   have cx := C1 x (by simp)
   have dx := C2 x (by simp)
   have gx : List.getD [x, y, z] (Int.toNat 0) Ty.exp.dflt = x := rfl
   have ly := hlen y (by simp)
   have cy := C1 y (by simp)
   have dy := C2 y (by simp)
   have gy : List.getD [x, y, z] (Int.toNat 1) Ty.exp.dflt = y := rfl
   have lz := hlen z (by simp)
   have cz := C1 z (by simp)
   have dz := C2 z (by simp)
   have gz : List.getD [x, y, z] (Int.toNat 2) Ty.exp.dflt = z := rfl
   refine ⟨?_, ?_⟩
   · simp only [xBV, ek, en, et, ea, show ((8 : Int) == 1) = false from rfl, show ((8 : Int) == 2) = false from rfl, show ((8 : Int) == 3) = false from rfl, show ((8 : Int) == 4) = false from rfl, show ((8 : Int) == 5) = false from rfl, show ((8 : Int) == 7) = false from rfl, show ((8 : Int) == 9) = false from rfl, beq_self_eq_true, jT, jF, gx, gy, gz, cx, cy, cz, jS]
     repeat (first | refine Eq.trans (if_pos (by simp only [jA, jC, jN]; unfold Lim; omega)) ?_ | refine Eq.trans (if_pos (by simp only [jC, jN]; omega)) ?_)
     rfl
   · simp only [xBI, ek, en, et, ea, show ((8 : Int) == 1) = false from rfl, show ((8 : Int) == 2) = false from rfl, show ((8 : Int) == 3) = false from rfl, show ((8 : Int) == 4) = false from rfl, show ((8 : Int) == 5) = false from rfl, show ((8 : Int) == 7) = false from rfl, show ((8 : Int) == 9) = false from rfl, beq_self_eq_true, jT, jF, gx, gy, gz, dx, dy, dz, jS]
     repeat (first | refine Eq.trans (if_pos (by simp only [jA, jC, jN]; unfold Lim; omega)) ?_ | refine Eq.trans (if_pos (by simp only [jC, jN]; omega)) ?_)
     rfl
end Go.Ab
end
section
namespace Go.Ab
def fmtE (e : Exp) : Str := bif !xFG e then [] else srcE e
theorem xPJ {K : Nat} (hK : K ≤ 1048576) {e : Exp} (h : e.Fit K) (hs : e.size ≤ 1048576) : Big fun N => xEL N e = some (fmtE e) ∧ xES N e = some (fmtE e) := by
 cases hv : xFG e
 · refine (xJp hK h hs).imp fun N ⟨h1, h2⟩ => ?_
   simp only [xEL, xES, h1, h2, hv, jS, Bool.not_false, jT, fmtE]
   exact ⟨trivial, trivial⟩
 · have ho : okE e = true := by
    unfold xFG at hv
    simp only [Bool.and_eq_true] at hv
    exact hv.2
   refine ((xJp hK h hs).and (xZF hK e h hs ho).diag).imp fun N ⟨⟨h1, h2⟩, s1, s2⟩ => ?_
   have s3 : xJQ N e = some (srcE e) := s1
   have s4 : xJl N e = some (srcE e) := s2
   simp only [xEL, xES, h1, h2, hv, jS, Bool.not_true, jF, fmtE, s3, s4]
   exact ⟨trivial, trivial⟩
end Go.Ab
end
section
namespace Go.Ab
inductive PR (α : Type) where
 | ok (a : α) (r : List Tok)
 | err (r : List Tok)
def PR.bind {α β : Type} : PR α → (α → List Tok → PR β) → PR β
 | .ok a r, k => k a r
 | .err r, _ => .err r
theorem PR.bind_ok {α β : Type} {R : PR α} {k : α → List Tok → PR β} {b : β} {r : List Tok} (h : R.bind k = .ok b r) : ∃ a q, R = .ok a q ∧ k a q = .ok b r := by
 cases R with
 | ok a q => exact ⟨a, q, rfl, h⟩
 | err q => cases h
def isK (t : Tok) (s : Str) : Bool := bif t.kind == 1 then t.text == s else false
def isS (t : Tok) (s : Str) : Bool := bif t.kind == 4 then t.text == s else false
def seeK (s : Str) : List Tok → Bool
 | [] => false
 | t :: _ => isK t s
def seeS (s : Str) : List Tok → Bool
 | [] => false
 | t :: _ => isS t s
def xFZ (s : Str) : List Tok → PR Unit
 | [] => .err []
 | t :: r => bif isK t s || isS t s then .ok () r else .err (t :: r)
def xLP : List Tok → PR Str
 | [] => .err []
 | t :: r => bif t.kind == 1 then (bif xB1 t.text then .ok t.text r else .err (t :: r)) else .err (t :: r)
def xJd (f : List Tok → PR Exp) (c : Str) : Nat → List Exp → List Tok → PR (List Exp)
 | 0, _, ts => .err ts
 | m + 1, acc, ts => (f ts).bind fun e r => bif seeS c r then .ok (acc ++ [e]) r.tail else (xFZ [44] r).bind fun _ q => xJd f c m (acc ++ [e]) q
def xKM (f : List Tok → PR Exp) (m : Nat) (c : Str) (ts : List Tok) : PR (List Exp) := bif seeS c ts then .ok [] ts.tail else xJd f c m [] ts
def xJM (f : List Tok → PR Exp) (m : Nat) (t : Tok) (r : List Tok) : PR Exp :=
 bif isS t [91] then (xKM f m [93] r).bind fun a q => .ok (.mk 4 0 [] a) q
 else bif isS t [40] then (f r).bind fun e q => (xFZ [41] q).bind fun _ u => .ok e u
 else .err (t :: r)
def xGB (f : List Tok → PR Exp) (m : Nat) : List Tok → PR Exp
 | [] => .err []
 | t :: r =>
   bif t.kind == 2 then .ok (.mk 1 t.n [] []) r
   else bif t.kind == 3 then .ok (.mk 2 0 t.text []) r
   else bif t.kind == 1 then
    (bif xB1 t.text then .ok (.mk 3 0 t.text []) r
    else bif decide (argc t.text ≥ 0) then (xFZ [40] r).bind fun _ q => (xKM f m [41] q).bind fun a u => .ok (.mk 5 0 t.text a) u
    else xJM f m t r)
   else xJM f m t r
def xJe (g : List Tok → PR Exp) : Nat → Exp → List Tok → PR Exp
 | 0, _, ts => .err ts
 | m + 1, a, ts => bif seeS [42] ts then (g ts.tail).bind fun b r => xJe g m (.mk 6 3 [] [a, b]) r else .ok a ts
def xKN (g : List Tok → PR Exp) (m : Nat) (ts : List Tok) : PR Exp := (g ts).bind fun a r => xJe g m a r
def xJy (g : List Tok → PR Exp) : Nat → Exp → List Tok → PR Exp
 | 0, _, ts => .err ts
 | m + 1, a, ts => bif seeS [43] ts then (g ts.tail).bind fun b r => xJy g m (.mk 6 1 [] [a, b]) r
   else bif seeS [45] ts then (g ts.tail).bind fun b r => xJy g m (.mk 6 2 [] [a, b]) r else .ok a ts
def pSum (g : List Tok → PR Exp) (m : Nat) (ts : List Tok) : PR Exp := (g ts).bind fun a r => xJy g m a r
def xOc (g : List Tok → PR Exp) (a : Exp) (r : List Tok) : PR Exp :=
 bif seeS [60] r then (g r.tail).bind fun b q => .ok (.mk 6 4 [] [a, b]) q
 else bif seeS [61, 61] r then (g r.tail).bind fun b q => .ok (.mk 6 5 [] [a, b]) q else .ok a r
def pCmp (g : List Tok → PR Exp) (ts : List Tok) : PR Exp := (g ts).bind fun a r => xOc g a r
def pTwo (f : List Tok → PR Exp) (k : Int) (s1 s2 : Str) (ts : List Tok) : PR Exp :=
 (xLP ts).bind fun x q1 => (xFZ s1 q1).bind fun _ q2 => (f q2).bind fun a q3 => (xFZ s2 q3).bind fun _ q4 => (f q4).bind fun b q5 => .ok (.mk k 0 x [a, b]) q5
def pIf (f : List Tok → PR Exp) (ts : List Tok) : PR Exp :=
 (f ts).bind fun a q1 => (xFZ [116, 104, 101, 110] q1).bind fun _ q2 => (f q2).bind fun b q3 => (xFZ [101, 108, 115, 101] q3).bind fun _ q4 => (f q4).bind fun c q5 => .ok (.mk 8 0 [] [a, b, c]) q5
def xHw (f g : List Tok → PR Exp) (ts : List Tok) : PR Exp :=
 bif seeK [108, 101, 116] ts then pTwo f 7 [61] [105, 110] ts.tail
 else bif seeK [105, 102] ts then pIf f ts.tail
 else bif seeK [102, 111, 114] ts then pTwo f 9 [105, 110] [100, 111] ts.tail
 else pCmp g ts
def xK8 (f : List Tok → PR Exp) (m : Nat) : List Tok → PR Exp := pSum (xKN (xGB f m) m) m
def pE : Nat → List Tok → PR Exp
 | 0, ts => .err ts
 | m + 1, ts => xHw (pE m) (xK8 (pE m) (m + 1)) ts
theorem xOS {s : Str} {ts r : List Tok} {u : Unit} (h : xFZ s ts = .ok u r) : ∃ t, ts = t :: r ∧ (isK t s || isS t s) = true := by
 cases ts with
 | nil => cases h
 | cons t q =>
   simp only [xFZ] at h
   cases hb : isK t s || isS t s <;> rw [hb] at h <;> cases h
   exact ⟨t, rfl, hb⟩
theorem xOR {ts r : List Tok} {x : Str} (h : xLP ts = .ok x r) : ∃ t, ts = t :: r ∧ x = t.text ∧ t.kind = 1 ∧ xB1 t.text = true := by
 cases ts with
 | nil => cases h
 | cons t q =>
   simp only [xLP] at h
   cases hb : t.kind == 1 <;> rw [hb] at h
   · cases h
   · cases hv : xB1 t.text <;> rw [hv] at h <;> cases h
     exact ⟨t, rfl, rfl, by simpa using hb, hv⟩
theorem xLy {s : Str} {ts : List Tok} (h : seeS s ts = true) : ∃ t, ts = t :: ts.tail ∧ isS t s = true := by
 cases ts with
 | nil => cases h
 | cons t q => exact ⟨t, rfl, h⟩
theorem xNk {s : Str} {ts : List Tok} (h : seeK s ts = true) : ∃ t, ts = t :: ts.tail ∧ isK t s = true := by
 cases ts with
 | nil => cases h
 | cons t q => exact ⟨t, rfl, h⟩
theorem xF5 {s : Str} {ts : List Tok} (h : seeS s ts = true) : ts.tail.length + 1 = ts.length := by
 obtain ⟨t, h1, _⟩ := xLy h
 rw [h1]; rfl
theorem xF4 {s : Str} {ts : List Tok} (h : seeK s ts = true) : ts.tail.length + 1 = ts.length := by
 obtain ⟨t, h1, _⟩ := xNk h
 rw [h1]; rfl
theorem xFt {s : Str} {ts r : List Tok} {u : Unit} (h : xFZ s ts = .ok u r) : r.length + 1 = ts.length := by
 obtain ⟨t, h1, _⟩ := xOS h
 rw [h1]; rfl
theorem xNf {ts r : List Tok} {x : Str} (h : xLP ts = .ok x r) : r.length + 1 = ts.length := by
 obtain ⟨t, h1, _⟩ := xOR h
 rw [h1]; rfl
def tw (ts : List Tok) : Nat := (ts.map fun t => t.text.length + 3).sum
theorem xKR (t : Tok) (r : List Tok) : tw (t :: r) = t.text.length + 3 + tw r := by simp [tw]
def xUZ (K : Nat) (ts : List Tok) (e : Exp) (r : List Tok) : Prop := e.size + tw r ≤ tw ts ∧ e.Fit K
def xCo (K : Nat) (f : List Tok → PR Exp) : Prop := ∀ ts e r, (∀ t ∈ ts, t.Fit K) → tw ts ≤ K → f ts = .ok e r → xUZ K ts e r ∧ (∀ t ∈ r, t.Fit K) ∧ r.length < ts.length
theorem xE5 {K : Nat} {k n : Int} {t : Str} {a : List Exp} (hk : I64 k) (hn : I64 n) (ht : t.length ≤ K) (ha : a.length ≤ K) (hx : ∀ x ∈ a, x.Fit K) : (Exp.mk k n t a).Fit K :=
 Exp.fit_iff.2 ⟨hk, hn, ht, ha, hx⟩
theorem xDv (k n : Int) (t : Str) (a : List Exp) : (Exp.mk k n t a).size = t.length + (a.length + (a.map Exp.size).sum) := Exp.size_eq _
theorem xDn {x : Int} (h : 0 ≤ x ∧ x ≤ 1000) : I64 x := by unfold I64; omega
theorem xIC {K : Nat} {s : Str} {ts r : List Tok} {u : Unit} (hf : ∀ t ∈ ts, t.Fit K) (h : xFZ s ts = .ok u r) : (∀ t ∈ r, t.Fit K) ∧ tw r + 3 ≤ tw ts ∧ r.length < ts.length := by
 obtain ⟨t, rfl, _⟩ := xOS h
 exact ⟨fun x hx => hf x (List.mem_cons_of_mem _ hx), by rw [xKR]; omega, by simp⟩
theorem xRi {K : Nat} {ts : List Tok} (hf : ∀ t ∈ ts, t.Fit K) (h : (∃ t, ts = t :: ts.tail ∧ True)) : (∀ t ∈ ts.tail, t.Fit K) ∧ tw ts.tail + 3 ≤ tw ts ∧ ts.tail.length < ts.length := by
 obtain ⟨t, h1, _⟩ := h
 generalize ts.tail = q at h1
 subst h1
 exact ⟨fun x hx => hf x (List.mem_cons_of_mem _ hx), by rw [xKR]; omega, by simp⟩
theorem xJ0 {K : Nat} {s : Str} {ts : List Tok} (hf : ∀ t ∈ ts, t.Fit K) (h : seeS s ts = true) : (∀ t ∈ ts.tail, t.Fit K) ∧ tw ts.tail + 3 ≤ tw ts ∧ ts.tail.length < ts.length := by
 obtain ⟨t, h1, _⟩ := xLy h
 exact xRi hf ⟨t, h1, trivial⟩
theorem xOh {K : Nat} {s : Str} {ts : List Tok} (hf : ∀ t ∈ ts, t.Fit K) (h : seeK s ts = true) : (∀ t ∈ ts.tail, t.Fit K) ∧ tw ts.tail + 3 ≤ tw ts ∧ ts.tail.length < ts.length := by
 obtain ⟨t, h1, _⟩ := xNk h
 exact xRi hf ⟨t, h1, trivial⟩
theorem xK4 (a b : List Exp) : ((a ++ b).map Exp.size).sum = (a.map Exp.size).sum + (b.map Exp.size).sum := by simp
theorem xNe {K : Nat} {f : List Tok → PR Exp} (hf : xCo K f) (c : Str) : ∀ (m : Nat) (acc : List Exp) (ts : List Tok) (a : List Exp) (r : List Tok), (∀ t ∈ ts, t.Fit K) → tw ts ≤ K → (∀ x ∈ acc, x.Fit K) → xJd f c m acc ts = .ok a r →
 (a.length + (a.map Exp.size).sum + tw r ≤ acc.length + (acc.map Exp.size).sum + tw ts) ∧ (∀ x ∈ a, x.Fit K) ∧ (∀ t ∈ r, t.Fit K) ∧ r.length < ts.length := by
 intro m
 induction m with
 | zero => intro acc ts a r _ _ _ h; cases h
 | succ m ih =>
   intro acc ts a r h1 h2 h3 h
   obtain ⟨e, q, he, h⟩ := PR.bind_ok h
   obtain ⟨⟨w1, w2⟩, g1, g2⟩ := hf ts e q h1 h2 he
   have hacc : ∀ x ∈ acc ++ [e], x.Fit K := fun x hx => by
    rcases List.mem_append.1 hx with hx | hx
    · exact h3 x hx
    · rw [List.mem_singleton.1 hx]; exact w2
   have hsz : (acc ++ [e]).length + ((acc ++ [e]).map Exp.size).sum = acc.length + (acc.map Exp.size).sum + (1 + e.size) := by
    rw [xK4, jA]; simp only [List.map_cons, List.map_nil, List.sum_cons, List.sum_nil, jC, jN]; omega
   cases hc : seeS c q <;> rw [hc] at h
   · obtain ⟨u, v, hn, h⟩ := PR.bind_ok h
     obtain ⟨n1, n2, n3⟩ := xIC g1 hn
     obtain ⟨a1, a2, a3, a4⟩ := ih (acc ++ [e]) v a r n1 (by omega) hacc h
     exact ⟨by omega, a2, a3, by omega⟩
   · cases h
     obtain ⟨n1, n2, n3⟩ := xJ0 g1 hc
     exact ⟨by omega, hacc, n1, by omega⟩
theorem xLw {K : Nat} {f : List Tok → PR Exp} (hf : xCo K f) {m : Nat} {c : Str} {ts r : List Tok} {a : List Exp} (h1 : ∀ t ∈ ts, t.Fit K) (h2 : tw ts ≤ K) (h : xKM f m c ts = .ok a r) :
 (a.length + (a.map Exp.size).sum + tw r ≤ tw ts) ∧ (∀ x ∈ a, x.Fit K) ∧ (∀ t ∈ r, t.Fit K) ∧ r.length < ts.length := by
 unfold xKM at h
 cases hc : seeS c ts <;> rw [hc] at h
 · have := xNe hf c m [] ts a r h1 h2 (fun x hx => by cases hx) h
   simpa using this
 · cases h
   obtain ⟨n1, n2, n3⟩ := xJ0 h1 hc
   exact ⟨by simp; omega, (fun x hx => by cases hx), n1, n3⟩
theorem xK3 {K : Nat} {f : List Tok → PR Exp} (hf : xCo K f) {m : Nat} {t : Tok} {q r : List Tok} {e : Exp} (h1 : ∀ x ∈ t :: q, x.Fit K) (h2 : tw (t :: q) ≤ K) (h : xJM f m t q = .ok e r) :
 xUZ K (t :: q) e r ∧ (∀ x ∈ r, x.Fit K) ∧ r.length < (t :: q).length := by
 have hq : ∀ x ∈ q, x.Fit K := fun x hx => h1 x (List.mem_cons_of_mem _ hx)
 have hw := xKR t q
 unfold xJM at h
 cases c1 : isS t [91] <;> rw [c1] at h
 · cases c2 : isS t [40] <;> rw [c2] at h
   · cases h
   · obtain ⟨e', u, he, h⟩ := PR.bind_ok h
     obtain ⟨_, v, hn, h⟩ := PR.bind_ok h
     cases h
     obtain ⟨⟨w1, w2⟩, g1, g2⟩ := hf q e u hq (by omega) he
     obtain ⟨n1, n2, n3⟩ := xIC g1 hn
     exact ⟨⟨by omega, w2⟩, n1, by simp only [jC]; omega⟩
 · obtain ⟨a, u, ha, h⟩ := PR.bind_ok h
   cases h
   obtain ⟨w1, w2, w3, w4⟩ := xLw hf hq (by omega) ha
   refine ⟨⟨by rw [xDv]; simp only [jN]; omega, xE5 (xDn (by omega)) (xDn (by omega)) (Nat.zero_le _) (by omega) w2⟩, w3, by simp only [jC]; omega⟩
theorem xHv {K : Nat} {f : List Tok → PR Exp} (hf : xCo K f) (m : Nat) : xCo K (xGB f m) := by
 intro ts e r h1 h2 h
 cases ts with
 | nil => cases h
 | cons t q =>
   have hq : ∀ x ∈ q, x.Fit K := fun x hx => h1 x (List.mem_cons_of_mem _ hx)
   obtain ⟨ft1, ft2, ft3, ft4⟩ := h1 t List.mem_cons_self
   have ft4 : t.text.length ≤ K := ft4
   have hw := xKR t q
   have zero : ∀ x ∈ ([] : List Exp), x.Fit K := fun x hx => by cases hx
   simp only [xGB] at h
   cases c1 : t.kind == 2 <;> rw [c1] at h
   · cases c2 : t.kind == 3 <;> rw [c2] at h
     · cases c3 : t.kind == 1 <;> rw [c3] at h
       · exact xK3 hf h1 h2 h
       · cases c4 : xB1 t.text <;> rw [c4] at h
         · cases c5 : decide (argc t.text ≥ 0) <;> rw [c5] at h
           · exact xK3 hf h1 h2 h
           · obtain ⟨_, u, hn, h⟩ := PR.bind_ok h
             obtain ⟨a, v, ha, h⟩ := PR.bind_ok h
             cases h
             obtain ⟨n1, n2, n3⟩ := xIC hq hn
             obtain ⟨w1, w2, w3, w4⟩ := xLw hf n1 (by omega) ha
             exact ⟨⟨by rw [xDv]; omega, xE5 (xDn (by omega)) (xDn (by omega)) ft4 (by omega) w2⟩, w3, by simp only [jC]; omega⟩
         · cases h
           exact ⟨⟨by rw [xDv]; simp only [jN, List.map_nil, List.sum_nil]; omega, xE5 (xDn (by omega)) (xDn (by omega)) ft4 (Nat.zero_le _) zero⟩, hq, by simp⟩
     · cases h
       exact ⟨⟨by rw [xDv]; simp only [jN, List.map_nil, List.sum_nil]; omega, xE5 (xDn (by omega)) (xDn (by omega)) ft4 (Nat.zero_le _) zero⟩, hq, by simp⟩
   · cases h
     exact ⟨⟨by rw [xDv]; simp only [jN, List.map_nil, List.sum_nil]; omega, xE5 (xDn (by omega)) ft2 (Nat.zero_le _) (Nat.zero_le _) zero⟩, hq, by simp⟩
theorem xLn {K : Nat} {k n : Int} {a b : Exp} {w : Nat} (hk : I64 k) (hn : I64 n) (ha : a.Fit K) (hb : b.Fit K) (h2 : 2 ≤ K) : (Exp.mk k n [] [a, b]).Fit K ∧ (Exp.mk k n [] [a, b]).size = a.size + b.size + 2 :=
 ⟨xE5 hk hn (Nat.zero_le _) h2 (fun x hx => by
   simp only [List.mem_cons, List.not_mem_nil, or_false] at hx
   rcases hx with rfl | rfl <;> assumption), by rw [xDv]; simp only [jC, jN, List.map_cons, List.map_nil, List.sum_cons, List.sum_nil]; omega⟩
theorem xNg {K : Nat} {g : List Tok → PR Exp} (hg : xCo K g) : ∀ (m : Nat) (a : Exp) (ts : List Tok) (e : Exp) (r : List Tok), (∀ t ∈ ts, t.Fit K) → tw ts ≤ K → a.Fit K → xJe g m a ts = .ok e r →
 e.size + tw r ≤ a.size + tw ts ∧ e.Fit K ∧ (∀ t ∈ r, t.Fit K) ∧ r.length ≤ ts.length := by
 intro m
 induction m with
 | zero => intro a ts e r _ _ _ h; cases h
 | succ m ih =>
   intro a ts e r h1 h2 h3 h
   unfold xJe at h
   cases c1 : seeS [42] ts <;> rw [c1] at h
   · cases h; exact ⟨Nat.le_refl _, h3, h1, Nat.le_refl _⟩
   · obtain ⟨b, q, hb, h⟩ := PR.bind_ok h
     obtain ⟨n1, n2, n3⟩ := xJ0 h1 c1
     obtain ⟨⟨w1, w2⟩, g1, g2⟩ := hg _ b q n1 (by omega) hb
     obtain ⟨f1, f2⟩ := xLn (w := 0) (k := 6) (n := 3) (xDn (by omega)) (xDn (by omega)) h3 w2 (by omega)
     obtain ⟨p1, p2, p3, p4⟩ := ih _ q e r g1 (by omega) f1 h
     exact ⟨by omega, p2, p3, by omega⟩
theorem xOd {K : Nat} {g : List Tok → PR Exp} (hg : xCo K g) : ∀ (m : Nat) (a : Exp) (ts : List Tok) (e : Exp) (r : List Tok), (∀ t ∈ ts, t.Fit K) → tw ts ≤ K → a.Fit K → xJy g m a ts = .ok e r →
 e.size + tw r ≤ a.size + tw ts ∧ e.Fit K ∧ (∀ t ∈ r, t.Fit K) ∧ r.length ≤ ts.length := by
 intro m
 induction m with
 | zero => intro a ts e r _ _ _ h; cases h
 | succ m ih =>
   intro a ts e r h1 h2 h3 h
   have one : ∀ (n : Int), I64 n → (∀ t ∈ ts.tail, t.Fit K) ∧ tw ts.tail + 3 ≤ tw ts ∧ ts.tail.length < ts.length → ((g ts.tail).bind fun b r => xJy g m (.mk 6 n [] [a, b]) r) = .ok e r →
    e.size + tw r ≤ a.size + tw ts ∧ e.Fit K ∧ (∀ t ∈ r, t.Fit K) ∧ r.length ≤ ts.length := by
    rintro n hn ⟨n1, n2, n3⟩ h
    obtain ⟨b, q, hb, h⟩ := PR.bind_ok h
    obtain ⟨⟨w1, w2⟩, g1, g2⟩ := hg _ b q n1 (by omega) hb
    obtain ⟨f1, f2⟩ := xLn (w := 0) (k := 6) (n := n) (xDn (by omega)) hn h3 w2 (by omega)
    obtain ⟨p1, p2, p3, p4⟩ := ih _ q e r g1 (by omega) f1 h
    exact ⟨by omega, p2, p3, by omega⟩
   unfold xJy at h
   cases c1 : seeS [43] ts <;> rw [c1] at h
   · cases c2 : seeS [45] ts <;> rw [c2] at h
     · cases h; exact ⟨Nat.le_refl _, h3, h1, Nat.le_refl _⟩
     · exact one 2 (xDn (by omega)) (xJ0 h1 c2) h
   · exact one 1 (xDn (by omega)) (xJ0 h1 c1) h
theorem xJY {K : Nat} {g : List Tok → PR Exp} (hg : xCo K g) (m : Nat) : xCo K (xKN g m) := by
 intro ts e r h1 h2 h
 obtain ⟨a, q, ha, h⟩ := PR.bind_ok h
 obtain ⟨⟨w1, w2⟩, g1, g2⟩ := hg ts a q h1 h2 ha
 obtain ⟨p1, p2, p3, p4⟩ := xNg hg m a q e r g1 (by omega) w2 h
 exact ⟨⟨by omega, p2⟩, p3, by omega⟩
theorem xPj {K : Nat} {g : List Tok → PR Exp} (hg : xCo K g) (m : Nat) : xCo K (pSum g m) := by
 intro ts e r h1 h2 h
 obtain ⟨a, q, ha, h⟩ := PR.bind_ok h
 obtain ⟨⟨w1, w2⟩, g1, g2⟩ := hg ts a q h1 h2 ha
 obtain ⟨p1, p2, p3, p4⟩ := xOd hg m a q e r g1 (by omega) w2 h
 exact ⟨⟨by omega, p2⟩, p3, by omega⟩
theorem xPi {K : Nat} {g : List Tok → PR Exp} (hg : xCo K g) : xCo K (pCmp g) := by
 intro ts e r h1 h2 h
 obtain ⟨a, q, ha, h⟩ := PR.bind_ok h
 obtain ⟨⟨w1, w2⟩, g1, g2⟩ := hg ts a q h1 h2 ha
 have one : ∀ (n : Int), I64 n → (∀ t ∈ q.tail, t.Fit K) ∧ tw q.tail + 3 ≤ tw q ∧ q.tail.length < q.length → ((g q.tail).bind fun b r => PR.ok (.mk 6 n [] [a, b]) r) = .ok e r → xUZ K ts e r ∧ (∀ x ∈ r, x.Fit K) ∧ r.length < ts.length := by
  rintro n hn ⟨n1, n2, n3⟩ h
  obtain ⟨b, u, hb, h⟩ := PR.bind_ok h
  cases h
  obtain ⟨⟨v1, v2⟩, l1, l2⟩ := hg _ b r n1 (by omega) hb
  obtain ⟨f1, f2⟩ := xLn (w := 0) (k := 6) (n := n) (xDn (by omega)) hn w2 v2 (by omega)
  exact ⟨⟨by omega, f1⟩, l1, by omega⟩
 unfold xOc at h
 cases c1 : seeS [60] q <;> rw [c1] at h
 · cases c2 : seeS [61, 61] q <;> rw [c2] at h
   · cases h; exact ⟨⟨w1, w2⟩, g1, g2⟩
   · exact one 5 (xDn (by omega)) (xJ0 g1 c2) h
 · exact one 4 (xDn (by omega)) (xJ0 g1 c1) h
theorem xL8 {K : Nat} {f : List Tok → PR Exp} (hf : xCo K f) {k : Int} (hk : I64 k) {s1 s2 : Str} {ts r : List Tok} {e : Exp} (h1 : ∀ x ∈ ts, x.Fit K) (h2 : tw ts + 3 ≤ K) (h : pTwo f k s1 s2 ts = .ok e r) :
 e.size + tw r ≤ tw ts ∧ e.Fit K ∧ (∀ x ∈ r, x.Fit K) ∧ r.length < ts.length := by
 obtain ⟨x, q1, e1, h⟩ := PR.bind_ok h
 obtain ⟨_, q2, e2, h⟩ := PR.bind_ok h
 obtain ⟨a, q3, e3, h⟩ := PR.bind_ok h
 obtain ⟨_, q4, e4, h⟩ := PR.bind_ok h
 obtain ⟨b, q5, e5, h⟩ := PR.bind_ok h
 cases h
 obtain ⟨t, rfl, rfl, _, _⟩ := xOR e1
 have hq : ∀ x ∈ q1, x.Fit K := fun x hx => h1 x (List.mem_cons_of_mem _ hx)
 have ft4 : t.text.length ≤ K := (h1 t List.mem_cons_self).2.2.2
 have hw := xKR t q1
 obtain ⟨n1, n2, n3⟩ := xIC hq e2
 obtain ⟨⟨w1, w2⟩, g1, g2⟩ := hf _ a q3 n1 (by omega) e3
 obtain ⟨m1, m2, m3⟩ := xIC g1 e4
 obtain ⟨⟨v1, v2⟩, l1, l2⟩ := hf _ b r m1 (by omega) e5
 refine ⟨by rw [xDv]; simp only [jC, jN, List.map_cons, List.map_nil, List.sum_cons, List.sum_nil]; omega, xE5 hk (xDn (by omega)) ft4 (by simp; omega) (fun x hx => ?_), l1, by simp only [jC]; omega⟩
 simp only [List.mem_cons, List.not_mem_nil, or_false] at hx
 rcases hx with rfl | rfl <;> assumption
theorem xQ3 {K : Nat} {f : List Tok → PR Exp} (hf : xCo K f) {ts r : List Tok} {e : Exp} (h1 : ∀ x ∈ ts, x.Fit K) (h2 : tw ts + 3 ≤ K) (h : pIf f ts = .ok e r) :
 e.size + tw r ≤ tw ts ∧ e.Fit K ∧ (∀ x ∈ r, x.Fit K) ∧ r.length < ts.length := by
 obtain ⟨a, q1, e1, h⟩ := PR.bind_ok h
 obtain ⟨_, q2, e2, h⟩ := PR.bind_ok h
 obtain ⟨b, q3, e3, h⟩ := PR.bind_ok h
 obtain ⟨_, q4, e4, h⟩ := PR.bind_ok h
 obtain ⟨c, q5, e5, h⟩ := PR.bind_ok h
 cases h
 obtain ⟨⟨w1, w2⟩, g1, g2⟩ := hf _ a q1 h1 (by omega) e1
 obtain ⟨n1, n2, n3⟩ := xIC g1 e2
 obtain ⟨⟨v1, v2⟩, l1, l2⟩ := hf _ b q3 n1 (by omega) e3
 obtain ⟨m1, m2, m3⟩ := xIC l1 e4
 obtain ⟨⟨x1, x2⟩, y1, y2⟩ := hf _ c r m1 (by omega) e5
 refine ⟨by rw [xDv]; simp only [jC, jN, List.map_cons, List.map_nil, List.sum_cons, List.sum_nil]; omega, xE5 (xDn (by omega)) (xDn (by omega)) (Nat.zero_le _) (by simp; omega) (fun x hx => ?_), y1, by omega⟩
 simp only [List.mem_cons, List.not_mem_nil, or_false] at hx
 rcases hx with rfl | rfl | rfl <;> assumption
theorem xJZ {K : Nat} {f : List Tok → PR Exp} (hf : xCo K f) (m : Nat) : xCo K (xK8 f m) := xPj (xJY (xHv hf m) m) m
theorem xNd {K : Nat} {f g : List Tok → PR Exp} (hf : xCo K f) (hg : xCo K g) : xCo K (xHw f g) := by
 intro ts e r h1 h2 h
 unfold xHw at h
 cases c1 : seeK [108, 101, 116] ts <;> rw [c1] at h
 · cases c2 : seeK [105, 102] ts <;> rw [c2] at h
   · cases c3 : seeK [102, 111, 114] ts <;> rw [c3] at h
     · exact xPi hg ts e r h1 h2 h
     · obtain ⟨n1, n2, n3⟩ := xOh h1 c3
       obtain ⟨a1, a2, a3, a4⟩ := xL8 hf (xDn (by omega)) n1 (by omega) h
       exact ⟨⟨by omega, a2⟩, a3, by omega⟩
   · obtain ⟨n1, n2, n3⟩ := xOh h1 c2
     obtain ⟨a1, a2, a3, a4⟩ := xQ3 hf n1 (by omega) h
     exact ⟨⟨by omega, a2⟩, a3, by omega⟩
 · obtain ⟨n1, n2, n3⟩ := xOh h1 c1
   obtain ⟨a1, a2, a3, a4⟩ := xL8 hf (xDn (by omega)) n1 (by omega) h
   exact ⟨⟨by omega, a2⟩, a3, by omega⟩
theorem xE6 {K : Nat} : ∀ m, xCo K (pE m)
 | 0 => fun ts e r _ _ h => by cases h
 | m + 1 => xNd (xE6 m) (xJZ (xE6 m) (m + 1))
end Go.Ab
end
section
namespace Go.Ab
def gp (T ts : List Tok) : Psr := ⟨T, ((T.length - ts.length : Nat) : Int), -1⟩
def BadP (T ts : List Tok) (p : Psr) : Prop := p.list = T ∧ p.bad = ((T.length - ts.length : Nat) : Int) ∧ ts <:+ T
def SimP {α : Type} (T : List Tok) (R : PR α) (x : Option (α × Psr)) : Prop := match R with
 | .ok a ts => ts <:+ T ∧ x = some (a, gp T ts)
 | .err ts => ∃ a p, x = some (a, p) ∧ BadP T ts p
theorem BadP.nn {T ts : List Tok} {p : Psr} (h : BadP T ts p) : 0 ≤ p.bad := by rw [h.2.1]; omega
theorem SimP.bind {α β : Type} {T : List Tok} {R : PR α} {x : Option (α × Psr)} {k : α → List Tok → PR β} {g : α × Psr → Option (β × Psr)} (h : SimP T R x)
 (hk : ∀ a ts, R = .ok a ts → ts <:+ T → SimP T (k a ts) (g (a, gp T ts))) (hb : ∀ a p, 0 ≤ p.bad → ∃ b, g (a, p) = some (b, p)) : SimP T (R.bind k) (Option.bind x g) := by
 cases R with
 | ok a ts =>
   obtain ⟨h1, h2⟩ := h
   rw [h2]
   exact hk a ts rfl h1
 | err ts =>
   obtain ⟨a, p, h1, h2⟩ := h
   obtain ⟨b, h3⟩ := hb a p h2.nn
   rw [h1]
   exact ⟨b, p, h3, h2⟩
def hdT : List Tok → Tok
 | [] => Tok.mk 0 0 0 []
 | t :: _ => t
theorem xLX (N : Nat) (t : Tok) (s : Str) : xFI N t s = some (isS t s) := by unfold xFI isS; cases t.kind == 4 <;> rfl
theorem xLW (N : Nat) (t : Tok) (s : Str) : xD1 N t s = some (isK t s) := by unfold xD1 isK; cases t.kind == 1 <;> rfl
theorem vAu (s : Str) (ts : List Tok) : isK (hdT ts) s = seeK s ts := by cases ts <;> rfl
theorem xUT (s : Str) (ts : List Tok) : isS (hdT ts) s = seeS s ts := by cases ts <;> rfl
theorem xCm {T ts : List Tok} (h : ts <:+ T) : ts.tail <:+ T := (List.tail_suffix ts).trans h
theorem xHs {T ts : List Tok} (N : Nat) (h : ts <:+ T) : xBu N (gp T ts) = some (hdT ts, gp T ts) := by
 obtain ⟨pre, rfl⟩ := h
 have e : (pre ++ ts).length - ts.length = pre.length := by rw [jA]; omega
 unfold xBu
 simp only [gp, e]
 rw [show decide ((-1 : Int) < 0) = true from rfl, jT]
 cases ts with
 | nil => rw [decide_eq_false (by simp), jF]; rfl
 | cons t r =>
   rw [decide_eq_true (by simp only [jA, jC]; omega), jT, if_pos (by simp only [jA, jC]; omega)]
   simp [List.getD, hdT]
theorem xKT {T ts : List Tok} (hT : T.length ≤ 1000) (h : ts <:+ T) (hne : ts.tail.length + 1 = ts.length) : Psr.mk (gp T ts).list (IntKind.i64.wrap ((gp T ts).pos + 1)) (gp T ts).bad = gp T ts.tail := by
 have hl := h.length_le
 unfold gp
 have : IntKind.i64.wrap (((T.length - ts.length : Nat) : Int) + 1) = ((T.length - ts.tail.length : Nat) : Int) := by rw [xBh (by omega) (by omega)]; omega
 simp only [this]
theorem xHh {T ts : List Tok} {s : Str} (N : Nat) (hT : T.length ≤ 1000) (h : ts <:+ T) (hs : seeS s ts = true) : xAF N (gp T ts) s = some (true, gp T ts.tail) := by
 unfold xAF
 rw [xHs N h]
 simp only [jS, xLX, xUT, hs, jT, xKT hT h (xF5 hs)]
theorem xGA {T ts : List Tok} {s : Str} (N : Nat) (h : ts <:+ T) (hs : seeS s ts = false) : xAF N (gp T ts) s = some (false, gp T ts) := by
 unfold xAF
 rw [xHs N h]
 simp only [jS, xLX, xUT, hs, jF]
theorem xMd {T ts : List Tok} (N : Nat) (h : ts <:+ T) : ∃ p, xBT N (gp T ts) = some (.mk 0 0 [] [], p) ∧ BadP T ts p := ⟨_, rfl, rfl, rfl, h⟩
theorem xLd {p : Psr} (N : Nat) (h : 0 ≤ p.bad) : xBu N p = some (Tok.mk 0 0 0 [], p) := by
 unfold xBu; rw [decide_eq_false (by omega), jF]
theorem xGQ {p : Psr} (N : Nat) (s : Str) (h : 0 ≤ p.bad) : xAF N p s = some (false, p) := by
 unfold xAF; rw [xLd N h]; rfl
theorem xOv {p : Psr} (N : Nat) (h : 0 ≤ p.bad) : xBT N p = some (.mk 0 0 [] [], p) := by
 unfold xBT; rw [decide_eq_false (by omega), jF]
theorem xHL {p : Psr} (N : Nat) (s : Str) (h : 0 ≤ p.bad) : xAC N p s = some p := by
 unfold xAC; simp only [xLd N h, jS, xLW, xLX, xOv N h]; rfl
theorem SimP.need {β : Type} {T ts : List Tok} {s : Str} {N : Nat} {k : Unit → List Tok → PR β} {g : Psr → Option (β × Psr)} (hT : T.length ≤ 1000) (h : ts <:+ T)
 (hk : ∀ r, xFZ s ts = .ok () r → r <:+ T → SimP T (k () r) (g (gp T r))) (hb : ∀ p, 0 ≤ p.bad → ∃ b, g p = some (b, p)) : SimP T ((xFZ s ts).bind k) (Option.bind (xAC N (gp T ts) s) g) := by
 have bad : isK (hdT ts) s = false → isS (hdT ts) s = false → ∀ R : PR β, R = .err ts → SimP T R (Option.bind (xAC N (gp T ts) s) g) := by
  intro h1 h2 R hR
  subst hR
  obtain ⟨p, hp1, hp2⟩ := xMd N h
  obtain ⟨b, hb⟩ := hb p hp2.nn
  refine ⟨b, p, ?_, hp2⟩
  unfold xAC
  simp only [xHs N h, jS, xLW, xLX, h1, h2, jF, hp1, hb]
 cases ts with
 | nil => exact bad rfl rfl _ rfl
 | cons t r =>
   cases h1 : isK t s
   · cases h2 : isS t s
     · exact bad h1 h2 _ (by simp only [xFZ, h1, h2, Bool.or_false, jF, PR.bind])
     · have e : xFZ s (t :: r) = .ok () r := by simp only [xFZ, h1, h2, Bool.or_true, jT]
       rw [e]
       have := hk r e (xCm h)
       unfold xAC
       simp only [xHs N h, jS, xLW, xLX, hdT, h1, h2, jF, jT, xKT hT h rfl]
       exact this
   · have e : xFZ s (t :: r) = .ok () r := by simp only [xFZ, h1, Bool.true_or, jT]
     rw [e]
     have := hk r e (xCm h)
     unfold xAC
     simp only [xHs N h, jS, xLW, xLX, hdT, h1, jF, jT, xKT hT h rfl]
     exact this
structure TokT (K : Nat) (T : List Tok) : Prop where
 len : T.length ≤ 1000
 fit : ∀ t ∈ T, t.Fit K
 tw : tw T ≤ K
theorem vAS {T ts : List Tok} (h : ts <:+ T) : tw ts ≤ tw T := by
 obtain ⟨pre, rfl⟩ := h
 simp [tw]
theorem TokT.suf {K : Nat} {T ts : List Tok} (hT : TokT K T) (h : ts <:+ T) : (∀ t ∈ ts, t.Fit K) ∧ Ab.tw ts ≤ K := ⟨fun t ht => hT.fit t (h.subset ht), Nat.le_trans (vAS h) hT.tw⟩
theorem eat {K : Nat} {T ts r : List Tok} {f : List Tok → PR Exp} {e : Exp} (hT : TokT K T) (hf : xCo K f) (h : ts <:+ T) (he : f ts = .ok e r) : r.length < ts.length := by
 obtain ⟨h1, h2⟩ := hT.suf h
 exact (hf ts e r h1 h2 he).2.2
theorem xRI {K : Nat} {T ts : List Tok} {N : Nat} (hT : TokT K T) (hN : K < N) (hK : K ≤ 1048576) (h : ts <:+ T) : SimP T (xLP ts) (xBU N (gp T ts)) := by
 have bad : xBU N (gp T ts) = Option.bind (xBT N (gp T ts)) (fun r2 => some ([], r2.2)) → SimP T (.err ts : PR Str) (xBU N (gp T ts)) := fun he => by
  obtain ⟨p, h1, h2⟩ := xMd N h
  rw [he, h1]
  exact ⟨[], p, rfl, h2⟩
 cases ts with
 | nil =>
   refine bad ?_
   unfold xBU
   simp only [xHs N h, jS, hdT]; rfl
 | cons t r =>
   have hft := hT.fit t (h.subset List.mem_cons_self)
   have hlen : t.text.length ≤ K := hft.2.2.2
   have hv := xF9 (N := N) (s := t.text) (by omega) (by omega)
   simp only [xLP]
   cases h1 : t.kind == 1
   · refine bad ?_
     unfold xBU
     simp only [xHs N h, jS, hdT, bne, h1, Bool.not_false, jT]
   · cases h2 : xB1 t.text
     · refine bad ?_
       unfold xBU
       simp only [xHs N h, jS, hdT, bne, h1, hv, h2, Bool.not_true, Bool.not_false, jT, jF]
     · refine ⟨xCm h, ?_⟩
       unfold xBU
       simp only [xHs N h, jS, hdT, bne, h1, hv, h2, Bool.not_true, jT, jF, xKT hT.len h rfl]
       rfl
abbrev e0 : Exp := .mk 0 0 [] []
def xHl (q : Psr → Option (Exp × Psr)) : Prop := ∀ p, 0 ≤ p.bad → q p = some (e0, p)
def xPr (q : Psr → Str → Option (List Exp × Psr)) : Prop := ∀ p s, 0 ≤ p.bad → q p s = some ([], p)
def FPs (T : List Tok) (n : Nat) (f : List Tok → PR Exp) (q : Psr → Option (Exp × Psr)) : Prop := ∀ ts, ts <:+ T → ts.length < n → SimP T (f ts) (q (gp T ts))
section
variable {K : Nat} {T : List Tok} {N : Nat} {q0 q1 : Psr → Option (Exp × Psr)} {q2 : Psr → Str → Option (List Exp × Psr)} {q3 q4 : Psr → Option (Exp × Psr)}
theorem xNy : decide ((-1 : Int) < 0) = true := rfl
theorem xPK (T ts : List Tok) : (gp T ts).bad = -1 := rfl
theorem xPT (hT : TokT K T) {n : Nat} {f : List Tok → PR Exp} (hf : xCo K f) (hq : FPs T n f q1) (hb : xHl q1) (c : Str) : ∀ (m fuel : Nat) (acc : List Exp) (ts : List Tok), ts <:+ T → ts.length < n → ts.length < m → ts.length + 1 < fuel → acc.length + ts.length ≤ 2000 →
 SimP T (xJd f c m acc ts) (xCe N q0 q1 q2 q3 q4 fuel c acc (gp T ts)) := by
 intro m
 induction m with
 | zero => intro fuel acc ts _ _ h; omega
 | succ m ih =>
   intro fuel acc ts h hn hm hfu ha
   obtain ⟨fuel, rfl⟩ : ∃ k, fuel = k + 1 := ⟨fuel - 1, by omega⟩
   simp only [xJd, xCe, xPK, xNy, jT]
   refine SimP.bind (hq ts h hn) (fun e r he hr => ?_) (fun e p hp => ?_)
   · have hl := eat hT hf h he
     simp only [Exp.re_eq]
     rw [if_pos (by simp only [jC, jN]; unfold Lim; omega)]
     cases hs : seeS c r
     · rw [xGA N hr hs, jS]
       simp only [jF]
       refine SimP.need hT.len hr (fun q hq' hqs => ?_) (fun p hp => ?_)
       · have := xFt hq'
         exact ih fuel (acc ++ [e]) q hqs (by omega) (by omega) (by omega) (by simp only [jA, jC, jN]; omega)
       · obtain ⟨fuel, rfl⟩ : ∃ k, fuel = k + 1 := ⟨fuel - 1, by omega⟩
         exact ⟨acc ++ [e], by simp only [xCe]; rw [decide_eq_false (by omega), jF]⟩
     · rw [xHh N hT.len hr hs, jS]
       exact ⟨xCm hr, rfl⟩
   · obtain ⟨fuel, rfl⟩ : ∃ k, fuel = k + 1 := ⟨fuel - 1, by omega⟩
     simp only [Exp.re_eq]
     rw [if_pos (by simp only [jC, jN]; unfold Lim; omega), xGQ N c hp, jS]
     simp only [jF, xHL N _ hp, jS]
     exact ⟨acc ++ [e], by simp only [xCe]; rw [decide_eq_false (by omega), jF]⟩
theorem xRG (hN : 0 < N) (s : Str) {p : Psr} (h : 0 ≤ p.bad) : xCi N q0 q1 q2 q3 q4 p s = some ([], p) := by
 obtain ⟨M, rfl⟩ : ∃ k, N = k + 1 := ⟨N - 1, by omega⟩
 unfold xCi
 rw [xGQ _ s h, jS]
 simp only [jF, xCe]
 rw [decide_eq_false (by omega), jF]
theorem xRH (hT : TokT K T) (hN : 1002 < N) {n m : Nat} {f : List Tok → PR Exp} (hf : xCo K f) (hq : FPs T n f q1) (hb : xHl q1) (c : Str) {ts : List Tok} (h : ts <:+ T) (hn : ts.length < n) (hm : ts.length < m) :
 SimP T (xKM f m c ts) (xCi N q0 q1 q2 q3 q4 (gp T ts) c) := by
 have hl := h.length_le
 have := hT.len
 unfold xKM xCi
 cases hs : seeS c ts
 · rw [xGA N h hs, jS]
   simp only [jF]
   exact xPT hT hf hq hb c m N [] ts h hn hm (by omega) (by simp; omega)
 · rw [xHh N hT.len h hs, jS]
   exact ⟨xCm h, rfl⟩
def FPl (T : List Tok) (n m : Nat) (f : List Tok → PR Exp) (q : Psr → Str → Option (List Exp × Psr)) : Prop := ∀ c ts, ts <:+ T → ts.length < n → SimP T (xKM f m c ts) (q (gp T ts) c)
theorem xOr {p : Psr} (h : 0 ≤ p.bad) : xCr N q0 q1 q2 q3 q4 p = some (e0, p) := by
 unfold xCr
 simp only [xLd N h, jS, xGQ N _ h, xOv N h]
 rfl
theorem xMZ (hT : TokT K T) {n m : Nat} {f : List Tok → PR Exp} (hf : xCo K f) (hq : FPs T n f q1) (hb : xHl q1) (hl : FPl T n m f q2) (hbl : xPr q2) {t : Tok} {r : List Tok} (h : t :: r <:+ T) (hn : r.length < n) :
 SimP T (xJM f m t r) (Option.bind (xAF N (gp T (t :: r)) [91]) fun r2 =>
  bif r2.1 then (
   Option.bind (q2 r2.2 [93]) fun r3 =>
   some ((Exp.mk 4 0 [] r3.1), r3.2)
  ) else (
    Option.bind (xAF N r2.2 [40]) fun r3 =>
    bif r3.1 then (
     Option.bind (q1 r3.2) fun r4 =>
     Option.bind (xAC N r4.2 [41]) fun r5 =>
     some (r4.1, r5)
    ) else (
      Option.bind (xBT N r3.2) fun r4 =>
      some (r4.1, r4.2)
    )
  )) := by
 have hr : r <:+ T := xCm h
 unfold xJM
 cases h1 : isS t [91]
 · rw [xGA N h h1, jS]
   simp only [jF]
   cases h2 : isS t [40]
   · rw [xGA N h h2, jS]
     simp only [jF]
     obtain ⟨p, hp1, hp2⟩ := xMd N h
     rw [hp1]
     exact ⟨_, p, rfl, hp2⟩
   · rw [xHh N hT.len h h2, jS]
     simp only [jT, List.tail_cons]
     refine SimP.bind (hq r hr hn) (fun e u he hu => ?_) (fun e p hp => ⟨e, by simp only [xHL N _ hp, jS]⟩)
     exact SimP.need hT.len hu (fun v _ hv => ⟨hv, rfl⟩) (fun p hp => ⟨e, rfl⟩)
 · rw [xHh N hT.len h h1, jS]
   simp only [jT, List.tail_cons]
   exact SimP.bind (hl [93] r hr hn) (fun a u _ hu => ⟨hu, rfl⟩) (fun a p hp => ⟨_, rfl⟩)
theorem xRs (hT : TokT K T) (hN : K < N) (hK : K ≤ 1048576) {n m : Nat} {f : List Tok → PR Exp} (hf : xCo K f) (hq : FPs T n f q1) (hb : xHl q1) (hl : FPl T n m f q2) (hbl : xPr q2) :
 FPs T (n + 1) (xGB f m) (xCr N q0 q1 q2 q3 q4) := by
 intro ts h hn
 unfold xCr
 rw [xHs N h, jS]
 cases ts with
 | nil =>
   simp only [hdT, xGA N h (s := [91]) rfl, xGA N h (s := [40]) rfl, jS]
   obtain ⟨p, hp1, hp2⟩ := xMd N h
   exact ⟨_, p, by rw [hp1]; rfl, hp2⟩
 | cons t r =>
   have hr : r <:+ T := xCm h
   have hn' : r.length < n := by simp only [jC] at hn; omega
   have hft := hT.fit t (h.subset List.mem_cons_self)
   have hlen : t.text.length ≤ K := hft.2.2.2
   have hv := xF9 (N := N) (s := t.text) (by omega) (by omega)
   have hadv := xKT hT.len h rfl
   rw [List.tail_cons] at hadv
   simp only [xGB, hdT, hadv]
   cases h1 : t.kind == 2
   · cases h2 : t.kind == 3
     · cases h3 : t.kind == 1
       · exact xMZ hT hf hq hb hl hbl h hn'
       · simp only [jT, jF, hv, jS]
         cases h4 : xB1 t.text
         · simp only [jF, xGV, jS]
           cases h5 : decide (argc t.text ≥ 0)
           · exact xMZ hT hf hq hb hl hbl h hn'
           · simp only [jT]
             refine SimP.need hT.len hr (fun u hu hus => ?_) (fun p hp => ⟨_, by rw [hbl p _ hp, jS]⟩)
             have := xFt hu
             exact SimP.bind (hl [41] u hus (by omega)) (fun a v _ hv => ⟨hv, rfl⟩) (fun a p hp => ⟨_, rfl⟩)
         · exact ⟨hr, rfl⟩
     · exact ⟨hr, rfl⟩
   · exact ⟨hr, rfl⟩
theorem xQ5 (hT : TokT K T) {n : Nat} {g : List Tok → PR Exp} (hg : xCo K g) (hq : FPs T n g q0) (hb : xHl q0) (b2 : Exp) : ∀ (m fuel : Nat) (a : Exp) (ts : List Tok), ts <:+ T → ts.length ≤ n → ts.length < m → ts.length < fuel →
 SimP T (xJe g m a ts) (xBQ N q0 q1 q2 q3 q4 fuel (gp T ts) b2 a) := by
 intro m
 induction m with
 | zero => intro fuel a ts _ _ h; omega
 | succ m ih =>
   intro fuel a ts h hn hm hfu
   obtain ⟨fuel, rfl⟩ : ∃ k, fuel = k + 1 := ⟨fuel - 1, by omega⟩
   simp only [xJe, xBQ]
   cases hs : seeS [42] ts
   · rw [xGA N h hs, jS]
     exact ⟨h, rfl⟩
   · have hl := xF5 hs
     rw [xHh N hT.len h hs, jS]
     simp only [jT, Exp.re_eq]
     obtain ⟨fuel, rfl⟩ : ∃ k, fuel = k + 1 := ⟨fuel - 1, by omega⟩
     refine SimP.bind (hq ts.tail (xCm h) (by omega)) (fun b r hbr hr => ?_) (fun b p hp => ⟨.mk 6 3 [] [a, b], by simp only [xBQ, xGQ N _ hp, jS, jF]⟩)
     have := eat hT hg (xCm h) hbr
     exact ih (fuel + 1) _ r hr (by omega) (by omega) (by omega)
theorem xUF (hT : TokT K T) (hN : 1002 < N) {n m : Nat} {g : List Tok → PR Exp} (hg : xCo K g) (hq : FPs T n g q0) (hb : xHl q0) (hnm : n ≤ m) : FPs T n (xKN g m) (xBZ N q0 q1 q2 q3 q4) := by
 intro ts h hn
 have hl := h.length_le
 have := hT.len
 unfold xKN xBZ
 obtain ⟨M, rfl⟩ : ∃ k, N = k + 1 := ⟨N - 1, by omega⟩
 refine SimP.bind (hq ts h hn) (fun b r hbr hr => ?_) (fun b p hp => ⟨b, by simp only [xBQ, xGQ _ _ hp, jS, jF]⟩)
 have := eat hT hg h hbr
 exact xQ5 hT hg hq hb e0 m (M + 1) b r hr (by omega) (by omega) (by omega)
theorem xOU (hN : 0 < N) (hb : xHl q0) : xHl (xBZ N q0 q1 q2 q3 q4) := by
 intro p hp
 obtain ⟨M, rfl⟩ : ∃ k, N = k + 1 := ⟨N - 1, by omega⟩
 unfold xBZ
 simp only [hb p hp, jS, xBQ, xGQ _ _ hp, jF]
theorem xUN (hT : TokT K T) {n : Nat} {g : List Tok → PR Exp} (hg : xCo K g) (hq : FPs T n g q3) (hb : xHl q3) (b2 : Exp) : ∀ (m fuel : Nat) (a : Exp) (ts : List Tok), ts <:+ T → ts.length ≤ n → ts.length < m → ts.length < fuel →
 SimP T (xJy g m a ts) (xB3 N q0 q1 q2 q3 q4 fuel (gp T ts) b2 a) := by
 intro m
 induction m with
 | zero => intro fuel a ts _ _ h; omega
 | succ m ih =>
   intro fuel a ts h hn hm hfu
   obtain ⟨fuel, rfl⟩ : ∃ k, fuel = k + 1 := ⟨fuel - 1, by omega⟩
   have step : ∀ s k, seeS s ts = true → SimP T ((g ts.tail).bind fun b r => xJy g m (.mk 6 k [] [a, b]) r) (Option.bind (q3 (gp T ts.tail)) fun r3 => xB3 N q0 q1 q2 q3 q4 fuel r3.2 b2 (Exp.mk 6 k [] [(Exp.re a), (Exp.re r3.1)])) := by
    intro s k hs
    have hl := xF5 hs
    simp only [Exp.re_eq]
    obtain ⟨fuel, rfl⟩ : ∃ k, fuel = k + 1 := ⟨fuel - 1, by omega⟩
    refine SimP.bind (hq ts.tail (xCm h) (by omega)) (fun b r hbr hr => ?_) (fun b p hp => ⟨.mk 6 k [] [a, b], by simp only [xB3]; rw [decide_eq_false (by omega), jF]⟩)
    have := eat hT hg (xCm h) hbr
    exact ih (fuel + 1) _ r hr (by omega) (by omega) (by omega)
   simp only [xJy, xB3, xPK, xNy, jT]
   cases hs : seeS [43] ts
   · rw [xGA N h hs, jS]
     simp only [Bool.not_false, jT, jF]
     cases hs2 : seeS [45] ts
     · rw [xGA N h hs2, jS]
       exact ⟨h, rfl⟩
     · rw [xHh N hT.len h hs2, jS]
       simp only [Bool.not_true, jF, jT]
       exact step _ 2 hs2
   · rw [xHh N hT.len h hs, jS]
     simp only [Bool.not_true, jF, jT]
     exact step _ 1 hs
theorem xZG (hT : TokT K T) (hN : 1002 < N) {n m : Nat} {g : List Tok → PR Exp} (hg : xCo K g) (hq : FPs T n g q3) (hb : xHl q3) (hnm : n ≤ m) : FPs T n (pSum g m) (xCL N q0 q1 q2 q3 q4) := by
 intro ts h hn
 have hl := h.length_le
 have := hT.len
 unfold pSum xCL
 obtain ⟨M, rfl⟩ : ∃ k, N = k + 1 := ⟨N - 1, by omega⟩
 refine SimP.bind (hq ts h hn) (fun b r hbr hr => ?_) (fun b p hp => ⟨b, by simp only [xB3]; rw [decide_eq_false (by omega), jF]⟩)
 have := eat hT hg h hbr
 exact xUN hT hg hq hb e0 m (M + 1) b r hr (by omega) (by omega) (by omega)
theorem xRf (hN : 0 < N) (hb : xHl q3) : xHl (xCL N q0 q1 q2 q3 q4) := by
 intro p hp
 obtain ⟨M, rfl⟩ : ∃ k, N = k + 1 := ⟨N - 1, by omega⟩
 unfold xCL
 simp only [hb p hp, jS, xB3]
 rw [decide_eq_false (by omega), jF]
theorem xUV (N : Nat) : xEx N (List.getD [4, 5] (Int.toNat 0) Ty.int.dflt) = some [60] := rfl
theorem xUW (N : Nat) : xEx N (List.getD [4, 5] (Int.toNat 1) Ty.int.dflt) = some [61, 61] := rfl
theorem xPC {p : Psr} (hp : 0 ≤ p.bad) (fuel : Nat) (a b2 : Exp) : xCK N q0 q1 q2 q3 q4 (fuel + 3) [4, 5] (List.length [4, 5] : Int) 0 p b2 a = some (a, p) := by
 have e1 : IntKind.i64.wrap (0 + 1) = 1 := rfl
 have e2 : IntKind.i64.wrap (1 + 1) = 2 := rfl
 simp only [xCK, xUV, xUW, jS, xGQ N _ hp, jF, e1, e2]
 rfl
theorem xU2 (hT : TokT K T) {n : Nat} {g : List Tok → PR Exp} (hg : xCo K g) (hq : FPs T n g q4) (hb : xHl q4) (fuel : Nat) (a b2 : Exp) {ts : List Tok} (h : ts <:+ T) (hn : ts.length ≤ n) :
 SimP T (xOc g a ts) (xCK N q0 q1 q2 q3 q4 (fuel + 3) [4, 5] (List.length [4, 5] : Int) 0 (gp T ts) b2 a) := by
 have e1 : IntKind.i64.wrap (0 + 1) = 1 := rfl
 have e2 : IntKind.i64.wrap (1 + 1) = 2 := rfl
 have c0 : decide ((0 : Int) < (List.length [4, 5] : Int)) = true := rfl
 have c1 : decide ((1 : Int) < (List.length [4, 5] : Int)) = true := rfl
 have c2 : decide ((2 : Int) < (List.length [4, 5] : Int)) = false := rfl
 have i0 : (0 : Int) ≤ 0 ∧ (0 : Int) < (List.length [4, 5] : Int) := by decide
 have i1 : (0 : Int) ≤ 1 ∧ (1 : Int) < (List.length [4, 5] : Int) := by decide
 have step : ∀ s k, seeS s ts = true → SimP T ((g ts.tail).bind fun b r => PR.ok (.mk 6 k [] [a, b]) r) (Option.bind (q4 (gp T ts.tail)) fun r3 => some ((Exp.mk 6 k [] [(Exp.re a), (Exp.re r3.1)]), r3.2)) := by
  intro s k hs
  have hl := xF5 hs
  simp only [Exp.re_eq]
  exact SimP.bind (hq ts.tail (xCm h) (by omega)) (fun b r hbr hr => ⟨hr, rfl⟩) (fun b p hp => ⟨_, rfl⟩)
 unfold xOc
 simp only [xCK, c0, c1, c2, if_pos i0, if_pos i1, jT, jF, xUV, xUW, e1, e2, jS]
 cases hs : seeS [60] ts
 · rw [xGA N h hs, jS]
   simp only [jF]
   cases hs2 : seeS [61, 61] ts
   · rw [xGA N h hs2, jS]
     exact ⟨h, rfl⟩
   · rw [xHh N hT.len h hs2, jS]
     exact step _ 5 hs2
 · rw [xHh N hT.len h hs, jS]
   exact step _ 4 hs
theorem xRz (hN : 3 ≤ N) (hb : xHl q4) : xHl (xCs N q0 q1 q2 q3 q4) := by
 intro p hp
 obtain ⟨M, rfl⟩ : ∃ k, N = k + 3 := ⟨N - 3, by omega⟩
 unfold xCs
 simp only [xLd _ hp, jS, xLW, hb p hp]
 exact xPC hp M e0 e0
theorem lim1 (x : Exp) : 0 + List.length [x] ≤ Lim := by simp [Lim]
theorem lim2 (x y : Exp) : List.length ([] ++ [x]) + List.length [y] ≤ Lim := by simp [Lim]
theorem lim3 (x y z : Exp) : List.length (([] ++ [x]) ++ [y]) + List.length [z] ≤ Lim := by simp [Lim]
theorem xRl (hT : TokT K T) (hN : K < N) (hK : K ≤ 1048576) {n : Nat} {f : List Tok → PR Exp} (hf : xCo K f) (hq : FPs T n f q1) (hb : xHl q1) (k : Int) (s1 s2 : Str) {ts : List Tok} (h : ts <:+ T) (hn : ts.length < n) :
 SimP T (pTwo f k s1 s2 ts) (Option.bind (xBU N (gp T ts)) fun r3 => Option.bind (xAC N r3.2 s1) fun r4 => Option.bind (q1 r4) fun r5 =>
  if 0 + List.length [(Exp.re r5.1)] ≤ Lim then Option.bind (xAC N r5.2 s2) fun r6 => Option.bind (q1 r6) fun r7 =>
   if List.length ([] ++ [(Exp.re r5.1)]) + List.length [(Exp.re r7.1)] ≤ Lim then some ((Exp.mk k 0 r3.1 (([] ++ [(Exp.re r5.1)]) ++ [(Exp.re r7.1)])), r7.2) else none else none) := by
 simp only [if_pos (lim1 _), if_pos (lim2 _ _), Exp.re_eq]
 refine SimP.bind (xRI hT hN hK h) (fun x r1 hx hr1 => ?_) (fun x p hp => ⟨.mk k 0 x [e0, e0], by simp only [xHL N _ hp, hb p hp, jS]; rfl⟩)
 have l1 := xNf hx
 refine SimP.need hT.len hr1 (fun r2 h2 hr2 => ?_) (fun p hp => ⟨.mk k 0 x [e0, e0], by simp only [xHL N _ hp, hb p hp, jS]; rfl⟩)
 have l2 := xFt h2
 refine SimP.bind (hq r2 hr2 (by omega)) (fun a r3 h3 hr3 => ?_) (fun a p hp => ⟨.mk k 0 x [a, e0], by simp only [xHL N _ hp, hb p hp, jS]; rfl⟩)
 have l3 := eat hT hf hr2 h3
 refine SimP.need hT.len hr3 (fun r4 h4 hr4 => ?_) (fun p hp => ⟨.mk k 0 x [a, e0], by simp only [hb p hp, jS]; rfl⟩)
 have l4 := xFt h4
 exact SimP.bind (hq r4 hr4 (by omega)) (fun b r5 h5 hr5 => ⟨hr5, rfl⟩) (fun b p hp => ⟨_, rfl⟩)
theorem vAt (hT : TokT K T) {n : Nat} {f : List Tok → PR Exp} (hf : xCo K f) (hq : FPs T n f q1) (hb : xHl q1) {ts : List Tok} (h : ts <:+ T) (hn : ts.length < n) :
 SimP T (pIf f ts) (Option.bind (q1 (gp T ts)) fun r5 =>
  if 0 + List.length [(Exp.re r5.1)] ≤ Lim then
  Option.bind (xAC N r5.2 [116, 104, 101, 110]) fun r6 =>
  Option.bind (q1 r6) fun r7 =>
  if List.length ([] ++ [(Exp.re r5.1)]) + List.length [(Exp.re r7.1)] ≤ Lim then
  Option.bind (xAC N r7.2 [101, 108, 115, 101]) fun r8 =>
  Option.bind (q1 r8) fun r9 =>
  if List.length (([] ++ [(Exp.re r5.1)]) ++ [(Exp.re r7.1)]) + List.length [(Exp.re r9.1)] ≤ Lim then
  some ((Exp.mk 8 0 [] ((([] ++ [(Exp.re r5.1)]) ++ [(Exp.re r7.1)]) ++ [(Exp.re r9.1)])), r9.2)
  else none
  else none
  else none) := by
 simp only [if_pos (lim1 _), if_pos (lim2 _ _), if_pos (lim3 _ _ _), Exp.re_eq]
 refine SimP.bind (hq ts h hn) (fun a r1 h1 hr1 => ?_) (fun a p hp => ⟨.mk 8 0 [] [a, e0, e0], by simp only [xHL N _ hp, hb p hp, jS]; rfl⟩)
 have l1 := eat hT hf h h1
 refine SimP.need hT.len hr1 (fun r2 h2 hr2 => ?_) (fun p hp => ⟨.mk 8 0 [] [a, e0, e0], by simp only [xHL N _ hp, hb p hp, jS]; rfl⟩)
 have l2 := xFt h2
 refine SimP.bind (hq r2 hr2 (by omega)) (fun b r3 h3 hr3 => ?_) (fun b p hp => ⟨.mk 8 0 [] [a, b, e0], by simp only [xHL N _ hp, hb p hp, jS]; rfl⟩)
 have l3 := eat hT hf hr2 h3
 refine SimP.need hT.len hr3 (fun r4 h4 hr4 => ?_) (fun p hp => ⟨.mk 8 0 [] [a, b, e0], by simp only [hb p hp, jS]; rfl⟩)
 have l4 := xFt h4
 exact SimP.bind (hq r4 hr4 (by omega)) (fun c r5 h5 hr5 => ⟨hr5, rfl⟩) (fun c p hp => ⟨_, rfl⟩)
theorem xPF (hT : TokT K T) (hN : K < N) (hN2 : 1002 < N) (hK : K ≤ 1048576) {n : Nat} {f g : List Tok → PR Exp} (hf : xCo K f) (hg : xCo K g) (hq : FPs T n f q1) (hb : xHl q1) (hq4 : FPs T (n + 1) g q4) (hb4 : xHl q4) :
 FPs T (n + 1) (xHw f g) (xCs N q0 q1 q2 q3 q4) := by
 intro ts h hn
 unfold xHw xCs
 simp only [xHs N h, jS, xLW, vAu]
 cases c1 : seeK [108, 101, 116] ts
 · simp only [jF]
   cases c2 : seeK [105, 102] ts
   · simp only [jF]
     cases c3 : seeK [102, 111, 114] ts
     · simp only [jF]
       obtain ⟨M, rfl⟩ : ∃ k, N = k + 3 := ⟨N - 3, by omega⟩
       unfold pCmp
       refine SimP.bind (hq4 ts h hn) (fun a r ha hr => ?_) (fun a p hp => ⟨a, xPC hp M a e0⟩)
       have := eat hT hg h ha
       exact xU2 hT hg hq4 hb4 M a e0 hr (by omega)
     · simp only [jT, xKT hT.len h (xF4 c3)]
       have := xF4 c3
       exact xRl hT hN hK hf hq hb 9 _ _ (xCm h) (by omega)
   · simp only [jT, xKT hT.len h (xF4 c2)]
     have := xF4 c2
     exact vAt hT hf hq hb (xCm h) (by omega)
 · simp only [jT, xKT hT.len h (xF4 c1)]
   have := xF4 c1
   exact xRl hT hN hK hf hq hb 7 _ _ (xCm h) (by omega)
end
theorem xNv {N : Nat} (hN : 3 ≤ N) : ∀ d, 4 ≤ d → xHl (xAa N d).c_impl_parser_expr := by
 intro d hd
 obtain ⟨d, rfl⟩ : ∃ k, d = k + 4 := ⟨d - 4, by omega⟩
 exact xRz (q0 := (xAa N (d + 3)).c_impl_parser_atom) (q1 := (xAa N (d + 3)).c_impl_parser_expr) (q2 := (xAa N (d + 3)).c_impl_parser_list2) (q3 := (xAa N (d + 3)).c_impl_parser_product) (q4 := (xAa N (d + 3)).c_impl_parser_sum) hN (xRf (q0 := (xAa N (d + 2)).c_impl_parser_atom) (q1 := (xAa N (d + 2)).c_impl_parser_expr) (q2 := (xAa N (d + 2)).c_impl_parser_list2) (q3 := (xAa N (d + 2)).c_impl_parser_product) (q4 := (xAa N (d + 2)).c_impl_parser_sum) (by omega) (xOU (q0 := (xAa N (d + 1)).c_impl_parser_atom) (q1 := (xAa N (d + 1)).c_impl_parser_expr) (q2 := (xAa N (d + 1)).c_impl_parser_list2) (q3 := (xAa N (d + 1)).c_impl_parser_product) (q4 := (xAa N (d + 1)).c_impl_parser_sum) (by omega) fun p hp => xOr (q0 := (xAa N d).c_impl_parser_atom) (q1 := (xAa N d).c_impl_parser_expr) (q2 := (xAa N d).c_impl_parser_list2) (q3 := (xAa N d).c_impl_parser_product) (q4 := (xAa N d).c_impl_parser_sum) hp))
theorem vAK {K : Nat} {T : List Tok} {N : Nat} (hT : TokT K T) (hN : K < N) (hN2 : 1002 < N) (hK : K ≤ 1048576) : ∀ n d, 5 * n + 9 ≤ d → FPs T n (pE n) (xAa N d).c_impl_parser_expr := by
 intro n
 induction n with
 | zero => intro d _ ts _ h; omega
 | succ n ih =>
   intro d hd
   obtain ⟨d, rfl⟩ : ∃ k, d = k + 5 := ⟨d - 5, by omega⟩
   have f1 := ih d (by omega)
   have f2 := ih (d + 1) (by omega)
   have f4 := ih (d + 4) (by omega)
   have b1 := xNv (N := N) (by omega) d (by omega)
   have b2 := xNv (N := N) (by omega) (d + 1) (by omega)
   have b4 := xNv (N := N) (by omega) (d + 4) (by omega)
   have hl : FPl T n (n + 1) (pE n) (xAa N (d + 1)).c_impl_parser_list2 := fun c ts h hn => xRH (q0 := (xAa N d).c_impl_parser_atom) (q1 := (xAa N d).c_impl_parser_expr) (q2 := (xAa N d).c_impl_parser_list2) (q3 := (xAa N d).c_impl_parser_product) (q4 := (xAa N d).c_impl_parser_sum) hT hN2 (xE6 n) f1 b1 c h hn (by omega)
   have hbl : xPr (xAa N (d + 1)).c_impl_parser_list2 := fun p s hp => xRG (q0 := (xAa N d).c_impl_parser_atom) (q1 := (xAa N d).c_impl_parser_expr) (q2 := (xAa N d).c_impl_parser_list2) (q3 := (xAa N d).c_impl_parser_product) (q4 := (xAa N d).c_impl_parser_sum) (by omega) s hp
   have a : FPs T (n + 1) (xGB (pE n) (n + 1)) (xAa N (d + 2)).c_impl_parser_atom := xRs (q0 := (xAa N (d + 1)).c_impl_parser_atom) (q1 := (xAa N (d + 1)).c_impl_parser_expr) (q2 := (xAa N (d + 1)).c_impl_parser_list2) (q3 := (xAa N (d + 1)).c_impl_parser_product) (q4 := (xAa N (d + 1)).c_impl_parser_sum) hT hN hK (xE6 n) f2 b2 hl hbl
   have ba : xHl (xAa N (d + 2)).c_impl_parser_atom := fun p hp => xOr (q0 := (xAa N (d + 1)).c_impl_parser_atom) (q1 := (xAa N (d + 1)).c_impl_parser_expr) (q2 := (xAa N (d + 1)).c_impl_parser_list2) (q3 := (xAa N (d + 1)).c_impl_parser_product) (q4 := (xAa N (d + 1)).c_impl_parser_sum) hp
   have p : FPs T (n + 1) (xKN (xGB (pE n) (n + 1)) (n + 1)) (xAa N (d + 3)).c_impl_parser_product := xUF (q0 := (xAa N (d + 2)).c_impl_parser_atom) (q1 := (xAa N (d + 2)).c_impl_parser_expr) (q2 := (xAa N (d + 2)).c_impl_parser_list2) (q3 := (xAa N (d + 2)).c_impl_parser_product) (q4 := (xAa N (d + 2)).c_impl_parser_sum) hT hN2 (xHv (xE6 n) _) a ba (Nat.le_refl _)
   have bp : xHl (xAa N (d + 3)).c_impl_parser_product := xOU (q0 := (xAa N (d + 2)).c_impl_parser_atom) (q1 := (xAa N (d + 2)).c_impl_parser_expr) (q2 := (xAa N (d + 2)).c_impl_parser_list2) (q3 := (xAa N (d + 2)).c_impl_parser_product) (q4 := (xAa N (d + 2)).c_impl_parser_sum) (by omega) ba
   have s : FPs T (n + 1) (xK8 (pE n) (n + 1)) (xAa N (d + 4)).c_impl_parser_sum := xZG (q0 := (xAa N (d + 3)).c_impl_parser_atom) (q1 := (xAa N (d + 3)).c_impl_parser_expr) (q2 := (xAa N (d + 3)).c_impl_parser_list2) (q3 := (xAa N (d + 3)).c_impl_parser_product) (q4 := (xAa N (d + 3)).c_impl_parser_sum) hT hN2 (xJY (xHv (xE6 n) _) _) p bp (Nat.le_refl _)
   have bs : xHl (xAa N (d + 4)).c_impl_parser_sum := xRf (q0 := (xAa N (d + 3)).c_impl_parser_atom) (q1 := (xAa N (d + 3)).c_impl_parser_expr) (q2 := (xAa N (d + 3)).c_impl_parser_list2) (q3 := (xAa N (d + 3)).c_impl_parser_product) (q4 := (xAa N (d + 3)).c_impl_parser_sum) (by omega) bp
   exact xPF (q0 := (xAa N (d + 4)).c_impl_parser_atom) (q1 := (xAa N (d + 4)).c_impl_parser_expr) (q2 := (xAa N (d + 4)).c_impl_parser_list2) (q3 := (xAa N (d + 4)).c_impl_parser_product) (q4 := (xAa N (d + 4)).c_impl_parser_sum) hT hN hN2 hK (xE6 n) (xJZ (xE6 n) _) f4 b4 s bs
end Go.Ab
end
