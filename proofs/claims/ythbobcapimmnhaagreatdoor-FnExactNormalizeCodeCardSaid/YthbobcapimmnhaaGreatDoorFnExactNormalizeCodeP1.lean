/- The statement FnExactNormalizeCode holds: plain functions, certificates, laws. Conditions: none. -/
import Derived.Test.YthbobcapimmnhaaGreatDoorL2
import Derived.Test.YthbobcapimmnhaaGreatDoorFnExactNormalizeCodeP0
set_option linter.all false
section
open Go.Proofs
namespace Go.Ab.T
set_option maxRecDepth 100000
variable [Inhabited Lb]
variable [Nonempty Tab10]
variable [Nonempty ErrVars]
noncomputable def I117 : Info := { body := (Tryz.f117.body).getD .skip, nt := 26, results := [.tmp 2], keep := [0, 4, 6, 8, 12, 24, 40, 48], live := [], modes := [] }
theorem xHp : FnOk Tryz.prog 117 Tryz.f117 I117 := ⟨Tryz.func117, by kernel_rfl, by kernel_rfl, by kernel_rfl, by kernel_rfl⟩
def xRw (a0 : Str) : rE I117 (xAk a0) [Y] [] = dn (xAg 0) [iY (xMQ a0)] := by kernel_rfl
def xRx (a0 : Str) : rE I117 (xAk a0) [F, Y, Y] [] = dn (xAg 1) [xDH a0, xNm a0, xNm a0] := by kernel_rfl
def xRy (a0 : Str) : rE I117 (xAk a0) [F, F, Y, Y] [] = dn (xAg 1) [xDH a0, xDT a0, xNn a0, xNn a0] := by kernel_rfl
def xRz (a0 : Str) : rE I117 (xAk a0) [F, F, F, Y, Y] [] = dn (xAg 1) [xDH a0, xDT a0, xD9 a0, xNo a0, xNo a0] := by kernel_rfl
def xRA (a0 : Str) : rE I117 (xAk a0) [F, F, F, F, Y, Y] [] = dn (xAg 1) [xDH a0, xDT a0, xD9 a0, xEw a0, xNp a0, xNp a0] := by kernel_rfl
def xRB (a0 : Str) : rE I117 (xAk a0) [F, F, F, F, F, Y] [] = dn (xAg 1) [xDH a0, xDT a0, xD9 a0, xEw a0, xEK a0, iY (xMR a0)] := by kernel_rfl
def xRC (a0 : Str) : rE I117 (xAk a0) [F, F, F, F, F, F, Y, Y] [] = dn (xAg 2) [xDH a0, xDT a0, xD9 a0, xEw a0, xEK a0, xEX a0, xNq a0, xNq a0] := by kernel_rfl
def xRD (a0 : Str) : rE I117 (xAk a0) [F, F, F, F, F, F, F, Y, Y] [] = dn (xAg 2) [xDH a0, xDT a0, xD9 a0, xEw a0, xEK a0, xEX a0, xFl a0, xNr a0, xNr a0] := by kernel_rfl
def xRE (a0 : Str) : rE I117 (xAk a0) [F, F, F, F, F, F, F, F, Y, Y] [] = dn (xAg 2) [xDH a0, xDT a0, xD9 a0, xEw a0, xEK a0, xEX a0, xFl a0, xFH a0, xNs a0, xNs a0] := by kernel_rfl
def xRF (a0 : Str) : rE I117 (xAk a0) [F, F, F, F, F, F, F, F, F, Y, Y] [] = dn (xAg 2) [xDH a0, xDT a0, xD9 a0, xEw a0, xEK a0, xEX a0, xFl a0, xFH a0, xF1 a0, xNt a0, xNt a0] := by kernel_rfl
def xPp (a0 : Str) : rE I117 (xAk a0) [F, F, F, F, F, F, F, F, F, F, Y, Y] [] = dn (xAg 2) [xDH a0, xDT a0, xD9 a0, xEw a0, xEK a0, xEX a0, xFl a0, xFH a0, xF1 a0, xGn a0, xNu a0, xNu a0] := by kernel_rfl
def xPq (a0 : Str) : rE I117 (xAk a0) [F, F, F, F, F, F, F, F, F, F, F, Y, Y] [] = dn (xAg 2) [xDH a0, xDT a0, xD9 a0, xEw a0, xEK a0, xEX a0, xFl a0, xFH a0, xF1 a0, xGn a0, xGT a0, xNv a0, xNv a0] := by kernel_rfl
def xPr (a0 : Str) : rE I117 (xAk a0) [F, F, F, F, F, F, F, F, F, F, F, F, Y] [] = dn (xAg 2) [xDH a0, xDT a0, xD9 a0, xEw a0, xEK a0, xEX a0, xFl a0, xFH a0, xF1 a0, xGn a0, xGT a0, xHG a0, iY (xMS a0)] := by kernel_rfl
def xPs (a0 : Str) : rE I117 (xAk a0) [F, F, F, F, F, F, F, F, F, F, F, F, F, Y, Y] [] = dn (xAg 3) [xDH a0, xDT a0, xD9 a0, xEw a0, xEK a0, xEX a0, xFl a0, xFH a0, xF1 a0, xGn a0, xGT a0, xHG a0, xIB a0, xNw a0, xNw a0] := by kernel_rfl
def xPt (a0 : Str) : rE I117 (xAk a0) [F, F, F, F, F, F, F, F, F, F, F, F, F, F, Y, Y] [] = dn (xAg 3) [xDH a0, xDT a0, xD9 a0, xEw a0, xEK a0, xEX a0, xFl a0, xFH a0, xF1 a0, xGn a0, xGT a0, xHG a0, xIB a0, xJH a0, xNx a0, xNx a0] := by kernel_rfl
def xPu (a0 : Str) : rE I117 (xAk a0) [F, F, F, F, F, F, F, F, F, F, F, F, F, F, F, Y] [] = dn (xAg 3) [xDH a0, xDT a0, xD9 a0, xEw a0, xEK a0, xEX a0, xFl a0, xFH a0, xF1 a0, xGn a0, xGT a0, xHG a0, xIB a0, xJH a0, xKV a0, iY (xMT a0)] := by kernel_rfl
def xPv (a0 : Str) : rE I117 (xAk a0) [F, F, F, F, F, F, F, F, F, F, F, F, F, F, F, F, Y] [] = dn (xAg 4) [xDH a0, xDT a0, xD9 a0, xEw a0, xEK a0, xEX a0, xFl a0, xFH a0, xF1 a0, xGn a0, xGT a0, xHG a0, xIB a0, xJH a0, xKV a0, xNy a0, iY (xLt a0)] := by kernel_rfl
def xPw (a0 : Str) : rE I117 (xAk a0) [F, F, F, F, F, F, F, F, F, F, F, F, F, F, F, F, F] [] = dn (xAg (-1)) [xDH a0, xDT a0, xD9 a0, xEw a0, xEK a0, xEX a0, xFl a0, xFH a0, xF1 a0, xGn a0, xGT a0, xHG a0, xIB a0, xJH a0, xKV a0, xNy a0, iN (xLt a0)] := by kernel_rfl
theorem xYH {N : Nat} : ∀ a0 r, xCM N a0 = some r → RE Tryz.f117 I117 (xAk a0) (xAg r) := fun a0 r h =>
 cE h (fun h0 h => dE h xHp (xRw a0) (oc h0 on)) fun h0 h =>
 cE h (fun h1 h => dE h xHp (xRx a0) (oc3 h0 h1 h1 on)) fun h1 h =>
 cE h (fun h2 h => dE h xHp (xRy a0) (oc4 h0 h1 h2 h2 on)) fun h2 h =>
 cE h (fun h3 h => dE h xHp (xRz a0) (oc5 h0 h1 h2 h3 h3 on)) fun h3 h =>
 cE h (fun h4 h => dE h xHp (xRA a0) (oc6 h0 h1 h2 h3 h4 h4 on)) fun h4 h =>
 cE h (fun h5 h => dE h xHp (xRB a0) (oc6 h0 h1 h2 h3 h4 h5 on)) fun h5 h =>
 cE h (fun h6 h => dE h xHp (xRC a0) (oc8 h0 h1 h2 h3 h4 h5 h6 h6 on)) fun h6 h =>
 cE h (fun h7 h => dE h xHp (xRD a0) (oc9 h0 h1 h2 h3 h4 h5 h6 h7 h7 on)) fun h7 h =>
 cE h (fun h8 h => dE h xHp (xRE a0) (oc10 h0 h1 h2 h3 h4 h5 h6 h7 h8 h8 on)) fun h8 h =>
 cE h (fun h9 h => dE h xHp (xRF a0) (oc11 h0 h1 h2 h3 h4 h5 h6 h7 h8 h9 h9 on)) fun h9 h =>
 cE h (fun h10 h => dE h xHp (xPp a0) (oc12 h0 h1 h2 h3 h4 h5 h6 h7 h8 h9 h10 h10 on)) fun h10 h =>
 cE h (fun h11 h => dE h xHp (xPq a0) (oc12 h0 h1 h2 h3 h4 h5 h6 h7 h8 h9 h10 h11 (oc h11 on))) fun h11 h =>
 cE h (fun h12 h => dE h xHp (xPr a0) (oc12 h0 h1 h2 h3 h4 h5 h6 h7 h8 h9 h10 h11 (oc h12 on))) fun h12 h =>
 cE h (fun h13 h => dE h xHp (xPs a0) (oc12 h0 h1 h2 h3 h4 h5 h6 h7 h8 h9 h10 h11 (oc3 h12 h13 h13 on))) fun h13 h =>
 cE h (fun h14 h => dE h xHp (xPt a0) (oc12 h0 h1 h2 h3 h4 h5 h6 h7 h8 h9 h10 h11 (oc4 h12 h13 h14 h14 on))) fun h14 h =>
 cE h (fun h15 h => dE h xHp (xPu a0) (oc12 h0 h1 h2 h3 h4 h5 h6 h7 h8 h9 h10 h11 (oc4 h12 h13 h14 h15 on))) fun h15 h =>
 cE h (fun h16 h => dE h xHp (xPv a0) (oc12 h0 h1 h2 h3 h4 h5 h6 h7 h8 h9 h10 h11 (oc5 h12 h13 h14 h15 h16 on))) fun h16 h =>
 dE h xHp (xPw a0) (oc12 h0 h1 h2 h3 h4 h5 h6 h7 h8 h9 h10 h11 (oc5 h12 h13 h14 h15 h16 on))
theorem xC0 {N : Nat} {a0 : Str} {r : Int} (h : xCM N  a0 = some r) : AbC 117 (xAk a0) (xAg r) :=
 AbsCalls.of_reach xHp rfl rfl (Nat.le_of_ble_eq_true rfl) (xYH a0 r h)
noncomputable def I115 : Info := { body := (Tryz.f115.body).getD .skip, nt := 15, results := [.tmp 2], keep := [0, 4, 6, 8], live := [], modes := [] }
theorem xK5 : FnOk Tryz.prog 115 Tryz.f115 I115 := ⟨Tryz.func115, by kernel_rfl, by kernel_rfl, by kernel_rfl, by kernel_rfl⟩
def xRe (a0 : Str) : rE I115 (xBI a0) [Y, Y] [] = dn (xBt true) [iY ((a0 : Str) == [108, 101, 116]), iY ((a0 : Str) == [108, 101, 116])] := by kernel_rfl
abbrev xIG (v0 : Str) : Prop := iN ((v0 : Str) == [108, 101, 116])
def xRf (a0 : Str) : rE I115 (xBI a0) [F, Y, Y] [] = dn (xBt true) [xIG a0, iY ((a0 : Str) == [105, 110]), iY ((a0 : Str) == [105, 110])] := by kernel_rfl
abbrev xJl (v0 : Str) : Prop := iN ((v0 : Str) == [105, 110])
def xRg (a0 : Str) : rE I115 (xBI a0) [F, F, Y, Y] [] = dn (xBt true) [xIG a0, xJl a0, iY ((a0 : Str) == [105, 102]), iY ((a0 : Str) == [105, 102])] := by kernel_rfl
abbrev xKa (v0 : Str) : Prop := iN ((v0 : Str) == [105, 102])
abbrev xMV (v0 : Str) := (v0 : Str) == [116, 104, 101, 110]
def xRh (a0 : Str) : rE I115 (xBI a0) [F, F, F, Y, Y] [] = dn (xBt true) [xIG a0, xJl a0, xKa a0, iY (xMV a0), iY (xMV a0)] := by kernel_rfl
abbrev xLd (v0 : Str) : Prop := iN (xMV v0)
abbrev xMW (v0 : Str) := (v0 : Str) == [101, 108, 115, 101]
def xRi (a0 : Str) : rE I115 (xBI a0) [F, F, F, F, Y, Y] [] = dn (xBt true) [xIG a0, xJl a0, xKa a0, xLd a0, iY (xMW a0), iY (xMW a0)] := by kernel_rfl
abbrev xMt (v0 : Str) : Prop := iN (xMW v0)
abbrev xLz (v0 : Str) := (v0 : Str) == [102, 111, 114]
def xRj (a0 : Str) : rE I115 (xBI a0) [F, F, F, F, F, Y, Y] [] = dn (xBt true) [xIG a0, xJl a0, xKa a0, xLd a0, xMt a0, iY (xLz a0), iY (xLz a0)] := by kernel_rfl
def xRk (a0 : Str) : rE I115 (xBI a0) [F, F, F, F, F, F, Y] [] = dn (xBt true) [xIG a0, xJl a0, xKa a0, xLd a0, xMt a0, iN (xLz a0), iY ((a0 : Str) == [100, 111])] := by kernel_rfl
def xRl (a0 : Str) (r1 : Int) : rE I115 (xBI a0) [F, F, F, F, F, F, F] [xAg r1] = dn (xBt (dc (r1 ≥ 0))) [xIG a0, xJl a0, xKa a0, xLd a0, xMt a0, iN (xLz a0), iN ((a0 : Str) == [100, 111]), AbC 117 (xAk a0) (xAg r1)] := by kernel_rfl
theorem xYF {N : Nat} : ∀ a0 r, xE0 N a0 = some r → RE Tryz.f115 I115 (xBI a0) (xBt r) := fun a0 r h =>
 cE h (fun h0 h => dE h xK5 (xRe a0) (oc2 h0 h0 on)) fun h0 h =>
 cE h (fun h1 h => dE h xK5 (xRf a0) (oc3 h0 h1 h1 on)) fun h1 h =>
 cE h (fun h2 h => dE h xK5 (xRg a0) (oc4 h0 h1 h2 h2 on)) fun h2 h =>
 cE h (fun h3 h => dE h xK5 (xRh a0) (oc5 h0 h1 h2 h3 h3 on)) fun h3 h =>
 cE h (fun h4 h => dE h xK5 (xRi a0) (oc6 h0 h1 h2 h3 h4 h4 on)) fun h4 h =>
 cE h (fun h5 h => dE h xK5 (xRj a0) (oc7 h0 h1 h2 h3 h4 h5 h5 on)) fun h5 h =>
 cE h (fun h6 h => dE h xK5 (xRk a0) (oc7 h0 h1 h2 h3 h4 h5 h6 on)) fun h6 h =>
 bE h fun r1 h7 h => dE h xK5 (xRl a0 r1) (oc8 h0 h1 h2 h3 h4 h5 h6 (xC0 h7) on)
theorem xIX {N : Nat} {a0 : Str} {r : Bool} (h : xE0 N  a0 = some r) : AbC 115 (xBI a0) (xBt r) :=
 AbsCalls.of_reach xK5 rfl rfl (Nat.le_of_ble_eq_true rfl) (xYF a0 r h)
noncomputable def I93 : Info := { body := (Tryz.f93.body).getD .skip, nt := 10, results := [.tmp 2], keep := [0, 4], live := [], modes := [(1, [(2, .take, false)])] }
theorem fk93 : FnOk Tryz.prog 93 Tryz.f93 I93 := ⟨Tryz.func93, by kernel_rfl, by kernel_rfl, by kernel_rfl, by kernel_rfl⟩
def xXT (a0 : Str) (r1 r2 : Bool) : rE I93 (xDm a0) [Y] [xBZ r1, xBt r2] = dn (xAC (!r2)) [AbC 114 (xFp a0) (xBZ r1), iY r1, AbC 115 (xBI a0) (xBt r2)] := by kernel_rfl
def xXU (a0 : Str) (r1 : Bool) : rE I93 (xDm a0) [F] [xBZ r1] = dn (xAC false) [AbC 114 (xFp a0) (xBZ r1), iN r1] := by kernel_rfl
theorem vAs {N : Nat} : ∀ a0 r, xCV N a0 = some r → RE Tryz.f93 I93 (xDm a0) (xAC r) := fun a0 r h =>
 bE h fun r1 h0 h => cE h (fun h1 h => bE h fun r2 h2 h => dE h fk93 (xXT a0 r1 r2) (oc3 (xIx h0) h1 (xIX h2) on)) fun h1 h =>
 dE h fk93 (xXU a0 r1) (oc2 (xIx h0) h1 on)
theorem xBb {N : Nat} {a0 : Str} {r : Bool} (h : xCV N  a0 = some r) : AbC 93 (xDm a0) (xAC r) :=
 AbsCalls.of_reach fk93 rfl rfl (Nat.le_of_ble_eq_true rfl) (vAs a0 r h)
noncomputable def I94 : Info := { body := (Tryz.f94.body).getD .skip, nt := 16, results := [.cell 2 25], keep := [0, 4, 14, 1, 5], live := [], modes := [], ext := [0] }
theorem fk94 : FnOk Tryz.prog 94 Tryz.f94 I94 := ⟨Tryz.func94, by kernel_rfl, by kernel_rfl, by kernel_rfl, by kernel_rfl⟩
def xXV (a0 : Psr) : rE I94 (xB5 a0) [Y] [] = dn (xA1 ((Exp.mk 0 0 [] []), (Psr.mk (Psr.list a0) (Psr.pos a0) (Psr.pos a0)))) [xH0 a0] := by kernel_rfl
def xXW (a0 : Psr) : rE I94 (xB5 a0) [F] [] = dn (xA1 ((Exp.mk 0 0 [] []), a0)) [xLc a0] := by kernel_rfl
theorem vAt {N : Nat} : ∀ a0 r, xBU N a0 = some r → RE Tryz.f94 I94 (xB5 a0) (xA1 r) := fun a0 r h =>
 cE h (fun h0 h => dE h fk94 (xXV a0) (oc h0 on)) fun h0 h =>
 dE h fk94 (xXW a0) (oc h0 on)
theorem xD2 {N : Nat} {a0 : Psr} {r : Exp × Psr} (h : xBU N  a0 = some r) : AbC 94 (xB5 a0) (xA1 r) :=
 AbsCalls.of_reach fk94 rfl rfl (Nat.le_of_ble_eq_true rfl) (vAt a0 r h)
noncomputable def I52 : Info := { body := (Tryz.f52.body).getD .skip, nt := 26, results := [.tmp 2], keep := [0, 4, 6, 28, 1, 7], live := [], modes := [(2, [(3, .take, false)])], ext := [0] }
theorem fk52 : FnOk Tryz.prog 52 Tryz.f52 I52 := ⟨Tryz.func52, by kernel_rfl, by kernel_rfl, by kernel_rfl, by kernel_rfl⟩
abbrev xEb (v0 : Psr) (v1 : Tok × Psr) : Prop := AbC 51 (xCZ v0) (xAf v1)
def xVZ (a0 : Psr) (r1 : Tok × Psr) (r2 : Exp × Psr) : rE I52 (xDq a0) [Y, Y] [xAf r1, xA1 r2] = dn (xCr ([], r2.2)) [xEb a0 r1, iY ((Tok.kind r1.1) != 1), iY true, AbC 94 (xB5 r1.2) (xA1 r2)] := by kernel_rfl
abbrev xIH (v0 : Tok × Psr) (v1 : Bool) : Prop := AbC 93 (xDm (Tok.text v0.1)) (xAC v1)
def xV0 (a0 : Psr) (r1 : Tok × Psr) (r2 : Bool) (r3 : Exp × Psr) : rE I52 (xDq a0) [F, Y] [xAf r1, xAC r2, xA1 r3] = dn (xCr ([], r3.2)) [xEb a0 r1, iN ((Tok.kind r1.1) != 1), xIH r1 r2, iY (!r2), AbC 94 (xB5 r1.2) (xA1 r3)] := by kernel_rfl
abbrev xH9 (v0 : Tok × Psr) := Psr.mk (Psr.list v0.2) (W ((Psr.pos v0.2) + 1)) (Psr.bad v0.2)
def xV1 (a0 : Psr) (r1 : Tok × Psr) (r2 : Bool) : rE I52 (xDq a0) [F, F] [xAf r1, xAC r2] = dn (xCr ((Tok.text r1.1), (xH9 r1))) [xEb a0 r1, iN ((Tok.kind r1.1) != 1), xIH r1 r2, iN (!r2)] := by kernel_rfl
theorem xZN {N : Nat} : ∀ a0 r, xBV N a0 = some r → RE Tryz.f52 I52 (xDq a0) (xCr r) := fun a0 r h =>
 bE h fun r1 h0 h => cE h (fun h1 h => bE h fun r2 h3 h => dE h fk52 (xVZ a0 r1 r2) (oc4 (xAj h0) h1 rfl (xD2 h3) on)) fun h1 h =>
 bE h fun r2 h2 h => cE h (fun h3 h => bE h fun r3 h4 h => dE h fk52 (xV0 a0 r1 r2 r3) (oc5 (xAj h0) h1 (xBb h2) h3 (xD2 h4) on)) fun h3 h =>
 dE h fk52 (xV1 a0 r1 r2) (oc4 (xAj h0) h1 (xBb h2) h3 on)
theorem xGz {N : Nat} {a0 : Psr} {r : Str × Psr} (h : xBV N  a0 = some r) : AbC 52 (xDq a0) (xCr r) :=
 AbsCalls.of_reach fk52 rfl rfl (Nat.le_of_ble_eq_true rfl) (xZN a0 r h)
noncomputable def I95 : Info := { body := (Tryz.f95.body).getD .skip, nt := 14, results := [.tmp 4], keep := [0, 2, 4, 8, 5], live := [], modes := [(1, [(3, .take, false)])] }
theorem fk95 : FnOk Tryz.prog 95 Tryz.f95 I95 := ⟨Tryz.func95, by kernel_rfl, by kernel_rfl, by kernel_rfl, by kernel_rfl⟩
def xXX (a0 : Tok) (a1 : Str) : rE I95 (xDc a0 a1) [Y] [] = dn (xBS (((Tok.text a0) : Str) == a1)) [iY ((Tok.kind a0) == 4)] := by kernel_rfl
def xXY (a0 : Tok) (a1 : Str) : rE I95 (xDc a0 a1) [F] [] = dn (xBS false) [iN ((Tok.kind a0) == 4)] := by kernel_rfl
theorem vAu {N : Nat} : ∀ a0 a1 r, xFf N a0 a1 = some r → RE Tryz.f95 I95 (xDc a0 a1) (xBS r) := fun a0 a1 r h =>
 cE h (fun h0 h => dE h fk95 (xXX a0 a1) (oc h0 on)) fun h0 h =>
 dE h fk95 (xXY a0 a1) (oc h0 on)
theorem xFt {N : Nat} {a0 : Tok} {a1 : Str} {r : Bool} (h : xFf N  a0 a1 = some r) : AbC 95 (xDc a0 a1) (xBS r) :=
 AbsCalls.of_reach fk95 rfl rfl (Nat.le_of_ble_eq_true rfl) (vAu a0 a1 r h)
noncomputable def I53 : Info := { body := (Tryz.f53.body).getD .skip, nt := 23, results := [], keep := [0, 2, 26, 1], live := [], modes := [(0, [(4, .take, false)])], ext := [0] }
theorem fk53 : FnOk Tryz.prog 53 Tryz.f53 I53 := ⟨Tryz.func53, by kernel_rfl, by kernel_rfl, by kernel_rfl, by kernel_rfl⟩
abbrev xO1 (v0 : Tok × Psr) := xAp (Psr.mk (Psr.list v0.2) (W ((Psr.pos v0.2) + 1)) (Psr.bad v0.2))
def xV2 (a0 : Psr) (a1 : Str) (r1 : Tok × Psr) (r2 : Bool) : rE I53 (xAT a0 a1) [Y, Y] [xAf r1, xAv r2] = dn (xO1 r1) [xEb a0 r1, AbC 50 (xBs r1.1 a1) (xAv r2), iY r2, iY true] := by kernel_rfl
abbrev xII (v0 v1 : Tok × Psr) : Prop := AbC 51 (xCZ v0.2) (xAf v1)
def xV3 (a0 : Psr) (a1 : Str) (r1 : Tok × Psr) (r2 : Bool) (r3 : Tok × Psr) (r4 : Bool) : rE I53 (xAT a0 a1) [F, Y] [xAf r1, xAv r2, xAf r3, xBS r4] = dn (xO1 r3) [xEb a0 r1, AbC 50 (xBs r1.1 a1) (xAv r2), iN r2, xII r1 r3, AbC 95 (xDc r3.1 a1) (xBS r4), iY r4] := by kernel_rfl
def xV4 (a0 : Psr) (a1 : Str) (r1 : Tok × Psr) (r2 : Bool) (r3 : Tok × Psr) (r4 : Bool) (r5 : Exp × Psr) : rE I53 (xAT a0 a1) [F, F] [xAf r1, xAv r2, xAf r3, xBS r4, xA1 r5] = dn (xAp r5.2) [xEb a0 r1, AbC 50 (xBs r1.1 a1) (xAv r2), iN r2, xII r1 r3, AbC 95 (xDc r3.1 a1) (xBS r4), iN r4, AbC 94 (xB5 r3.2) (xA1 r5)] := by kernel_rfl
theorem xZO {N : Nat} : ∀ a0 a1 r, xAA N a0 a1 = some r → RE Tryz.f53 I53 (xAT a0 a1) (xAp r) := fun a0 a1 r h =>
 bE h fun r1 h0 h => bE h fun r2 h1 h => cE h (fun h2 h => dE h fk53 (xV2 a0 a1 r1 r2) (oc4 (xAj h0) (xBA h1) h2 rfl on)) fun h2 h =>
 bE h fun r3 h3 h => bE h fun r4 h4 h => cE h (fun h5 h => dE h fk53 (xV3 a0 a1 r1 r2 r3 r4) (oc6 (xAj h0) (xBA h1) h2 (xAj h3) (xFt h4) h5 on)) fun h5 h =>
 bE h fun r5 h6 h => dE h fk53 (xV4 a0 a1 r1 r2 r3 r4 r5) (oc7 (xAj h0) (xBA h1) h2 (xAj h3) (xFt h4) h5 (xD2 h6) on)
theorem xBM {N : Nat} {a0 : Psr} {a1 : Str} {r : Psr} (h : xAA N  a0 a1 = some r) : AbC 53 (xAT a0 a1) (xAp r) :=
 AbsCalls.of_reach fk53 rfl rfl (Nat.le_of_ble_eq_true rfl) (xZO a0 a1 r h)
noncomputable def I55 : Info := { body := (Tryz.f55.body).getD .skip, nt := 16, results := [.tmp 4], keep := [0, 2, 8, 16, 1], live := [], modes := [], ext := [0] }
theorem fk55 : FnOk Tryz.prog 55 Tryz.f55 I55 := ⟨Tryz.func55, by kernel_rfl, by kernel_rfl, by kernel_rfl, by kernel_rfl⟩
def xWa (a0 : Psr) (a1 : Str) (r1 : Tok × Psr) (r2 : Bool) : rE I55 (xAn a0 a1) [Y] [xAf r1, xBS r2] = dn (xAc (true, (xH9 r1))) [xEb a0 r1, AbC 95 (xDc r1.1 a1) (xBS r2), iY r2] := by kernel_rfl
def xWb (a0 : Psr) (a1 : Str) (r1 : Tok × Psr) (r2 : Bool) : rE I55 (xAn a0 a1) [F] [xAf r1, xBS r2] = dn (xAc (false, r1.2)) [xEb a0 r1, AbC 95 (xDc r1.1 a1) (xBS r2), iN r2] := by kernel_rfl
theorem xZR {N : Nat} : ∀ a0 a1 r, xAE N a0 a1 = some r → RE Tryz.f55 I55 (xAn a0 a1) (xAc r) := fun a0 a1 r h =>
 bE h fun r1 h0 h => bE h fun r2 h1 h => cE h (fun h2 h => dE h fk55 (xWa a0 a1 r1 r2) (oc3 (xAj h0) (xFt h1) h2 on)) fun h2 h =>
 dE h fk55 (xWb a0 a1 r1 r2) (oc3 (xAj h0) (xFt h1) h2 on)
theorem xAl {N : Nat} {a0 : Psr} {a1 : Str} {r : Bool × Psr} (h : xAE N  a0 a1 = some r) : AbC 55 (xAn a0 a1) (xAc r) :=
 AbsCalls.of_reach fk55 rfl rfl (Nat.le_of_ble_eq_true rfl) (xZR a0 a1 r h)
noncomputable def I56 : Info := { body := (Tryz.f56.body).getD .skip, nt := 11, results := [.tmp 2], keep := [0, 4, 10], live := [], modes := [] }
theorem fk56 : FnOk Tryz.prog 56 Tryz.f56 I56 := ⟨Tryz.func56, by kernel_rfl, by kernel_rfl, by kernel_rfl, by kernel_rfl⟩
def xWc (a0 : Int) (r1 : Bool) : rE I56 (xDd a0) [Y] [xA7 r1] = dn (xBT [63]) [AbC 97 (xCQ a0 1 5) (xA7 r1), iY (!r1)] := by kernel_rfl
def xWd (a0 : Int) (r1 : Bool) : rE I56 (xDd a0) [F] [xA7 r1] = dn (xBT (gD [[43], [45], [42], [60], [61, 61]] (tN (W (a0 - 1))) Ty.str.dflt)) [AbC 97 (xCQ a0 1 5) (xA7 r1), iN (!r1), (0 : Int) ≤ (W (a0 - 1)) ∧ (W (a0 - 1)) < (Ln [[43], [45], [42], [60], [61, 61]])] := by kernel_rfl
theorem xZS {N : Nat} : ∀ a0 r, xEk N a0 = some r → RE Tryz.f56 I56 (xDd a0) (xBT r) := fun a0 r h =>
 bE h fun r1 h0 h => cE h (fun h1 h => dE h fk56 (xWc a0 r1) (oc2 (xDw h0) h1 on)) fun h1 h =>
 iE h fun h2 h => dE h fk56 (xWd a0 r1) (oc3 (xDw h0) h1 h2 on)
theorem xFu {N : Nat} {a0 : Int} {r : Str} (h : xEk N  a0 = some r) : AbC 56 (xDd a0) (xBT r) :=
 AbsCalls.of_reach fk56 rfl rfl (Nat.le_of_ble_eq_true rfl) (xZS a0 r h)
def G116 (q : Psr → Option (Exp × Psr)) : Prop := ∀ a0 r, q a0 = some r → AbC 116 (xAS a0) (xAH r)
def G31 (q : Psr → Option (Exp × Psr)) : Prop := ∀ a0 r, q a0 = some r → AbC 31 (xBc a0) (xAe r)
def G131 (q : Psr → Str → Option ((List Exp) × Psr)) : Prop := ∀ a0 a1 r, q a0 a1 = some r → AbC 131 (xCd a0 a1) (xA3 r)
def G96 (q : Psr → Option (Exp × Psr)) : Prop := ∀ a0 r, q a0 = some r → AbC 96 (xCh a0) (xA8 r)
def G54 (q : Psr → Option (Exp × Psr)) : Prop := ∀ a0 r, q a0 = some r → AbC 54 (xDG a0) (xB1 r)
noncomputable def I116 : Info := { body := (Tryz.f116.body).getD .skip, nt := 94, results := [.cell 2 25], keep := [0, 4, 6, 8, 14, 42, 70, 108, 156, 168, 1, 5, 7, 9], live := [], modes := [(8, [(3, .take, false)]), (11, [(3, .take, false)]), (20, [(0, .take, false)])], ext := [0] }
theorem xJ5 : FnOk Tryz.prog 116 Tryz.f116 I116 := ⟨Tryz.func116, by kernel_rfl, by kernel_rfl, by kernel_rfl, by kernel_rfl⟩
def xRm (a0 : Psr) (r1 : Tok × Psr) : rE I116 (xAS a0) [Y] [xAf r1] = dn (xAH ((Exp.mk 1 (Tok.n r1.1) [] []), (xH9 r1))) [xEb a0 r1, iY ((Tok.kind r1.1) == 2)] := by kernel_rfl
abbrev xHx (v0 : Tok × Psr) : Prop := iN ((Tok.kind v0.1) == 2)
def xRn (a0 : Psr) (r1 : Tok × Psr) : rE I116 (xAS a0) [F, Y] [xAf r1] = dn (xAH ((Exp.mk 2 0 (Tok.text r1.1) []), (xH9 r1))) [xEb a0 r1, xHx r1, iY ((Tok.kind r1.1) == 3)] := by kernel_rfl
abbrev xH1 (v0 : Tok × Psr) : Prop := iN ((Tok.kind v0.1) == 3)
abbrev xHy (v0 : Tok × Psr) : Prop := iY ((Tok.kind v0.1) == 1)
def xRo (a0 : Psr) (r1 : Tok × Psr) (r2 : Bool) : rE I116 (xAS a0) [F, F, Y, Y] [xAf r1, xAC r2] = dn (xAH ((Exp.mk 3 0 (Tok.text r1.1) []), (xH9 r1))) [xEb a0 r1, xHx r1, xH1 r1, xHy r1, xIH r1 r2, iY r2] := by kernel_rfl
abbrev xLe (v0 : Tok × Psr) (v1 : Int) : Prop := AbC 117 (xAk (Tok.text v0.1)) (xAg v1)
def xRp (a0 : Psr) (r1 : Tok × Psr) (r2 : Bool) (r3 : Int) (r4 : Psr) (r5 : (List Exp) × Psr) : rE I116 (xAS a0) [F, F, Y, F, Y, Y] [xAf r1, xAC r2, xAg r3, xAp r4, xA3 r5] = dn (xAH ((Exp.mk 5 0 (Tok.text r1.1) r5.1), r5.2)) [xEb a0 r1, xHx r1, xH1 r1, xHy r1, xIH r1 r2, iN r2, xHy r1, xLe r1 r3, iY (dc (r3 ≥ 0)), AbC 53 (xAT (xH9 r1) [40]) (xAp r4), AbC 131 (xCd r4 [41]) (xA3 r5)] := by kernel_rfl
abbrev xJm (v0 : Tok × Psr) (v1 : Bool × Psr) : Prop := AbC 55 (xAn v0.2 [91]) (xAc v1)
def xRq (a0 : Psr) (r1 : Tok × Psr) (r2 : Bool) (r3 : Int) (r4 : Bool × Psr) (r5 : (List Exp) × Psr) : rE I116 (xAS a0) [F, F, Y, F, Y, F, Y] [xAf r1, xAC r2, xAg r3, xAc r4, xA3 r5] = dn (xAH ((Exp.mk 4 0 [] r5.1), r5.2)) [xEb a0 r1, xHx r1, xH1 r1, xHy r1, xIH r1 r2, iN r2, xHy r1, xLe r1 r3, xJK r3, xJm r1 r4, iY r4.1, AbC 131 (xCd r4.2 [93]) (xA3 r5)] := by kernel_rfl
def xRr (a0 : Psr) (r1 : Tok × Psr) (r2 : Bool) (r3 : Int) (r4 : Bool × Psr) (r5 : Bool × Psr) (r6 : Exp × Psr) (r7 : Psr) : rE I116 (xAS a0) [F, F, Y, F, Y, F, F, Y] [xAf r1, xAC r2, xAg r3, xAc r4, xAc r5, xAe r6, xAp r7] = dn (xAH (r6.1, r7)) [xEb a0 r1, xHx r1, xH1 r1, xHy r1, xIH r1 r2, iN r2, xHy r1, xLe r1 r3, xJK r3, xJm r1 r4, iN r4.1, AbC 55 (xAn r4.2 [40]) (xAc r5), iY r5.1, AbC 31 (xBc r5.2) (xAe r6), AbC 53 (xAT r6.2 [41]) (xAp r7)] := by kernel_rfl
def xRs (a0 : Psr) (r1 : Tok × Psr) (r2 : Bool) (r3 : Int) (r4 : Bool × Psr) (r5 : Bool × Psr) (r6 : Exp × Psr) : rE I116 (xAS a0) [F, F, Y, F, Y, F, F, F] [xAf r1, xAC r2, xAg r3, xAc r4, xAc r5, xA1 r6] = dn (xAH (r6.1, r6.2)) [xEb a0 r1, xHx r1, xH1 r1, xHy r1, xIH r1 r2, iN r2, xHy r1, xLe r1 r3, xJK r3, xJm r1 r4, iN r4.1, AbC 55 (xAn r4.2 [40]) (xAc r5), iN r5.1, AbC 94 (xB5 r5.2) (xA1 r6)] := by kernel_rfl
abbrev xJn (v0 : Tok × Psr) : Prop := iN ((Tok.kind v0.1) == 1)
def xRt (a0 : Psr) (r1 : Tok × Psr) (r2 : Bool × Psr) (r3 : (List Exp) × Psr) : rE I116 (xAS a0) [F, F, F, F, F, F, Y] [xAf r1, xAc r2, xA3 r3] = dn (xAH ((Exp.mk 4 0 [] r3.1), r3.2)) [xEb a0 r1, xHx r1, xH1 r1, xJn r1, iN false, xJn r1, iN false, xJm r1 r2, iY r2.1, AbC 131 (xCd r2.2 [93]) (xA3 r3)] := by kernel_rfl
def xRu (a0 : Psr) (r1 : Tok × Psr) (r2 : Bool × Psr) (r3 : Bool × Psr) (r4 : Exp × Psr) (r5 : Psr) : rE I116 (xAS a0) [F, F, F, F, F, F, F, Y] [xAf r1, xAc r2, xAc r3, xAe r4, xAp r5] = dn (xAH (r4.1, r5)) [xEb a0 r1, xHx r1, xH1 r1, xJn r1, iN false, xJn r1, iN false, xJm r1 r2, iN r2.1, AbC 55 (xAn r2.2 [40]) (xAc r3), iY r3.1, AbC 31 (xBc r3.2) (xAe r4), AbC 53 (xAT r4.2 [41]) (xAp r5)] := by kernel_rfl
def xRv (a0 : Psr) (r1 : Tok × Psr) (r2 : Bool × Psr) (r3 : Bool × Psr) (r4 : Exp × Psr) : rE I116 (xAS a0) [F, F, F, F, F, F, F, F] [xAf r1, xAc r2, xAc r3, xA1 r4] = dn (xAH (r4.1, r4.2)) [xEb a0 r1, xHx r1, xH1 r1, xJn r1, iN false, xJn r1, iN false, xJm r1 r2, iN r2.1, AbC 55 (xAn r2.2 [40]) (xAc r3), iN r3.1, AbC 94 (xB5 r3.2) (xA1 r4)] := by kernel_rfl
theorem xYG {N q0 q1 q2 q3 q4} (g0 : G116 q0) (g1 : G31 q1) (g2 : G131 q2) (g3 : G96 q3) (g4 : G54 q4) : ∀ a0 r, xCp N q0 q1 q2 q3 q4 a0 = some r → RE Tryz.f116 I116 (xAS a0) (xAH r) := fun a0 r h =>
 bE h fun r1 h0 h => cE h (fun h1 h => dE h xJ5 (xRm a0 r1) (oc2 (xAj h0) h1 on)) fun h1 h =>
 cE h (fun h2 h => dE h xJ5 (xRn a0 r1) (oc3 (xAj h0) h1 h2 on)) fun h2 h =>
 cE h (fun h3 h => bE h fun r2 h4 h => cE h (fun h5 h => dE h xJ5 (xRo a0 r1 r2) (oc6 (xAj h0) h1 h2 h3 (xBb h4) h5 on)) fun h5 h =>
 bE h fun r3 h7 h => cE h (fun h8 h => bE h fun r4 h9 h => bE h fun r5 h10 h => dE h xJ5 (xRp a0 r1 r2 r3 r4 r5) (oc11 (xAj h0) h1 h2 h3 (xBb h4) h5 h3 (xC0 h7) h8 (xBM h9) (g2 _ _ _ h10) on)) fun h8 h =>
 bE h fun r4 h9 h => cE h (fun h10 h => bE h fun r5 h11 h => dE h xJ5 (xRq a0 r1 r2 r3 r4 r5) (oc12 (xAj h0) h1 h2 h3 (xBb h4) h5 h3 (xC0 h7) h8 (xAl h9) h10 (g2 _ _ _ h11) on)) fun h10 h =>
 bE h fun r5 h11 h => cE h (fun h12 h => bE h fun r6 h13 h => bE h fun r7 h14 h => dE h xJ5 (xRr a0 r1 r2 r3 r4 r5 r6 r7) (oc12 (xAj h0) h1 h2 h3 (xBb h4) h5 h3 (xC0 h7) h8 (xAl h9) h10 (xAl h11) (oc3 h12 (g1 _ _ h13) (xBM h14) on))) fun h12 h =>
 bE h fun r6 h13 h => dE h xJ5 (xRs a0 r1 r2 r3 r4 r5 r6) (oc12 (xAj h0) h1 h2 h3 (xBb h4) h5 h3 (xC0 h7) h8 (xAl h9) h10 (xAl h11) (oc2 h12 (xD2 h13) on))) fun h3 h =>
 bE h fun r2 h7 h => cE h (fun h8 h => bE h fun r3 h9 h => dE h xJ5 (xRt a0 r1 r2 r3) (oc10 (xAj h0) h1 h2 h3 rfl h3 rfl (xAl h7) h8 (g2 _ _ _ h9) on)) fun h8 h =>
 bE h fun r3 h9 h => cE h (fun h10 h => bE h fun r4 h11 h => bE h fun r5 h12 h => dE h xJ5 (xRu a0 r1 r2 r3 r4 r5) (oc12 (xAj h0) h1 h2 h3 rfl h3 rfl (xAl h7) h8 (xAl h9) h10 (g1 _ _ h11) (oc (xBM h12) on))) fun h10 h =>
 bE h fun r4 h11 h => dE h xJ5 (xRv a0 r1 r2 r3 r4) (oc12 (xAj h0) h1 h2 h3 rfl h3 rfl (xAl h7) h8 (xAl h9) h10 (xD2 h11) on)
theorem xHe {N q0 q1 q2 q3 q4} (g0 : G116 q0) (g1 : G31 q1) (g2 : G131 q2) (g3 : G96 q3) (g4 : G54 q4) {a0} {r} (h : xCp N q0 q1 q2 q3 q4 a0 = some r) : AbC 116 (xAS a0) (xAH r) :=
 AbsCalls.of_reach xJ5 rfl rfl (Nat.le_of_ble_eq_true rfl) (xYG g0 g1 g2 g3 g4 a0 r h)
noncomputable def I31 : Info := { body := (Tryz.f31.body).getD .skip, nt := 133, results := [.cell 2 25], keep := [0, 4, 6, 8, 10, 12, 16, 18, 84, 160, 230, 232, 234, 236, 248, 1, 5, 7, 9, 11, 13], live := [(28, [0, 4, 12, 230, 232, 234, 1, 5, 13])], modes := [(5, [(1, .take, false), (5, .take, false)]), (7, [(1, .take, false), (5, .take, false)]), (8, [(0, .take, false)]), (12, [(1, .take, false), (5, .take, false)]), (14, [(1, .take, false), (5, .take, false)]), (16, [(1, .take, false), (5, .take, false)]), (17, [(0, .take, false)]), (22, [(1, .take, false), (5, .take, false)]), (24, [(1, .take, false), (5, .take, false)]), (25, [(0, .take, false)]), (31, [(1, .take, false)]), (32, [(1, .take, false)]), (33, [(0, .take, false)])], ext := [0] }
theorem fk31 : FnOk Tryz.prog 31 Tryz.f31 I31 := ⟨Tryz.func31, by kernel_rfl, by kernel_rfl, by kernel_rfl, by kernel_rfl⟩
def xKL (x115 : List Int) (x116 x117 : Int) (b0 : Psr) (b2 b6 : Exp) : St := [(0, .v false [.ptr 0 0]), (4, .v false [.ptr 2 0]), (12, .v false [.ptr 6 0]), (230, .v false [.sl .own .int x115]), (232, .v false [.int .i64 x116]), (234, .v false [.int .i64 x117]), (1, .v true [.sl .ro .tok (Psr.list b0), .int .i64 (Psr.pos b0), .int .i64 (Psr.bad b0)]), (5, .v true [.int .i64 (Exp.kind b2), .int .i64 (Exp.n b2), .str (Exp.text b2), .sl .own .exp (Exp.args b2)]), (13, .v true [.int .i64 (Exp.kind b6), .int .i64 (Exp.n b6), .str (Exp.text b6), .sl .own .exp (Exp.args b6)])]
def xR8 (x115 : List Int) (x116 x117 : Int) (b0 : Psr) (b2 b6 : Exp) (r1 : Str) (r2 : Bool × Psr) (r3 : Exp × Psr) : rS 28 I31 (xKL x115 x116 x117 b0 b2 b6) [Y, Y] [xBT r1, xAc r2, xB1 r3] = dn (xAe ((Exp.mk 6 (gD x115 (tN x117) Ty.int.dflt) [] [(Exp.re b6), (Exp.re r3.1)]), r3.2)) [iY (dc (x117 < x116)), (0 : Int) ≤ x117 ∧ x117 < (Ln x115), AbC 56 (xDd (gD x115 (tN x117) Ty.int.dflt)) (xBT r1), AbC 55 (xAn b0 r1) (xAc r2), iY r2.1, AbC 54 (xDG r2.2) (xB1 r3)] := by kernel_rfl
def xR9 (x115 : List Int) (x116 x117 : Int) (b0 : Psr) (b2 b6 : Exp) (r1 : Str) (r2 : Bool × Psr) : rS 28 I31 (xKL x115 x116 x117 b0 b2 b6) [Y, F] [xBT r1, xAc r2] = st 28 I31 (xKL x115 x116 (W (x117 + 1)) r2.2 b2 b6) [iY (dc (x117 < x116)), (0 : Int) ≤ x117 ∧ x117 < (Ln x115), AbC 56 (xDd (gD x115 (tN x117) Ty.int.dflt)) (xBT r1), AbC 55 (xAn b0 r1) (xAc r2), iN r2.1] := by kernel_rfl
def xSa (x115 : List Int) (x116 x117 : Int) (b0 : Psr) (b2 b6 : Exp) : rS 28 I31 (xKL x115 x116 x117 b0 b2 b6) [F] [] = dn (xAe (b6, b0)) [iN (dc (x117 < x116))] := by kernel_rfl
abbrev xLf (v0 : Tok × Psr) (v1 : Bool) : Prop := AbC 50 (xBs v0.1 [108, 101, 116]) (xAv v1)
abbrev xOA (v0 : Tok × Psr) (v1 : Str × Psr) : Prop := AbC 52 (xDq (xH9 v0)) (xCr v1)
abbrev xH2 (v0 : Psr) (v1 : Exp × Psr) : Prop := AbC 31 (xBc v0) (xAe v1)
abbrev xMu (v0 v1 : Exp × Psr) : Prop := Ln ([] ++ [(Exp.re v0.1)]) + Ln [(Exp.re v1.1)] ≤ Lim
def xUO (a0 : Psr) (r1 : Tok × Psr) (r2 : Bool) (r3 : Str × Psr) (r4 : Psr) (r5 : Exp × Psr) (r6 : Psr) (r7 : Exp × Psr) : rE I31 (xBc a0) [Y] [xAf r1, xAv r2, xCr r3, xAp r4, xAe r5, xAp r6, xAe r7] = dn (xAe ((Exp.mk 7 0 r3.1 (([] ++ [(Exp.re r5.1)]) ++ [(Exp.re r7.1)])), r7.2)) [xEb a0 r1, xLf r1 r2, iY r2, xOA r1 r3, AbC 53 (xAT r3.2 [61]) (xAp r4), xH2 r4 r5, 0 + Ln [(Exp.re r5.1)] ≤ Lim, AbC 53 (xAT r5.2 [105, 110]) (xAp r6), xH2 r6 r7, xMu r5 r7] := by kernel_rfl
def xUP (a0 : Psr) (r1 : Tok × Psr) (r2 : Bool) (r3 : Tok × Psr) (r4 : Bool) (r5 : Exp × Psr) (r6 : Psr) (r7 : Exp × Psr) (r8 : Psr) (r9 : Exp × Psr) : rE I31 (xBc a0) [F, Y] [xAf r1, xAv r2, xAf r3, xAv r4, xAe r5, xAp r6, xAe r7, xAp r8, xAe r9] = dn (xAe ((Exp.mk 8 0 [] ((([] ++ [(Exp.re r5.1)]) ++ [(Exp.re r7.1)]) ++ [(Exp.re r9.1)])), r9.2)) [xEb a0 r1, xLf r1 r2, iN r2, xII r1 r3, AbC 50 (xBs r3.1 [105, 102]) (xAv r4), iY r4, AbC 31 (xBc (xH9 r3)) (xAe r5), 0 + Ln [(Exp.re r5.1)] ≤ Lim, AbC 53 (xAT r5.2 [116, 104, 101, 110]) (xAp r6), xH2 r6 r7, xMu r5 r7, AbC 53 (xAT r7.2 [101, 108, 115, 101]) (xAp r8), xH2 r8 r9, Ln (([] ++ [(Exp.re r5.1)]) ++ [(Exp.re r7.1)]) + Ln [(Exp.re r9.1)] ≤ Lim] := by kernel_rfl
def xUQ (a0 : Psr) (r1 : Tok × Psr) (r2 : Bool) (r3 : Tok × Psr) (r4 : Bool) (r5 : Tok × Psr) (r6 : Bool) (r7 : Str × Psr) (r8 : Psr) (r9 : Exp × Psr) (r10 : Psr) (r11 : Exp × Psr) : rE I31 (xBc a0) [F, F, Y] [xAf r1, xAv r2, xAf r3, xAv r4, xAf r5, xAv r6, xCr r7, xAp r8, xAe r9, xAp r10, xAe r11] = dn (xAe ((Exp.mk 9 0 r7.1 (([] ++ [(Exp.re r9.1)]) ++ [(Exp.re r11.1)])), r11.2)) [xEb a0 r1, xLf r1 r2, iN r2, xII r1 r3, AbC 50 (xBs r3.1 [105, 102]) (xAv r4), iN r4, xII r3 r5, AbC 50 (xBs r5.1 [102, 111, 114]) (xAv r6), iY r6, xOA r5 r7, AbC 53 (xAT r7.2 [105, 110]) (xAp r8), xH2 r8 r9, 0 + Ln [(Exp.re r9.1)] ≤ Lim, AbC 53 (xAT r9.2 [100, 111]) (xAp r10), xH2 r10 r11, xMu r9 r11] := by kernel_rfl
def xUR (a0 : Psr) (r1 : Tok × Psr) (r2 : Bool) (r3 : Tok × Psr) (r4 : Bool) (r5 : Tok × Psr) (r6 : Bool) (r7 : Exp × Psr) : rE I31 (xBc a0) [F, F, F] [xAf r1, xAv r2, xAf r3, xAv r4, xAf r5, xAv r6, xB1 r7] = st 28 I31 (xKL [4, 5] (Ln [4, 5] : Int) 0 r7.2 (Exp.mk 0 0 [] []) r7.1) [xEb a0 r1, xLf r1 r2, iN r2, xII r1 r3, AbC 50 (xBs r3.1 [105, 102]) (xAv r4), iN r4, xII r3 r5, AbC 50 (xBs r5.1 [102, 111, 114]) (xAv r6), iN r6, AbC 54 (xDG r5.2) (xB1 r7)] := by kernel_rfl
theorem xYQ {N q0 q1 q2 q3 q4} (g0 : G116 q0) (g1 : G31 q1) (g2 : G131 q2) (g3 : G96 q3) (g4 : G54 q4) : ∀ n x115 x116 x117 b0 b2 b6 r, xCH N q0 q1 q2 q3 q4 n x115 x116 x117 b0 b2 b6 = some r → RS Tryz.f31 I31 28 (xKL x115 x116 x117 b0 b2 b6) (xAe r) := by
 intro n
 induction n with
 | zero => exact fun _ _ _ _ _ _ _ h => nE h
 | succ n ih =>
  exact fun x115 x116 x117 b0 b2 b6 r h =>
   cE h (fun h0 h => iE h fun h1 h => bE h fun r1 h2 h => bE h fun r2 h3 h => cE h (fun h4 h => bE h fun r3 h5 h => dS h fk31 (xR8 x115 x116 x117 b0 b2 b6 r1 r2 r3) (oc6 h0 h1 (xFu h2) (xAl h3) h4 (g4 _ _ h5) on)) fun h4 h =>
   tS fk31 (xR9 x115 x116 x117 b0 b2 b6 r1 r2) (oc5 h0 h1 (xFu h2) (xAl h3) h4 on) (ih _ _ _ _ _ _ _ h)) fun h0 h =>
   dS h fk31 (xSa x115 x116 x117 b0 b2 b6) (oc h0 on)
theorem xZt {N q0 q1 q2 q3 q4} (g0 : G116 q0) (g1 : G31 q1) (g2 : G131 q2) (g3 : G96 q3) (g4 : G54 q4) : ∀ a0 r, xCq N q0 q1 q2 q3 q4 a0 = some r → RE Tryz.f31 I31 (xBc a0) (xAe r) := fun a0 r h =>
 bE h fun r1 h0 h => bE h fun r2 h1 h => cE h (fun h2 h => bE h fun r3 h3 h => bE h fun r4 h4 h => bE h fun r5 h5 h => iE h fun h6 h => bE h fun r6 h7 h => bE h fun r7 h8 h => iE h fun h9 h => dE h fk31 (xUO a0 r1 r2 r3 r4 r5 r6 r7) (oc10 (xAj h0) (xBA h1) h2 (xGz h3) (xBM h4) (g1 _ _ h5) h6 (xBM h7) (g1 _ _ h8) h9 on)) fun h2 h =>
 bE h fun r3 h3 h => bE h fun r4 h4 h => cE h (fun h5 h => bE h fun r5 h6 h => iE h fun h7 h => bE h fun r6 h8 h => bE h fun r7 h9 h => iE h fun h10 h => bE h fun r8 h11 h => bE h fun r9 h12 h => iE h fun h13 h => dE h fk31 (xUP a0 r1 r2 r3 r4 r5 r6 r7 r8 r9) (oc12 (xAj h0) (xBA h1) h2 (xAj h3) (xBA h4) h5 (g1 _ _ h6) h7 (xBM h8) (g1 _ _ h9) h10 (xBM h11) (oc2 (g1 _ _ h12) h13 on))) fun h5 h =>
 bE h fun r5 h6 h => bE h fun r6 h7 h => cE h (fun h8 h => bE h fun r7 h9 h => bE h fun r8 h10 h => bE h fun r9 h11 h => iE h fun h12 h => bE h fun r10 h13 h => bE h fun r11 h14 h => iE h fun h15 h => dE h fk31 (xUQ a0 r1 r2 r3 r4 r5 r6 r7 r8 r9 r10 r11) (oc12 (xAj h0) (xBA h1) h2 (xAj h3) (xBA h4) h5 (xAj h6) (xBA h7) h8 (xGz h9) (xBM h10) (g1 _ _ h11) (oc4 h12 (xBM h13) (g1 _ _ h14) h15 on))) fun h8 h =>
 bE h fun r7 h9 h => tE fk31 (xUR a0 r1 r2 r3 r4 r5 r6 r7) (oc10 (xAj h0) (xBA h1) h2 (xAj h3) (xBA h4) h5 (xAj h6) (xBA h7) h8 (g4 _ _ h9) on) (xYQ g0 g1 g2 g3 g4 _ _ _ _ _ _ _ _ h)
theorem xHf {N q0 q1 q2 q3 q4} (g0 : G116 q0) (g1 : G31 q1) (g2 : G131 q2) (g3 : G96 q3) (g4 : G54 q4) {a0} {r} (h : xCq N q0 q1 q2 q3 q4 a0 = some r) : AbC 31 (xBc a0) (xAe r) :=
 AbsCalls.of_reach fk31 rfl rfl (Nat.le_of_ble_eq_true rfl) (xZt g0 g1 g2 g3 g4 a0 r h)
noncomputable def I131 : Info := { body := (Tryz.f131.body).getD .skip, nt := 27, results := [.tmp 4], keep := [0, 2, 8, 10, 18, 30, 46, 1], live := [(4, [0, 2, 10, 1])], modes := [(3, [(0, .take, false)]), (5, [(0, .take, false), (4, .take, false)]), (8, [(0, .take, false)])], ext := [0] }
theorem xNV : FnOk Tryz.prog 131 Tryz.f131 I131 := ⟨Tryz.func131, by kernel_rfl, by kernel_rfl, by kernel_rfl, by kernel_rfl⟩
def xKJ (x1 : Str) (x5 : List Exp) (b0 : Psr) : St := [(0, .v false [.ptr 0 0]), (2, .v false [.str x1]), (10, .v false [.sl .own .exp x5]), (1, .v true [.sl .ro .tok (Psr.list b0), .int .i64 (Psr.pos b0), .int .i64 (Psr.bad b0)])]
def xRY (x1 : Str) (x5 : List Exp) (b0 : Psr) (r1 : Exp × Psr) (r2 : Bool × Psr) : rS 4 I131 (xKJ x1 x5 b0) [Y, Y] [xAe r1, xAc r2] = dn (xA3 ((x5 ++ [(Exp.re r1.1)]), r2.2)) [xH0 b0, xH2 b0 r1, Ln x5 + Ln [(Exp.re r1.1)] ≤ Lim, AbC 55 (xAn r1.2 x1) (xAc r2), iY r2.1] := by kernel_rfl
def xRZ (x1 : Str) (x5 : List Exp) (b0 : Psr) (r1 : Exp × Psr) (r2 : Bool × Psr) (r3 : Psr) : rS 4 I131 (xKJ x1 x5 b0) [Y, F] [xAe r1, xAc r2, xAp r3] = st 4 I131 (xKJ x1 (x5 ++ [(Exp.re r1.1)]) r3) [xH0 b0, xH2 b0 r1, Ln x5 + Ln [(Exp.re r1.1)] ≤ Lim, AbC 55 (xAn r1.2 x1) (xAc r2), iN r2.1, AbC 53 (xAT r2.2 [44]) (xAp r3)] := by kernel_rfl
def xR0 (x1 : Str) (x5 : List Exp) (b0 : Psr) : rS 4 I131 (xKJ x1 x5 b0) [F] [] = dn (xA3 (x5, b0)) [xLc b0] := by kernel_rfl
def xR1 (a0 : Psr) (a1 : Str) (r1 : Bool × Psr) : rE I131 (xCd a0 a1) [Y] [xAc r1] = dn (xA3 ([], r1.2)) [AbC 55 (xAn a0 a1) (xAc r1), iY r1.1] := by kernel_rfl
def xR2 (a0 : Psr) (a1 : Str) (r1 : Bool × Psr) : rE I131 (xCd a0 a1) [F] [xAc r1] = st 4 I131 (xKJ a1 [] r1.2) [AbC 55 (xAn a0 a1) (xAc r1), iN r1.1] := by kernel_rfl
theorem xYM {N q0 q1 q2 q3 q4} (g0 : G116 q0) (g1 : G31 q1) (g2 : G131 q2) (g3 : G96 q3) (g4 : G54 q4) : ∀ n x1 x5 b0 r, xCe N q0 q1 q2 q3 q4 n x1 x5 b0 = some r → RS Tryz.f131 I131 4 (xKJ x1 x5 b0) (xA3 r) := by
 intro n
 induction n with
 | zero => exact fun _ _ _ _ h => nE h
 | succ n ih =>
  exact fun x1 x5 b0 r h =>
   cE h (fun h0 h => bE h fun r1 h1 h => iE h fun h2 h => bE h fun r2 h3 h => cE h (fun h4 h => dS h xNV (xRY x1 x5 b0 r1 r2) (oc5 h0 (g1 _ _ h1) h2 (xAl h3) h4 on)) fun h4 h =>
   bE h fun r3 h5 h => tS xNV (xRZ x1 x5 b0 r1 r2 r3) (oc6 h0 (g1 _ _ h1) h2 (xAl h3) h4 (xBM h5) on) (ih _ _ _ _ h)) fun h0 h =>
   dS h xNV (xR0 x1 x5 b0) (oc h0 on)
theorem xYN {N q0 q1 q2 q3 q4} (g0 : G116 q0) (g1 : G31 q1) (g2 : G131 q2) (g3 : G96 q3) (g4 : G54 q4) : ∀ a0 a1 r, xCg N q0 q1 q2 q3 q4 a0 a1 = some r → RE Tryz.f131 I131 (xCd a0 a1) (xA3 r) := fun a0 a1 r h =>
 bE h fun r1 h0 h => cE h (fun h1 h => dE h xNV (xR1 a0 a1 r1) (oc2 (xAl h0) h1 on)) fun h1 h =>
 tE xNV (xR2 a0 a1 r1) (oc2 (xAl h0) h1 on) (xYM g0 g1 g2 g3 g4 _ _ _ _ _ h)
theorem xG2 {N q0 q1 q2 q3 q4} (g0 : G116 q0) (g1 : G31 q1) (g2 : G131 q2) (g3 : G96 q3) (g4 : G54 q4) {a0} {a1} {r} (h : xCg N q0 q1 q2 q3 q4 a0 a1 = some r) : AbC 131 (xCd a0 a1) (xA3 r) :=
 AbsCalls.of_reach xNV rfl rfl (Nat.le_of_ble_eq_true rfl) (xYN g0 g1 g2 g3 g4 a0 a1 r h)
noncomputable def I96 : Info := { body := (Tryz.f96.body).getD .skip, nt := 14, results := [.cell 2 25], keep := [0, 4, 6, 14, 1, 5, 7], live := [(2, [0, 4, 6, 1, 5, 7])], modes := [(3, [(0, .take, false)]), (4, [(0, .take, false)])], ext := [0] }
theorem fk96 : FnOk Tryz.prog 96 Tryz.f96 I96 := ⟨Tryz.func96, by kernel_rfl, by kernel_rfl, by kernel_rfl, by kernel_rfl⟩
def xOg (b0 : Psr) (b2 b3 : Exp) : St := [(0, .v false [.ptr 0 0]), (4, .v false [.ptr 2 0]), (6, .v false [.ptr 3 0]), (1, .v true [.sl .ro .tok (Psr.list b0), .int .i64 (Psr.pos b0), .int .i64 (Psr.bad b0)]), (5, .v true [.int .i64 (Exp.kind b2), .int .i64 (Exp.n b2), .str (Exp.text b2), .sl .own .exp (Exp.args b2)]), (7, .v true [.int .i64 (Exp.kind b3), .int .i64 (Exp.n b3), .str (Exp.text b3), .sl .own .exp (Exp.args b3)])]
def xXZ (b0 : Psr) (b2 b3 : Exp) (r1 : Bool × Psr) (r2 : Exp × Psr) : rS 2 I96 (xOg b0 b2 b3) [Y] [xAc r1, xAH r2] = st 2 I96 (xOg r2.2 b2 (Exp.mk 6 3 [] [(Exp.re b3), (Exp.re r2.1)])) [AbC 55 (xAn b0 [42]) (xAc r1), iY r1.1, AbC 116 (xAS r1.2) (xAH r2)] := by kernel_rfl
def xX0 (b0 : Psr) (b2 b3 : Exp) (r1 : Bool × Psr) : rS 2 I96 (xOg b0 b2 b3) [F] [xAc r1] = dn (xA8 (b3, r1.2)) [AbC 55 (xAn b0 [42]) (xAc r1), iN r1.1] := by kernel_rfl
def xX1 (a0 : Psr) (r1 : Exp × Psr) : rE I96 (xCh a0) [] [xAH r1] = st 2 I96 (xOg r1.2 (Exp.mk 0 0 [] []) r1.1) [AbC 116 (xAS a0) (xAH r1)] := by kernel_rfl
theorem vAv {N q0 q1 q2 q3 q4} (g0 : G116 q0) (g1 : G31 q1) (g2 : G131 q2) (g3 : G96 q3) (g4 : G54 q4) : ∀ n b0 b2 b3 r, xBR N q0 q1 q2 q3 q4 n b0 b2 b3 = some r → RS Tryz.f96 I96 2 (xOg b0 b2 b3) (xA8 r) := by
 intro n
 induction n with
 | zero => exact fun _ _ _ _ h => nE h
 | succ n ih =>
  exact fun b0 b2 b3 r h =>
   bE h fun r1 h0 h => cE h (fun h1 h => bE h fun r2 h2 h => tS fk96 (xXZ b0 b2 b3 r1 r2) (oc3 (xAl h0) h1 (g0 _ _ h2) on) (ih _ _ _ _ h)) fun h1 h =>
   dS h fk96 (xX0 b0 b2 b3 r1) (oc2 (xAl h0) h1 on)
theorem vAw {N q0 q1 q2 q3 q4} (g0 : G116 q0) (g1 : G31 q1) (g2 : G131 q2) (g3 : G96 q3) (g4 : G54 q4) : ∀ a0 r, xBY N q0 q1 q2 q3 q4 a0 = some r → RE Tryz.f96 I96 (xCh a0) (xA8 r) := fun a0 r h =>
 bE h fun r1 h0 h => tE fk96 (xX1 a0 r1) (oc (g0 _ _ h0) on) (vAv g0 g1 g2 g3 g4 _ _ _ _ _ h)
theorem xGA {N q0 q1 q2 q3 q4} (g0 : G116 q0) (g1 : G31 q1) (g2 : G131 q2) (g3 : G96 q3) (g4 : G54 q4) {a0} {r} (h : xBY N q0 q1 q2 q3 q4 a0 = some r) : AbC 96 (xCh a0) (xA8 r) :=
 AbsCalls.of_reach fk96 rfl rfl (Nat.le_of_ble_eq_true rfl) (vAw g0 g1 g2 g3 g4 a0 r h)
noncomputable def I54 : Info := { body := (Tryz.f54.body).getD .skip, nt := 25, results := [.cell 2 25], keep := [0, 4, 6, 8, 22, 28, 34, 1, 5, 7], live := [(2, [0, 4, 6, 1, 5, 7])], modes := [(7, [(0, .take, false), (1, .take, false)]), (8, [(0, .take, false)])], ext := [0] }
theorem fk54 : FnOk Tryz.prog 54 Tryz.f54 I54 := ⟨Tryz.func54, by kernel_rfl, by kernel_rfl, by kernel_rfl, by kernel_rfl⟩
def xLG (b0 : Psr) (b2 b3 : Exp) : St := [(0, .v false [.ptr 0 0]), (4, .v false [.ptr 2 0]), (6, .v false [.ptr 3 0]), (1, .v true [.sl .ro .tok (Psr.list b0), .int .i64 (Psr.pos b0), .int .i64 (Psr.bad b0)]), (5, .v true [.int .i64 (Exp.kind b2), .int .i64 (Exp.n b2), .str (Exp.text b2), .sl .own .exp (Exp.args b2)]), (7, .v true [.int .i64 (Exp.kind b3), .int .i64 (Exp.n b3), .str (Exp.text b3), .sl .own .exp (Exp.args b3)])]
def xV5 (b0 : Psr) (b2 b3 : Exp) (r1 : Bool × Psr) (r2 : Bool × Psr) : rS 2 I54 (xLG b0 b2 b3) [Y, Y, Y] [xAc r1, xAc r2] = dn (xB1 (b3, r2.2)) [xH0 b0, AbC 55 (xAn b0 [43]) (xAc r1), iY (!r1.1), AbC 55 (xAn r1.2 [45]) (xAc r2), iY (!r2.1)] := by kernel_rfl
def xV6 (b0 : Psr) (b2 b3 : Exp) (r1 : Bool × Psr) (r2 : Bool × Psr) (r3 : Exp × Psr) : rS 2 I54 (xLG b0 b2 b3) [Y, Y, F] [xAc r1, xAc r2, xA8 r3] = st 2 I54 (xLG r3.2 b2 (Exp.mk 6 2 [] [(Exp.re b3), (Exp.re r3.1)])) [xH0 b0, AbC 55 (xAn b0 [43]) (xAc r1), iY (!r1.1), AbC 55 (xAn r1.2 [45]) (xAc r2), iN (!r2.1), AbC 96 (xCh r2.2) (xA8 r3)] := by kernel_rfl
def xV7 (b0 : Psr) (b2 b3 : Exp) (r1 : Bool × Psr) (r2 : Exp × Psr) : rS 2 I54 (xLG b0 b2 b3) [Y, F] [xAc r1, xA8 r2] = st 2 I54 (xLG r2.2 b2 (Exp.mk 6 1 [] [(Exp.re b3), (Exp.re r2.1)])) [xH0 b0, AbC 55 (xAn b0 [43]) (xAc r1), iN (!r1.1), AbC 96 (xCh r1.2) (xA8 r2)] := by kernel_rfl
def xV8 (b0 : Psr) (b2 b3 : Exp) : rS 2 I54 (xLG b0 b2 b3) [F] [] = dn (xB1 (b3, b0)) [xLc b0] := by kernel_rfl
def xV9 (a0 : Psr) (r1 : Exp × Psr) : rE I54 (xDG a0) [] [xA8 r1] = st 2 I54 (xLG r1.2 (Exp.mk 0 0 [] []) r1.1) [AbC 96 (xCh a0) (xA8 r1)] := by kernel_rfl
theorem xZP {N q0 q1 q2 q3 q4} (g0 : G116 q0) (g1 : G31 q1) (g2 : G131 q2) (g3 : G96 q3) (g4 : G54 q4) : ∀ n b0 b2 b3 r, xB0 N q0 q1 q2 q3 q4 n b0 b2 b3 = some r → RS Tryz.f54 I54 2 (xLG b0 b2 b3) (xB1 r) := by
 intro n
 induction n with
 | zero => exact fun _ _ _ _ h => nE h
 | succ n ih =>
  exact fun b0 b2 b3 r h =>
   cE h (fun h0 h => bE h fun r1 h1 h => cE h (fun h2 h => bE h fun r2 h3 h => cE h (fun h4 h => dS h fk54 (xV5 b0 b2 b3 r1 r2) (oc5 h0 (xAl h1) h2 (xAl h3) h4 on)) fun h4 h =>
   bE h fun r3 h5 h => tS fk54 (xV6 b0 b2 b3 r1 r2 r3) (oc6 h0 (xAl h1) h2 (xAl h3) h4 (g3 _ _ h5) on) (ih _ _ _ _ h)) fun h2 h =>
   bE h fun r2 h3 h => tS fk54 (xV7 b0 b2 b3 r1 r2) (oc4 h0 (xAl h1) h2 (g3 _ _ h3) on) (ih _ _ _ _ h)) fun h0 h =>
   dS h fk54 (xV8 b0 b2 b3) (oc h0 on)
theorem xZQ {N q0 q1 q2 q3 q4} (g0 : G116 q0) (g1 : G31 q1) (g2 : G131 q2) (g3 : G96 q3) (g4 : G54 q4) : ∀ a0 r, xCI N q0 q1 q2 q3 q4 a0 = some r → RE Tryz.f54 I54 (xDG a0) (xB1 r) := fun a0 r h =>
 bE h fun r1 h0 h => tE fk54 (xV9 a0 r1) (oc (g3 _ _ h0) on) (xZP g0 g1 g2 g3 g4 _ _ _ _ _ h)
theorem xHu {N q0 q1 q2 q3 q4} (g0 : G116 q0) (g1 : G31 q1) (g2 : G131 q2) (g3 : G96 q3) (g4 : G54 q4) {a0} {r} (h : xCI N q0 q1 q2 q3 q4 a0 = some r) : AbC 54 (xDG a0) (xB1 r) :=
 AbsCalls.of_reach fk54 rfl rfl (Nat.le_of_ble_eq_true rfl) (xZQ g0 g1 g2 g3 g4 a0 r h)
theorem xHt {N : Nat} : ∀ d, G116 (xAb N d).c_impl_parser_atom ∧ G31 (xAb N d).c_impl_parser_expr ∧ G131 (xAb N d).c_impl_parser_list2 ∧ G96 (xAb N d).c_impl_parser_product ∧ G54 (xAb N d).c_impl_parser_sum := by
 intro d
 induction d with
 | zero => exact ⟨fun _ _ h => nE h, fun _ _ h => nE h, fun _ _ _ h => nE h, fun _ _ h => nE h, fun _ _ h => nE h⟩
 | succ d ih =>
  obtain ⟨ih0, ih1, ih2, ih3, ih4⟩ := ih
  exact ⟨fun _ _ h => xHe (N := N) ih0 ih1 ih2 ih3 ih4 h, fun _ _ h => xHf (N := N) ih0 ih1 ih2 ih3 ih4 h, fun _ _ _ h => xG2 (N := N) ih0 ih1 ih2 ih3 ih4 h, fun _ _ h => xGA (N := N) ih0 ih1 ih2 ih3 ih4 h, fun _ _ h => xHu (N := N) ih0 ih1 ih2 ih3 ih4 h⟩
theorem xBj {N : Nat} {a0 : Psr} {r : Exp × Psr} (h : xFv N a0 = some r) : AbC 31 (xBc a0) (xAe r) := (xHt N).2.1 _ r h
def G57 (q : Exp → Option (Int)) : Prop := ∀ a0 r, q a0 = some r → AbC 57 (xCE a0) (xBg r)
noncomputable def I57 : Info := { body := (Tryz.f57.body).getD .skip, nt := 19, results := [.tmp 2], keep := [0, 2, 4, 6, 10, 14, 16, 18, 20, 3, 11], live := [(3, [6, 14, 16, 18])], modes := [(6, [(1, .take, false)])] }
theorem fk57 : FnOk Tryz.prog 57 Tryz.f57 I57 := ⟨Tryz.func57, by kernel_rfl, by kernel_rfl, by kernel_rfl, by kernel_rfl⟩
def xOc (x3 : Int) (x7 : List Exp) (x8 x9 : Int) : St := [(6, .v false [.int .i64 x3]), (14, .v false [.sl .ro .exp x7]), (16, .v false [.int .i64 x8]), (18, .v false [.int .i64 x9])]
abbrev xJo (v0 : Int) (v1 : List Exp) : Prop := (0 : Int) ≤ v0 ∧ v0 < (Ln v1)
abbrev xJw (v0 : List Exp) (v1 : Int) := gD v0 (tN v1) Ty.exp.dflt
def xWe (x3 : Int) (x7 : List Exp) (x8 x9 r1 : Int) : rS 3 I57 (xOc x3 x7 x8 x9) [Y] [xBg r1] = st 3 I57 (xOc (W (x3 + r1)) x7 x8 (W (x9 + 1))) [iY (dc (x9 < x8)), xJo x9 x7, AbC 57 (xCE (xJw x7 x9)) (xBg r1)] := by kernel_rfl
def xWf (x3 : Int) (x7 : List Exp) (x8 x9 : Int) : rS 3 I57 (xOc x3 x7 x8 x9) [F] [] = dn (xBg x3) [iN (dc (x9 < x8))] := by kernel_rfl
def xWg (a0 : Exp) : rE I57 (xCE a0) [] [] = st 3 I57 (xOc 1 (Exp.args a0) (xHz a0) 0) [] := by kernel_rfl
theorem xZT {N q0} (g0 : G57 q0) : ∀ n x3 x7 x8 x9 r, xDp N q0 n x3 x7 x8 x9 = some r → RS Tryz.f57 I57 3 (xOc x3 x7 x8 x9) (xBg r) := by
 intro n
 induction n with
 | zero => exact fun _ _ _ _ _ h => nE h
 | succ n ih =>
  exact fun x3 x7 x8 x9 r h =>
   cE h (fun h0 h => iE h fun h1 h => bE h fun r1 h2 h => tS fk57 (xWe x3 x7 x8 x9 r1) (oc3 h0 h1 (g0 _ _ h2) on) (ih _ _ _ _ _ h)) fun h0 h =>
   dS h fk57 (xWf x3 x7 x8 x9) (oc h0 on)
theorem xZU {N q0} (g0 : G57 q0) : ∀ a0 r, xFC N q0 a0 = some r → RE Tryz.f57 I57 (xCE a0) (xBg r) := fun a0 r h =>
 tE fk57 (xWg a0) on (xZT g0 _ _ _ _ _ _ h)
theorem xHK {N q0} (g0 : G57 q0) {a0} {r} (h : xFC N q0 a0 = some r) : AbC 57 (xCE a0) (xBg r) :=
 AbsCalls.of_reach fk57 rfl rfl (Nat.le_of_ble_eq_true rfl) (xZU g0 a0 r h)
theorem xGc {N : Nat} : ∀ d, G57 (xDF N d)
 | 0 => fun _ _ h => nE h
 | d + 1 => fun _ _ h => xHK (N := N) (xGc d) h
theorem xF2 {N : Nat} {a0 : Exp} {r : Int} (h : xG1 N a0 = some r) : AbC 57 (xCE a0) (xBg r) := xGc N _ r h
def G58 (q : Exp → Option (Int)) : Prop := ∀ a0 r, q a0 = some r → AbC 58 (xC1 a0) (xBB r)
noncomputable def I58 : Info := { body := (Tryz.f58.body).getD .skip, nt := 20, results := [.tmp 2], keep := [0, 2, 4, 6, 10, 14, 16, 18, 20, 3, 11], live := [(3, [6, 14, 16, 18])], modes := [(6, [(1, .take, false)])] }
theorem fk58 : FnOk Tryz.prog 58 Tryz.f58 I58 := ⟨Tryz.func58, by kernel_rfl, by kernel_rfl, by kernel_rfl, by kernel_rfl⟩
def xOd (x3 : Int) (x7 : List Exp) (x8 x9 : Int) : St := [(6, .v false [.int .i64 x3]), (14, .v false [.sl .ro .exp x7]), (16, .v false [.int .i64 x8]), (18, .v false [.int .i64 x9])]
def xWh (x3 : Int) (x7 : List Exp) (x8 x9 r1 : Int) : rS 3 I58 (xOd x3 x7 x8 x9) [Y] [xBB r1] = st 3 I58 (xOd (if r1 > x3 then r1 else x3) x7 x8 (W (x9 + 1))) [iY (dc (x9 < x8)), xJo x9 x7, AbC 58 (xC1 (xJw x7 x9)) (xBB r1)] := by kernel_rfl
def xWi (x3 : Int) (x7 : List Exp) (x8 x9 : Int) : rS 3 I58 (xOd x3 x7 x8 x9) [F] [] = dn (xBB (W (x3 + 1))) [iN (dc (x9 < x8))] := by kernel_rfl
def xWj (a0 : Exp) : rE I58 (xC1 a0) [] [] = st 3 I58 (xOd 0 (Exp.args a0) (xHz a0) 0) [] := by kernel_rfl
theorem xZV {N q0} (g0 : G58 q0) : ∀ n x3 x7 x8 x9 r, xDX N q0 n x3 x7 x8 x9 = some r → RS Tryz.f58 I58 3 (xOd x3 x7 x8 x9) (xBB r) := by
 intro n
 induction n with
 | zero => exact fun _ _ _ _ _ h => nE h
 | succ n ih =>
  exact fun x3 x7 x8 x9 r h =>
   cE h (fun h0 h => iE h fun h1 h => bE h fun r1 h2 h => tS fk58 (xWh x3 x7 x8 x9 r1) (oc3 h0 h1 (g0 _ _ h2) on) (ih _ _ _ _ _ h)) fun h0 h =>
   dS h fk58 (xWi x3 x7 x8 x9) (oc h0 on)
theorem xZW {N q0} (g0 : G58 q0) : ∀ a0 r, xFB N q0 a0 = some r → RE Tryz.f58 I58 (xC1 a0) (xBB r) := fun a0 r h =>
 tE fk58 (xWj a0) on (xZV g0 _ _ _ _ _ _ h)
theorem xHJ {N q0} (g0 : G58 q0) {a0} {r} (h : xFB N q0 a0 = some r) : AbC 58 (xC1 a0) (xBB r) :=
 AbsCalls.of_reach fk58 rfl rfl (Nat.le_of_ble_eq_true rfl) (xZW g0 a0 r h)
theorem xGb {N : Nat} : ∀ d, G58 (xEi N d)
 | 0 => fun _ _ h => nE h
 | d + 1 => fun _ _ h => xHJ (N := N) (xGb d) h
theorem xHc {N : Nat} {a0 : Exp} {r : Int} (h : xG0 N a0 = some r) : AbC 58 (xC1 a0) (xBB r) := xGb N _ r h
noncomputable def I98 : Info := { body := (Tryz.f98.body).getD .skip, nt := 120, results := [.tmp 2], keep := [0, 2, 4, 6, 16, 18, 46, 74, 102, 130, 154, 182, 212, 3], live := [], modes := [(4, [(3, .take, false), (8, .take, false)]), (6, [(3, .take, false), (8, .take, false)]), (8, [(3, .take, false), (8, .take, false)]), (10, [(3, .take, false), (8, .take, false)]), (12, [(3, .take, false)]), (14, [(3, .take, false), (8, .take, false)]), (17, [(3, .take, false), (8, .take, false)]), (19, [(3, .take, false), (8, .take, false)])] }
theorem fk98 : FnOk Tryz.prog 98 Tryz.f98 I98 := ⟨Tryz.func98, by kernel_rfl, by kernel_rfl, by kernel_rfl, by kernel_rfl⟩
abbrev xMv (v0 : Exp) (v1 : Bool) : Prop := AbC 97 (xCQ (Exp.n v0) 0 1000000000) (xA7 v1)
abbrev xMX (v0 : Exp) := xAF ((Ln (Exp.args v0) : Int) == 0)
def xX4 (a0 : Exp) (r1 : Bool) : rE I98 (xAy a0) [Y, Y, Y] [xA7 r1] = dn (xMX a0) [xJL a0, xMv a0 r1, iY r1, xHv a0] := by kernel_rfl
def xX5 (a0 : Exp) (r1 : Bool) : rE I98 (xAy a0) [Y, Y, F] [xA7 r1] = dn (xAF false) [xJL a0, xMv a0 r1, iY r1, xHS a0] := by kernel_rfl
def xX6 (a0 : Exp) (r1 : Bool) : rE I98 (xAy a0) [Y, F, F] [xA7 r1] = dn (xAF false) [xJL a0, xMv a0 r1, iN r1, iN false] := by kernel_rfl
def xX7 (a0 : Exp) (r1 : Bool) : rE I98 (xAy a0) [F, Y, Y, Y] [xAM r1] = dn (xMX a0) [xAP a0, xHT a0, xDP a0, AbC 91 (xDn (Exp.text a0)) (xAM r1), iY r1] := by kernel_rfl
def xX8 (a0 : Exp) (r1 : Bool) : rE I98 (xAy a0) [F, Y, Y, F] [xAM r1] = dn (xAF false) [xAP a0, xHT a0, xDP a0, AbC 91 (xDn (Exp.text a0)) (xAM r1), iN r1] := by kernel_rfl
def xX9 (a0 : Exp) : rE I98 (xAy a0) [F, Y, F, F] [] = dn (xAF false) [xAP a0, xHT a0, xFP a0, iN false] := by kernel_rfl
abbrev xJp (v0 : Exp) (v1 : Bool) : Prop := AbC 93 (xDm (Exp.text v0)) (xAC v1)
def xYa (a0 : Exp) (r1 : Bool) : rE I98 (xAy a0) [F, F, Y, Y, Y] [xAC r1] = dn (xMX a0) [xAP a0, xA5 a0, xHU a0, xDP a0, xJp a0 r1, iY r1] := by kernel_rfl
def xYb (a0 : Exp) (r1 : Bool) : rE I98 (xAy a0) [F, F, Y, Y, F] [xAC r1] = dn (xAF false) [xAP a0, xA5 a0, xHU a0, xDP a0, xJp a0 r1, iN r1] := by kernel_rfl
def xYc (a0 : Exp) : rE I98 (xAy a0) [F, F, Y, F, F] [] = dn (xAF false) [xAP a0, xA5 a0, xHU a0, xFP a0, iN false] := by kernel_rfl
def xYd (a0 : Exp) : rE I98 (xAy a0) [F, F, F, Y, Y, Y] [] = dn (xAF (dc ((xHz a0) ≤ 8))) [xAP a0, xA5 a0, xBm a0, xHV a0, xDP a0, xHv a0] := by kernel_rfl
def xSY (a0 : Exp) : rE I98 (xAy a0) [F, F, F, Y, Y, F] [] = dn (xAF false) [xAP a0, xA5 a0, xBm a0, xHV a0, xDP a0, xHS a0] := by kernel_rfl
def xSZ (a0 : Exp) : rE I98 (xAy a0) [F, F, F, Y, F, F] [] = dn (xAF false) [xAP a0, xA5 a0, xBm a0, xHV a0, xFP a0, iN false] := by kernel_rfl
def xS0 (a0 : Exp) (r1 : Int) : rE I98 (xAy a0) [F, F, F, F, Y, Y] [xAg r1] = dn (xAF ((xHz a0) == r1)) [xAP a0, xA5 a0, xBm a0, xBQ a0, xJh a0, xDP a0, AbC 117 (xAk (Exp.text a0)) (xAg r1)] := by kernel_rfl
def xS1 (a0 : Exp) : rE I98 (xAy a0) [F, F, F, F, Y, F] [] = dn (xAF false) [xAP a0, xA5 a0, xBm a0, xBQ a0, xJh a0, xFP a0] := by kernel_rfl
abbrev xMY (v0 : Exp) := xAF ((Ln (Exp.args v0) : Int) == 2)
def xS2 (a0 : Exp) (r1 : Bool) : rE I98 (xAy a0) [F, F, F, F, F, Y, Y, Y] [xA7 r1] = dn (xMY a0) [xAP a0, xA5 a0, xBm a0, xBQ a0, xCj a0, xEU a0, AbC 97 (xCQ (Exp.n a0) 1 5) (xA7 r1), iY r1, xHv a0] := by kernel_rfl
def xS3 (a0 : Exp) (r1 : Bool) : rE I98 (xAy a0) [F, F, F, F, F, Y, Y, F] [xA7 r1] = dn (xAF false) [xAP a0, xA5 a0, xBm a0, xBQ a0, xCj a0, xEU a0, AbC 97 (xCQ (Exp.n a0) 1 5) (xA7 r1), iY r1, xHS a0] := by kernel_rfl
def xS4 (a0 : Exp) (r1 : Bool) : rE I98 (xAy a0) [F, F, F, F, F, Y, F, F] [xA7 r1] = dn (xAF false) [xAP a0, xA5 a0, xBm a0, xBQ a0, xCj a0, xEU a0, AbC 97 (xCQ (Exp.n a0) 1 5) (xA7 r1), iN r1, iN false] := by kernel_rfl
def xS5 (a0 : Exp) (r1 : Bool) : rE I98 (xAy a0) [F, F, F, F, F, F, Y, Y, Y, Y] [xAC r1] = dn (xMY a0) [xAP a0, xA5 a0, xBm a0, xBQ a0, xCj a0, xEa a0, xEV a0, xEV a0, xDP a0, xJp a0 r1, iY r1] := by kernel_rfl
def xS6 (a0 : Exp) (r1 : Bool) : rE I98 (xAy a0) [F, F, F, F, F, F, Y, Y, Y, F] [xAC r1] = dn (xAF false) [xAP a0, xA5 a0, xBm a0, xBQ a0, xCj a0, xEa a0, xEV a0, xEV a0, xDP a0, xJp a0 r1, iN r1] := by kernel_rfl
def xS7 (a0 : Exp) : rE I98 (xAy a0) [F, F, F, F, F, F, Y, Y, F, F] [] = dn (xAF false) [xAP a0, xA5 a0, xBm a0, xBQ a0, xCj a0, xEa a0, xEV a0, xEV a0, xFP a0, iN false] := by kernel_rfl
def xS8 (a0 : Exp) (r1 : Bool) : rE I98 (xAy a0) [F, F, F, F, F, F, F, Y, Y, Y] [xAC r1] = dn (xMY a0) [xAP a0, xA5 a0, xBm a0, xBQ a0, xCj a0, xEa a0, xB4 a0, xG4 a0, xDP a0, xJp a0 r1, iY r1] := by kernel_rfl
def xS9 (a0 : Exp) (r1 : Bool) : rE I98 (xAy a0) [F, F, F, F, F, F, F, Y, Y, F] [xAC r1] = dn (xAF false) [xAP a0, xA5 a0, xBm a0, xBQ a0, xCj a0, xEa a0, xB4 a0, xG4 a0, xDP a0, xJp a0 r1, iN r1] := by kernel_rfl
def xTa (a0 : Exp) : rE I98 (xAy a0) [F, F, F, F, F, F, F, Y, F, F] [] = dn (xAF false) [xAP a0, xA5 a0, xBm a0, xBQ a0, xCj a0, xEa a0, xB4 a0, xG4 a0, xFP a0, iN false] := by kernel_rfl
def xTb (a0 : Exp) : rE I98 (xAy a0) [F, F, F, F, F, F, F, F, Y, Y, Y] [] = dn (xAF ((xHz a0) == 3)) [xAP a0, xA5 a0, xBm a0, xBQ a0, xCj a0, xEa a0, xB4 a0, xDr a0, xGh a0, xDP a0, xHv a0] := by kernel_rfl
def xTc (a0 : Exp) : rE I98 (xAy a0) [F, F, F, F, F, F, F, F, Y, Y, F] [] = dn (xAF false) [xAP a0, xA5 a0, xBm a0, xBQ a0, xCj a0, xEa a0, xB4 a0, xDr a0, xGh a0, xDP a0, xHS a0] := by kernel_rfl
def xTd (a0 : Exp) : rE I98 (xAy a0) [F, F, F, F, F, F, F, F, Y, F, F] [] = dn (xAF false) [xAP a0, xA5 a0, xBm a0, xBQ a0, xCj a0, xEa a0, xB4 a0, xDr a0, xGh a0, xFP a0, iN false] := by kernel_rfl
def xTe (a0 : Exp) : rE I98 (xAy a0) [F, F, F, F, F, F, F, F, F] [] = dn (xAF false) [xAP a0, xA5 a0, xBm a0, xBQ a0, xCj a0, xEa a0, xB4 a0, xDr a0, xD4 a0] := by kernel_rfl
theorem vAy {N : Nat} : ∀ a0 r, xGy N a0 = some r → RE Tryz.f98 I98 (xAy a0) (xAF r) := fun a0 r h =>
 cE h (fun h0 h => bE h fun r1 h1 h => cE h (fun h2 h => cE h (fun h3 h => dE h fk98 (xX4 a0 r1) (oc4 h0 (xDw h1) h2 h3 on)) fun h3 h =>
 dE h fk98 (xX5 a0 r1) (oc4 h0 (xDw h1) h2 h3 on)) fun h2 h =>
 dE h fk98 (xX6 a0 r1) (oc4 h0 (xDw h1) h2 rfl on)) fun h0 h =>
 cE h (fun h1 h => cE h (fun h2 h => bE h fun r1 h3 h => cE h (fun h4 h => dE h fk98 (xX7 a0 r1) (oc5 h0 h1 h2 (xDo h3) h4 on)) fun h4 h =>
 dE h fk98 (xX8 a0 r1) (oc5 h0 h1 h2 (xDo h3) h4 on)) fun h2 h =>
 dE h fk98 (xX9 a0) (oc4 h0 h1 h2 rfl on)) fun h1 h =>
 cE h (fun h2 h => cE h (fun h3 h => bE h fun r1 h4 h => cE h (fun h5 h => dE h fk98 (xYa a0 r1) (oc6 h0 h1 h2 h3 (xBb h4) h5 on)) fun h5 h =>
 dE h fk98 (xYb a0 r1) (oc6 h0 h1 h2 h3 (xBb h4) h5 on)) fun h3 h =>
 dE h fk98 (xYc a0) (oc5 h0 h1 h2 h3 rfl on)) fun h2 h =>
 cE h (fun h3 h => cE h (fun h4 h => cE h (fun h5 h => dE h fk98 (xYd a0) (oc6 h0 h1 h2 h3 h4 h5 on)) fun h5 h =>
 dE h fk98 (xSY a0) (oc6 h0 h1 h2 h3 h4 h5 on)) fun h4 h =>
 dE h fk98 (xSZ a0) (oc6 h0 h1 h2 h3 h4 rfl on)) fun h3 h =>
 cE h (fun h4 h => cE h (fun h5 h => bE h fun r1 h6 h => dE h fk98 (xS0 a0 r1) (oc7 h0 h1 h2 h3 h4 h5 (xC0 h6) on)) fun h5 h =>
 dE h fk98 (xS1 a0) (oc6 h0 h1 h2 h3 h4 h5 on)) fun h4 h =>
 cE h (fun h5 h => bE h fun r1 h6 h => cE h (fun h7 h => cE h (fun h8 h => dE h fk98 (xS2 a0 r1) (oc9 h0 h1 h2 h3 h4 h5 (xDw h6) h7 h8 on)) fun h8 h =>
 dE h fk98 (xS3 a0 r1) (oc9 h0 h1 h2 h3 h4 h5 (xDw h6) h7 h8 on)) fun h7 h =>
 dE h fk98 (xS4 a0 r1) (oc9 h0 h1 h2 h3 h4 h5 (xDw h6) h7 rfl on)) fun h5 h =>
 cE h (fun h6 h => cE h (fun h8 h => bE h fun r1 h9 h => cE h (fun h10 h => dE h fk98 (xS5 a0 r1) (oc11 h0 h1 h2 h3 h4 h5 h6 h6 h8 (xBb h9) h10 on)) fun h10 h =>
 dE h fk98 (xS6 a0 r1) (oc11 h0 h1 h2 h3 h4 h5 h6 h6 h8 (xBb h9) h10 on)) fun h8 h =>
 dE h fk98 (xS7 a0) (oc10 h0 h1 h2 h3 h4 h5 h6 h6 h8 rfl on)) fun h6 h =>
 cE h (fun h7 h => cE h (fun h8 h => bE h fun r1 h9 h => cE h (fun h10 h => dE h fk98 (xS8 a0 r1) (oc11 h0 h1 h2 h3 h4 h5 h6 h7 h8 (xBb h9) h10 on)) fun h10 h =>
 dE h fk98 (xS9 a0 r1) (oc11 h0 h1 h2 h3 h4 h5 h6 h7 h8 (xBb h9) h10 on)) fun h8 h =>
 dE h fk98 (xTa a0) (oc10 h0 h1 h2 h3 h4 h5 h6 h7 h8 rfl on)) fun h7 h =>
 cE h (fun h8 h => cE h (fun h9 h => cE h (fun h10 h => dE h fk98 (xTb a0) (oc11 h0 h1 h2 h3 h4 h5 h6 h7 h8 h9 h10 on)) fun h10 h =>
 dE h fk98 (xTc a0) (oc11 h0 h1 h2 h3 h4 h5 h6 h7 h8 h9 h10 on)) fun h9 h =>
 dE h fk98 (xTd a0) (oc11 h0 h1 h2 h3 h4 h5 h6 h7 h8 h9 rfl on)) fun h8 h =>
 dE h fk98 (xTe a0) (oc9 h0 h1 h2 h3 h4 h5 h6 h7 h8 on)
theorem xKB {N : Nat} {a0 : Exp} {r : Bool} (h : xGy N  a0 = some r) : AbC 98 (xAy a0) (xAF r) :=
 AbsCalls.of_reach fk98 rfl rfl (Nat.le_of_ble_eq_true rfl) (vAy a0 r h)
def G59 (q : Exp → Option (Bool)) : Prop := ∀ a0 r, q a0 = some r → AbC 59 (xDe a0) (xBD r)
noncomputable def I59 : Info := { body := (Tryz.f59.body).getD .skip, nt := 18, results := [.tmp 2], keep := [0, 2, 4, 8, 12, 14, 16, 18, 28, 3, 9], live := [(2, [2, 12, 14, 16, 3])], modes := [(6, [(1, .take, false)])] }
theorem fk59 : FnOk Tryz.prog 59 Tryz.f59 I59 := ⟨Tryz.func59, by kernel_rfl, by kernel_rfl, by kernel_rfl, by kernel_rfl⟩
def xNP (x6 : List Exp) (x7 x8 : Int) (b1 : Exp) : St := [(2, .v false [.ptr 1 0]), (12, .v false [.sl .ro .exp x6]), (14, .v false [.int .i64 x7]), (16, .v false [.int .i64 x8]), (3, .v true [.int .i64 (Exp.kind b1), .int .i64 (Exp.n b1), .str (Exp.text b1), .sl .ro .exp (Exp.args b1)])]
def xWk (x6 : List Exp) (x7 x8 : Int) (b1 : Exp) (r1 : Bool) : rS 2 I59 (xNP x6 x7 x8 b1) [Y, Y] [xBD r1] = dn (xBD false) [iY (dc (x8 < x7)), xJo x8 x6, AbC 59 (xDe (xJw x6 x8)) (xBD r1), iY (!r1)] := by kernel_rfl
def xWl (x6 : List Exp) (x7 x8 : Int) (b1 : Exp) (r1 : Bool) : rS 2 I59 (xNP x6 x7 x8 b1) [Y, F] [xBD r1] = st 2 I59 (xNP x6 x7 (W (x8 + 1)) b1) [iY (dc (x8 < x7)), xJo x8 x6, AbC 59 (xDe (xJw x6 x8)) (xBD r1), iN (!r1)] := by kernel_rfl
def xWm (x6 : List Exp) (x7 x8 : Int) (b1 : Exp) (r1 : Bool) : rS 2 I59 (xNP x6 x7 x8 b1) [F] [xAF r1] = dn (xBD r1) [iN (dc (x8 < x7)), AbC 98 (xAy b1) (xAF r1)] := by kernel_rfl
def xWn (a0 : Exp) : rE I59 (xDe a0) [] [] = st 2 I59 (xNP (Exp.args a0) (xHz a0) 0 a0) [] := by kernel_rfl
theorem xZX {N q0} (g0 : G59 q0) : ∀ n x6 x7 x8 b1 r, xDL N q0 n x6 x7 x8 b1 = some r → RS Tryz.f59 I59 2 (xNP x6 x7 x8 b1) (xBD r) := by
 intro n
 induction n with
 | zero => exact fun _ _ _ _ _ h => nE h
 | succ n ih =>
  exact fun x6 x7 x8 b1 r h =>
   cE h (fun h0 h => iE h fun h1 h => bE h fun r1 h2 h => cE h (fun h3 h => dS h fk59 (xWk x6 x7 x8 b1 r1) (oc4 h0 h1 (g0 _ _ h2) h3 on)) fun h3 h =>
   tS fk59 (xWl x6 x7 x8 b1 r1) (oc4 h0 h1 (g0 _ _ h2) h3 on) (ih _ _ _ _ _ h)) fun h0 h =>
   bE h fun r1 h1 h => dS h fk59 (xWm x6 x7 x8 b1 r1) (oc2 h0 (xKB h1) on)
theorem xZY {N q0} (g0 : G59 q0) : ∀ a0 r, xFN N q0 a0 = some r → RE Tryz.f59 I59 (xDe a0) (xBD r) := fun a0 r h =>
 tE fk59 (xWn a0) on (xZX g0 _ _ _ _ _ _ h)
theorem xHP {N q0} (g0 : G59 q0) {a0} {r} (h : xFN N q0 a0 = some r) : AbC 59 (xDe a0) (xBD r) :=
 AbsCalls.of_reach fk59 rfl rfl (Nat.le_of_ble_eq_true rfl) (xZY g0 a0 r h)
theorem xGl {N : Nat} : ∀ d, G59 (xEA N d)
 | 0 => fun _ _ h => nE h
 | d + 1 => fun _ _ h => xHP (N := N) (xGl d) h
theorem xJS {N : Nat} {a0 : Exp} {r : Bool} (h : xHq N a0 = some r) : AbC 59 (xDe a0) (xBD r) := xGl N _ r h
noncomputable def I32 : Info := { body := (Tryz.f32.body).getD .skip, nt := 15, results := [.tmp 2], keep := [0, 2, 4, 3], live := [], modes := [(1, [(3, .take, false), (8, .take, false)])] }
theorem fk32 : FnOk Tryz.prog 32 Tryz.f32 I32 := ⟨Tryz.func32, by kernel_rfl, by kernel_rfl, by kernel_rfl, by kernel_rfl⟩
def xUS (a0 : Exp) (r1 r2 : Int) (r3 : Bool) : rE I32 (xCm a0) [Y, Y] [xBg r1, xBB r2, xBD r3] = dn (xAL r3) [AbC 57 (xCE a0) (xBg r1), iY (dc (r1 ≤ 40)), AbC 58 (xC1 a0) (xBB r2), iY (dc (r2 ≤ 8)), AbC 59 (xDe a0) (xBD r3)] := by kernel_rfl
def xUT (a0 : Exp) (r1 r2 : Int) : rE I32 (xCm a0) [Y, F] [xBg r1, xBB r2] = dn (xAL false) [AbC 57 (xCE a0) (xBg r1), iY (dc (r1 ≤ 40)), AbC 58 (xC1 a0) (xBB r2), iN (dc (r2 ≤ 8))] := by kernel_rfl
def xUU (a0 : Exp) (r1 : Int) : rE I32 (xCm a0) [F, F] [xBg r1] = dn (xAL false) [AbC 57 (xCE a0) (xBg r1), iN (dc (r1 ≤ 40)), iN false] := by kernel_rfl
theorem xZu {N : Nat} : ∀ a0 r, xCy N a0 = some r → RE Tryz.f32 I32 (xCm a0) (xAL r) := fun a0 r h =>
 bE h fun r1 h0 h => cE h (fun h1 h => bE h fun r2 h2 h => cE h (fun h3 h => bE h fun r3 h4 h => dE h fk32 (xUS a0 r1 r2 r3) (oc5 (xF2 h0) h1 (xHc h2) h3 (xJS h4) on)) fun h3 h =>
 dE h fk32 (xUT a0 r1 r2) (oc4 (xF2 h0) h1 (xHc h2) h3 on)) fun h1 h =>
 dE h fk32 (xUU a0 r1) (oc3 (xF2 h0) h1 rfl on)
theorem xCn {N : Nat} {a0 : Exp} {r : Bool} (h : xCy N  a0 = some r) : AbC 32 (xCm a0) (xAL r) :=
 AbsCalls.of_reach fk32 rfl rfl (Nat.le_of_ble_eq_true rfl) (xZu a0 r h)
noncomputable def I12 : Info := { body := (Tryz.f12.body).getD .skip, nt := 72, results := [.cell 2 25, .tmp 3], keep := [0, 4, 6, 8, 10, 12, 14, 28, 70, 98, 114, 138, 5, 15, 39], live := [], modes := [(1, [(2, .take, false)]), (6, [(5, .take, false)]), (14, [(0, .take, false)])] }
theorem fk12 : FnOk Tryz.prog 12 Tryz.f12 I12 := ⟨Tryz.func12, by kernel_rfl, by kernel_rfl, by kernel_rfl, by kernel_rfl⟩
abbrev xF4 (v0 : Str) (v1 : (List Tok) × Int) : Prop := AbC 30 (xER v0) (xAI v1)
def xT8 (a0 : Str) (r1 : (List Tok) × Int) : rE I12 (xAV a0) [Y] [xAI r1] = dn (xAW ((Exp.mk 0 0 [] []), r1.2)) [xF4 a0 r1, iY (dc (r1.2 ≥ 0))] := by kernel_rfl
abbrev xGj (v0 : (List Tok) × Int) (v1 : Exp × Psr) : Prop := AbC 31 (xBc (Psr.mk v0.1 0 (-1))) (xAe v1)
abbrev xH3 (v0 : Exp × Psr) : Prop := iY (dc ((Psr.bad v0.2) < 0))
abbrev xHA (v0 : (List Tok) × Int) := (Ln v0.1 : Int)
abbrev xLg (v0 : Exp × Psr) (v1 : (List Tok) × Int) : Prop := iY (dc ((Psr.pos v0.2) < (xHA v1)))
abbrev xMZ (v0 : Str) := xAW ((Exp.mk 0 0 [] []), (Ln v0 : Int))
def xT9 (a0 : Str) (r1 : (List Tok) × Int) (r2 : Exp × Psr) : rE I12 (xAV a0) [F, Y, Y, Y] [xAI r1, xAe r2] = dn (xMZ a0) [xF4 a0 r1, xEs r1, xGj r1 r2, xH3 r2, xLg r2 r1, iY (dc ((Psr.pos r2.2) ≥ (xHA r1)))] := by kernel_rfl
def xUa (a0 : Str) (r1 : (List Tok) × Int) (r2 : Exp × Psr) : rE I12 (xAV a0) [F, Y, Y, F, Y] [xAI r1, xAe r2] = dn (xAW ((Exp.mk 0 0 [] []), (Tok.pos (gD r1.1 (tN (Psr.pos r2.2)) Ty.tok.dflt)))) [xF4 a0 r1, xEs r1, xGj r1 r2, xH3 r2, xLg r2 r1, iN (dc ((Psr.pos r2.2) ≥ (xHA r1))), iY (dc ((Psr.pos r2.2) ≥ 0)), (0 : Int) ≤ (Psr.pos r2.2) ∧ (Psr.pos r2.2) < (Ln r1.1)] := by kernel_rfl
abbrev xJq (v0 : Exp × Psr) (v1 : Bool) : Prop := AbC 32 (xCm v0.1) (xAL v1)
def xUb (a0 : Str) (r1 : (List Tok) × Int) (r2 : Exp × Psr) (r3 : Bool) : rE I12 (xAV a0) [F, Y, Y, F, F, Y] [xAI r1, xAe r2, xAL r3] = dn (xAW ((Exp.mk 0 0 [] []), 0)) [xF4 a0 r1, xEs r1, xGj r1 r2, xH3 r2, xLg r2 r1, iN (dc ((Psr.pos r2.2) ≥ (xHA r1))), iN (dc ((Psr.pos r2.2) ≥ 0)), xJq r2 r3, iY (!r3)] := by kernel_rfl
def xUc (a0 : Str) (r1 : (List Tok) × Int) (r2 : Exp × Psr) (r3 : Bool) : rE I12 (xAV a0) [F, Y, Y, F, F, F] [xAI r1, xAe r2, xAL r3] = dn (xAW (r2.1, (-1))) [xF4 a0 r1, xEs r1, xGj r1 r2, xH3 r2, xLg r2 r1, iN (dc ((Psr.pos r2.2) ≥ (xHA r1))), iN (dc ((Psr.pos r2.2) ≥ 0)), xJq r2 r3, iN (!r3)] := by kernel_rfl
abbrev xLh (v0 : Exp × Psr) (v1 : (List Tok) × Int) : Prop := iN (dc ((Psr.pos v0.2) < (xHA v1)))
def xUd (a0 : Str) (r1 : (List Tok) × Int) (r2 : Exp × Psr) : rE I12 (xAV a0) [F, Y, F, Y] [xAI r1, xAe r2] = dn (xMZ a0) [xF4 a0 r1, xEs r1, xGj r1 r2, xH3 r2, xLh r2 r1, iY (dc ((Psr.bad r2.2) ≥ (xHA r1)))] := by kernel_rfl
abbrev xJr (v0 : Exp × Psr) (v1 : (List Tok) × Int) : Prop := iN (dc ((Psr.bad v0.2) ≥ (xHA v1)))
def xUe (a0 : Str) (r1 : (List Tok) × Int) (r2 : Exp × Psr) : rE I12 (xAV a0) [F, Y, F, F, Y] [xAI r1, xAe r2] = dn (xAW ((Exp.mk 0 0 [] []), (Tok.pos (gD r1.1 (tN (Psr.bad r2.2)) Ty.tok.dflt)))) [xF4 a0 r1, xEs r1, xGj r1 r2, xH3 r2, xLh r2 r1, xJr r2 r1, iY (dc ((Psr.bad r2.2) ≥ 0)), (0 : Int) ≤ (Psr.bad r2.2) ∧ (Psr.bad r2.2) < (Ln r1.1)] := by kernel_rfl
abbrev xLi (v0 : Exp × Psr) : Prop := iN (dc ((Psr.bad v0.2) ≥ 0))
def xUf (a0 : Str) (r1 : (List Tok) × Int) (r2 : Exp × Psr) (r3 : Bool) : rE I12 (xAV a0) [F, Y, F, F, F, Y] [xAI r1, xAe r2, xAL r3] = dn (xAW ((Exp.mk 0 0 [] []), 0)) [xF4 a0 r1, xEs r1, xGj r1 r2, xH3 r2, xLh r2 r1, xJr r2 r1, xLi r2, xJq r2 r3, iY (!r3)] := by kernel_rfl
def xUg (a0 : Str) (r1 : (List Tok) × Int) (r2 : Exp × Psr) (r3 : Bool) : rE I12 (xAV a0) [F, Y, F, F, F, F] [xAI r1, xAe r2, xAL r3] = dn (xAW (r2.1, (-1))) [xF4 a0 r1, xEs r1, xGj r1 r2, xH3 r2, xLh r2 r1, xJr r2 r1, xLi r2, xJq r2 r3, iN (!r3)] := by kernel_rfl
abbrev xLj (v0 : Exp × Psr) : Prop := iN (dc ((Psr.bad v0.2) < 0))
def xUh (a0 : Str) (r1 : (List Tok) × Int) (r2 : Exp × Psr) : rE I12 (xAV a0) [F, F, F, Y] [xAI r1, xAe r2] = dn (xMZ a0) [xF4 a0 r1, xEs r1, xGj r1 r2, xLj r2, iN false, iY (dc ((Psr.bad r2.2) ≥ (xHA r1)))] := by kernel_rfl
def xRV (a0 : Str) (r1 : (List Tok) × Int) (r2 : Exp × Psr) : rE I12 (xAV a0) [F, F, F, F, Y] [xAI r1, xAe r2] = dn (xAW ((Exp.mk 0 0 [] []), (Tok.pos (gD r1.1 (tN (Psr.bad r2.2)) Ty.tok.dflt)))) [xF4 a0 r1, xEs r1, xGj r1 r2, xLj r2, iN false, xJr r2 r1, iY (dc ((Psr.bad r2.2) ≥ 0)), (0 : Int) ≤ (Psr.bad r2.2) ∧ (Psr.bad r2.2) < (Ln r1.1)] := by kernel_rfl
def xRW (a0 : Str) (r1 : (List Tok) × Int) (r2 : Exp × Psr) (r3 : Bool) : rE I12 (xAV a0) [F, F, F, F, F, Y] [xAI r1, xAe r2, xAL r3] = dn (xAW ((Exp.mk 0 0 [] []), 0)) [xF4 a0 r1, xEs r1, xGj r1 r2, xLj r2, iN false, xJr r2 r1, xLi r2, xJq r2 r3, iY (!r3)] := by kernel_rfl
def xRX (a0 : Str) (r1 : (List Tok) × Int) (r2 : Exp × Psr) (r3 : Bool) : rE I12 (xAV a0) [F, F, F, F, F, F] [xAI r1, xAe r2, xAL r3] = dn (xAW (r2.1, (-1))) [xF4 a0 r1, xEs r1, xGj r1 r2, xLj r2, iN false, xJr r2 r1, xLi r2, xJq r2 r3, iN (!r3)] := by kernel_rfl
theorem xZh {N : Nat} : ∀ a0 r, xEr N a0 = some r → RE Tryz.f12 I12 (xAV a0) (xAW r) := fun a0 r h =>
 bE h fun r1 h0 h => cE h (fun h1 h => dE h fk12 (xT8 a0 r1) (oc2 (xBC h0) h1 on)) fun h1 h =>
 bE h fun r2 h2 h => cE h (fun h3 h => cE h (fun h4 h => cE h (fun h5 h => dE h fk12 (xT9 a0 r1 r2) (oc6 (xBC h0) h1 (xBj h2) h3 h4 h5 on)) fun h5 h =>
 cE h (fun h6 h => iE h fun h7 h => dE h fk12 (xUa a0 r1 r2) (oc8 (xBC h0) h1 (xBj h2) h3 h4 h5 h6 h7 on)) fun h6 h =>
 bE h fun r3 h7 h => cE h (fun h8 h => dE h fk12 (xUb a0 r1 r2 r3) (oc9 (xBC h0) h1 (xBj h2) h3 h4 h5 h6 (xCn h7) h8 on)) fun h8 h =>
 dE h fk12 (xUc a0 r1 r2 r3) (oc9 (xBC h0) h1 (xBj h2) h3 h4 h5 h6 (xCn h7) h8 on)) fun h4 h =>
 cE h (fun h5 h => dE h fk12 (xUd a0 r1 r2) (oc6 (xBC h0) h1 (xBj h2) h3 h4 h5 on)) fun h5 h =>
 cE h (fun h6 h => iE h fun h7 h => dE h fk12 (xUe a0 r1 r2) (oc8 (xBC h0) h1 (xBj h2) h3 h4 h5 h6 h7 on)) fun h6 h =>
 bE h fun r3 h7 h => cE h (fun h8 h => dE h fk12 (xUf a0 r1 r2 r3) (oc9 (xBC h0) h1 (xBj h2) h3 h4 h5 h6 (xCn h7) h8 on)) fun h8 h =>
 dE h fk12 (xUg a0 r1 r2 r3) (oc9 (xBC h0) h1 (xBj h2) h3 h4 h5 h6 (xCn h7) h8 on)) fun h3 h =>
 cE h (fun h5 h => dE h fk12 (xUh a0 r1 r2) (oc6 (xBC h0) h1 (xBj h2) h3 rfl h5 on)) fun h5 h =>
 cE h (fun h6 h => iE h fun h7 h => dE h fk12 (xRV a0 r1 r2) (oc8 (xBC h0) h1 (xBj h2) h3 rfl h5 h6 h7 on)) fun h6 h =>
 bE h fun r3 h7 h => cE h (fun h8 h => dE h fk12 (xRW a0 r1 r2 r3) (oc9 (xBC h0) h1 (xBj h2) h3 rfl h5 h6 (xCn h7) h8 on)) fun h8 h =>
 dE h fk12 (xRX a0 r1 r2 r3) (oc9 (xBC h0) h1 (xBj h2) h3 rfl h5 h6 (xCn h7) h8 on)
theorem xHd {N : Nat} {a0 : Str} {r : Exp × Int} (h : xEr N  a0 = some r) : AbC 12 (xAV a0) (xAW r) :=
 AbsCalls.of_reach fk12 rfl rfl (Nat.le_of_ble_eq_true rfl) (xZh a0 r h)
end Go.Ab.T
end
section
open Go.Proofs
namespace Go.Ab.T
set_option maxRecDepth 100000
variable [Inhabited Lb]
variable [Nonempty Tab10]
variable [Nonempty ErrVars]
noncomputable def I104 : Info := { body := (Tryz.f104.body).getD .skip, nt := 27, results := [.tmp 4], keep := [0, 2, 8, 10, 12, 22, 30], live := [(3, [0, 2, 10, 12])], modes := [(6, [(0, .take, false)]), (7, [(0, .take, false)])] }
theorem xOl : FnOk Tryz.prog 104 Tryz.f104 I104 := ⟨Tryz.func104, by kernel_rfl, by kernel_rfl, by kernel_rfl, by kernel_rfl⟩
def xJ0 (x0 : List Str) (x1 : Str) (x5 : List Int) (x6 : Int) : St := [(0, .v false [.sl .ro .str x0]), (2, .v false [.str x1]), (10, .v false [.sl .own .byte x5]), (12, .v false [.int .i64 x6])]
def xQq (x0 : List Str) (x1 : Str) (x5 : List Int) (x6 : Int) : rS 3 I104 (xJ0 x0 x1 x5 x6) [Y, Y] [] = st 3 I104 (xJ0 x0 x1 ((x5 ++ List.map (fun c => (c.toNat : Int)) x1) ++ List.map (fun c => (c.toNat : Int)) (xJu x0 x6)) (W (x6 + 1))) [iY (dc (x6 < (Ln x0 : Int))), iY (dc (x6 > 0)), Ln x5 + Ln x1 ≤ Lim, (0 : Int) ≤ x6 ∧ x6 < (Ln x0), Ln (x5 ++ List.map (fun c => (c.toNat : Int)) x1) + Ln (xJu x0 x6) ≤ Lim] := by kernel_rfl
def xQr (x0 : List Str) (x1 : Str) (x5 : List Int) (x6 : Int) : rS 3 I104 (xJ0 x0 x1 x5 x6) [Y, F] [] = st 3 I104 (xJ0 x0 x1 (x5 ++ List.map (fun c => (c.toNat : Int)) (xJu x0 x6)) (W (x6 + 1))) [iY (dc (x6 < (Ln x0 : Int))), iN (dc (x6 > 0)), (0 : Int) ≤ x6 ∧ x6 < (Ln x0), Ln x5 + Ln (xJu x0 x6) ≤ Lim] := by kernel_rfl
def xQs (x0 : List Str) (x1 : Str) (x5 : List Int) (x6 : Int) : rS 3 I104 (xJ0 x0 x1 x5 x6) [F] [] = dn (xFI (List.map (fun n => UInt8.ofNat (tN n)) x5)) [iN (dc (x6 < (Ln x0 : Int)))] := by kernel_rfl
def xQt (a0 : List Str) (a1 : Str) : rE I104 (xGV a0 a1) [] [] = st 3 I104 (xJ0 a0 a1 [] 0) [] := by kernel_rfl
theorem xYt {N : Nat} : ∀ n x0 x1 x5 x6 r, xDU N n x0 x1 x5 x6 = some r → RS Tryz.f104 I104 3 (xJ0 x0 x1 x5 x6) (xFI r) := by
 intro n
 induction n with
 | zero => exact fun _ _ _ _ _ h => nE h
 | succ n ih =>
  exact fun x0 x1 x5 x6 r h =>
   cE h (fun h0 h => cE h (fun h1 h => iE h fun h2 h => iE h fun h3 h => iE h fun h4 h => tS xOl (xQq x0 x1 x5 x6) (oc5 h0 h1 h2 h3 h4 on) (ih _ _ _ _ _ h)) fun h1 h =>
   iE h fun h2 h => iE h fun h3 h => tS xOl (xQr x0 x1 x5 x6) (oc4 h0 h1 h2 h3 on) (ih _ _ _ _ _ h)) fun h0 h =>
   dS h xOl (xQs x0 x1 x5 x6) (oc h0 on)
theorem xYu {N : Nat} : ∀ a0 a1 r, xIb N a0 a1 = some r → RE Tryz.f104 I104 (xGV a0 a1) (xFI r) := fun a0 a1 r h =>
 tE xOl (xQt a0 a1) on (xYt _ _ _ _ _ _ h)
theorem xMb {N : Nat} {a0 : List Str} {a1 : Str} {r : Str} (h : xIb N  a0 a1 = some r) : AbC 104 (xGV a0 a1) (xFI r) :=
 AbsCalls.of_reach xOl rfl rfl (Nat.le_of_ble_eq_true rfl) (xYu a0 a1 r h)
noncomputable def I74 : Info := { body := (Tryz.f74.body).getD .skip, nt := 21, results := [.tmp 2], keep := [0, 2, 4, 8, 10, 18, 24, 26, 32, 38, 3], live := [], modes := [] }
theorem fk74 : FnOk Tryz.prog 74 Tryz.f74 I74 := ⟨Tryz.func74, by kernel_rfl, by kernel_rfl, by kernel_rfl, by kernel_rfl⟩
def xWP (a0 : Exp) : rE I74 (xBn a0) [Y, Y] [] = dn (xAX 0) [xEV a0, xEV a0] := by kernel_rfl
def xWQ (a0 : Exp) : rE I74 (xBn a0) [F, Y, Y] [] = dn (xAX 0) [xB4 a0, xGh a0, xGh a0] := by kernel_rfl
def xWR (a0 : Exp) : rE I74 (xBn a0) [F, F, Y] [] = dn (xAX 0) [xB4 a0, xD4 a0, xG4 a0] := by kernel_rfl
def xWS (a0 : Exp) : rE I74 (xBn a0) [F, F, F, Y, Y, Y] [] = dn (xAX 1) [xB4 a0, xD4 a0, xDr a0, xEU a0, iY ((Exp.n a0) == 4), iY ((Exp.n a0) == 4)] := by kernel_rfl
abbrev xG6 (v0 : Exp) : Prop := iN ((Exp.n v0) == 4)
def xWT (a0 : Exp) : rE I74 (xBn a0) [F, F, F, Y, F, Y] [] = dn (xAX 1) [xB4 a0, xD4 a0, xDr a0, xEU a0, xG6 a0, iY ((Exp.n a0) == 5)] := by kernel_rfl
abbrev xH4 (v0 : Exp) : Prop := iN ((Exp.n v0) == 5)
def xWU (a0 : Exp) : rE I74 (xBn a0) [F, F, F, Y, F, F, Y, Y] [] = dn (xAX 2) [xB4 a0, xD4 a0, xDr a0, xEU a0, xG6 a0, xH4 a0, iY ((Exp.n a0) == 1), iY ((Exp.n a0) == 1)] := by kernel_rfl
abbrev xJs (v0 : Exp) : Prop := iN ((Exp.n v0) == 1)
def xWV (a0 : Exp) : rE I74 (xBn a0) [F, F, F, Y, F, F, F, Y] [] = dn (xAX 2) [xB4 a0, xD4 a0, xDr a0, xEU a0, xG6 a0, xH4 a0, xJs a0, iY ((Exp.n a0) == 2)] := by kernel_rfl
def xWW (a0 : Exp) : rE I74 (xBn a0) [F, F, F, Y, F, F, F, F, Y] [] = dn (xAX 3) [xB4 a0, xD4 a0, xDr a0, xEU a0, xG6 a0, xH4 a0, xJs a0, iN ((Exp.n a0) == 2), iY ((Exp.n a0) == 3)] := by kernel_rfl
def xWX (a0 : Exp) : rE I74 (xBn a0) [F, F, F, Y, F, F, F, F, F] [] = dn (xAX 4) [xB4 a0, xD4 a0, xDr a0, xEU a0, xG6 a0, xH4 a0, xJs a0, iN ((Exp.n a0) == 2), iN ((Exp.n a0) == 3)] := by kernel_rfl
def xWY (a0 : Exp) : rE I74 (xBn a0) [F, F, F, F] [] = dn (xAX 4) [xB4 a0, xD4 a0, xDr a0, xEa a0] := by kernel_rfl
theorem vAa {N : Nat} : ∀ a0 r, xE7 N a0 = some r → RE Tryz.f74 I74 (xBn a0) (xAX r) := fun a0 r h =>
 cE h (fun h0 h => dE h fk74 (xWP a0) (oc2 h0 h0 on)) fun h0 h =>
 cE h (fun h1 h => dE h fk74 (xWQ a0) (oc3 h0 h1 h1 on)) fun h1 h =>
 cE h (fun h2 h => dE h fk74 (xWR a0) (oc3 h0 h1 h2 on)) fun h2 h =>
 cE h (fun h3 h => cE h (fun h4 h => dE h fk74 (xWS a0) (oc6 h0 h1 h2 h3 h4 h4 on)) fun h4 h =>
 cE h (fun h5 h => dE h fk74 (xWT a0) (oc6 h0 h1 h2 h3 h4 h5 on)) fun h5 h =>
 cE h (fun h6 h => dE h fk74 (xWU a0) (oc8 h0 h1 h2 h3 h4 h5 h6 h6 on)) fun h6 h =>
 cE h (fun h7 h => dE h fk74 (xWV a0) (oc8 h0 h1 h2 h3 h4 h5 h6 h7 on)) fun h7 h =>
 cE h (fun h8 h => dE h fk74 (xWW a0) (oc9 h0 h1 h2 h3 h4 h5 h6 h7 h8 on)) fun h8 h =>
 dE h fk74 (xWX a0) (oc9 h0 h1 h2 h3 h4 h5 h6 h7 h8 on)) fun h3 h =>
 dE h fk74 (xWY a0) (oc4 h0 h1 h2 h3 on)
theorem xFS {N : Nat} {a0 : Exp} {r : Int} (h : xE7 N  a0 = some r) : AbC 74 (xBn a0) (xAX r) :=
 AbsCalls.of_reach fk74 rfl rfl (Nat.le_of_ble_eq_true rfl) (vAa a0 r h)
noncomputable def I76 : Info := { body := (Tryz.f76.body).getD .skip, nt := 10, results := [.tmp 2], keep := [0, 4, 10], live := [], modes := [] }
theorem fk76 : FnOk Tryz.prog 76 Tryz.f76 I76 := ⟨Tryz.func76, by kernel_rfl, by kernel_rfl, by kernel_rfl, by kernel_rfl⟩
def xW1 (a0 : Int) (r1 : Bool) : rE I76 (xEe a0) [Y] [xDi r1] = dn (xDg [63]) [AbC 105 (xEL a0 1 5) (xDi r1), iY (!r1)] := by kernel_rfl
def xW2 (a0 : Int) (r1 : Bool) : rE I76 (xEe a0) [F] [xDi r1] = dn (xDg (gD [[], [43], [45], [42], [60], [61, 61]] (tN a0) Ty.str.dflt)) [AbC 105 (xEL a0 1 5) (xDi r1), iN (!r1), (0 : Int) ≤ a0 ∧ a0 < (Ln [[], [43], [45], [42], [60], [61, 61]])] := by kernel_rfl
theorem vAc {N : Nat} : ∀ a0 r, xFT N a0 = some r → RE Tryz.f76 I76 (xEe a0) (xDg r) := fun a0 r h =>
 bE h fun r1 h0 h => cE h (fun h1 h => dE h fk76 (xW1 a0 r1) (oc2 (xGY h0) h1 on)) fun h1 h =>
 iE h fun h2 h => dE h fk76 (xW2 a0 r1) (oc3 (xGY h0) h1 h2 on)
theorem xHH {N : Nat} {a0 : Int} {r : Str} (h : xFT N  a0 = some r) : AbC 76 (xEe a0) (xDg r) :=
 AbsCalls.of_reach fk76 rfl rfl (Nat.le_of_ble_eq_true rfl) (vAc a0 r h)
def G75 (q : Exp → Int → Option (Str)) : Prop := ∀ a0 a1 r, q a0 a1 = some r → AbC 75 (xDR a0 a1) (xCG r)
def G73 (q : (List Exp) → Option (Str)) : Prop := ∀ a0 r, q a0 = some r → AbC 73 (xEG a0) (xDa r)
def G39 (q : Exp → Option (Str)) : Prop := ∀ a0 r, q a0 = some r → AbC 39 (xAR a0) (xAs r)
noncomputable def I75 : Info := { body := (Tryz.f75.body).getD .skip, nt := 16, results := [.tmp 4], keep := [0, 2, 4, 8, 10, 22, 5], live := [], modes := [] }
theorem fk75 : FnOk Tryz.prog 75 Tryz.f75 I75 := ⟨Tryz.func75, by kernel_rfl, by kernel_rfl, by kernel_rfl, by kernel_rfl⟩
def xWZ (a0 : Exp) (a1 : Int) (r1 : Str) (r2 : Int) : rE I75 (xDR a0 a1) [Y] [xAs r1, xAX r2] = dn (xCG (([40] ++ r1) ++ [41])) [AbC 39 (xAR a0) (xAs r1), AbC 74 (xBn a0) (xAX r2), iY (dc (r2 < a1)), Ln [40] + Ln r1 ≤ Lim, Ln ([40] ++ r1) + Ln [41] ≤ Lim] := by kernel_rfl
def xW0 (a0 : Exp) (a1 : Int) (r1 : Str) (r2 : Int) : rE I75 (xDR a0 a1) [F] [xAs r1, xAX r2] = dn (xCG r1) [AbC 39 (xAR a0) (xAs r1), AbC 74 (xBn a0) (xAX r2), iN (dc (r2 < a1))] := by kernel_rfl
theorem vAb {N q0 q1 q2} (g0 : G75 q0) (g1 : G73 q1) (g2 : G39 q2) : ∀ a0 a1 r, xFb N q0 q1 q2 a0 a1 = some r → RE Tryz.f75 I75 (xDR a0 a1) (xCG r) := fun a0 a1 r h =>
 bE h fun r1 h0 h => bE h fun r2 h1 h => cE h (fun h2 h => iE h fun h3 h => iE h fun h4 h => dE h fk75 (xWZ a0 a1 r1 r2) (oc5 (g2 _ _ h0) (xFS h1) h2 h3 h4 on)) fun h2 h =>
 dE h fk75 (xW0 a0 a1 r1 r2) (oc3 (g2 _ _ h0) (xFS h1) h2 on)
theorem xI8 {N q0 q1 q2} (g0 : G75 q0) (g1 : G73 q1) (g2 : G39 q2) {a0} {a1} {r} (h : xFb N q0 q1 q2 a0 a1 = some r) : AbC 75 (xDR a0 a1) (xCG r) :=
 AbsCalls.of_reach fk75 rfl rfl (Nat.le_of_ble_eq_true rfl) (vAb g0 g1 g2 a0 a1 r h)
noncomputable def I73 : Info := { body := (Tryz.f73.body).getD .skip, nt := 22, results := [.tmp 2], keep := [0, 4, 6, 8, 18], live := [(3, [0, 6, 8])], modes := [(5, [(0, .take, false)])] }
theorem fk73 : FnOk Tryz.prog 73 Tryz.f73 I73 := ⟨Tryz.func73, by kernel_rfl, by kernel_rfl, by kernel_rfl, by kernel_rfl⟩
def xOf (x0 : List Exp) (x3 : List Str) (x4 : Int) : St := [(0, .v false [.sl .ro .exp x0]), (6, .v false [.sl .own .str x3]), (8, .v false [.int .i64 x4])]
def xWM (x0 : List Exp) (x3 : List Str) (x4 : Int) (r1 : Str) : rS 3 I73 (xOf x0 x3 x4) [Y] [xAs r1] = st 3 I73 (xOf x0 (x3 ++ [r1]) (W (x4 + 1))) [iY (dc (x4 < (Ln x0 : Int))), xJo x4 x0, AbC 39 (xAR (xJw x0 x4)) (xAs r1), Ln x3 + Ln [r1] ≤ Lim] := by kernel_rfl
def xWN (x0 : List Exp) (x3 : List Str) (x4 : Int) (r1 : Str) : rS 3 I73 (xOf x0 x3 x4) [F] [xFI r1] = dn (xDa r1) [iN (dc (x4 < (Ln x0 : Int))), AbC 104 (xGV x3 [44, 32]) (xFI r1)] := by kernel_rfl
def xWO (a0 : List Exp) : rE I73 (xEG a0) [] [] = st 3 I73 (xOf a0 [] 0) [] := by kernel_rfl
theorem xZ8 {N q0 q1 q2} (g0 : G75 q0) (g1 : G73 q1) (g2 : G39 q2) : ∀ n x0 x3 x4 r, xD8 N q0 q1 q2 n x0 x3 x4 = some r → RS Tryz.f73 I73 3 (xOf x0 x3 x4) (xDa r) := by
 intro n
 induction n with
 | zero => exact fun _ _ _ _ h => nE h
 | succ n ih =>
  exact fun x0 x3 x4 r h =>
   cE h (fun h0 h => iE h fun h1 h => bE h fun r1 h2 h => iE h fun h3 h => tS fk73 (xWM x0 x3 x4 r1) (oc4 h0 h1 (g2 _ _ h2) h3 on) (ih _ _ _ _ h)) fun h0 h =>
   bE h fun r1 h1 h => dS h fk73 (xWN x0 x3 x4 r1) (oc2 h0 (xMb h1) on)
theorem xZ9 {N q0 q1 q2} (g0 : G75 q0) (g1 : G73 q1) (g2 : G39 q2) : ∀ a0 r, xF6 N q0 q1 q2 a0 = some r → RE Tryz.f73 I73 (xEG a0) (xDa r) := fun a0 r h =>
 tE fk73 (xWO a0) on (xZ8 g0 g1 g2 _ _ _ _ _ h)
theorem xIs {N q0 q1 q2} (g0 : G75 q0) (g1 : G73 q1) (g2 : G39 q2) {a0} {r} (h : xF6 N q0 q1 q2 a0 = some r) : AbC 73 (xEG a0) (xDa r) :=
 AbsCalls.of_reach fk73 rfl rfl (Nat.le_of_ble_eq_true rfl) (xZ9 g0 g1 g2 a0 r h)
noncomputable def I39 : Info := { body := (Tryz.f39.body).getD .skip, nt := 124, results := [.tmp 2], keep := [0, 2, 4, 6, 8, 12, 14, 24, 36, 44, 58, 78, 116, 154, 206, 3], live := [], modes := [(22, [(4, .take, false)])] }
theorem fk39 : FnOk Tryz.prog 39 Tryz.f39 I39 := ⟨Tryz.func39, by kernel_rfl, by kernel_rfl, by kernel_rfl, by kernel_rfl⟩
def xU5 (a0 : Exp) (r1 : Str) : rE I39 (xAR a0) [Y] [xA4 r1] = dn (xAs r1) [xJL a0, AbC 72 (xCF (Exp.n a0)) (xA4 r1)] := by kernel_rfl
def xU6 (a0 : Exp) : rE I39 (xAR a0) [F, Y] [] = dn (xAs (([34] ++ (Exp.text a0)) ++ [34])) [xAP a0, xHT a0, Ln [34] + Ln (Exp.text a0) ≤ Lim, Ln ([34] ++ (Exp.text a0)) + Ln [34] ≤ Lim] := by kernel_rfl
def xU7 (a0 : Exp) : rE I39 (xAR a0) [F, F, Y] [] = dn (xAs (Exp.text a0)) [xAP a0, xA5 a0, xHU a0] := by kernel_rfl
def xU8 (a0 : Exp) (r1 : Str) : rE I39 (xAR a0) [F, F, F, Y] [xDa r1] = dn (xAs (([91] ++ r1) ++ [93])) [xAP a0, xA5 a0, xBm a0, xHV a0, AbC 73 (xEG (Exp.args a0)) (xDa r1), Ln [91] + Ln r1 ≤ Lim, Ln ([91] ++ r1) + Ln [93] ≤ Lim] := by kernel_rfl
def xU9 (a0 : Exp) (r1 : Str) : rE I39 (xAR a0) [F, F, F, F, Y] [xDa r1] = dn (xAs ((((Exp.text a0) ++ [40]) ++ r1) ++ [41])) [xAP a0, xA5 a0, xBm a0, xBQ a0, xJh a0, Ln (Exp.text a0) + Ln [40] ≤ Lim, AbC 73 (xEG (Exp.args a0)) (xDa r1), Ln ((Exp.text a0) ++ [40]) + Ln r1 ≤ Lim, Ln (((Exp.text a0) ++ [40]) ++ r1) + Ln [41] ≤ Lim] := by kernel_rfl
abbrev xOB (v0 : Exp) : Prop := Ln ([108, 101, 116, 32] ++ (Exp.text v0)) + Ln [32, 61, 32] ≤ Lim
abbrev xG7 (v0 : Exp) : Prop := (0 : Int) ≤ 0 ∧ (0 : Int) < (Ln (Exp.args v0))
abbrev xJx (v0 : Exp) := gD (Exp.args v0) (tN 0) Ty.exp.dflt
abbrev xMw (v0 : Exp) (v1 : Str) : Prop := AbC 39 (xAR (xJx v0)) (xAs v1)
abbrev xOC (v0 : Exp) (v1 : Str) : Prop := Ln (([108, 101, 116, 32] ++ (Exp.text v0)) ++ [32, 61, 32]) + Ln v1 ≤ Lim
abbrev xOD (v0 : Exp) (v1 : Str) : Prop := Ln ((([108, 101, 116, 32] ++ (Exp.text v0)) ++ [32, 61, 32]) ++ v1) + Ln [32, 105, 110, 32] ≤ Lim
abbrev xG8 (v0 : Exp) : Prop := (0 : Int) ≤ 1 ∧ (1 : Int) < (Ln (Exp.args v0))
abbrev xJy (v0 : Exp) := gD (Exp.args v0) (tN 1) Ty.exp.dflt
abbrev xMx (v0 : Exp) (v1 : Str) : Prop := AbC 39 (xAR (xJy v0)) (xAs v1)
abbrev xOE (v0 : Exp) (v1 v2 : Str) : Prop := Ln (((([108, 101, 116, 32] ++ (Exp.text v0)) ++ [32, 61, 32]) ++ v1) ++ [32, 105, 110, 32]) + Ln v2 ≤ Lim
def xVa (a0 : Exp) (r1 r2 : Str) : rE I39 (xAR a0) [F, F, F, F, F, Y] [xAs r1, xAs r2] = dn (xAs ((((([108, 101, 116, 32] ++ (Exp.text a0)) ++ [32, 61, 32]) ++ r1) ++ [32, 105, 110, 32]) ++ r2)) [xAP a0, xA5 a0, xBm a0, xBQ a0, xCj a0, xEV a0, Ln [108, 101, 116, 32] + Ln (Exp.text a0) ≤ Lim, xOB a0, xG7 a0, xMw a0 r1, xOC a0 r1, xOD a0 r1, xG8 a0, xMx a0 r2, xOE a0 r1 r2] := by kernel_rfl
abbrev xOF (v0 : Exp) : Prop := Ln ([102, 111, 114, 32] ++ (Exp.text v0)) + Ln [32, 105, 110, 32] ≤ Lim
abbrev xOG (v0 : Exp) (v1 : Str) : Prop := Ln (([102, 111, 114, 32] ++ (Exp.text v0)) ++ [32, 105, 110, 32]) + Ln v1 ≤ Lim
abbrev xOH (v0 : Exp) (v1 : Str) : Prop := Ln ((([102, 111, 114, 32] ++ (Exp.text v0)) ++ [32, 105, 110, 32]) ++ v1) + Ln [32, 100, 111, 32] ≤ Lim
abbrev xOI (v0 : Exp) (v1 v2 : Str) : Prop := Ln (((([102, 111, 114, 32] ++ (Exp.text v0)) ++ [32, 105, 110, 32]) ++ v1) ++ [32, 100, 111, 32]) + Ln v2 ≤ Lim
def xVb (a0 : Exp) (r1 r2 : Str) : rE I39 (xAR a0) [F, F, F, F, F, F, Y] [xAs r1, xAs r2] = dn (xAs ((((([102, 111, 114, 32] ++ (Exp.text a0)) ++ [32, 105, 110, 32]) ++ r1) ++ [32, 100, 111, 32]) ++ r2)) [xAP a0, xA5 a0, xBm a0, xBQ a0, xCj a0, xB4 a0, xG4 a0, Ln [102, 111, 114, 32] + Ln (Exp.text a0) ≤ Lim, xOF a0, xG7 a0, xMw a0 r1, xOG a0 r1, xOH a0 r1, xG8 a0, xMx a0 r2, xOI a0 r1 r2] := by kernel_rfl
abbrev xOJ (v0 : Str) : Prop := Ln ([105, 102, 32] ++ v0) + Ln [32, 116, 104, 101, 110, 32] ≤ Lim
abbrev xOK (v0 v1 : Str) : Prop := Ln (([105, 102, 32] ++ v0) ++ [32, 116, 104, 101, 110, 32]) + Ln v1 ≤ Lim
abbrev xOL (v0 v1 : Str) : Prop := Ln ((([105, 102, 32] ++ v0) ++ [32, 116, 104, 101, 110, 32]) ++ v1) + Ln [32, 101, 108, 115, 101, 32] ≤ Lim
abbrev xOM (v0 v1 v2 : Str) : Prop := Ln (((([105, 102, 32] ++ v0) ++ [32, 116, 104, 101, 110, 32]) ++ v1) ++ [32, 101, 108, 115, 101, 32]) + Ln v2 ≤ Lim
def xVc (a0 : Exp) (r1 r2 r3 : Str) : rE I39 (xAR a0) [F, F, F, F, F, F, F, Y] [xAs r1, xAs r2, xAs r3] = dn (xAs ((((([105, 102, 32] ++ r1) ++ [32, 116, 104, 101, 110, 32]) ++ r2) ++ [32, 101, 108, 115, 101, 32]) ++ r3)) [xAP a0, xA5 a0, xBm a0, xBQ a0, xCj a0, xB4 a0, xDr a0, xGh a0, xG7 a0, xMw a0 r1, Ln [105, 102, 32] + Ln r1 ≤ Lim, xOJ r1, xG8 a0, xMx a0 r2, xOK r1 r2, xOL r1 r2, (0 : Int) ≤ 2 ∧ (2 : Int) < (Ln (Exp.args a0)), AbC 39 (xAR (gD (Exp.args a0) (tN 2) Ty.exp.dflt)) (xAs r3), xOM r1 r2 r3] := by kernel_rfl
abbrev xLk (v0 v1 : Str) : Prop := Ln ((v0 ++ [32]) ++ v1) + Ln [32] ≤ Lim
abbrev xLl (v0 v1 v2 : Str) : Prop := Ln (((v0 ++ [32]) ++ v1) ++ [32]) + Ln v2 ≤ Lim
def xVd (a0 : Exp) (r1 : Int) (r2 r3 r4 : Str) : rE I39 (xAR a0) [F, F, F, F, F, F, F, F, Y] [xAX r1, xCG r2, xDg r3, xCG r4] = dn (xAs ((((r2 ++ [32]) ++ r3) ++ [32]) ++ r4)) [xAP a0, xA5 a0, xBm a0, xBQ a0, xCj a0, xB4 a0, xDr a0, xD4 a0, AbC 74 (xBn a0) (xAX r1), iY (r1 == 1), xG7 a0, AbC 75 (xDR (xJx a0) 2) (xCG r2), Ln r2 + Ln [32] ≤ Lim, AbC 76 (xEe (Exp.n a0)) (xDg r3), Ln (r2 ++ [32]) + Ln r3 ≤ Lim, xLk r2 r3, xG8 a0, AbC 75 (xDR (xJy a0) (W (r1 + 1))) (xCG r4), xLl r2 r3 r4] := by kernel_rfl
def xVe (a0 : Exp) (r1 : Int) (r2 r3 r4 : Str) : rE I39 (xAR a0) [F, F, F, F, F, F, F, F, F] [xAX r1, xCG r2, xDg r3, xCG r4] = dn (xAs ((((r2 ++ [32]) ++ r3) ++ [32]) ++ r4)) [xAP a0, xA5 a0, xBm a0, xBQ a0, xCj a0, xB4 a0, xDr a0, xD4 a0, AbC 74 (xBn a0) (xAX r1), iN (r1 == 1), xG7 a0, AbC 75 (xDR (xJx a0) r1) (xCG r2), Ln r2 + Ln [32] ≤ Lim, AbC 76 (xEe (Exp.n a0)) (xDg r3), Ln (r2 ++ [32]) + Ln r3 ≤ Lim, xLk r2 r3, xG8 a0, AbC 75 (xDR (xJy a0) (W (r1 + 1))) (xCG r4), xLl r2 r3 r4] := by kernel_rfl
theorem xZw {N q0 q1 q2} (g0 : G75 q0) (g1 : G73 q1) (g2 : G39 q2) : ∀ a0 r, xBG N q0 q1 q2 a0 = some r → RE Tryz.f39 I39 (xAR a0) (xAs r) := fun a0 r h =>
 cE h (fun h0 h => bE h fun r1 h1 h => dE h fk39 (xU5 a0 r1) (oc2 h0 (xED h1) on)) fun h0 h =>
 cE h (fun h1 h => iE h fun h2 h => iE h fun h3 h => dE h fk39 (xU6 a0) (oc4 h0 h1 h2 h3 on)) fun h1 h =>
 cE h (fun h2 h => dE h fk39 (xU7 a0) (oc3 h0 h1 h2 on)) fun h2 h =>
 cE h (fun h3 h => bE h fun r1 h4 h => iE h fun h5 h => iE h fun h6 h => dE h fk39 (xU8 a0 r1) (oc7 h0 h1 h2 h3 (g1 _ _ h4) h5 h6 on)) fun h3 h =>
 cE h (fun h4 h => iE h fun h5 h => bE h fun r1 h6 h => iE h fun h7 h => iE h fun h8 h => dE h fk39 (xU9 a0 r1) (oc9 h0 h1 h2 h3 h4 h5 (g1 _ _ h6) h7 h8 on)) fun h4 h =>
 cE h (fun h5 h => iE h fun h6 h => iE h fun h7 h => iE h fun h8 h => bE h fun r1 h9 h => iE h fun h10 h => iE h fun h11 h => iE h fun h12 h => bE h fun r2 h13 h => iE h fun h14 h => dE h fk39 (xVa a0 r1 r2) (oc12 h0 h1 h2 h3 h4 h5 h6 h7 h8 (g2 _ _ h9) h10 h11 (oc3 h12 (g2 _ _ h13) h14 on))) fun h5 h =>
 cE h (fun h6 h => iE h fun h7 h => iE h fun h8 h => iE h fun h9 h => bE h fun r1 h10 h => iE h fun h11 h => iE h fun h12 h => iE h fun h13 h => bE h fun r2 h14 h => iE h fun h15 h => dE h fk39 (xVb a0 r1 r2) (oc12 h0 h1 h2 h3 h4 h5 h6 h7 h8 h9 (g2 _ _ h10) h11 (oc4 h12 h13 (g2 _ _ h14) h15 on))) fun h6 h =>
 cE h (fun h7 h => iE h fun h8 h => bE h fun r1 h9 h => iE h fun h10 h => iE h fun h11 h => iE h fun h12 h => bE h fun r2 h13 h => iE h fun h14 h => iE h fun h15 h => iE h fun h16 h => bE h fun r3 h17 h => iE h fun h18 h => dE h fk39 (xVc a0 r1 r2 r3) (oc12 h0 h1 h2 h3 h4 h5 h6 h7 h8 (g2 _ _ h9) h10 h11 (oc7 h12 (g2 _ _ h13) h14 h15 h16 (g2 _ _ h17) h18 on))) fun h7 h =>
 bE h fun r1 h8 h => cE h (fun h9 h => iE h fun h10 h => bE h fun r2 h11 h => iE h fun h12 h => bE h fun r3 h13 h => iE h fun h14 h => iE h fun h15 h => iE h fun h16 h => bE h fun r4 h17 h => iE h fun h18 h => dE h fk39 (xVd a0 r1 r2 r3 r4) (oc12 h0 h1 h2 h3 h4 h5 h6 h7 (xFS h8) h9 h10 (g0 _ _ _ h11) (oc7 h12 (xHH h13) h14 h15 h16 (g0 _ _ _ h17) h18 on))) fun h9 h =>
 iE h fun h10 h => bE h fun r2 h11 h => iE h fun h12 h => bE h fun r3 h13 h => iE h fun h14 h => iE h fun h15 h => iE h fun h16 h => bE h fun r4 h17 h => iE h fun h18 h => dE h fk39 (xVe a0 r1 r2 r3 r4) (oc12 h0 h1 h2 h3 h4 h5 h6 h7 (xFS h8) h9 h10 (g0 _ _ _ h11) (oc7 h12 (xHH h13) h14 h15 h16 (g0 _ _ _ h17) h18 on))
theorem xIt {N q0 q1 q2} (g0 : G75 q0) (g1 : G73 q1) (g2 : G39 q2) {a0} {r} (h : xBG N q0 q1 q2 a0 = some r) : AbC 39 (xAR a0) (xAs r) :=
 AbsCalls.of_reach fk39 rfl rfl (Nat.le_of_ble_eq_true rfl) (xZw g0 g1 g2 a0 r h)
theorem xJA {N : Nat} : ∀ d, G75 (xAr N d).c_spec_l12At ∧ G73 (xAr N d).c_spec_l12List ∧ G39 (xAr N d).c_spec_l12Text := by
 intro d
 induction d with
 | zero => exact ⟨fun _ _ _ h => nE h, fun _ _ h => nE h, fun _ _ h => nE h⟩
 | succ d ih =>
  obtain ⟨ih0, ih1, ih2⟩ := ih
  exact ⟨fun _ _ _ h => xI8 (N := N) ih0 ih1 ih2 h, fun _ _ h => xIs (N := N) ih0 ih1 ih2 h, fun _ _ h => xIt (N := N) ih0 ih1 ih2 h⟩
theorem xKt {N : Nat} {a0 : Exp} {r : Str} (h : xIf N a0 = some r) : AbC 39 (xAR a0) (xAs r) := (xJA N).2.2 _ r h
noncomputable def I21 : Info := { body := (Tryz.f21.body).getD .skip, nt := 8, results := [.tmp 2], keep := [0, 2, 4, 10, 3], live := [], modes := [] }
theorem fk21 : FnOk Tryz.prog 21 Tryz.f21 I21 := ⟨Tryz.func21, by kernel_rfl, by kernel_rfl, by kernel_rfl, by kernel_rfl⟩
def xUo (a0 : Exp) (r1 : Bool) : rE I21 (xEm a0) [Y] [xAN r1] = dn (xDI []) [AbC 22 (xCt a0) (xAN r1), iY (!r1)] := by kernel_rfl
def xUp (a0 : Exp) (r1 : Bool) (r2 : Str) : rE I21 (xEm a0) [F] [xAN r1, xAs r2] = dn (xDI r2) [AbC 22 (xCt a0) (xAN r1), iN (!r1), AbC 39 (xAR a0) (xAs r2)] := by kernel_rfl
theorem xZl {N : Nat} : ∀ a0 r, xEC N a0 = some r → RE Tryz.f21 I21 (xEm a0) (xDI r) := fun a0 r h =>
 bE h fun r1 h0 h => cE h (fun h1 h => dE h fk21 (xUo a0 r1) (oc2 (xCu h0) h1 on)) fun h1 h =>
 bE h fun r2 h2 h => dE h fk21 (xUp a0 r1 r2) (oc3 (xCu h0) h1 (xKt h2) on)
theorem xI5 {N : Nat} {a0 : Exp} {r : Str} (h : xEC N  a0 = some r) : AbC 21 (xEm a0) (xDI r) :=
 AbsCalls.of_reach fk21 rfl rfl (Nat.le_of_ble_eq_true rfl) (xZl a0 r h)
noncomputable def I16 : Info := { body := (Tryz.f16.body).getD .skip, nt := 15, results := [.tmp 2, .tmp 3], keep := [0, 4, 6, 8, 10, 24, 9], live := [], modes := [(1, [(2, .take, false)]), (2, [(0, .take, false)])] }
theorem fk16 : FnOk Tryz.prog 16 Tryz.f16 I16 := ⟨Tryz.func16, by kernel_rfl, by kernel_rfl, by kernel_rfl, by kernel_rfl⟩
def xUi (a0 : Str) (r1 : Exp × Int) : rE I16 (xCw a0) [Y] [xBi r1] = dn (xBp ([], false)) [AbC 11 (xBh a0) (xBi r1), iY (dc (r1.2 ≥ 0))] := by kernel_rfl
def xUj (a0 : Str) (r1 : Exp × Int) (r2 : Str) : rE I16 (xCw a0) [F] [xBi r1, xDI r2] = dn (xBp (r2, true)) [AbC 11 (xBh a0) (xBi r1), iN (dc (r1.2 ≥ 0)), AbC 21 (xEm r1.1) (xDI r2)] := by kernel_rfl
theorem xZi {N : Nat} : ∀ a0 r, xEp N a0 = some r → RE Tryz.f16 I16 (xCw a0) (xBp r) := fun a0 r h =>
 bE h fun r1 h0 h => cE h (fun h1 h => dE h fk16 (xUi a0 r1) (oc2 (xHm h0) h1 on)) fun h1 h =>
 bE h fun r2 h2 h => dE h fk16 (xUj a0 r1 r2) (oc3 (xHm h0) h1 (xI5 h2) on)
theorem xE8 {N : Nat} {a0 : Str} {r : Str × Bool} (h : xEp N  a0 = some r) : AbC 16 (xCw a0) (xBp r) :=
 AbsCalls.of_reach fk16 rfl rfl (Nat.le_of_ble_eq_true rfl) (xZi a0 r h)
theorem xKv {N : Nat} {a0 : Int} {r : Str} (h : strconv_Itoa N a0 = some r) : AbC 102 (xIg a0) (xGO r) :=
 zId (xNT Tryz.laysM171) (xTO (Any.strconv_Itoa Tryz.laysM171) xZa) h
noncomputable def I68 : Info := { body := (Tryz.f68.body).getD .skip, nt := 5, results := [.tmp 2], keep := [0, 4], live := [], modes := [] }
theorem fk68 : FnOk Tryz.prog 68 Tryz.f68 I68 := ⟨Tryz.func68, by kernel_rfl, by kernel_rfl, by kernel_rfl, by kernel_rfl⟩
def xWq (a0 : Int) (r1 : Str) : rE I68 (xFe a0) [] [xGO r1] = dn (xEz r1) [AbC 102 (xIg a0) (xGO r1)] := by kernel_rfl
theorem xZ1 {N : Nat} : ∀ a0 r, xFo N a0 = some r → RE Tryz.f68 I68 (xFe a0) (xEz r) := fun a0 r h =>
 bE h fun r1 h0 h => dE h fk68 (xWq a0 r1) (oc (xKv h0) on)
theorem xJe {N : Nat} {a0 : Int} {r : Str} (h : xFo N  a0 = some r) : AbC 68 (xFe a0) (xEz r) :=
 AbsCalls.of_reach fk68 rfl rfl (Nat.le_of_ble_eq_true rfl) (xZ1 a0 r h)
theorem xKw {N : Nat} {a0 : List Str} {a1 : Str} {r : Str} (h : strings_Join N a0 a1 = some r) : AbC 124 (xIh a0 a1) (xGP r) :=
 zIe (xNU Tryz.lays156) (fun a c s w => Any.strings_Join_none Tryz.lays156 Tryz.Builder_Extra_156 a c s w) (fun b o c xs s w h1 h2 h3 h4 h5 => Any.strings_Join Tryz.lays156 Tryz.Builder_Extra_156 b o c xs s w h1 h2 h3 h4 h5) h
noncomputable def I103 : Info := { body := (Tryz.f103.body).getD .skip, nt := 8, results := [.tmp 4], keep := [0, 2, 8], live := [], modes := [] }
theorem xYV : FnOk Tryz.prog 103 Tryz.f103 I103 := ⟨Tryz.func103, by kernel_rfl, by kernel_rfl, by kernel_rfl, by kernel_rfl⟩
def xQp (a0 : List Str) (a1 r1 : Str) : rE I103 (xGR a0 a1) [] [xGP r1] = dn (xGa r1) [AbC 124 (xIh a0 a1) (xGP r1)] := by kernel_rfl
theorem xYs {N : Nat} : ∀ a0 a1 r, xHN N a0 a1 = some r → RE Tryz.f103 I103 (xGR a0 a1) (xGa r) := fun a0 a1 r h =>
 bE h fun r1 h0 h => dE h xYV (xQp a0 a1 r1) (oc (xKw h0) on)
theorem xLO {N : Nat} {a0 : List Str} {a1 : Str} {r : Str} (h : xHN N  a0 a1 = some r) : AbC 103 (xGR a0 a1) (xGa r) :=
 AbsCalls.of_reach xYV rfl rfl (Nat.le_of_ble_eq_true rfl) (xYs a0 a1 r h)
noncomputable def I70 : Info := { body := (Tryz.f70.body).getD .skip, nt := 21, results := [.tmp 2], keep := [0, 2, 4, 8, 10, 18, 24, 26, 32, 38, 3], live := [], modes := [] }
theorem fk70 : FnOk Tryz.prog 70 Tryz.f70 I70 := ⟨Tryz.func70, by kernel_rfl, by kernel_rfl, by kernel_rfl, by kernel_rfl⟩
def xWu (a0 : Exp) : rE I70 (xBl a0) [Y, Y] [] = dn (xAU 0) [xEV a0, xEV a0] := by kernel_rfl
def xWv (a0 : Exp) : rE I70 (xBl a0) [F, Y, Y] [] = dn (xAU 0) [xB4 a0, xGh a0, xGh a0] := by kernel_rfl
def xWw (a0 : Exp) : rE I70 (xBl a0) [F, F, Y] [] = dn (xAU 0) [xB4 a0, xD4 a0, xG4 a0] := by kernel_rfl
def xWx (a0 : Exp) : rE I70 (xBl a0) [F, F, F, Y, Y, Y] [] = dn (xAU 1) [xB4 a0, xD4 a0, xDr a0, xEU a0, iY ((Exp.n a0) == 4), iY ((Exp.n a0) == 4)] := by kernel_rfl
def xWy (a0 : Exp) : rE I70 (xBl a0) [F, F, F, Y, F, Y] [] = dn (xAU 1) [xB4 a0, xD4 a0, xDr a0, xEU a0, xG6 a0, iY ((Exp.n a0) == 5)] := by kernel_rfl
def xWz (a0 : Exp) : rE I70 (xBl a0) [F, F, F, Y, F, F, Y, Y] [] = dn (xAU 2) [xB4 a0, xD4 a0, xDr a0, xEU a0, xG6 a0, xH4 a0, iY ((Exp.n a0) == 1), iY ((Exp.n a0) == 1)] := by kernel_rfl
def xWA (a0 : Exp) : rE I70 (xBl a0) [F, F, F, Y, F, F, F, Y] [] = dn (xAU 2) [xB4 a0, xD4 a0, xDr a0, xEU a0, xG6 a0, xH4 a0, xJs a0, iY ((Exp.n a0) == 2)] := by kernel_rfl
def xWB (a0 : Exp) : rE I70 (xBl a0) [F, F, F, Y, F, F, F, F, Y] [] = dn (xAU 3) [xB4 a0, xD4 a0, xDr a0, xEU a0, xG6 a0, xH4 a0, xJs a0, iN ((Exp.n a0) == 2), iY ((Exp.n a0) == 3)] := by kernel_rfl
def xWC (a0 : Exp) : rE I70 (xBl a0) [F, F, F, Y, F, F, F, F, F] [] = dn (xAU 4) [xB4 a0, xD4 a0, xDr a0, xEU a0, xG6 a0, xH4 a0, xJs a0, iN ((Exp.n a0) == 2), iN ((Exp.n a0) == 3)] := by kernel_rfl
def xWD (a0 : Exp) : rE I70 (xBl a0) [F, F, F, F] [] = dn (xAU 4) [xB4 a0, xD4 a0, xDr a0, xEa a0] := by kernel_rfl
theorem xZ4 {N : Nat} : ∀ a0 r, xFG N a0 = some r → RE Tryz.f70 I70 (xBl a0) (xAU r) := fun a0 r h =>
 cE h (fun h0 h => dE h fk70 (xWu a0) (oc2 h0 h0 on)) fun h0 h =>
 cE h (fun h1 h => dE h fk70 (xWv a0) (oc3 h0 h1 h1 on)) fun h1 h =>
 cE h (fun h2 h => dE h fk70 (xWw a0) (oc3 h0 h1 h2 on)) fun h2 h =>
 cE h (fun h3 h => cE h (fun h4 h => dE h fk70 (xWx a0) (oc6 h0 h1 h2 h3 h4 h4 on)) fun h4 h =>
 cE h (fun h5 h => dE h fk70 (xWy a0) (oc6 h0 h1 h2 h3 h4 h5 on)) fun h5 h =>
 cE h (fun h6 h => dE h fk70 (xWz a0) (oc8 h0 h1 h2 h3 h4 h5 h6 h6 on)) fun h6 h =>
 cE h (fun h7 h => dE h fk70 (xWA a0) (oc8 h0 h1 h2 h3 h4 h5 h6 h7 on)) fun h7 h =>
 cE h (fun h8 h => dE h fk70 (xWB a0) (oc9 h0 h1 h2 h3 h4 h5 h6 h7 h8 on)) fun h8 h =>
 dE h fk70 (xWC a0) (oc9 h0 h1 h2 h3 h4 h5 h6 h7 h8 on)) fun h3 h =>
 dE h fk70 (xWD a0) (oc4 h0 h1 h2 h3 on)
theorem xFM {N : Nat} {a0 : Exp} {r : Int} (h : xFG N  a0 = some r) : AbC 70 (xBl a0) (xAU r) :=
 AbsCalls.of_reach fk70 rfl rfl (Nat.le_of_ble_eq_true rfl) (xZ4 a0 r h)
def G71 (q : Exp → Int → Option (Str)) : Prop := ∀ a0 a1 r, q a0 a1 = some r → AbC 71 (xCX a0 a1) (xBE r)
def G38 (q : Exp → Option (Str)) : Prop := ∀ a0 r, q a0 = some r → AbC 38 (xAZ a0) (xAw r)
def G69 (q : (List Exp) → Option (Str)) : Prop := ∀ a0 r, q a0 = some r → AbC 69 (xEB a0) (xC5 r)
noncomputable def I71 : Info := { body := (Tryz.f71.body).getD .skip, nt := 16, results := [.tmp 4], keep := [0, 2, 4, 8, 10, 22, 5], live := [], modes := [] }
theorem fk71 : FnOk Tryz.prog 71 Tryz.f71 I71 := ⟨Tryz.func71, by kernel_rfl, by kernel_rfl, by kernel_rfl, by kernel_rfl⟩
def xWE (a0 : Exp) (a1 : Int) (r1 : Str) (r2 : Int) : rE I71 (xCX a0 a1) [Y] [xAw r1, xAU r2] = dn (xBE (([40] ++ r1) ++ [41])) [AbC 38 (xAZ a0) (xAw r1), AbC 70 (xBl a0) (xAU r2), iY (dc (r2 < a1)), Ln [40] + Ln r1 ≤ Lim, Ln ([40] ++ r1) + Ln [41] ≤ Lim] := by kernel_rfl
def xWF (a0 : Exp) (a1 : Int) (r1 : Str) (r2 : Int) : rE I71 (xCX a0 a1) [F] [xAw r1, xAU r2] = dn (xBE r1) [AbC 38 (xAZ a0) (xAw r1), AbC 70 (xBl a0) (xAU r2), iN (dc (r2 < a1))] := by kernel_rfl
theorem xZ5 {N q0 q1 q2} (g0 : G71 q0) (g1 : G38 q1) (g2 : G69 q2) : ∀ a0 a1 r, xEl N q0 q1 q2 a0 a1 = some r → RE Tryz.f71 I71 (xCX a0 a1) (xBE r) := fun a0 a1 r h =>
 bE h fun r1 h0 h => bE h fun r2 h1 h => cE h (fun h2 h => iE h fun h3 h => iE h fun h4 h => dE h fk71 (xWE a0 a1 r1 r2) (oc5 (g1 _ _ h0) (xFM h1) h2 h3 h4 on)) fun h2 h =>
 dE h fk71 (xWF a0 a1 r1 r2) (oc3 (g1 _ _ h0) (xFM h1) h2 on)
theorem xHQ {N q0 q1 q2} (g0 : G71 q0) (g1 : G38 q1) (g2 : G69 q2) {a0} {a1} {r} (h : xEl N q0 q1 q2 a0 a1 = some r) : AbC 71 (xCX a0 a1) (xBE r) :=
 AbsCalls.of_reach fk71 rfl rfl (Nat.le_of_ble_eq_true rfl) (xZ5 g0 g1 g2 a0 a1 r h)
noncomputable def I38 : Info := { body := (Tryz.f38.body).getD .skip, nt := 124, results := [.tmp 2], keep := [0, 2, 4, 6, 8, 12, 14, 24, 36, 44, 58, 78, 116, 160, 208, 3], live := [], modes := [(22, [(16, .take, false)])] }
theorem fk38 : FnOk Tryz.prog 38 Tryz.f38 I38 := ⟨Tryz.func38, by kernel_rfl, by kernel_rfl, by kernel_rfl, by kernel_rfl⟩
def xUV (a0 : Exp) (r1 : Str) : rE I38 (xAZ a0) [Y] [xEz r1] = dn (xAw r1) [xJL a0, AbC 68 (xFe (Exp.n a0)) (xEz r1)] := by kernel_rfl
def xUW (a0 : Exp) : rE I38 (xAZ a0) [F, Y] [] = dn (xAw (([34] ++ (Exp.text a0)) ++ [34])) [xAP a0, xHT a0, Ln [34] + Ln (Exp.text a0) ≤ Lim, Ln ([34] ++ (Exp.text a0)) + Ln [34] ≤ Lim] := by kernel_rfl
def xUX (a0 : Exp) : rE I38 (xAZ a0) [F, F, Y] [] = dn (xAw (Exp.text a0)) [xAP a0, xA5 a0, xHU a0] := by kernel_rfl
def xUY (a0 : Exp) (r1 : Str) : rE I38 (xAZ a0) [F, F, F, Y] [xC5 r1] = dn (xAw (([91] ++ r1) ++ [93])) [xAP a0, xA5 a0, xBm a0, xHV a0, AbC 69 (xEB (Exp.args a0)) (xC5 r1), Ln [91] + Ln r1 ≤ Lim, Ln ([91] ++ r1) + Ln [93] ≤ Lim] := by kernel_rfl
def xUZ (a0 : Exp) (r1 : Str) : rE I38 (xAZ a0) [F, F, F, F, Y] [xC5 r1] = dn (xAw ((((Exp.text a0) ++ [40]) ++ r1) ++ [41])) [xAP a0, xA5 a0, xBm a0, xBQ a0, xJh a0, Ln (Exp.text a0) + Ln [40] ≤ Lim, AbC 69 (xEB (Exp.args a0)) (xC5 r1), Ln ((Exp.text a0) ++ [40]) + Ln r1 ≤ Lim, Ln (((Exp.text a0) ++ [40]) ++ r1) + Ln [41] ≤ Lim] := by kernel_rfl
abbrev xMy (v0 : Exp) (v1 : Str) : Prop := AbC 38 (xAZ (xJx v0)) (xAw v1)
abbrev xMz (v0 : Exp) (v1 : Str) : Prop := AbC 38 (xAZ (xJy v0)) (xAw v1)
def xU0 (a0 : Exp) (r1 r2 : Str) : rE I38 (xAZ a0) [F, F, F, F, F, Y] [xAw r1, xAw r2] = dn (xAw ((((([108, 101, 116, 32] ++ (Exp.text a0)) ++ [32, 61, 32]) ++ r1) ++ [32, 105, 110, 32]) ++ r2)) [xAP a0, xA5 a0, xBm a0, xBQ a0, xCj a0, xEV a0, Ln [108, 101, 116, 32] + Ln (Exp.text a0) ≤ Lim, xOB a0, xG7 a0, xMy a0 r1, xOC a0 r1, xOD a0 r1, xG8 a0, xMz a0 r2, xOE a0 r1 r2] := by kernel_rfl
def xU1 (a0 : Exp) (r1 r2 r3 : Str) : rE I38 (xAZ a0) [F, F, F, F, F, F, Y] [xAw r1, xAw r2, xAw r3] = dn (xAw ((((([105, 102, 32] ++ r1) ++ [32, 116, 104, 101, 110, 32]) ++ r2) ++ [32, 101, 108, 115, 101, 32]) ++ r3)) [xAP a0, xA5 a0, xBm a0, xBQ a0, xCj a0, xB4 a0, xGh a0, xG7 a0, xMy a0 r1, Ln [105, 102, 32] + Ln r1 ≤ Lim, xOJ r1, xG8 a0, xMz a0 r2, xOK r1 r2, xOL r1 r2, (0 : Int) ≤ 2 ∧ (2 : Int) < (Ln (Exp.args a0)), AbC 38 (xAZ (gD (Exp.args a0) (tN 2) Ty.exp.dflt)) (xAw r3), xOM r1 r2 r3] := by kernel_rfl
def xU2 (a0 : Exp) (r1 r2 : Str) : rE I38 (xAZ a0) [F, F, F, F, F, F, F, Y] [xAw r1, xAw r2] = dn (xAw ((((([102, 111, 114, 32] ++ (Exp.text a0)) ++ [32, 105, 110, 32]) ++ r1) ++ [32, 100, 111, 32]) ++ r2)) [xAP a0, xA5 a0, xBm a0, xBQ a0, xCj a0, xB4 a0, xD4 a0, xG4 a0, Ln [102, 111, 114, 32] + Ln (Exp.text a0) ≤ Lim, xOF a0, xG7 a0, xMy a0 r1, xOG a0 r1, xOH a0 r1, xG8 a0, xMz a0 r2, xOI a0 r1 r2] := by kernel_rfl
def xU3 (a0 : Exp) (r1 : Int) (r2 r3 r4 : Str) : rE I38 (xAZ a0) [F, F, F, F, F, F, F, F, Y] [xAU r1, xBE r2, xBT r3, xBE r4] = dn (xAw ((((r2 ++ [32]) ++ r3) ++ [32]) ++ r4)) [xAP a0, xA5 a0, xBm a0, xBQ a0, xCj a0, xB4 a0, xD4 a0, xDr a0, AbC 70 (xBl a0) (xAU r1), iY (r1 == 1), xG7 a0, AbC 71 (xCX (xJx a0) 2) (xBE r2), Ln r2 + Ln [32] ≤ Lim, AbC 56 (xDd (Exp.n a0)) (xBT r3), Ln (r2 ++ [32]) + Ln r3 ≤ Lim, xLk r2 r3, xG8 a0, AbC 71 (xCX (xJy a0) (W (r1 + 1))) (xBE r4), xLl r2 r3 r4] := by kernel_rfl
def xU4 (a0 : Exp) (r1 : Int) (r2 r3 r4 : Str) : rE I38 (xAZ a0) [F, F, F, F, F, F, F, F, F] [xAU r1, xBE r2, xBT r3, xBE r4] = dn (xAw ((((r2 ++ [32]) ++ r3) ++ [32]) ++ r4)) [xAP a0, xA5 a0, xBm a0, xBQ a0, xCj a0, xB4 a0, xD4 a0, xDr a0, AbC 70 (xBl a0) (xAU r1), iN (r1 == 1), xG7 a0, AbC 71 (xCX (xJx a0) r1) (xBE r2), Ln r2 + Ln [32] ≤ Lim, AbC 56 (xDd (Exp.n a0)) (xBT r3), Ln (r2 ++ [32]) + Ln r3 ≤ Lim, xLk r2 r3, xG8 a0, AbC 71 (xCX (xJy a0) (W (r1 + 1))) (xBE r4), xLl r2 r3 r4] := by kernel_rfl
theorem xZv {N q0 q1 q2} (g0 : G71 q0) (g1 : G38 q1) (g2 : G69 q2) : ∀ a0 r, xBW N q0 q1 q2 a0 = some r → RE Tryz.f38 I38 (xAZ a0) (xAw r) := fun a0 r h =>
 cE h (fun h0 h => bE h fun r1 h1 h => dE h fk38 (xUV a0 r1) (oc2 h0 (xJe h1) on)) fun h0 h =>
 cE h (fun h1 h => iE h fun h2 h => iE h fun h3 h => dE h fk38 (xUW a0) (oc4 h0 h1 h2 h3 on)) fun h1 h =>
 cE h (fun h2 h => dE h fk38 (xUX a0) (oc3 h0 h1 h2 on)) fun h2 h =>
 cE h (fun h3 h => bE h fun r1 h4 h => iE h fun h5 h => iE h fun h6 h => dE h fk38 (xUY a0 r1) (oc7 h0 h1 h2 h3 (g2 _ _ h4) h5 h6 on)) fun h3 h =>
 cE h (fun h4 h => iE h fun h5 h => bE h fun r1 h6 h => iE h fun h7 h => iE h fun h8 h => dE h fk38 (xUZ a0 r1) (oc9 h0 h1 h2 h3 h4 h5 (g2 _ _ h6) h7 h8 on)) fun h4 h =>
 cE h (fun h5 h => iE h fun h6 h => iE h fun h7 h => iE h fun h8 h => bE h fun r1 h9 h => iE h fun h10 h => iE h fun h11 h => iE h fun h12 h => bE h fun r2 h13 h => iE h fun h14 h => dE h fk38 (xU0 a0 r1 r2) (oc12 h0 h1 h2 h3 h4 h5 h6 h7 h8 (g1 _ _ h9) h10 h11 (oc3 h12 (g1 _ _ h13) h14 on))) fun h5 h =>
 cE h (fun h6 h => iE h fun h7 h => bE h fun r1 h8 h => iE h fun h9 h => iE h fun h10 h => iE h fun h11 h => bE h fun r2 h12 h => iE h fun h13 h => iE h fun h14 h => iE h fun h15 h => bE h fun r3 h16 h => iE h fun h17 h => dE h fk38 (xU1 a0 r1 r2 r3) (oc12 h0 h1 h2 h3 h4 h5 h6 h7 (g1 _ _ h8) h9 h10 h11 (oc6 (g1 _ _ h12) h13 h14 h15 (g1 _ _ h16) h17 on))) fun h6 h =>
 cE h (fun h7 h => iE h fun h8 h => iE h fun h9 h => iE h fun h10 h => bE h fun r1 h11 h => iE h fun h12 h => iE h fun h13 h => iE h fun h14 h => bE h fun r2 h15 h => iE h fun h16 h => dE h fk38 (xU2 a0 r1 r2) (oc12 h0 h1 h2 h3 h4 h5 h6 h7 h8 h9 h10 (g1 _ _ h11) (oc5 h12 h13 h14 (g1 _ _ h15) h16 on))) fun h7 h =>
 bE h fun r1 h8 h => cE h (fun h9 h => iE h fun h10 h => bE h fun r2 h11 h => iE h fun h12 h => bE h fun r3 h13 h => iE h fun h14 h => iE h fun h15 h => iE h fun h16 h => bE h fun r4 h17 h => iE h fun h18 h => dE h fk38 (xU3 a0 r1 r2 r3 r4) (oc12 h0 h1 h2 h3 h4 h5 h6 h7 (xFM h8) h9 h10 (g0 _ _ _ h11) (oc7 h12 (xFu h13) h14 h15 h16 (g0 _ _ _ h17) h18 on))) fun h9 h =>
 iE h fun h10 h => bE h fun r2 h11 h => iE h fun h12 h => bE h fun r3 h13 h => iE h fun h14 h => iE h fun h15 h => iE h fun h16 h => bE h fun r4 h17 h => iE h fun h18 h => dE h fk38 (xU4 a0 r1 r2 r3 r4) (oc12 h0 h1 h2 h3 h4 h5 h6 h7 (xFM h8) h9 h10 (g0 _ _ _ h11) (oc7 h12 (xFu h13) h14 h15 h16 (g0 _ _ _ h17) h18 on))
theorem xIE {N q0 q1 q2} (g0 : G71 q0) (g1 : G38 q1) (g2 : G69 q2) {a0} {r} (h : xBW N q0 q1 q2 a0 = some r) : AbC 38 (xAZ a0) (xAw r) :=
 AbsCalls.of_reach fk38 rfl rfl (Nat.le_of_ble_eq_true rfl) (xZv g0 g1 g2 a0 r h)
noncomputable def I69 : Info := { body := (Tryz.f69.body).getD .skip, nt := 21, results := [.tmp 2], keep := [0, 4, 6, 10, 14, 16, 18, 20, 11], live := [(3, [6, 14, 16, 18])], modes := [(5, [(0, .take, false)]), (6, [(1, .take, false)])] }
theorem fk69 : FnOk Tryz.prog 69 Tryz.f69 I69 := ⟨Tryz.func69, by kernel_rfl, by kernel_rfl, by kernel_rfl, by kernel_rfl⟩
def xOe (x3 : List Str) (x7 : List Exp) (x8 x9 : Int) : St := [(6, .v false [.sl .own .str x3]), (14, .v false [.sl .ro .exp x7]), (16, .v false [.int .i64 x8]), (18, .v false [.int .i64 x9])]
def xWr (x3 : List Str) (x7 : List Exp) (x8 x9 : Int) (r1 : Str) : rS 3 I69 (xOe x3 x7 x8 x9) [Y] [xAw r1] = st 3 I69 (xOe (x3 ++ [r1]) x7 x8 (W (x9 + 1))) [iY (dc (x9 < x8)), xJo x9 x7, AbC 38 (xAZ (xJw x7 x9)) (xAw r1), Ln x3 + Ln [r1] ≤ Lim] := by kernel_rfl
def xWs (x3 : List Str) (x7 : List Exp) (x8 x9 : Int) (r1 : Str) : rS 3 I69 (xOe x3 x7 x8 x9) [F] [xGa r1] = dn (xC5 r1) [iN (dc (x9 < x8)), AbC 103 (xGR x3 [44, 32]) (xGa r1)] := by kernel_rfl
def xWt (a0 : List Exp) : rE I69 (xEB a0) [] [] = st 3 I69 (xOe [] a0 (Ln a0 : Int) 0) [] := by kernel_rfl
theorem xZ2 {N q0 q1 q2} (g0 : G71 q0) (g1 : G38 q1) (g2 : G69 q2) : ∀ n x3 x7 x8 x9 r, xD3 N q0 q1 q2 n x3 x7 x8 x9 = some r → RS Tryz.f69 I69 3 (xOe x3 x7 x8 x9) (xC5 r) := by
 intro n
 induction n with
 | zero => exact fun _ _ _ _ _ h => nE h
 | succ n ih =>
  exact fun x3 x7 x8 x9 r h =>
   cE h (fun h0 h => iE h fun h1 h => bE h fun r1 h2 h => iE h fun h3 h => tS fk69 (xWr x3 x7 x8 x9 r1) (oc4 h0 h1 (g1 _ _ h2) h3 on) (ih _ _ _ _ _ h)) fun h0 h =>
   bE h fun r1 h1 h => dS h fk69 (xWs x3 x7 x8 x9 r1) (oc2 h0 (xLO h1) on)
theorem xZ3 {N q0 q1 q2} (g0 : G71 q0) (g1 : G38 q1) (g2 : G69 q2) : ∀ a0 r, xF3 N q0 q1 q2 a0 = some r → RE Tryz.f69 I69 (xEB a0) (xC5 r) := fun a0 r h =>
 tE fk69 (xWt a0) on (xZ2 g0 g1 g2 _ _ _ _ _ _ h)
theorem xIn {N q0 q1 q2} (g0 : G71 q0) (g1 : G38 q1) (g2 : G69 q2) {a0} {r} (h : xF3 N q0 q1 q2 a0 = some r) : AbC 69 (xEB a0) (xC5 r) :=
 AbsCalls.of_reach fk69 rfl rfl (Nat.le_of_ble_eq_true rfl) (xZ3 g0 g1 g2 a0 r h)
theorem xIm {N : Nat} : ∀ d, G71 (xAh N d).c_impl_enclosed ∧ G38 (xAh N d).c_impl_source ∧ G69 (xAh N d).c_impl_sources := by
 intro d
 induction d with
 | zero => exact ⟨fun _ _ _ h => nE h, fun _ _ h => nE h, fun _ _ h => nE h⟩
 | succ d ih =>
  obtain ⟨ih0, ih1, ih2⟩ := ih
  exact ⟨fun _ _ _ h => xHQ (N := N) ih0 ih1 ih2 h, fun _ _ h => xIE (N := N) ih0 ih1 ih2 h, fun _ _ h => xIn (N := N) ih0 ih1 ih2 h⟩
theorem xKD {N : Nat} {a0 : Exp} {r : Str} (h : xID N a0 = some r) : AbC 38 (xAZ a0) (xAw r) := (xIm N).2.1 _ r h
noncomputable def I20 : Info := { body := (Tryz.f20.body).getD .skip, nt := 8, results := [.tmp 2], keep := [0, 2, 4, 10, 3], live := [], modes := [] }
theorem fk20 : FnOk Tryz.prog 20 Tryz.f20 I20 := ⟨Tryz.func20, by kernel_rfl, by kernel_rfl, by kernel_rfl, by kernel_rfl⟩
def xUm (a0 : Exp) (r1 : Bool) : rE I20 (xEh a0) [Y] [xAL r1] = dn (xDE []) [AbC 32 (xCm a0) (xAL r1), iY (!r1)] := by kernel_rfl
def xUn (a0 : Exp) (r1 : Bool) (r2 : Str) : rE I20 (xEh a0) [F] [xAL r1, xAw r2] = dn (xDE r2) [AbC 32 (xCm a0) (xAL r1), iN (!r1), AbC 38 (xAZ a0) (xAw r2)] := by kernel_rfl
theorem xZk {N : Nat} : ∀ a0 r, xEy N a0 = some r → RE Tryz.f20 I20 (xEh a0) (xDE r) := fun a0 r h =>
 bE h fun r1 h0 h => cE h (fun h1 h => dE h fk20 (xUm a0 r1) (oc2 (xCn h0) h1 on)) fun h1 h =>
 bE h fun r2 h2 h => dE h fk20 (xUn a0 r1 r2) (oc3 (xCn h0) h1 (xKD h2) on)
theorem xIV {N : Nat} {a0 : Exp} {r : Str} (h : xEy N  a0 = some r) : AbC 20 (xEh a0) (xDE r) :=
 AbsCalls.of_reach fk20 rfl rfl (Nat.le_of_ble_eq_true rfl) (xZk a0 r h)
noncomputable def I17 : Info := { body := (Tryz.f17.body).getD .skip, nt := 15, results := [.tmp 2, .tmp 3], keep := [0, 4, 6, 8, 10, 24, 9], live := [], modes := [(1, [(2, .take, false)]), (2, [(0, .take, false)])] }
theorem fk17 : FnOk Tryz.prog 17 Tryz.f17 I17 := ⟨Tryz.func17, by kernel_rfl, by kernel_rfl, by kernel_rfl, by kernel_rfl⟩
def xUk (a0 : Str) (r1 : Exp × Int) : rE I17 (xCo a0) [Y] [xAW r1] = dn (xBo ([], false)) [AbC 12 (xAV a0) (xAW r1), iY (dc (r1.2 ≥ 0))] := by kernel_rfl
def xUl (a0 : Str) (r1 : Exp × Int) (r2 : Str) : rE I17 (xCo a0) [F] [xAW r1, xDE r2] = dn (xBo (r2, true)) [AbC 12 (xAV a0) (xAW r1), iN (dc (r1.2 ≥ 0)), AbC 20 (xEh r1.1) (xDE r2)] := by kernel_rfl
theorem xZj {N : Nat} : ∀ a0 r, xEj N a0 = some r → RE Tryz.f17 I17 (xCo a0) (xBo r) := fun a0 r h =>
 bE h fun r1 h0 h => cE h (fun h1 h => dE h fk17 (xUk a0 r1) (oc2 (xHd h0) h1 on)) fun h1 h =>
 bE h fun r2 h2 h => dE h fk17 (xUl a0 r1 r2) (oc3 (xHd h0) h1 (xIV h2) on)
theorem xE1 {N : Nat} {a0 : Str} {r : Str × Bool} (h : xEj N  a0 = some r) : AbC 17 (xCo a0) (xBo r) :=
 AbsCalls.of_reach fk17 rfl rfl (Nat.le_of_ble_eq_true rfl) (xZj a0 r h)
noncomputable def I5 : Info := { body := (Tryz.f5.body).getD .skip, nt := 28, results := [.tmp 2], keep := [0, 4, 6, 8, 10, 12, 18, 54], live := [], modes := [(3, [(2, .take, false)]), (4, [(2, .take, false)]), (5, [(0, .take, false), (1, .take, false), (3, .take, false), (4, .take, false), (5, .take, false)])] }
theorem fk5 : FnOk Tryz.prog 5 Tryz.f5 I5 := ⟨Tryz.func5, by kernel_rfl, by kernel_rfl, by kernel_rfl, by kernel_rfl⟩
def xY4 (a0 : Str) : rE I5 (xBO a0) [Y] [] = dn (xBP true) [iY (dc ((Ln a0 : Int) > 1048576))] := by kernel_rfl
abbrev xMA (v0 : Str) : Prop := iN (dc ((Ln v0 : Int) > 1048576))
def xY5 (a0 : Str) (r1 : Str × Bool) (r2 : Str × Bool) : rE I5 (xBO a0) [F, Y, Y] [xBp r1, xBo r2] = dn (xBP false) [xMA a0, AbC 16 (xCw a0) (xBp r1), AbC 17 (xCo a0) (xBo r2), iY (!((r2.1 : Str) == r1.1)), iY true] := by kernel_rfl
def xY6 (a0 : Str) (r1 : Str × Bool) (r2 : Str × Bool) : rE I5 (xBO a0) [F, F, Y] [xBp r1, xBo r2] = dn (xBP false) [xMA a0, AbC 16 (xCw a0) (xBp r1), AbC 17 (xCo a0) (xBo r2), iN (!((r2.1 : Str) == r1.1)), iY (!((r2.2 : Bool) == r1.2))] := by kernel_rfl
def xY7 (a0 : Str) (r1 : Str × Bool) (r2 : Str × Bool) : rE I5 (xBO a0) [F, F, F] [xBp r1, xBo r2] = dn (xBP true) [xMA a0, AbC 16 (xCw a0) (xBp r1), AbC 17 (xCo a0) (xBo r2), iN (!((r2.1 : Str) == r1.1)), iN (!((r2.2 : Bool) == r1.2))] := by kernel_rfl
theorem c5_e {N : Nat} : ∀ a0 r, xDx N a0 = some r → RE Tryz.f5 I5 (xBO a0) (xBP r) := fun a0 r h =>
 cE h (fun h0 h => dE h fk5 (xY4 a0) (oc h0 on)) fun h0 h =>
 bE h fun r1 h1 h => bE h fun r2 h2 h => cE h (fun h3 h => dE h fk5 (xY5 a0 r1 r2) (oc5 h0 (xE8 h1) (xE1 h2) h3 rfl on)) fun h3 h =>
 cE h (fun h4 h => dE h fk5 (xY6 a0 r1 r2) (oc5 h0 (xE8 h1) (xE1 h2) h3 h4 on)) fun h4 h =>
 dE h fk5 (xY7 a0 r1 r2) (oc5 h0 (xE8 h1) (xE1 h2) h3 h4 on)
theorem laws_FnExactNormalizeCode_ok {N : Nat} {a0 : Str} {r : Bool} (h : xDx N  a0 = some r) : AbC 5 (xBO a0) (xBP r) :=
 AbsCalls.of_reach fk5 rfl rfl (Nat.le_of_ble_eq_true rfl) (c5_e a0 r h)
noncomputable def I64 : Info := { body := (Tryz.f64.body).getD .skip, nt := 12, results := [.tmp 4], keep := [0, 2, 8, 1], live := [], modes := [], ext := [0] }
end Go.Ab.T
end
section
namespace Go.Ab
def Big (p : Nat → Prop) : Prop := ∃ k, ∀ N, k ≤ N → p N
def Big2 (p : Nat → Nat → Prop) : Prop := ∃ k, ∀ N n, k ≤ N → k ≤ n → p N n
theorem Big.imp {p q : Nat → Prop} (h : Big p) (f : ∀ N, p N → q N) : Big q := h.elim fun k hk => ⟨k, fun N hN => f N (hk N hN)⟩
theorem Big2.imp {p q : Nat → Nat → Prop} (h : Big2 p) (f : ∀ N n, p N n → q N n) : Big2 q := h.elim fun k hk => ⟨k, fun N n h1 h2 => f N n (hk N n h1 h2)⟩
theorem Big.of {p : Nat → Prop} (h : ∀ N, p N) : Big p := ⟨0, fun N _ => h N⟩
theorem Big2.of {p : Nat → Nat → Prop} (h : ∀ N n, p N n) : Big2 p := ⟨0, fun N n _ _ => h N n⟩
theorem Big.and {p q : Nat → Prop} (h : Big p) (h' : Big q) : Big fun N => p N ∧ q N := by
 obtain ⟨a, ha⟩ := h; obtain ⟨b, hb⟩ := h'
 exact ⟨max a b, fun N hN => ⟨ha N (by omega), hb N (by omega)⟩⟩
theorem Big2.and {p q : Nat → Nat → Prop} (h : Big2 p) (h' : Big2 q) : Big2 fun N n => p N n ∧ q N n := by
 obtain ⟨a, ha⟩ := h; obtain ⟨b, hb⟩ := h'
 exact ⟨max a b, fun N n h1 h2 => ⟨ha N n (by omega) (by omega), hb N n (by omega) (by omega)⟩⟩
theorem Big.two {p : Nat → Prop} (h : Big p) : Big2 fun N _ => p N := h.elim fun k hk => ⟨k, fun N _ h _ => hk N h⟩
theorem Big2.diag {p : Nat → Nat → Prop} (h : Big2 p) : Big fun N => p N N := h.elim fun k hk => ⟨k, fun N h => hk N N h h⟩
theorem Big2.succ {p : Nat → Nat → Prop} (h : Big2 fun N n => p N (n + 1)) : Big2 p := by
 obtain ⟨k, hk⟩ := h
 refine ⟨k + 1, fun N n h1 h2 => ?_⟩
 obtain ⟨m, rfl⟩ : ∃ m, n = m + 1 := ⟨n - 1, by omega⟩
 exact hk N m (by omega) (by omega)
theorem Big2.list {α : Type} {p : α → Nat → Nat → Prop} {l : List α} (h : ∀ x ∈ l, Big2 (p x)) : Big2 fun N n => ∀ x ∈ l, p x N n := by
 induction l with
 | nil => exact .of fun N n x hx => by cases hx
 | cons a l ih =>
   refine ((h a List.mem_cons_self).and (ih fun x hx => h x (List.mem_cons_of_mem _ hx))).imp fun N n ⟨h1, h2⟩ x hx => ?_
   rcases List.mem_cons.1 hx with rfl | hx
   · exact h1
   · exact h2 x hx
theorem Big.get {p : Nat → Prop} (h : Big p) : ∃ N, p N := h.elim fun k hk => ⟨k, hk k (Nat.le_refl k)⟩
def I64 (x : Int) : Prop := -9223372036854775808 ≤ x ∧ x ≤ 9223372036854775807
theorem xMf (x : Int) : IntKind.i64.wrap x = if x % 18446744073709551616 ≥ 9223372036854775808 then x % 18446744073709551616 - 18446744073709551616 else x % 18446744073709551616 := by
 show (if (true && decide (x % 18446744073709551616 ≥ 9223372036854775808)) = true then x % 18446744073709551616 - 18446744073709551616 else x % 18446744073709551616) = _
 simp only [Bool.true_and, decide_eq_true_eq]
theorem xM9 (x : Int) : IntKind.u8.wrap x = x % 256 := by
 show (if (false && decide (x % 256 ≥ 128)) = true then x % 256 - 256 else x % 256) = _
 simp
theorem xCa {x : Int} (h1 : -9223372036854775808 ≤ x) (h2 : x ≤ 9223372036854775807) : IntKind.i64.wrap x = x := by
 rw [xMf]
 split <;> omega
theorem xM8 {x : Int} (h1 : 0 ≤ x) (h2 : x ≤ 255) : IntKind.u8.wrap x = x := by
 rw [xM9]
 omega
theorem xDk {α : Type} {xs : List α} {i : Nat} {x : α} {l : List α} (h : xs.drop i = x :: l) : i < xs.length ∧ xs[i]? = some x ∧ xs.drop (i + 1) = l := by
 have h1 : i < xs.length := by
  rcases Nat.lt_or_ge i xs.length with h1 | h1
  · exact h1
  · rw [List.drop_eq_nil_of_le h1] at h; cases h
 rw [List.drop_eq_getElem_cons h1] at h
 cases h
 exact ⟨h1, by simp [h1], rfl⟩
theorem xGQ {α : Type} {xs : List α} {i : Nat} (h : xs.drop i = []) : xs.length ≤ i := by simpa using h
end Go.Ab
end
section
namespace Go.Ab
inductive DK (K : Nat) : D → Prop where
 | int {k n} (h : (Lit.int k n).wf = true) : DK K (.int k n)
 | bool (b) : DK K (.bool b)
 | str {s : Str} (h : s.length ≤ K) : DK K (.str s)
 | sl {sz rows} (h : rows.length ≤ K) (hr : ∀ r ∈ rows, ∀ x ∈ r, DK K x) : DK K (.sl sz rows)
theorem xTD {n : Int} : (Lit.int .i64 n).wf = true ↔ I64 n := by
 show (decide (_ ≤ n) && decide (n ≤ _)) = true ↔ _
 rw [Bool.and_eq_true, decide_eq_true_eq, decide_eq_true_eq]
 exact Iff.rfl
theorem DK.i64 {K : Nat} {n : Int} : DK K (.int .i64 n) ↔ I64 n := ⟨fun h => by cases h with | int h => exact xTD.1 h, fun h => .int (xTD.2 h)⟩
theorem DK.str_iff {K : Nat} {s : Str} : DK K (.str s) ↔ s.length ≤ K := ⟨fun h => by cases h; assumption, .str⟩
theorem DK.sl_iff {K sz : Nat} {α : Type} {f : α → List D} {xs : List α} : DK K (.sl sz (xs.map f)) ↔ xs.length ≤ K ∧ ∀ x ∈ xs, ∀ d ∈ f x, DK K d := by
 constructor
 · intro h
   cases h with
   | sl h hr => exact ⟨by simpa using h, fun x hx => hr _ (List.mem_map_of_mem hx)⟩
 · rintro ⟨h, hr⟩
   refine .sl (by simpa using h) fun r hr' => ?_
   obtain ⟨x, hx, rfl⟩ := List.mem_map.1 hr'
   exact hr x hx
def LFit {α : Type} (K : Nat) (p : α → Prop) (l : List α) : Prop := l.length ≤ K ∧ ∀ x ∈ l, p x
def Ty.Fit (K : Nat) (T : Ty) (x : T.den) : Prop := ∀ d ∈ T.toD x, DK K d
def Org.Fit (o : Org) : Prop := I64 o.cell ∧ I64 o.row
def Rowd.Fit (K : Nat) (r : Rowd) : Prop := LFit K I64 r.cells ∧ LFit K Org.Fit r.frm
def Str.Fit (K : Nat) (s : Str) : Prop := s.length ≤ K
def Exp.Fit (K : Nat) (v : Exp) : Prop := ∀ d ∈ Exp.toD v, DK K d
def Fil.Fit (K : Nat) (v : Fil) : Prop := Str.Fit K v.name ∧ I64 v.n
def Tok.Fit (K : Nat) (v : Tok) : Prop := I64 v.kind ∧ I64 v.n ∧ I64 v.pos ∧ Str.Fit K v.text
theorem xZf {K : Nat} {r : Rowd} : (∀ d ∈ Rowd.toD r, DK K d) ↔ r.Fit K := by
 simp only [Rowd.toD, List.mem_cons, List.not_mem_nil, or_false, forall_eq_or_imp, forall_eq, DK.sl_iff, DK.i64, Rowd.Fit, LFit, Org.Fit]
theorem vAz {K : Nat} {r : Fil} : Ty.Fit K .fil r ↔ r.Fit K := by
 simp only [Ty.Fit, Ty.toD, List.mem_cons, List.not_mem_nil, or_false, forall_eq_or_imp, forall_eq, DK.str_iff, DK.i64, Fil.Fit, Str.Fit]
theorem Exp.fit_iff {K : Nat} {v : Exp} : v.Fit K ↔ I64 v.kind ∧ I64 v.n ∧ Str.Fit K v.text ∧ LFit K (Exp.Fit K) v.args := by
 cases v
 simp only [Exp.Fit, Exp.toD, Exp.toDs_eq, List.mem_cons, List.not_mem_nil, or_false, forall_eq_or_imp, forall_eq, DK.sl_iff, DK.i64, DK.str_iff, Str.Fit, LFit, Exp.kind, Exp.n, Exp.text, Exp.args]
theorem xKp {l : List Exp} {x : Exp} (h : x ∈ l) (k n : Int) (t : Str) : SizeOf.sizeOf x < SizeOf.sizeOf (Exp.mk k n t l) := by
 have := List.sizeOf_lt_of_mem h
 simp only [Exp.mk.sizeOf_spec]
 omega
theorem Exp.ind {p : Exp → Prop} (h : ∀ k n t l, (∀ x ∈ l, p x) → p (.mk k n t l)) : ∀ v, p v
 | .mk k n t l => h k n t l fun x hx => Exp.ind h x
termination_by v => SizeOf.sizeOf v
decreasing_by exact xKp hx k n t
end Go.Ab
end
section
namespace Go.Ab
theorem xFL {α σ ρ : Type} {L : Nat → Int → σ → Option ρ} (x0 : List α) (g : List α → σ → ρ) (Inv : Nat → σ → Prop)
 (hnil : ∀ n s, Inv x0.length s → L (n + 1) (x0.length : Nat) s = some (g [] s))
 (hcons : ∀ i x l s, x0.drop i = x :: l → i < x0.length → x0[i]? = some x → Inv i s →
   (∃ s', Inv (i + 1) s' ∧ g (x :: l) s = g l s' ∧ ∀ n, L (n + 1) (i : Nat) s = L n ((i + 1 : Nat) : Int) s') ∨ (∀ n, L (n + 1) (i : Nat) s = some (g (x :: l) s))) :
 ∀ n i s, Inv i s → i ≤ x0.length → x0.length < n + i → L n (i : Nat) s = some (g (x0.drop i) s) := by
 intro n
 induction n with
 | zero => intro i s _ h1 h2; omega
 | succ n ih =>
   intro i s hs hi hn
   cases hd : x0.drop i with
   | nil =>
     have := xGQ hd
     obtain rfl : i = x0.length := by omega
     exact hnil n s hs
   | cons x l =>
     obtain ⟨h1, h2, h3⟩ := xDk hd
     rcases hcons i x l s hd h1 h2 hs with ⟨s', h4, h5, h6⟩ | h
     · rw [h6, ih (i + 1) s' h4 (by omega) (by omega), h3, h5]
     · exact h n
theorem xCl {α : Type} {xs : List α} {i : Nat} {x : α} (h : xs[i]? = some x) (d : α) : xs.getD i d = x := by simp [List.getD, h]
theorem xBL {i : Nat} {len : Nat} (h : i < len) (hl : len ≤ 9223372036854775807) : IntKind.i64.wrap ((i : Int) + 1) = ((i + 1 : Nat) : Int) := by
 rw [xCa (by omega) (by omega)]; omega
def left (s : Nat) (l : Int) : Int := if (s : Int) ≤ l then l - s else -1
theorem xK7 {s : Nat} {l : Int} (h : (s : Int) ≤ l) : left s l = l - s := by unfold left; rw [if_pos h]
theorem xJY {s : Nat} {l : Int} (h : ¬ (s : Int) ≤ l) : left s l = -1 := by unfold left; rw [if_neg h]
section
variable {α : Type} {d : α}
end
end Go.Ab
end
section
namespace Go.Ab
theorem vk (a b c : Int) (t : Str) (l : List Val) (k : List Str) (r : List Rowd) : (Val.mk a b c t l k r).kind = a := rfl
theorem vs (a b c : Int) (t : Str) (l : List Val) (k : List Str) (r : List Rowd) : (Val.mk a b c t l k r).step = c := rfl
theorem vl (a b c : Int) (t : Str) (l : List Val) (k : List Str) (r : List Rowd) : (Val.mk a b c t l k r).list = l := rfl
theorem ek (a b : Int) (t : Str) (l : List Exp) : (Exp.mk a b t l).kind = a := rfl
theorem en (a b : Int) (t : Str) (l : List Exp) : (Exp.mk a b t l).n = b := rfl
theorem et (a b : Int) (t : Str) (l : List Exp) : (Exp.mk a b t l).text = t := rfl
theorem ea (a b : Int) (t : Str) (l : List Exp) : (Exp.mk a b t l).args = l := rfl
mutual
def Exp.size : Exp → Nat
 | .mk _ _ t a => t.length + (a.length + Exp.sizes a)
def Exp.sizes : List Exp → Nat
 | [] => 0
 | x :: r => Exp.size x + Exp.sizes r
end
theorem Exp.sizes_eq (l : List Exp) : Exp.sizes l = (l.map Exp.size).sum := by
 induction l with
 | nil => rfl
 | cons x l ih => simp [Exp.sizes, ih]
theorem xNJ {α : Type} {f : α → Nat} {l : List α} {x : α} (h : x ∈ l) : f x ≤ (l.map f).sum := by
 induction l with
 | nil => cases h
 | cons a l ih =>
   simp only [List.map_cons, List.sum_cons]
   rcases List.mem_cons.1 h with rfl | h
   · omega
   · have := ih h; omega
theorem Exp.size_eq (e : Exp) : e.size = e.text.length + (e.args.length + (e.args.map Exp.size).sum) := by
 cases e; simp [Exp.size, Exp.sizes_eq, Exp.text, Exp.args]
theorem xLL (n : Nat) : Big fun N => n < N := ⟨n + 1, fun N h => by omega⟩
end Go.Ab
end
section
namespace Go.Ab
def xIF (c : UInt8) : Bool := decide ((c.toNat : Int) ≥ 97) && decide ((c.toNat : Int) ≤ 122)
def xJ2 (c : UInt8) : Bool := decide ((c.toNat : Int) ≥ 48) && decide ((c.toNat : Int) ≤ 57)
def xGU : List UInt8 → Bool → Bool
 | [], _ => true
 | x :: r, f => (xIF x || (!f && xJ2 x)) && xGU r false
theorem xKu {N : Nat} {s : Str} (hl : s.length ≤ 9223372036854775807) (hn : s.length < N) : xGZ N s = some (xGU s true && decide ((s.length : Int) > 0)) :=
 xFL (L := fun n i _ => xCT N n s i) s (fun l f => xGU l f && decide ((s.length : Int) > 0)) (fun i f => f = (i == 0)) (fun n _ _ => by simp [xCT, xGU])
  (fun i x l f hd hi hx hf => by
    have hi' : (i : Int) < (s.length : Int) := by omega
    have hi0 : ((i : Int) == 0) = f := by rw [hf]; cases i <;> simp <;> omega
    by_cases h1 : (xIF x || (!f && xJ2 x)) = true
    · refine .inl ⟨false, by simp, by simp [xGU, h1], fun n => ?_⟩
      simp only [xCT, decide_eq_true hi', jT, Int.toNat_natCast, xCl hx, xBL hi hl, hi0]
      rw [if_pos (by omega)]
      unfold xIF xJ2 at h1
      by_cases c1 : (x.toNat : Int) ≥ 97 <;> by_cases c2 : (x.toNat : Int) ≤ 122 <;> by_cases c3 : (x.toNat : Int) ≥ 48 <;> by_cases c4 : (x.toNat : Int) ≤ 57 <;> cases f <;>
       simp only [c1, c2, c3, c4, decide_true, decide_false, jT, jF, Bool.not_true, Bool.not_false, Bool.and_true, Bool.and_false, Bool.or_true, Bool.or_false, Bool.false_and, Bool.true_and, Bool.false_or, Bool.false_eq_true] at h1 ⊢
    · refine .inr fun n => ?_
      have h1 := Bool.eq_false_iff.2 h1
      simp only [xCT, decide_eq_true hi', jT, Int.toNat_natCast, xCl hx, xBL hi hl, hi0, xGU, h1, Bool.false_and]
      rw [if_pos (by omega)]
      unfold xIF xJ2 at h1
      by_cases c1 : (x.toNat : Int) ≥ 97 <;> by_cases c2 : (x.toNat : Int) ≤ 122 <;> by_cases c3 : (x.toNat : Int) ≥ 48 <;> by_cases c4 : (x.toNat : Int) ≤ 57 <;> cases f <;>
       simp only [c1, c2, c3, c4, decide_true, decide_false, jT, jF, Bool.not_true, Bool.not_false, Bool.and_true, Bool.and_false, Bool.or_true, Bool.or_false, Bool.false_and, Bool.true_and, Bool.false_or, Bool.true_eq_false] at h1 ⊢) N 0 true rfl (by omega) (by omega)
theorem xIy (N : Nat) (a b c : Int) : xE2 N a b c = some (decide (b ≤ a) && decide (a ≤ c)) := by
 unfold xE2
 cases h : decide (b ≤ a) <;> simp
theorem xMc (N : Nat) (a b c : Int) : xGK N a b c = some (decide (b ≤ a) && decide (a ≤ c)) := by
 unfold xGK
 cases h : decide (b ≤ a)
 · rfl
 · rfl
theorem xKC {N : Nat} {s : Str} (hl : s.length ≤ 9223372036854775807) (hn : s.length < N) : xHr N s = some (xGU s true && (decide ((1 : Int) ≤ s.length) && decide ((s.length : Int) ≤ 8))) :=
 xFL (L := fun n i _ => xDv N n s i) s (fun l f => xGU l f && (decide ((1 : Int) ≤ s.length) && decide ((s.length : Int) ≤ 8))) (fun i f => f = (i == 0)) (fun n _ _ => by simp [xDv, xGU, xIy])
  (fun i x l f hd hi hx hf => by
    have hi' : (i : Int) < (s.length : Int) := by omega
    have hi0 : ((i : Int) == 0) = f := by rw [hf]; cases i <;> simp <;> omega
    have e1 : decide ((x.toNat : Int) < 48) = !decide ((x.toNat : Int) ≥ 48) := by by_cases c : (x.toNat : Int) ≥ 48 <;> simp [c] <;> omega
    have e2 : decide ((x.toNat : Int) > 57) = !decide ((x.toNat : Int) ≤ 57) := by by_cases c : (x.toNat : Int) ≤ 57 <;> simp [c] <;> omega
    by_cases h1 : (xIF x || (!f && xJ2 x)) = true
    · refine .inl ⟨false, by simp, by simp [xGU, h1], fun n => ?_⟩
      simp only [xDv, decide_eq_true hi', jT, Int.toNat_natCast, xCl hx, xBL hi hl, hi0, e1, e2]
      rw [if_pos (by omega)]
      unfold xIF xJ2 at h1
      by_cases c1 : (x.toNat : Int) ≥ 97 <;> by_cases c2 : (x.toNat : Int) ≤ 122 <;> by_cases c3 : (x.toNat : Int) ≥ 48 <;> by_cases c4 : (x.toNat : Int) ≤ 57 <;> cases f <;>
       simp only [c1, c2, c3, c4, decide_true, decide_false, jT, jF, Bool.not_true, Bool.not_false, Bool.and_true, Bool.and_false, Bool.or_true, Bool.or_false, Bool.false_and, Bool.true_and, Bool.false_or, Bool.false_eq_true] at h1 ⊢
    · refine .inr fun n => ?_
      have h1 := Bool.eq_false_iff.2 h1
      simp only [xDv, decide_eq_true hi', jT, Int.toNat_natCast, xCl hx, xBL hi hl, hi0, e1, e2, xGU, h1, Bool.false_and]
      rw [if_pos (by omega)]
      unfold xIF xJ2 at h1
      by_cases c1 : (x.toNat : Int) ≥ 97 <;> by_cases c2 : (x.toNat : Int) ≤ 122 <;> by_cases c3 : (x.toNat : Int) ≥ 48 <;> by_cases c4 : (x.toNat : Int) ≤ 57 <;> cases f <;>
       simp only [c1, c2, c3, c4, decide_true, decide_false, jT, jF, Bool.not_true, Bool.not_false, Bool.and_true, Bool.and_false, Bool.or_true, Bool.or_false, Bool.false_and, Bool.true_and, Bool.false_or, Bool.true_eq_false] at h1 ⊢) N 0 true rfl (by omega) (by omega)
def xHj : List Str := [[108, 101, 116], [105, 110], [105, 102], [116, 104, 101, 110], [101, 108, 115, 101], [102, 111, 114], [100, 111], [108, 101, 110], [115, 117, 109], [116, 97, 107, 101], [115, 107, 105, 112], [114, 97, 110, 103, 101], [110, 116, 104], [119, 104, 101, 114, 101], [107, 101, 101, 112], [97, 100, 100], [103, 114, 111, 117, 112], [106, 111, 105, 110], [99, 111, 108, 117, 109, 110], [114, 111, 119, 115], [99, 108, 111, 99, 107], [99, 104, 97, 110, 99, 101], [102, 105, 108, 101], [116, 97, 98, 108, 101]]
theorem xLA {N : Nat} {xs : List Str} {s : Str} (hl : xs.length ≤ 9223372036854775807) (hn : xs.length < N) : xIl N xs s = some (xs.any (· == s)) :=
 xFL (σ := Unit) (L := fun n i _ => xEP N n xs s i) xs (fun l _ => l.any (· == s)) (fun _ _ => True) (fun n _ _ => by simp [xEP])
  (fun i x l _ hd hi hx _ => by
    have hi' : (i : Int) < (xs.length : Int) := by omega
    cases h1 : x == s
    · refine .inl ⟨(), trivial, by simp [h1], fun n => ?_⟩
      simp only [xEP, decide_eq_true hi', jT, Int.toNat_natCast, xCl hx, h1, jF, xBL hi hl]
      rw [if_pos (by omega)]
    · refine .inr fun n => ?_
      simp only [xEP, decide_eq_true hi', jT, Int.toNat_natCast, xCl hx, h1]
      rw [if_pos (by omega)]
      simp [h1]) N 0 () trivial (by omega) (by omega)
def xIk (s : Str) : Bool := xHj.any (· == s)
theorem xI6 {N : Nat} {s : Str} (hn : 24 < N) : xE6 N s = some (xIk s) := by
 unfold xE6 xFW
 rw [jS, show ([[108, 101, 116], [105, 110], [105, 102], [116, 104, 101, 110], [101, 108, 115, 101], [102, 111, 114], [100, 111], [108, 101, 110], [115, 117, 109], [116, 97, 107, 101], [115, 107, 105, 112], [114, 97, 110, 103, 101], [110, 116, 104], [119, 104, 101, 114, 101], [107, 101, 101, 112], [97, 100, 100], [103, 114, 111, 117, 112], [106, 111, 105, 110], [99, 111, 108, 117, 109, 110], [114, 111, 119, 115], [99, 108, 111, 99, 107], [99, 104, 97, 110, 99, 101], [102, 105, 108, 101], [116, 97, 98, 108, 101]] : List Str) = xHj from rfl, xLA (by decide) hn]
 rfl
theorem xIW (N : Nat) (s : Str) : xE0 N s = some (xIk s) := by
 by_cases h : s ∈ xHj
 · have h' : xIk s = true := List.any_eq_true.2 ⟨s, h, by simp⟩
   rw [h']
   simp only [xHj, List.mem_cons, List.not_mem_nil, or_false] at h
   rcases h with h | h | h | h | h | h | h | h | h | h | h | h | h | h | h | h | h | h | h | h | h | h | h | h <;> subst h <;> rfl
 · have h' : xIk s = false := by
    unfold xIk
    rw [List.any_eq_false]
    intro x hx hxs
    exact h (by rw [← eq_of_beq hxs]; exact hx)
   rw [h']
   have hne : ∀ x ∈ xHj, (s == x) = false := by
    intro x hx
    cases hb : s == x
    · rfl
    · exact absurd (by rw [eq_of_beq hb]; exact hx) h
   simp only [xHj, List.mem_cons, List.not_mem_nil, or_false, forall_eq_or_imp, forall_eq] at hne
   simp only [xE0, xCM, hne, jF, jS]
   rfl
def xDl (s : Str) : Bool := xGU s true && (decide ((1 : Int) ≤ s.length) && decide ((s.length : Int) ≤ 8)) && !xIk s
theorem xFA {N : Nat} {s : Str} (hl : s.length ≤ 9223372036854775807) (hn : s.length < N) : xCV N s = some (xDl s) := by
 unfold xCV xDl
 rw [xKC hl hn, jS]
 cases (xGU s true && (decide ((1 : Int) ≤ s.length) && decide ((s.length : Int) ≤ 8)))
 · rfl
 · rw [xIW]; rfl
theorem xFD {N : Nat} {s : Str} (hl : s.length ≤ 9223372036854775807) (hn : s.length < N) (hn2 : 24 < N) : xCY N s = some (xDl s) := by
 unfold xCY xDl
 rw [xKu hl hn, jS, xI6 hn2]
 have : decide ((s.length : Int) > 0) = decide ((1 : Int) ≤ s.length) := by by_cases c : (s.length : Int) > 0 <;> simp [c] <;> omega
 rw [this]
 cases xGU s true <;> cases decide ((1 : Int) ≤ s.length) <;> cases decide ((s.length : Int) ≤ 8) <;> rfl
end Go.Ab
end
section
namespace Go.Ab
theorem xNX (N : Nat) (e : Exp) : xFG N e = xE7 N e := rfl
end Go.Ab
end
section
namespace Go.Ab
def allI {α : Type} (p : Nat → α → Bool) : List α → Nat → Bool
 | [], _ => true
 | x :: r, i => p i x && allI p r (i + 1)
theorem xTG {α : Type} {L : Nat → Int → Option Bool} {x0 : List α} {p : Nat → α → Bool} {e : Option Bool} (hend : ∀ n, L (n + 1) (x0.length : Nat) = e)
 (hcons : ∀ (i : Nat) x n, i < x0.length → x0[i]? = some x → x ∈ x0 → L (n + 1) (i : Nat) = bif p i x then L n ((i + 1 : Nat) : Int) else some false) {n : Nat} (hn : x0.length < n) :
 L n 0 = bif allI p x0 0 then e else some false := by
 have key : ∀ (m i : Nat), i ≤ x0.length → x0.length < m + i → L m (i : Nat) = bif allI p (x0.drop i) i then e else some false := by
  intro m
  induction m with
  | zero => intro i h1 h2; omega
  | succ m ih =>
    intro i h1 h2
    cases hd : x0.drop i with
    | nil =>
      have := xGQ hd
      obtain rfl : i = x0.length := by omega
      rw [hend]; rfl
    | cons x l =>
      obtain ⟨g1, g2, g3⟩ := xDk hd
      rw [hcons i x m g1 g2 (List.mem_of_getElem? g2), ih (i + 1) (by omega) (by omega), g3]
      simp only [allI]
      cases p i x <;> rfl
 exact key n 0 (by omega) (by omega)
def xZb (c : UInt8) : Bool := !(decide ((c.toNat : Int) < 32)) && (!(decide ((c.toNat : Int) > 126)) && !((c.toNat : Int) == 34))
def xIj (s : Str) : Bool := allI (fun _ => xZb) s 0 && decide ((s.length : Int) ≤ 20)
theorem xTI {a b : Bool} : (bif a then some b else some false) = some (a && b) := by cases a <;> rfl
theorem xFE {N : Nat} {s : Str} (hl : s.length ≤ 9223372036854775807) (hn : s.length < N) : xEd N s = some (xIj s) := by
 rw [xIj, ← xTI]
 exact xTG (L := fun n i => xCv N n s i) (fun n => by simp [xCv]) (fun i x n hi hx hm => by
  have hi' : (i : Int) < (s.length : Int) := by omega
  simp only [xCv, decide_eq_true hi', jT, Int.toNat_natCast, xCl hx, xBL hi hl, xZb]
  rw [if_pos (by omega)]
  cases decide ((x.toNat : Int) < 32) <;> cases decide ((x.toNat : Int) > 126) <;> cases ((x.toNat : Int) == 34) <;> rfl) hn
theorem xHI (N n : Nat) (s : Str) (i : Int) : xD1 N n s i = xCv N n s i := by
 induction n generalizing i with
 | zero => rfl
 | succ n ih => simp only [xD1, xCv, ih]
theorem xGx {N : Nat} {s : Str} (hl : s.length ≤ 9223372036854775807) (hn : s.length < N) : xCW N s = some (xIj s) := (xHI N N s 0).trans (xFE hl hn)
end Go.Ab
end
section
namespace Go.Ab
theorem Big2.up {p : Nat → Nat → Prop} (h : Big2 p) : Big2 fun N d => p N (d + 1) := h.elim fun k hk => ⟨k, fun N d h1 h2 => hk N (d + 1) h1 (by omega)⟩
end Go.Ab
end
section
namespace Go.Ab
def kb : List Val → List Int → Bool
 | [], _ => false
 | _ :: _, [] => false
 | x :: r, k :: ks => (x.kind != k) || kb r ks
end Go.Ab
end
section
namespace Go.Ab
def pick (k : Int) (n : Int) (rs : List Rowd) : List Rowd := rs.filter fun r => r.cells.getD k.toNat Ty.int.dflt == n
end Go.Ab
end
section
namespace Go.Ab
def dd (n : Nat) : Str := if n = 0 then [] else Lib.decDigits n
theorem xMi {n : Nat} (h : n ≠ 0) : dd n = dd (n / 10) ++ [UInt8.ofNat (48 + n % 10)] := by
 unfold dd
 rw [if_neg h]
 by_cases h1 : n < 10
 · rw [Lib.decDigits, dif_pos h1, if_pos (by omega), Nat.mod_eq_of_lt h1]; rfl
 · rw [Lib.decDigits, dif_neg h1, if_neg (by omega)]
theorem xMo {n : Int} (h : n ≠ 0) : Lib.itoa n = (bif decide (n < 0) then [45] else []) ++ dd n.natAbs := by
 have h2 : ¬ n.natAbs = 0 := by omega
 unfold Lib.itoa dd
 by_cases h1 : n < 0
 · rw [if_pos h1, decide_eq_true h1, if_neg h2]; rfl
 · rw [if_neg h1, decide_eq_false h1, if_neg h2, show n.toNat = n.natAbs from by omega]; rfl
theorem xTr : ∀ (k n : Nat), n < 10 ^ k → (dd n).length ≤ k := by
 intro k
 induction k with
 | zero => intro n h; have : n = 0 := by simpa using h
           subst this; exact Nat.le_refl _
 | succ k ih =>
   intro n h
   by_cases h0 : n = 0
   · subst h0; exact Nat.zero_le _
   · rw [xMi h0, jA]
     have := ih (n / 10) (by rw [Nat.pow_succ] at h; omega)
     simp only [jC, jN]; omega
theorem xQi {n : Int} (h : -9223372036854775808 ≤ n ∧ n ≤ 9223372036854775807) : (Lib.itoa n).length ≤ 21 := by
 by_cases h0 : n = 0
 · subst h0
   show (Lib.decDigits 0).length ≤ 21
   rw [Lib.decDigits, dif_pos (by omega)]; simp
 · rw [xMo h0, jA]
   have := xTr 20 n.natAbs (by have : (10 : Nat) ^ 20 = 100000000000000000000 := by decide
                               omega)
   cases decide (n < 0) <;> simp <;> omega
theorem xKM (s : Str) : List.map (fun n => UInt8.ofNat (Int.toNat n)) (List.map (fun c : UInt8 => (c.toNat : Int)) s) = s := by
 rw [List.map_map]
 have : ((fun n => UInt8.ofNat (Int.toNat n)) ∘ fun c : UInt8 => (c.toNat : Int)) = id := by
  funext c
  simp
 rw [this, List.map_id]
theorem xK6 : ∀ (xs : List Str) (sep : Str), (Lib.join xs sep).length ≤ (xs.map List.length).sum + sep.length * xs.length := by
 intro xs sep
 cases xs with
 | nil => simp [Lib.join, List.intercalate]
 | cons x r =>
   rw [Lib.join_cons, jA, Lib.joinTail_length]
   simp only [Lib.lens, List.map_cons, List.sum_cons, jC, Nat.mul_add, Nat.mul_one]
   have e : (List.map (fun x => List.length x) r) = List.map List.length r := rfl
   rw [e]; omega
mutual
def Exp.cnt : Exp → Nat
 | .mk _ _ _ a => 1 + Exp.cnts a
def Exp.cnts : List Exp → Nat
 | [] => 0
 | x :: r => Exp.cnt x + Exp.cnts r
end
theorem Exp.cnts_eq (l : List Exp) : Exp.cnts l = (l.map Exp.cnt).sum := by
 induction l with
 | nil => rfl
 | cons x l ih => simp only [Exp.cnts, List.map_cons, List.sum_cons, ih]
theorem Exp.cnt_eq (e : Exp) : e.cnt = 1 + (e.args.map Exp.cnt).sum := by
 cases e; simp only [Exp.cnt, Exp.cnts_eq, Exp.args]
mutual
def Exp.nest : Exp → Nat
 | .mk _ _ _ a => Exp.nests a + 1
def Exp.nests : List Exp → Nat
 | [] => 0
 | x :: r => max (Exp.nest x) (Exp.nests r)
end
theorem Exp.nest_eq (e : Exp) : e.nest = Exp.nests e.args + 1 := by cases e; rfl
theorem xM6 {f g : Exp → Nat} : ∀ {a : List Exp}, (∀ x ∈ a, f x ≤ g x + 1) → (a.map f).sum ≤ a.length + (a.map g).sum
 | [], _ => Nat.le_refl _
 | x :: l, ih => by
   have h1 := ih x List.mem_cons_self
   have h2 := xM6 fun y hy => ih y (List.mem_cons_of_mem _ hy)
   simp only [List.map_cons, List.sum_cons, jC]; omega
theorem Exp.cnt_le : ∀ e : Exp, e.cnt ≤ e.size + 1 := by
 refine Exp.ind fun k n t a ih => ?_
 rw [Exp.cnt_eq, Exp.size_eq]
 have := xM6 ih
 show 1 + (a.map Exp.cnt).sum ≤ t.length + (a.length + (a.map Exp.size).sum) + 1
 omega
theorem xNh : ∀ {a : List Exp}, (∀ x ∈ a, x.nest ≤ x.cnt) → Exp.nests a ≤ (a.map Exp.cnt).sum
 | [], _ => Nat.le_refl _
 | x :: l, ih => by
   have h1 := ih x List.mem_cons_self
   have h2 := xNh fun y hy => ih y (List.mem_cons_of_mem _ hy)
   simp only [Exp.nests, List.map_cons, List.sum_cons]; omega
theorem Exp.nest_le : ∀ e : Exp, e.nest ≤ e.cnt := by
 refine Exp.ind fun k n t a ih => ?_
 rw [Exp.nest_eq, Exp.cnt_eq]
 have := xNh ih
 show Exp.nests a + 1 ≤ 1 + (a.map Exp.cnt).sum
 omega
def xO5 (n : Int) : Str := bif n == 1 then [43] else bif n == 2 then [45] else bif n == 3 then [42] else bif n == 4 then [60] else [61, 61]
def lvl (e : Exp) : Int := bif e.kind == 7 then 0 else bif e.kind == 8 then 0 else bif e.kind == 9 then 0 else bif e.kind == 6 then (bif e.n == 4 then 1 else bif e.n == 5 then 1 else bif e.n == 1 then 2 else bif e.n == 2 then 2 else bif e.n == 3 then 3 else 4) else 4
def encl (l : Int) (x : Exp) (s : Str) : Str := bif decide (lvl x < l) then [40] ++ s ++ [41] else s
def xIZ (k n : Int) (t : Str) (a : List Exp) (s : List Str) : Str :=
 bif k == 1 then Lib.itoa n else bif k == 2 then [34] ++ t ++ [34] else bif k == 3 then t else bif k == 4 then [91] ++ Lib.join s [44, 32] ++ [93]
 else bif k == 5 then t ++ [40] ++ Lib.join s [44, 32] ++ [41]
 else bif k == 7 then [108, 101, 116, 32] ++ t ++ [32, 61, 32] ++ s.getD 0 [] ++ [32, 105, 110, 32] ++ s.getD 1 []
 else bif k == 9 then [102, 111, 114, 32] ++ t ++ [32, 105, 110, 32] ++ s.getD 0 [] ++ [32, 100, 111, 32] ++ s.getD 1 []
 else bif k == 8 then [105, 102, 32] ++ s.getD 0 [] ++ [32, 116, 104, 101, 110, 32] ++ s.getD 1 [] ++ [32, 101, 108, 115, 101, 32] ++ s.getD 2 []
 else encl (bif lvl (.mk k n t a) == 1 then 2 else lvl (.mk k n t a)) (a.getD 0 Ty.exp.dflt) (s.getD 0 []) ++ [32] ++ xO5 n ++ [32] ++ encl (lvl (.mk k n t a) + 1) (a.getD 1 Ty.exp.dflt) (s.getD 1 [])
mutual
def srcE : Exp → Str
 | .mk k n t a => xIZ k n t a (xTk a)
def xTk : List Exp → List Str
 | [] => []
 | x :: r => srcE x :: xTk r
end
theorem xTl (l : List Exp) : xTk l = l.map srcE := by
 induction l with
 | nil => rfl
 | cons x l ih => simp only [xTk, List.map_cons, ih]
theorem xPV (k n : Int) (t : Str) (a : List Exp) : srcE (.mk k n t a) = xIZ k n t a (a.map srcE) := by
 simp only [srcE, xTl]
def xLR (vT vN : Str → Bool) (ac : Str → Int) (k n : Int) (t : Str) (l : Nat) : Bool :=
 bif k == 1 then (decide (0 ≤ n) && decide (n ≤ 1000000000)) && ((t == []) && (l == 0))
 else bif k == 2 then (n == 0) && (vT t && (l == 0))
 else bif k == 3 then (n == 0) && (vN t && (l == 0))
 else bif k == 4 then (n == 0) && ((t == []) && decide (l ≤ 8))
 else bif k == 5 then (n == 0) && ((l : Int) == ac t)
 else bif k == 6 then (decide (1 ≤ n) && decide (n ≤ 5)) && ((t == []) && (l == 2))
 else bif k == 7 then (n == 0) && (vN t && (l == 2))
 else bif k == 9 then (n == 0) && (vN t && (l == 2))
 else bif k == 8 then (n == 0) && ((t == []) && (l == 3)) else false
end Go.Ab
end
section
namespace Go.Ab
theorem xIN {N : Nat} : ∀ (k n : Nat) (x : Int) (b : Bool) (q : Str), x.natAbs < 10 ^ k → k < n → k + q.length ≤ 1000 → (-9223372036854775808 ≤ x ∧ x ≤ 9223372036854775807) →
 xCb N n x b q = some ((bif b then [45] else []) ++ (dd x.natAbs ++ q)) := by
 intro k
 induction k with
 | zero =>
   intro n x b q hx hn hq hi
   obtain ⟨n, rfl⟩ : ∃ m, n = m + 1 := ⟨n - 1, by omega⟩
   have : x = 0 := by have : x.natAbs < 1 := by simpa using hx
                      omega
   subst this
   simp only [xCb, show ((0 : Int) != 0) = false from rfl, jF]
   cases b
   · rfl
   · simp only [jT]
     rw [if_pos (by simp only [jC, jN]; unfold Lim; omega)]; rfl
 | succ k ih =>
   intro n x b q hx hn hq hi
   obtain ⟨n, rfl⟩ : ∃ m, n = m + 1 := ⟨n - 1, by omega⟩
   by_cases h0 : x = 0
   · subst h0
     simp only [xCb, show ((0 : Int) != 0) = false from rfl, jF]
     cases b
     · rfl
     · simp only [jT]
       rw [if_pos (by simp only [jC, jN]; unfold Lim; omega)]; rfl
   · have hne : (x != 0) = true := by simpa using h0
     have hn0 : x.natAbs ≠ 0 := by omega
     have hd : (Int.tdiv x 10).natAbs = x.natAbs / 10 := by rw [Int.natAbs_tdiv]; rfl
     have hm : (Int.tmod x 10).natAbs = x.natAbs % 10 := by rw [Int.natAbs_tmod]; rfl
     have hdi : -9223372036854775808 ≤ Int.tdiv x 10 ∧ Int.tdiv x 10 ≤ 9223372036854775807 := by omega
     have hb : (Int.tdiv x 10).natAbs < 10 ^ k := by rw [hd]; rw [Nat.pow_succ] at hx; omega
     have hw : IntKind.i64.wrap (Int.tdiv x 10) = Int.tdiv x 10 := xCa (by omega) (by omega)
     have fin : ∀ c : Int, c = ((48 + x.natAbs % 10 : Nat) : Int) → xCb N n (Int.tdiv x 10) b ((List.map (fun n => UInt8.ofNat (Int.toNat n)) [c]) ++ q) = some ((bif b then [45] else []) ++ (dd x.natAbs ++ q)) := by
      intro c hc
      rw [ih n _ b _ hb (by omega) (by simp only [jA, List.length_map, jC, jN]; omega) hdi, hd, xMi hn0, hc]
      simp only [List.map_cons, List.map_nil, Int.toNat_natCast, List.append_assoc, List.cons_append, List.nil_append]
     have hlim : ∀ c : Int, List.length (List.map (fun n => UInt8.ofNat (Int.toNat n)) [c]) + List.length q ≤ Lim := fun c => by
      simp only [List.length_map, jC, jN]; unfold Lim; omega
     by_cases hneg : Int.tmod x 10 < 0
     · have e1 : IntKind.i64.wrap (0 - Int.tmod x 10) = 0 - Int.tmod x 10 := xCa (by omega) (by omega)
       have e2 : IntKind.i64.wrap (48 + (0 - Int.tmod x 10)) = 48 + (0 - Int.tmod x 10) := xCa (by omega) (by omega)
       have e3 : IntKind.u8.wrap (48 + (0 - Int.tmod x 10)) = 48 + (0 - Int.tmod x 10) := xM8 (by omega) (by omega)
       simp only [xCb, hne, jT, decide_eq_true hneg, e1, e2, e3, hw]
       rw [if_pos (hlim _)]
       exact fin _ (by omega)
     · have e2 : IntKind.i64.wrap (48 + Int.tmod x 10) = 48 + Int.tmod x 10 := xCa (by omega) (by omega)
       have e3 : IntKind.u8.wrap (48 + Int.tmod x 10) = 48 + Int.tmod x 10 := xM8 (by omega) (by omega)
       simp only [xCb, hne, jT, decide_eq_false hneg, jF, e2, e3, hw]
       rw [if_pos (hlim _)]
       exact fin _ (by omega)
theorem xHk {N : Nat} {x : Int} (hN : 100 < N) (hi : -9223372036854775808 ≤ x ∧ x ≤ 9223372036854775807) : xEt N x = some (Lib.itoa x) := by
 unfold xEt
 by_cases h0 : x = 0
 · subst h0
   simp only [beq_self_eq_true, jT]
   show some [48] = some (Lib.decDigits 0)
   rw [Lib.decDigits, dif_pos (by omega)]; rfl
 · have e20 : x.natAbs < 10 ^ 20 := by
    have : (10 : Nat) ^ 20 = 100000000000000000000 := by decide
    omega
   rw [show (x == 0) = false from beq_eq_false_iff_ne.2 h0, jF, xIN 20 N x _ [] e20 (by omega) (by simp) hi, xMo h0, List.append_nil]
theorem xJd {N : Nat} {x : Int} (hi : -9223372036854775808 ≤ x ∧ x ≤ 9223372036854775807) : xFo N x = some (Lib.itoa x) := by
 unfold xFo strconv_Itoa zH1
 rw [if_pos hi.1, if_pos hi.2]; rfl
theorem xLN {N : Nat} {xs : List Str} {sep : Str} (h1 : xs.length ≤ 100000000000) (h2 : (xs.map List.length).sum + sep.length * xs.length ≤ 100000000000) : xHN N xs sep = some (Lib.join xs sep) := by
 have := xK6 xs sep
 unfold xHN strings_Join zH2
 rw [if_pos (by omega), if_pos (by omega)]; rfl
theorem xMa {N : Nat} {xs : List Str} {sep : Str} (h1 : xs.length ≤ 100000000000) (h2 : (xs.map List.length).sum + sep.length * xs.length ≤ 100000000000) (hN : xs.length < N) : xIb N xs sep = some (Lib.join xs sep) := by
 have key : ∀ (n i : Nat) (q : List Int), 0 < i → i ≤ xs.length → xs.length < n + i → q.length + (((xs.drop i).map List.length).sum + sep.length * (xs.drop i).length) ≤ 100000000000 →
  xDU N n xs sep q (i : Nat) = some (List.map (fun n => UInt8.ofNat (Int.toNat n)) q ++ Lib.joinTail sep (xs.drop i)) := by
  intro n
  induction n with
  | zero => intro i q _ h1 h2; omega
  | succ n ih =>
    intro i q hp hi hn hl
    cases hd : xs.drop i with
    | nil =>
      have hi2 : i = xs.length := by have := xGQ hd; omega
      subst hi2
      simp only [xDU, Int.lt_irrefl, decide_false, jF, Lib.joinTail, List.map_nil, List.flatten_nil, List.append_nil]
    | cons x l =>
      obtain ⟨e1, e2, e3⟩ := xDk hd
      rw [hd] at hl
      simp only [List.map_cons, List.sum_cons, jC, Nat.mul_add, Nat.mul_one] at hl
      have hi' : (i : Int) < (xs.length : Int) := by omega
      have hp' : (i : Int) > 0 := by omega
      have := ih (i + 1) ((q ++ List.map (fun c => (c.toNat : Int)) sep) ++ List.map (fun c => (c.toNat : Int)) x) (by omega) (by omega) (by omega) (by rw [e3]; simp only [jA, List.length_map]; omega)
      rw [e3] at this
      simp only [xDU, decide_eq_true hi', decide_eq_true hp', jT, Int.toNat_natCast, xCl e2, xBL e1 (by omega : xs.length ≤ _), this]
      rw [if_pos (by unfold Lim; omega), if_pos (by omega), if_pos (by simp only [jA, List.length_map]; unfold Lim; omega)]
      simp only [List.map_append, xKM, Lib.joinTail, List.map_cons, List.flatten_cons, List.append_assoc]
 obtain ⟨n, rfl⟩ : ∃ m, N = m + 1 := ⟨N - 1, by omega⟩
 cases xs with
 | nil => simp [xIb, xDU, Lib.join, List.intercalate]
 | cons x l =>
   have := key n 1 (List.map (fun c => (c.toNat : Int)) x) (by omega) (by simp only [jC]; omega) (by simp only [jC] at hN ⊢; omega) (by
    simp only [List.drop_succ_cons, List.drop_zero, List.length_map]
    simp only [List.map_cons, List.sum_cons, jC, Nat.mul_add, Nat.mul_one] at h2; omega)
   simp only [List.map_cons, List.sum_cons, jC, Nat.mul_add, Nat.mul_one] at h2 h1
   have hi' : ((0 : Nat) : Int) < (((x :: l).length : Nat) : Int) := by simp only [jC]; omega
   have hp' : ¬ ((0 : Nat) : Int) > 0 := by omega
   show xDU (n + 1) (n + 1) (x :: l) sep [] ((0 : Nat) : Int) = _
   simp only [xDU, decide_eq_true hi', decide_eq_false hp', jT, jF, Int.toNat_natCast, List.getD_cons_zero, xBL (show 0 < (x :: l).length by simp) (by simp only [jC]; omega : (x :: l).length ≤ _), List.nil_append]
   rw [if_pos (by simp only [jC]; omega), if_pos (by simp only [jN]; unfold Lim; omega)]
   rw [this, xKM, Lib.join_cons]; rfl
theorem xYq {α : Type} {b : Bool} {x y : Option α} (h1 : ∃ r, x = some r) (h2 : ∃ r, y = some r) : ∃ r, (bif b then x else y) = some r := by cases b <;> assumption
theorem xDQ {α : Type} {b : Bool} {x y : Option α} {p q : α} (h1 : x = some p) (h2 : y = some q) : (bif b then x else y) = some (bif b then p else q) := by cases b <;> assumption
def argc (s : Str) : Int := (xB2 0 s).getD 0
theorem xE5 (N : Nat) (s : Str) : xB2 N s = some (argc s) := by
 have key : ∃ r, xB2 0 s = some r := by
  unfold xB2
  repeat (first | exact ⟨_, rfl⟩ | refine xYq ⟨_, rfl⟩ ?_)
 obtain ⟨r, hr⟩ := key
 show xB2 0 s = _
 rw [argc, hr]; rfl
theorem xF9 (N : Nat) (s : Str) : xCM N s = some (argc s) := (show xCM N s = xB2 N s from rfl).trans (xE5 N s)
def xLQ (e : Exp) : Bool := xLR xIj xDl argc e.kind e.n e.text e.args.length
theorem xY0 (l : Nat) : ((l : Int) == 0) = (l == 0) := by
 rcases Nat.eq_zero_or_pos l with rfl | h
 · rfl
 · rw [beq_eq_false_iff_ne.2 (by omega : l ≠ 0), beq_eq_false_iff_ne.2 (by omega : (l : Int) ≠ 0)]
theorem xY1 (l : Nat) : ((l : Int) == 2) = (l == 2) := by
 rcases Decidable.em (l = 2) with rfl | h
 · rfl
 · rw [beq_eq_false_iff_ne.2 h, beq_eq_false_iff_ne.2 (by omega : (l : Int) ≠ 2)]
theorem xY2 (l : Nat) : ((l : Int) == 3) = (l == 3) := by
 rcases Decidable.em (l = 3) with rfl | h
 · rfl
 · rw [beq_eq_false_iff_ne.2 h, beq_eq_false_iff_ne.2 (by omega : (l : Int) ≠ 3)]
theorem xY3 (l : Nat) : decide ((l : Int) ≤ 8) = decide (l ≤ 8) := by
 rcases Decidable.em (l ≤ 8) with h | h
 · rw [decide_eq_true h, decide_eq_true (by omega : (l : Int) ≤ 8)]
 · rw [decide_eq_false h, decide_eq_false (by omega : ¬ (l : Int) ≤ 8)]
theorem xKA {N : Nat} {e : Exp} (ht : e.text.length ≤ 9223372036854775807) (hn : e.text.length < N) : xGy N e = some (xLQ e) := by
 simp only [xGy, xLQ, xLR, xIy, xGx ht hn, xFA (N := N) ht hn, xF9, jS, xY0, xY1, xY2, xY3]
 refine xDQ ?_ (xDQ ?_ (xDQ ?_ (xDQ ?_ (xDQ ?_ (xDQ ?_ (xDQ ?_ (xDQ ?_ (xDQ ?_ rfl)))))))) <;>
  first
  | rfl
  | (cases (decide ((0 : Int) ≤ e.n) && decide (e.n ≤ 1000000000)) <;> cases (e.text == []) <;> rfl)
  | (cases (decide ((1 : Int) ≤ e.n) && decide (e.n ≤ 5)) <;> cases (e.text == []) <;> rfl)
  | (cases (e.n == 0) <;> cases (e.text == []) <;> rfl)
  | (cases (e.n == 0) <;> cases (xIj e.text) <;> rfl)
  | (cases (e.n == 0) <;> cases (xDl e.text) <;> rfl)
theorem xKr {N : Nat} {e : Exp} (ht : e.text.length ≤ 9223372036854775807) (hn : e.text.length < N) (h24 : 24 < N) : xGg N e = some (xLQ e) := by
 simp only [xGg, xLQ, xLR, xMc, xFE ht hn, xFD (N := N) (s := e.text) ht hn h24, xE5, jS, xY0, xY1, xY2, xY3]
 refine xDQ ?_ (xDQ ?_ (xDQ ?_ (xDQ ?_ (xDQ ?_ (xDQ ?_ (xDQ ?_ (xDQ ?_ (xDQ ?_ rfl)))))))) <;>
  first
  | rfl
  | (cases (e.args.length == 0) <;> cases (e.text == []) <;> cases (decide ((0 : Int) ≤ e.n) && decide (e.n ≤ 1000000000)) <;> rfl)
  | (cases (e.args.length == 0) <;> cases (e.n == 0) <;> cases (xIj e.text) <;> rfl)
  | (cases (e.args.length == 0) <;> cases (e.n == 0) <;> cases (xDl e.text) <;> rfl)
  | (cases (e.n == 0) <;> cases (e.text == []) <;> rfl)
  | (cases (e.args.length == 2) <;> cases (e.text == []) <;> cases (decide ((1 : Int) ≤ e.n) && decide (e.n ≤ 5)) <;> rfl)
  | (cases (e.args.length == 2) <;> cases (e.n == 0) <;> cases (xDl e.text) <;> rfl)
  | (cases (e.args.length == 3) <;> cases (e.n == 0) <;> cases (e.text == []) <;> rfl)
mutual
def okE : Exp → Bool
 | .mk k n t a => okEs a && xLQ (.mk k n t a)
def okEs : List Exp → Bool
 | [] => true
 | x :: r => okE x && okEs r
end
theorem xTX (l : List Exp) : okEs l = l.all okE := by
 induction l with
 | nil => rfl
 | cons x l ih => simp only [okEs, List.all_cons, ih]
theorem xTz (e : Exp) : okE e = (e.args.all okE && xLQ e) := by
 cases e; simp only [okE, xTX]; rfl
theorem xYo {K : Nat} (hK : K ≤ 1048576) : ∀ e : Exp, e.Fit K → Big2 fun N d => xEA N d e = some (okE e) ∧ xE9 N d e = some (okE e) := by
 refine Exp.ind fun k n t a ih h => ?_
 obtain ⟨h1, h2, h3, h4⟩ := Exp.fit_iff.1 h
 refine Big2.succ ?_
 refine ((Big2.list fun x hx => ih x hx (h4.2 x hx)).and (xLL (K + 30)).two).imp fun N d ⟨hx, hn⟩ => ?_
 have hl : a.length ≤ K := h4.1
 have ht : (Exp.mk k n t a).text.length ≤ K := h3
 rw [xTz]
 refine ⟨?_, ?_⟩
 · exact xFL (σ := Unit) (L := fun m i _ => xDL N (xEA N d) m a a.length i (.mk k n t a)) a (fun l _ => l.all okE && xLQ (.mk k n t a)) (fun _ _ => True) (fun m _ _ => by simp [xDL, xKA (N := N) (e := .mk k n t a) (by omega) (by omega)])
    (fun i x l _ hd hi hxi _ => by
      have hi' : (i : Int) < (a.length : Int) := by omega
      have hm := List.mem_of_getElem? hxi
      cases ho : okE x
      · refine .inr fun m => ?_
        simp only [xDL, decide_eq_true hi', jT, Int.toNat_natCast, xCl hxi, (hx x hm).1, ho, jS, Bool.not_false, List.all_cons, Bool.false_and]
        rw [if_pos (by omega)]
      · refine .inl ⟨(), trivial, by simp [ho], fun m => ?_⟩
        simp only [xDL, decide_eq_true hi', jT, Int.toNat_natCast, xCl hxi, (hx x hm).1, ho, jS, Bool.not_true, jF, xBL hi (by omega : a.length ≤ _)]
        rw [if_pos (by omega)]) N 0 () trivial (by omega) (by omega)
 · exact xFL (σ := Unit) (L := fun m i _ => xEv N (xE9 N d) m i (.mk k n t a)) a (fun l _ => l.all okE && xLQ (.mk k n t a)) (fun _ _ => True) (fun m _ _ => by simp [xEv, ea, xKr (N := N) (e := .mk k n t a) (by omega) (by omega) (by omega)])
    (fun i x l _ hd hi hxi _ => by
      have hi' : (i : Int) < ((Exp.mk k n t a).args.length : Int) := by show (i : Int) < (a.length : Int); omega
      have hi2 : (0 : Int) ≤ (i : Int) ∧ (i : Int) < ((Exp.mk k n t a).args.length : Int) := ⟨by omega, hi'⟩
      have hm := List.mem_of_getElem? hxi
      have hxi2 : (Exp.mk k n t a).args[i]? = some x := hxi
      cases ho : okE x
      · refine .inr fun m => ?_
        simp only [xEv, decide_eq_true hi', if_pos hi2, jT, Int.toNat_natCast, xCl hxi2, (hx x hm).2, ho, jS, Bool.not_false, List.all_cons, Bool.false_and]
      · refine .inl ⟨(), trivial, by simp [ho], fun m => ?_⟩
        simp only [xEv, decide_eq_true hi', if_pos hi2, jT, Int.toNat_natCast, xCl hxi2, (hx x hm).2, ho, jS, Bool.not_true, jF, xBL hi (by omega : a.length ≤ _)]) N 0 () trivial (by omega) (by omega)
end Go.Ab
end
section
namespace Go.Ab
def sumC (l : List Exp) : Nat := (l.map Exp.cnt).sum
theorem xJa (x : Exp) (l : List Exp) : sumC (x :: l) = x.cnt + sumC l := by simp only [sumC, List.map_cons, List.sum_cons]
theorem xOs (c s : Nat) {l : Int} (h : 0 ≤ l) : left (c + s) l = if left c l < 0 then left c l else left s (left c l) := by
 by_cases c1 : (c : Int) ≤ l
 · rw [xK7 c1, if_neg (by omega)]
   by_cases c2 : (s : Int) ≤ l - c
   · rw [xK7 c2, xK7 (by omega)]; omega
   · rw [xJY c2, xJY (by omega)]
 · rw [xJY c1, if_pos (by omega), xJY (by omega)]
theorem xQa {K : Nat} (hK : K ≤ 1048576) : ∀ e : Exp, e.Fit K → e.cnt ≤ 2000000 → Big2 fun N d => xDF N d e = some (e.cnt : Int) ∧ ∀ l : Int, 0 ≤ l → l ≤ 1000 → xEg N d e l = some (left e.cnt l) := by
 refine Exp.ind fun k n t a ih h hc => ?_
 obtain ⟨h1, h2, h3, h4⟩ := Exp.fit_iff.1 h
 rw [Exp.cnt_eq] at hc
 have hc : 1 + sumC a ≤ 2000000 := hc
 have hmem : ∀ x ∈ a, x.cnt ≤ sumC a := fun x hx => xNJ (f := Exp.cnt) hx
 refine Big2.succ ?_
 refine ((Big2.list fun x hx => ih x hx (h4.2 x hx) (by have := hmem x hx; omega)).and (xLL (K + 30)).two).imp fun N d ⟨hx, hn⟩ => ?_
 have hl : a.length ≤ K := h4.1
 rw [Exp.cnt_eq]
 refine ⟨?_, fun l hl0 hl1 => ?_⟩
 · have := xFL (L := fun m i s => xDp N (xDF N d) m s a a.length i) a (fun l s => s + (sumC l : Int)) (fun i s => 0 ≤ s ∧ s + (sumC (a.drop i) : Int) ≤ 2000000) (fun m s _ => by simp [xDp, sumC])
    (fun i x l s hd hi hxi hs => by
      have hi' : (i : Int) < (a.length : Int) := by omega
      have hm := List.mem_of_getElem? hxi
      rw [hd, xJa] at hs
      have hw : IntKind.i64.wrap (s + (x.cnt : Int)) = s + (x.cnt : Int) := xCa (by omega) (by omega)
      refine .inl ⟨s + (x.cnt : Int), ⟨by omega, by rw [(xDk hd).2.2]; omega⟩, by rw [xJa]; omega, fun m => ?_⟩
      simp only [xDp, decide_eq_true hi', jT, Int.toNat_natCast, xCl hxi, (hx x hm).1, jS, hw, xBL hi (by omega : a.length ≤ _)]
      rw [if_pos (by omega)]) N 0 1 ⟨by omega, by rw [List.drop_zero]; omega⟩ (by omega) (by omega)
   rw [List.drop_zero] at this
   show xDp N (xDF N d) N 1 a a.length 0 = some ((1 + sumC a : Nat) : Int)
   rw [show ((1 + sumC a : Nat) : Int) = 1 + (sumC a : Int) from by omega]
   exact this
 · have := xFL (L := fun m i s => xDC N (xEg N d) m s i (.mk k n t a)) a (fun l s => if s < 0 then s else left (sumC l) s) (fun i s => -1 ≤ s ∧ s ≤ 1000) (fun m s hs => by
    simp only [xDC, ea, Int.lt_irrefl, decide_false, jF, sumC, List.map_nil, List.sum_nil]
    split
    · rfl
    · rw [xK7 (by omega)]; simp)
    (fun i x l s hd hi hxi hs => by
      have hi' : (i : Int) < ((Exp.mk k n t a).args.length : Int) := by show (i : Int) < (a.length : Int); omega
      have hi2 : (0 : Int) ≤ (i : Int) ∧ (i : Int) < ((Exp.mk k n t a).args.length : Int) := ⟨by omega, hi'⟩
      have hm := List.mem_of_getElem? hxi
      have hxi2 : (Exp.mk k n t a).args[i]? = some x := hxi
      by_cases hneg : s < 0
      · refine .inr fun m => ?_
        have h2 : ¬ s ≥ 0 := by omega
        simp only [xDC, decide_eq_true hi', jT, decide_eq_false h2, jF, if_pos hneg]
      · have h2 : s ≥ 0 := by omega
        refine .inl ⟨left x.cnt s, ?_, ?_, fun m => ?_⟩
        · unfold left; split <;> omega
        · rw [if_neg hneg, xJa, xOs _ _ (by omega)]
        · simp only [xDC, decide_eq_true hi', jT, decide_eq_true h2, if_pos hi2, Int.toNat_natCast, xCl hxi2, (hx x hm).2 s (by omega) (by omega), jS, xBL hi (by omega : a.length ≤ _)]) N 0 (l - 1) ⟨by omega, by omega⟩ (by omega) (by omega)
   rw [List.drop_zero] at this
   show xDC N (xEg N d) N (IntKind.i64.wrap (l - 1)) 0 (.mk k n t a) = some (left (1 + sumC a) l)
   rw [xCa (by omega) (by omega)]
   refine Eq.trans this ?_
   unfold left
   by_cases c0 : l - 1 < 0
   · rw [if_pos c0, if_neg (by omega)]; congr 1; omega
   · rw [if_neg c0]
     by_cases c2 : (sumC a : Int) ≤ l - 1
     · rw [if_pos c2, if_pos (by omega)]; congr 1; omega
     · rw [if_neg c2, if_neg (by omega)]
theorem xNg {x : Exp} : ∀ {a : List Exp}, x ∈ a → x.nest ≤ Exp.nests a
 | y :: l, h => by
   rcases List.mem_cons.1 h with rfl | h
   · simp only [Exp.nests]; omega
   · have := xNg h; simp only [Exp.nests]; omega
theorem maxI (a b : Nat) : (if (a : Int) > (b : Int) then (a : Int) else (b : Int)) = ((max b a : Nat) : Int) := by
 split <;> omega
theorem nest_eq {K : Nat} (hK : K ≤ 1048576) : ∀ e : Exp, e.Fit K → e.nest ≤ 2000000 → Big2 fun N d => xEi N d e = some (e.nest : Int) ∧ xEo N d e = some (e.nest : Int) := by
 refine Exp.ind fun k n t a ih h hc => ?_
 obtain ⟨h1, h2, h3, h4⟩ := Exp.fit_iff.1 h
 rw [Exp.nest_eq] at hc
 have hc : Exp.nests a + 1 ≤ 2000000 := hc
 have hmem : ∀ x ∈ a, x.nest ≤ Exp.nests a := fun x hx => xNg hx
 refine Big2.succ ?_
 refine ((Big2.list fun x hx => ih x hx (h4.2 x hx) (by have := hmem x hx; omega)).and (xLL (K + 30)).two).imp fun N d ⟨hx, hn⟩ => ?_
 have hl : a.length ≤ K := h4.1
 rw [Exp.nest_eq]
 refine ⟨?_, ?_⟩
 · have := xFL (L := fun m i (s : Nat) => xDX N (xEi N d) m (s : Int) a a.length i) a (fun l s => ((max s (Exp.nests l) + 1 : Nat) : Int)) (fun i s => s ≤ 2000000) (fun m s hs => by
    have hw : IntKind.i64.wrap ((s : Int) + 1) = ((max s 0 + 1 : Nat) : Int) := by rw [xCa (by omega) (by omega)]; omega
    simp only [xDX, Int.lt_irrefl, decide_false, jF, hw, Exp.nests])
    (fun i x l s hd hi hxi hs => by
      have hi' : (i : Int) < (a.length : Int) := by omega
      have hm := List.mem_of_getElem? hxi
      have := hmem x hm
      refine .inl ⟨max s x.nest, by omega, by simp only [Exp.nests]; omega, fun m => ?_⟩
      simp only [xDX, decide_eq_true hi', jT, Int.toNat_natCast, xCl hxi, (hx x hm).1, jS, maxI, xBL hi (by omega : a.length ≤ _)]
      rw [if_pos (by omega)]) N 0 0 (by omega) (by omega) (by omega)
   rw [List.drop_zero] at this
   refine Eq.trans this ?_
   simp; rfl
 · have := xFL (L := fun m i (s : Nat) => xDZ N (xEo N d) m (s : Int) i (.mk k n t a)) a (fun l s => ((max s (Exp.nests l) + 1 : Nat) : Int)) (fun i s => s ≤ 2000000) (fun m s hs => by
    have hw : IntKind.i64.wrap ((s : Int) + 1) = ((max s 0 + 1 : Nat) : Int) := by rw [xCa (by omega) (by omega)]; omega
    simp only [xDZ, ea, Int.lt_irrefl, decide_false, jF, hw, Exp.nests])
    (fun i x l s hd hi hxi hs => by
      have hi' : (i : Int) < ((Exp.mk k n t a).args.length : Int) := by show (i : Int) < (a.length : Int); omega
      have hi2 : (0 : Int) ≤ (i : Int) ∧ (i : Int) < ((Exp.mk k n t a).args.length : Int) := ⟨by omega, hi'⟩
      have hm := List.mem_of_getElem? hxi
      have hxi2 : (Exp.mk k n t a).args[i]? = some x := hxi
      have := hmem x hm
      have hmax : xHn N (s : Int) (x.nest : Int) = some ((max s x.nest : Nat) : Int) := by
       unfold xHn
       by_cases c : (s : Int) > (x.nest : Int)
       · rw [decide_eq_true c]; show some (s : Int) = _; congr 1; omega
       · rw [decide_eq_false c]; show some (x.nest : Int) = _; congr 1; omega
      refine .inl ⟨max s x.nest, by omega, by simp only [Exp.nests]; omega, fun m => ?_⟩
      simp only [xDZ, decide_eq_true hi', jT, if_pos hi2, Int.toNat_natCast, xCl hxi2, (hx x hm).2, jS, hmax, xBL hi (by omega : a.length ≤ _)]) N 0 0 (by omega) (by omega) (by omega)
   rw [List.drop_zero] at this
   refine Eq.trans this ?_
   simp; rfl
def xFZ (e : Exp) : Bool := (decide (e.cnt ≤ 40) && decide (e.nest ≤ 8)) && okE e
theorem xKy {K : Nat} (hK : K ≤ 1048576) {e : Exp} (h : e.Fit K) (hs : e.size ≤ 1048576) : Big fun N => xCy N e = some (xFZ e) ∧ xCz N e = some (xFZ e) := by
 have h1 := Exp.cnt_le e
 have h2 := Exp.nest_le e
 refine (((xQa hK e h (by omega)).diag.and (nest_eq hK e h (by omega)).diag).and (xYo hK e h).diag).imp fun N ⟨⟨⟨c1, c2⟩, n1, n2⟩, a1, a2⟩ => ?_
 have c3 : xG1 N e = some (e.cnt : Int) := c1
 have c4 : xIc N e 40 = some (left e.cnt 40) := c2 40 (by omega) (by omega)
 have n3 : xG0 N e = some (e.nest : Int) := n1
 have n4 : xG9 N e = some (e.nest : Int) := n2
 have a3 : xHq N e = some (okE e) := a1
 have a4 : xIO N e = some (okE e) := a2
 have d1 : decide ((e.cnt : Int) ≤ 40) = decide (e.cnt ≤ 40) := decide_eq_decide.2 (by omega)
 have d2 : decide (left e.cnt 40 ≥ 0) = decide (e.cnt ≤ 40) := decide_eq_decide.2 (by unfold left; split <;> omega)
 have d3 : decide ((e.nest : Int) ≤ 8) = decide (e.nest ≤ 8) := decide_eq_decide.2 (by omega)
 refine ⟨?_, ?_⟩
 · simp only [xCy, c3, n3, a3, jS, d1, d3, xFZ]
   cases decide (e.cnt ≤ 40) <;> cases decide (e.nest ≤ 8) <;> rfl
 · simp only [xCz, c4, n4, a4, jS, d2, d3, xFZ]
   cases decide (e.cnt ≤ 40) <;> cases decide (e.nest ≤ 8) <;> rfl
theorem xGH (N : Nat) (e : Exp) : xE7 N e = some (lvl e) := by
 unfold xE7 lvl
 repeat (first | rfl | refine xDQ ?_ ?_)
theorem xHO (N : Nat) (e : Exp) : xFG N e = some (lvl e) := (xNX N e).trans (xGH N e)
theorem xTM : ∀ s : List Str, (s.getD 0 []).length + (s.getD 1 []).length + (s.getD 2 []).length ≤ (s.map List.length).sum
 | [] => by simp
 | [x] => by simp
 | [x, y] => by simp
 | x :: y :: z :: r => by simp only [List.getD_cons_zero, List.getD_cons_succ, List.map_cons, List.sum_cons]; omega
theorem xLW (n : Int) : (xO5 n).length ≤ 2 := by
 unfold xO5
 cases (n == 1) <;> cases (n == 2) <;> cases (n == 3) <;> cases (n == 4) <;> simp
theorem xJX (l : Int) (x : Exp) (s : Str) : (encl l x s).length ≤ s.length + 2 := by
 unfold encl
 cases decide (lvl x < l) <;> simp
theorem xOv {k n : Int} (hn : -9223372036854775808 ≤ n ∧ n ≤ 9223372036854775807) (t : Str) (a : List Exp) (s : List Str) : (xIZ k n t a s).length ≤ 60 + t.length + (s.map List.length).sum + 2 * s.length := by
 have h1 := xQi hn
 have h2 := xK6 s [44, 32]
 have h3 := xTM s
 have h4 := xLW n
 have h5 := xJX (bif lvl (.mk k n t a) == 1 then 2 else lvl (.mk k n t a)) (a.getD 0 Ty.exp.dflt) (s.getD 0 [])
 have h6 := xJX (lvl (.mk k n t a) + 1) (a.getD 1 Ty.exp.dflt) (s.getD 1 [])
 have h7 : ([44, 32] : Str).length = 2 := rfl
 rw [h7] at h2
 unfold xIZ
 cases (k == 1) <;> cases (k == 2) <;> cases (k == 3) <;> cases (k == 4) <;> cases (k == 5) <;> cases (k == 7) <;> cases (k == 9) <;> cases (k == 8) <;> simp only [jT, jF, jA, jC, jN] <;> omega
theorem xNK : ∀ (K : Nat) (e : Exp), e.Fit K → (srcE e).length + 4 ≤ 64 * e.cnt + e.size := by
 intro K
 refine Exp.ind fun k n t a ih h => ?_
 obtain ⟨h1, h2, h3, h4⟩ := Exp.fit_iff.1 h
 have h5 : (a.map fun x => (srcE x).length).sum + 4 * a.length ≤ 64 * sumC a + (a.map Exp.size).sum := by
  have h6 := fun x hx => ih x hx (h4.2 x hx)
  clear ih h h1 h2 h3 h4
  induction a with
  | nil => exact Nat.le_refl _
  | cons x l ih2 =>
    have g1 := h6 x List.mem_cons_self
    have g2 := ih2 fun y hy => h6 y (List.mem_cons_of_mem _ hy)
    simp only [List.map_cons, List.sum_cons, xJa, jC]; omega
 have h6 := xOv (k := k) (n := n) h2 t a (a.map srcE)
 rw [xPV, Exp.cnt_eq, Exp.size_eq]
 rw [List.map_map, List.length_map] at h6
 have e1 : (List.length ∘ srcE) = fun x => (srcE x).length := rfl
 rw [e1] at h6
 show _ ≤ 64 * (1 + sumC a) + (t.length + (a.length + (a.map Exp.size).sum))
 omega
theorem xOp {N d : Nat} {x : Exp} {s : Str} (h : (xAh N d).c_impl_source x = some s) (hs : s.length ≤ 1000000000) (l : Int) : (xAh N (d + 1)).c_impl_enclosed x l = some (encl l x s) := by
 show xEl N (xAh N d).c_impl_enclosed (xAh N d).c_impl_source (xAh N d).c_impl_sources x l = _
 simp only [xEl, h, jS, xHO, encl]
 cases decide (lvl x < l)
 · rfl
 · simp only [jT]
   rw [if_pos (by simp only [jC, jN]; unfold Lim; omega), if_pos (by simp only [jA, jC, jN]; unfold Lim; omega)]
theorem xPS {N d : Nat} {x : Exp} {s : Str} (h : (xAr N d).c_spec_l12Text x = some s) (hs : s.length ≤ 1000000000) (l : Int) : (xAr N (d + 1)).c_spec_l12At x l = some (encl l x s) := by
 show xFb N (xAr N d).c_spec_l12At (xAr N d).c_spec_l12List (xAr N d).c_spec_l12Text x l = _
 simp only [xFb, h, jS, xGH, encl]
 cases decide (lvl x < l)
 · rfl
 · simp only [jT]
   rw [if_pos (by simp only [jC, jN]; unfold Lim; omega), if_pos (by simp only [jA, jC, jN]; unfold Lim; omega)]
theorem xOq {N d : Nat} {a : List Exp} (h : ∀ x ∈ a, (xAh N d).c_impl_source x = some (srcE x)) (hl : a.length ≤ 1048576) (hN : 1048576 < N) (hs : ((a.map srcE).map List.length).sum ≤ 1000000000) :
 (xAh N (d + 1)).c_impl_sources a = some (Lib.join (a.map srcE) [44, 32]) := by
 show xD3 N (xAh N d).c_impl_enclosed (xAh N d).c_impl_source (xAh N d).c_impl_sources N [] a a.length 0 = _
 refine xFL (L := fun m i q => xD3 N (xAh N d).c_impl_enclosed (xAh N d).c_impl_source (xAh N d).c_impl_sources m q a a.length i) a (fun l q => Lib.join (q ++ l.map srcE) [44, 32]) (fun i q => q = (a.take i).map srcE) (fun m q hq => ?_)
  (fun i x l q hd hi hxi hq => ?_) N 0 [] rfl (by omega) (by omega)
 · have hq : q = a.map srcE := by rw [List.take_length] at hq; exact hq
   subst hq
   have e : ([44, 32] : Str).length = 2 := rfl
   simp only [xD3, Int.lt_irrefl, decide_false, jF, xLN (N := N) (xs := a.map srcE) (sep := [44, 32]) (by rw [List.length_map]; omega) (by rw [List.length_map, e]; omega), jS, List.map_nil, List.append_nil]
 · have hi' : (i : Int) < (a.length : Int) := by omega
   refine .inl ⟨q ++ [srcE x], by rw [hq, List.take_add_one, hxi]; simp, by simp, fun m => ?_⟩
   have hql : q.length ≤ 1048576 := by rw [hq, List.length_map, List.length_take]; omega
   simp only [xD3, decide_eq_true hi', jT, Int.toNat_natCast, xCl hxi, h x (List.mem_of_getElem? hxi), jS, xBL hi (by omega : a.length ≤ _)]
   rw [if_pos (by omega), if_pos (by simp only [jC, jN]; unfold Lim; omega)]
theorem xPT {N d : Nat} {a : List Exp} (h : ∀ x ∈ a, (xAr N d).c_spec_l12Text x = some (srcE x)) (hl : a.length ≤ 1048576) (hN : 1048576 < N) (hs : ((a.map srcE).map List.length).sum ≤ 1000000000) :
 (xAr N (d + 1)).c_spec_l12List a = some (Lib.join (a.map srcE) [44, 32]) := by
 show xD8 N (xAr N d).c_spec_l12At (xAr N d).c_spec_l12List (xAr N d).c_spec_l12Text N a [] 0 = _
 refine xFL (L := fun m i q => xD8 N (xAr N d).c_spec_l12At (xAr N d).c_spec_l12List (xAr N d).c_spec_l12Text m a q i) a (fun l q => Lib.join (q ++ l.map srcE) [44, 32]) (fun i q => q = (a.take i).map srcE) (fun m q hq => ?_)
  (fun i x l q hd hi hxi hq => ?_) N 0 [] rfl (by omega) (by omega)
 · have hq : q = a.map srcE := by rw [List.take_length] at hq; exact hq
   subst hq
   have e : ([44, 32] : Str).length = 2 := rfl
   simp only [xD8, Int.lt_irrefl, decide_false, jF, xMa (N := N) (xs := a.map srcE) (sep := [44, 32]) (by rw [List.length_map]; omega) (by rw [List.length_map, e]; omega) (by rw [List.length_map]; omega), jS, List.map_nil, List.append_nil]
 · have hi' : (i : Int) < (a.length : Int) := by omega
   refine .inl ⟨q ++ [srcE x], by rw [hq, List.take_add_one, hxi]; simp, by simp, fun m => ?_⟩
   have hql : q.length ≤ 1048576 := by rw [hq, List.length_map, List.length_take]; omega
   simp only [xD8, decide_eq_true hi', jT, Int.toNat_natCast, xCl hxi, h x (List.mem_of_getElem? hxi), jS, xBL hi (by omega : a.length ≤ _)]
   rw [if_pos (by omega), if_pos (by simp only [jC, jN]; unfold Lim; omega)]
theorem xQn {N : Nat} {n : Int} (h1 : 1 ≤ n) (h5 : n ≤ 5) : xEk N n = some (xO5 n) ∧ xFT N n = some (xO5 n) := by
 have hw : IntKind.i64.wrap (n - 1) = n - 1 := xCa (by omega) (by omega)
 rcases (by omega : n = 1 ∨ n = 2 ∨ n = 3 ∨ n = 4 ∨ n = 5) with rfl | rfl | rfl | rfl | rfl <;> exact ⟨rfl, rfl⟩
theorem kinds {k n : Int} {t : Str} {l : Nat} (h : xLR xIj xDl argc k n t l = true) : k = 1 ∨ k = 2 ∨ k = 3 ∨ k = 4 ∨ k = 5 ∨ (k = 6 ∧ 1 ≤ n ∧ n ≤ 5 ∧ l = 2) ∨ (k = 7 ∧ l = 2) ∨ (k = 9 ∧ l = 2) ∨ (k = 8 ∧ l = 3) := by
 unfold xLR at h
 by_cases h1 : k = 1; · exact .inl h1
 by_cases h2 : k = 2; · exact .inr (.inl h2)
 by_cases h3 : k = 3; · exact .inr (.inr (.inl h3))
 by_cases h4 : k = 4; · exact .inr (.inr (.inr (.inl h4)))
 by_cases h5 : k = 5; · exact .inr (.inr (.inr (.inr (.inl h5))))
 rw [beq_eq_false_iff_ne.2 h1, beq_eq_false_iff_ne.2 h2, beq_eq_false_iff_ne.2 h3, beq_eq_false_iff_ne.2 h4, beq_eq_false_iff_ne.2 h5] at h
 simp only [jF] at h
 by_cases h6 : k = 6
 · subst h6
   simp only [beq_self_eq_true, jT, Bool.and_eq_true, decide_eq_true_eq, beq_iff_eq] at h
   exact .inr (.inr (.inr (.inr (.inr (.inl ⟨rfl, h.1.1, h.1.2, h.2.2⟩)))))
 by_cases h7 : k = 7
 · subst h7
   simp only [show ((7 : Int) == 6) = false from rfl, jF, beq_self_eq_true, jT, Bool.and_eq_true, beq_iff_eq] at h
   exact .inr (.inr (.inr (.inr (.inr (.inr (.inl ⟨rfl, h.2.2⟩))))))
 by_cases h9 : k = 9
 · subst h9
   simp only [show ((9 : Int) == 6) = false from rfl, show ((9 : Int) == 7) = false from rfl, jF, beq_self_eq_true, jT, Bool.and_eq_true, beq_iff_eq] at h
   exact .inr (.inr (.inr (.inr (.inr (.inr (.inr (.inl ⟨rfl, h.2.2⟩)))))))
 by_cases h8 : k = 8
 · subst h8
   simp only [show ((8 : Int) == 6) = false from rfl, show ((8 : Int) == 7) = false from rfl, show ((8 : Int) == 9) = false from rfl, jF, beq_self_eq_true, jT, Bool.and_eq_true, beq_iff_eq] at h
   exact .inr (.inr (.inr (.inr (.inr (.inr (.inr (.inr ⟨rfl, h.2.2⟩)))))))
 rw [beq_eq_false_iff_ne.2 h6, beq_eq_false_iff_ne.2 h7, beq_eq_false_iff_ne.2 h9, beq_eq_false_iff_ne.2 h8] at h
 cases h
theorem xP1 {α : Type} {l : List α} (h : l.length = 2) : ∃ x y, l = [x, y] := by
 match l, h with
 | [x, y], _ => exact ⟨x, y, rfl⟩
theorem xTq {α : Type} {l : List α} (h : l.length = 3) : ∃ x y z, l = [x, y, z] := by
 match l, h with
 | [x, y, z], _ => exact ⟨x, y, z, rfl⟩
theorem lvl6 {n : Int} {t : Str} {a : List Exp} (h1 : 1 ≤ n) (h5 : n ≤ 5) : 1 ≤ lvl (.mk 6 n t a) ∧ lvl (.mk 6 n t a) ≤ 3 := by
 rcases (by omega : n = 1 ∨ n = 2 ∨ n = 3 ∨ n = 4 ∨ n = 5) with rfl | rfl | rfl | rfl | rfl <;> simp [lvl, ek, en]
theorem xMe {f g h : Exp → Nat} : ∀ {a : List Exp}, (∀ x ∈ a, f x + 4 ≤ 64 * g x + h x) → (a.map f).sum ≤ 64 * (a.map g).sum + (a.map h).sum
 | [], _ => Nat.le_refl _
 | x :: l, H => by
   have g1 := H x List.mem_cons_self
   have g2 := xMe fun y hy => H y (List.mem_cons_of_mem _ hy)
   simp only [List.map_cons, List.sum_cons]; omega
theorem xYk {K : Nat} (hK : K ≤ 1048576) : ∀ e : Exp, e.Fit K → e.size ≤ 1048576 → okE e = true → Big2 fun N d => (xAh N d).c_impl_source e = some (srcE e) ∧ (xAr N d).c_spec_l12Text e = some (srcE e) := by
 refine Exp.ind fun k n t a ih h hs ho => ?_
 obtain ⟨h1, h2, h3, h4⟩ := Exp.fit_iff.1 h
 have hnn : -9223372036854775808 ≤ n ∧ n ≤ 9223372036854775807 := h2
 have ht : t.length ≤ K := h3
 have hl : a.length ≤ K := h4.1
 rw [Exp.size_eq] at hs
 have hs : t.length + (a.length + (a.map Exp.size).sum) ≤ 1048576 := hs
 rw [xTz, Bool.and_eq_true] at ho
 have hoa : ∀ x ∈ a, okE x = true := List.all_eq_true.1 ho.1
 have hsz : ∀ x ∈ a, x.size ≤ 1048576 := fun x hx => by have := xNJ (f := Exp.size) hx; omega
 have IH := fun x hx => ih x hx (h4.2 x hx) (hsz x hx) (hoa x hx)
 refine Big2.succ (Big2.succ ?_)
 refine ((Big2.list fun x hx => (IH x hx).and (IH x hx).up).and (xLL 1048576).two).imp fun N d ⟨hx, hn⟩ => ?_
 have hlen : ∀ x ∈ a, (srcE x).length ≤ 200000000 := fun x hx => by
  have e1 := xNK K x (h4.2 x hx)
  have e2 := Exp.cnt_le x
  have e3 := hsz x hx
  omega
 have hsum : ((a.map srcE).map List.length).sum ≤ 200000000 := by
  rw [List.map_map]
  have e1 := xMe (f := List.length ∘ srcE) (g := Exp.cnt) (h := Exp.size) (a := a) fun x hx => xNK K x (h4.2 x hx)
  have e2 := xM6 (f := Exp.cnt) (g := Exp.size) (a := a) fun x _ => Exp.cnt_le x
  omega
 have A1 : ∀ x ∈ a, ∀ l, (xAh N (d + 1)).c_impl_enclosed x l = some (encl l x (srcE x)) := fun x hm l => xOp (hx x hm).1.1 (by have := hlen x hm; omega) l
 have A2 : ∀ x ∈ a, ∀ l, (xAr N (d + 1)).c_spec_l12At x l = some (encl l x (srcE x)) := fun x hm l => xPS (hx x hm).1.2 (by have := hlen x hm; omega) l
 have B1 := xOq (N := N) (d := d) (a := a) (fun x hm => (hx x hm).1.1) (by omega) hn (by omega)
 have B2 := xPT (N := N) (d := d) (a := a) (fun x hm => (hx x hm).1.2) (by omega) hn (by omega)
 have hj := xK6 (a.map srcE) [44, 32]
 have h7 : ([44, 32] : Str).length = 2 := rfl
 rw [h7, List.length_map] at hj
 rw [xPV]
 show xBW N (xAh N (d + 1)).c_impl_enclosed (xAh N (d + 1)).c_impl_source (xAh N (d + 1)).c_impl_sources (.mk k n t a) = _ ∧
  xBG N (xAr N (d + 1)).c_spec_l12At (xAr N (d + 1)).c_spec_l12List (xAr N (d + 1)).c_spec_l12Text (.mk k n t a) = _
 have C1 : ∀ x ∈ a, (xAh N (d + 1)).c_impl_source x = some (srcE x) := fun x hm => (hx x hm).2.1
 have C2 : ∀ x ∈ a, (xAr N (d + 1)).c_spec_l12Text x = some (srcE x) := fun x hm => (hx x hm).2.2
 generalize (xAh N (d + 1)).c_impl_enclosed = q0 at A1 ⊢
 generalize (xAh N (d + 1)).c_impl_source = q1 at C1 ⊢
 generalize (xAh N (d + 1)).c_impl_sources = q2 at B1 ⊢
 generalize (xAr N (d + 1)).c_spec_l12At = r0 at A2 ⊢
 generalize (xAr N (d + 1)).c_spec_l12Text = r1 at C2 ⊢
 generalize (xAr N (d + 1)).c_spec_l12List = r2 at B2 ⊢
 rcases kinds ho.2 with hk | hk | hk | hk | hk | ⟨hk, hn1, hn5, hl2⟩ | ⟨hk, hl2⟩ | ⟨hk, hl2⟩ | ⟨hk, hl2⟩ <;> (have hk : k = _ := hk; subst hk)
 · exact ⟨by simp [xBW, ek, en, xJd hnn, xIZ], by simp [xBG, ek, en, xHk (by omega : 100 < N) hnn, xIZ]⟩
 · have e1 : List.length [34] + List.length t ≤ Lim := by simp only [jC, jN]; unfold Lim; omega
   have e2 : List.length (([34] : Str) ++ t) + List.length [34] ≤ Lim := by simp only [jA, jC, jN]; unfold Lim; omega
   refine ⟨?_, ?_⟩
   · simp only [xBW, ek, et, show ((2 : Int) == 1) = false from rfl, beq_self_eq_true, jT, jF, xIZ]
     repeat (first | refine Eq.trans (if_pos (by simp only [jA, jC, jN]; unfold Lim; omega)) ?_ | refine Eq.trans (if_pos (by simp only [jC, jN]; omega)) ?_)
     rfl
   · simp only [xBG, ek, et, show ((2 : Int) == 1) = false from rfl, beq_self_eq_true, jT, jF, xIZ]
     repeat (first | refine Eq.trans (if_pos (by simp only [jA, jC, jN]; unfold Lim; omega)) ?_ | refine Eq.trans (if_pos (by simp only [jC, jN]; omega)) ?_)
     rfl
 · exact ⟨rfl, rfl⟩
 · have e1 : List.length [91] + List.length (Lib.join (a.map srcE) [44, 32]) ≤ Lim := by simp only [jC, jN]; unfold Lim; omega
   have e2 : List.length (([91] : Str) ++ Lib.join (a.map srcE) [44, 32]) + List.length [93] ≤ Lim := by simp only [jA, jC, jN]; unfold Lim; omega
   refine ⟨?_, ?_⟩
   · simp only [xBW, ek, ea, show ((4 : Int) == 1) = false from rfl, show ((4 : Int) == 2) = false from rfl, show ((4 : Int) == 3) = false from rfl, beq_self_eq_true, jT, jF, xIZ, B1, jS]
     repeat (first | refine Eq.trans (if_pos (by simp only [jA, jC, jN]; unfold Lim; omega)) ?_ | refine Eq.trans (if_pos (by simp only [jC, jN]; omega)) ?_)
     rfl
   · simp only [xBG, ek, ea, show ((4 : Int) == 1) = false from rfl, show ((4 : Int) == 2) = false from rfl, show ((4 : Int) == 3) = false from rfl, beq_self_eq_true, jT, jF, xIZ, B2, jS]
     repeat (first | refine Eq.trans (if_pos (by simp only [jA, jC, jN]; unfold Lim; omega)) ?_ | refine Eq.trans (if_pos (by simp only [jC, jN]; omega)) ?_)
     rfl
 · have e0 : List.length t + List.length [40] ≤ Lim := by simp only [jC, jN]; unfold Lim; omega
   have e1 : List.length (t ++ [40]) + List.length (Lib.join (a.map srcE) [44, 32]) ≤ Lim := by simp only [jA, jC, jN]; unfold Lim; omega
   have e2 : List.length ((t ++ [40]) ++ Lib.join (a.map srcE) [44, 32]) + List.length [41] ≤ Lim := by simp only [jA, jC, jN]; unfold Lim; omega
   refine ⟨?_, ?_⟩
   · simp only [xBW, ek, ea, et, show ((5 : Int) == 1) = false from rfl, show ((5 : Int) == 2) = false from rfl, show ((5 : Int) == 3) = false from rfl, show ((5 : Int) == 4) = false from rfl, beq_self_eq_true, jT, jF, xIZ, B1, jS]
     repeat (first | refine Eq.trans (if_pos (by simp only [jA, jC, jN]; unfold Lim; omega)) ?_ | refine Eq.trans (if_pos (by simp only [jC, jN]; omega)) ?_)
     rfl
   · simp only [xBG, ek, ea, et, show ((5 : Int) == 1) = false from rfl, show ((5 : Int) == 2) = false from rfl, show ((5 : Int) == 3) = false from rfl, show ((5 : Int) == 4) = false from rfl, beq_self_eq_true, jT, jF, xIZ, B2, jS]
     repeat (first | refine Eq.trans (if_pos (by simp only [jA, jC, jN]; unfold Lim; omega)) ?_ | refine Eq.trans (if_pos (by simp only [jC, jN]; omega)) ?_)
     rfl
 · obtain ⟨x, y, rfl⟩ := xP1 hl2
   have lx := hlen x (by simp)
   have ly := hlen y (by simp)
   have cx := A1 x (by simp)
   have cy := A1 y (by simp)
   have dx := A2 x (by simp)
   have dy := A2 y (by simp)
   have gx : List.getD [x, y] (Int.toNat 0) Ty.exp.dflt = x := rfl
   have gy : List.getD [x, y] (Int.toNat 1) Ty.exp.dflt = y := rfl
   have hv := lvl6 (n := n) (t := t) (a := [x, y]) hn1 hn5
   have hw : IntKind.i64.wrap (lvl (.mk 6 n t [x, y]) + 1) = lvl (.mk 6 n t [x, y]) + 1 := xCa (by omega) (by omega)
   obtain ⟨o1, o2⟩ := xQn (N := N) (n := n) hn1 hn5
   have ol := xLW n
   have kx := fun l => xJX l x (srcE x)
   have ky := fun l => xJX l y (srcE y)
   have k1 := kx 2
   have k2 := kx (lvl (.mk 6 n t [x, y]))
   have k3 := ky (lvl (.mk 6 n t [x, y]) + 1)
   refine ⟨?_, ?_⟩
   · cases hb : (lvl (.mk 6 n t [x, y]) == 1)
     all_goals
      simp only [xBW, ek, en, et, ea, show ((6 : Int) == 1) = false from rfl, show ((6 : Int) == 2) = false from rfl, show ((6 : Int) == 3) = false from rfl, show ((6 : Int) == 4) = false from rfl, show ((6 : Int) == 5) = false from rfl, show ((6 : Int) == 7) = false from rfl, show ((6 : Int) == 8) = false from rfl, show ((6 : Int) == 9) = false from rfl, jT, jF, xHO, jS, hb, gx, gy, cx, cy, hw, o1]
      repeat (first | refine Eq.trans (if_pos (by simp only [jA, jC, jN]; unfold Lim; omega)) ?_ | rw [o1, jS] | refine Eq.trans (if_pos (by simp only [jC, jN]; omega)) ?_)
      simp only [xIZ, show ((6 : Int) == 1) = false from rfl, show ((6 : Int) == 2) = false from rfl, show ((6 : Int) == 3) = false from rfl, show ((6 : Int) == 4) = false from rfl, show ((6 : Int) == 5) = false from rfl, show ((6 : Int) == 7) = false from rfl, show ((6 : Int) == 8) = false from rfl, show ((6 : Int) == 9) = false from rfl, jT, jF, hb]
      rfl
   · cases hb : (lvl (.mk 6 n t [x, y]) == 1)
     all_goals
      simp only [xBG, ek, en, et, ea, show ((6 : Int) == 1) = false from rfl, show ((6 : Int) == 2) = false from rfl, show ((6 : Int) == 3) = false from rfl, show ((6 : Int) == 4) = false from rfl, show ((6 : Int) == 5) = false from rfl, show ((6 : Int) == 7) = false from rfl, show ((6 : Int) == 8) = false from rfl, show ((6 : Int) == 9) = false from rfl, jT, jF, xGH, jS, hb, gx, gy, dx, dy, hw, o2]
      repeat (first | refine Eq.trans (if_pos (by simp only [jA, jC, jN]; unfold Lim; omega)) ?_ | rw [o2, jS] | refine Eq.trans (if_pos (by simp only [jC, jN]; omega)) ?_)
      simp only [xIZ, show ((6 : Int) == 1) = false from rfl, show ((6 : Int) == 2) = false from rfl, show ((6 : Int) == 3) = false from rfl, show ((6 : Int) == 4) = false from rfl, show ((6 : Int) == 5) = false from rfl, show ((6 : Int) == 7) = false from rfl, show ((6 : Int) == 8) = false from rfl, show ((6 : Int) == 9) = false from rfl, jT, jF, hb]
      rfl
 · obtain ⟨x, y, rfl⟩ := xP1 hl2
   have lx := hlen x (by simp)
   have cx := C1 x (by simp)
   have dx := C2 x (by simp)
   have gx : List.getD [x, y] (Int.toNat 0) Ty.exp.dflt = x := rfl
   have ly := hlen y (by simp)
   have cy := C1 y (by simp)
   have dy := C2 y (by simp)
   have gy : List.getD [x, y] (Int.toNat 1) Ty.exp.dflt = y := rfl
   refine ⟨?_, ?_⟩
   · simp only [xBW, ek, en, et, ea, show ((7 : Int) == 1) = false from rfl, show ((7 : Int) == 2) = false from rfl, show ((7 : Int) == 3) = false from rfl, show ((7 : Int) == 4) = false from rfl, show ((7 : Int) == 5) = false from rfl, show ((7 : Int) == 6) = false from rfl, beq_self_eq_true, jT, jF, gx, gy, cx, cy, jS]
     repeat (first | refine Eq.trans (if_pos (by simp only [jA, jC, jN]; unfold Lim; omega)) ?_ | refine Eq.trans (if_pos (by simp only [jC, jN]; omega)) ?_)
     rfl
   · simp only [xBG, ek, en, et, ea, show ((7 : Int) == 1) = false from rfl, show ((7 : Int) == 2) = false from rfl, show ((7 : Int) == 3) = false from rfl, show ((7 : Int) == 4) = false from rfl, show ((7 : Int) == 5) = false from rfl, show ((7 : Int) == 6) = false from rfl, beq_self_eq_true, jT, jF, gx, gy, dx, dy, jS]
     repeat (first | refine Eq.trans (if_pos (by simp only [jA, jC, jN]; unfold Lim; omega)) ?_ | refine Eq.trans (if_pos (by simp only [jC, jN]; omega)) ?_)
     rfl
 · obtain ⟨x, y, rfl⟩ := xP1 hl2
   have lx := hlen x (by simp)
   have cx := C1 x (by simp)
   have dx := C2 x (by simp)
   have gx : List.getD [x, y] (Int.toNat 0) Ty.exp.dflt = x := rfl
   have ly := hlen y (by simp)
   have cy := C1 y (by simp)
   have dy := C2 y (by simp)
   have gy : List.getD [x, y] (Int.toNat 1) Ty.exp.dflt = y := rfl
   refine ⟨?_, ?_⟩
   · simp only [xBW, ek, en, et, ea, show ((9 : Int) == 1) = false from rfl, show ((9 : Int) == 2) = false from rfl, show ((9 : Int) == 3) = false from rfl, show ((9 : Int) == 4) = false from rfl, show ((9 : Int) == 5) = false from rfl, show ((9 : Int) == 7) = false from rfl, show ((9 : Int) == 8) = false from rfl, beq_self_eq_true, jT, jF, gx, gy, cx, cy, jS]
     repeat (first | refine Eq.trans (if_pos (by simp only [jA, jC, jN]; unfold Lim; omega)) ?_ | refine Eq.trans (if_pos (by simp only [jC, jN]; omega)) ?_)
     rfl
   · simp only [xBG, ek, en, et, ea, show ((9 : Int) == 1) = false from rfl, show ((9 : Int) == 2) = false from rfl, show ((9 : Int) == 3) = false from rfl, show ((9 : Int) == 4) = false from rfl, show ((9 : Int) == 5) = false from rfl, show ((9 : Int) == 7) = false from rfl, show ((9 : Int) == 8) = false from rfl, beq_self_eq_true, jT, jF, gx, gy, dx, dy, jS]
     repeat (first | refine Eq.trans (if_pos (by simp only [jA, jC, jN]; unfold Lim; omega)) ?_ | refine Eq.trans (if_pos (by simp only [jC, jN]; omega)) ?_)
     rfl
 · obtain ⟨x, y, z, rfl⟩ := xTq hl2
   have lx := hlen x (by simp)
   have cx := C1 x (by simp)
   have dx := C2 x (by simp)
   have gx : List.getD [x, y, z] (Int.toNat 0) Ty.exp.dflt = x := rfl
   have ly := hlen y (by simp)
   have cy := C1 y (by simp)
   have dy := C2 y (by simp)
   have gy : List.getD [x, y, z] (Int.toNat 1) Ty.exp.dflt = y := rfl
   have lz := hlen z (by simp)
   have cz := C1 z (by simp)
   have dz := C2 z (by simp)
   have gz : List.getD [x, y, z] (Int.toNat 2) Ty.exp.dflt = z := rfl
   refine ⟨?_, ?_⟩
   · simp only [xBW, ek, en, et, ea, show ((8 : Int) == 1) = false from rfl, show ((8 : Int) == 2) = false from rfl, show ((8 : Int) == 3) = false from rfl, show ((8 : Int) == 4) = false from rfl, show ((8 : Int) == 5) = false from rfl, show ((8 : Int) == 7) = false from rfl, show ((8 : Int) == 9) = false from rfl, beq_self_eq_true, jT, jF, gx, gy, gz, cx, cy, cz, jS]
     repeat (first | refine Eq.trans (if_pos (by simp only [jA, jC, jN]; unfold Lim; omega)) ?_ | refine Eq.trans (if_pos (by simp only [jC, jN]; omega)) ?_)
     rfl
   · simp only [xBG, ek, en, et, ea, show ((8 : Int) == 1) = false from rfl, show ((8 : Int) == 2) = false from rfl, show ((8 : Int) == 3) = false from rfl, show ((8 : Int) == 4) = false from rfl, show ((8 : Int) == 5) = false from rfl, show ((8 : Int) == 7) = false from rfl, show ((8 : Int) == 9) = false from rfl, beq_self_eq_true, jT, jF, gx, gy, gz, dx, dy, dz, jS]
     repeat (first | refine Eq.trans (if_pos (by simp only [jA, jC, jN]; unfold Lim; omega)) ?_ | refine Eq.trans (if_pos (by simp only [jC, jN]; omega)) ?_)
     rfl
end Go.Ab
end
section
namespace Go.Ab
def fmtE (e : Exp) : Str := bif !xFZ e then [] else srcE e
theorem xOn {K : Nat} (hK : K ≤ 1048576) {e : Exp} (h : e.Fit K) (hs : e.size ≤ 1048576) : Big fun N => xEy N e = some (fmtE e) ∧ xEC N e = some (fmtE e) := by
 cases hv : xFZ e
 · refine (xKy hK h hs).imp fun N ⟨h1, h2⟩ => ?_
   simp only [xEy, xEC, h1, h2, hv, jS, Bool.not_false, jT, fmtE]
   exact ⟨trivial, trivial⟩
 · have ho : okE e = true := by
    unfold xFZ at hv
    simp only [Bool.and_eq_true] at hv
    exact hv.2
   refine ((xKy hK h hs).and (xYk hK e h hs ho).diag).imp fun N ⟨⟨h1, h2⟩, s1, s2⟩ => ?_
   have s3 : xID N e = some (srcE e) := s1
   have s4 : xIf N e = some (srcE e) := s2
   simp only [xEy, xEC, h1, h2, hv, jS, Bool.not_true, jF, fmtE, s3, s4]
   exact ⟨trivial, trivial⟩
end Go.Ab
end
section
namespace Go.Ab
inductive PR (α : Type) where
 | ok (a : α) (r : List Tok)
 | err (r : List Tok)
def PR.bind {α β : Type} : PR α → (α → List Tok → PR β) → PR β
 | .ok a r, k => k a r
 | .err r, _ => .err r
theorem PR.bind_ok {α β : Type} {R : PR α} {k : α → List Tok → PR β} {b : β} {r : List Tok} (h : R.bind k = .ok b r) : ∃ a q, R = .ok a q ∧ k a q = .ok b r := by
 cases R with
 | ok a q => exact ⟨a, q, rfl, h⟩
 | err q => cases h
def isK (t : Tok) (s : Str) : Bool := bif t.kind == 1 then t.text == s else false
def isS (t : Tok) (s : Str) : Bool := bif t.kind == 4 then t.text == s else false
def seeK (s : Str) : List Tok → Bool
 | [] => false
 | t :: _ => isK t s
def seeS (s : Str) : List Tok → Bool
 | [] => false
 | t :: _ => isS t s
def xFJ (s : Str) : List Tok → PR Unit
 | [] => .err []
 | t :: r => bif isK t s || isS t s then .ok () r else .err (t :: r)
def xLZ : List Tok → PR Str
 | [] => .err []
 | t :: r => bif t.kind == 1 then (bif xDl t.text then .ok t.text r else .err (t :: r)) else .err (t :: r)
def xJO (f : List Tok → PR Exp) (c : Str) : Nat → List Exp → List Tok → PR (List Exp)
 | 0, _, ts => .err ts
 | m + 1, acc, ts => (f ts).bind fun e r => bif seeS c r then .ok (acc ++ [e]) r.tail else (xFJ [44] r).bind fun _ q => xJO f c m (acc ++ [e]) q
def xKE (f : List Tok → PR Exp) (m : Nat) (c : Str) (ts : List Tok) : PR (List Exp) := bif seeS c ts then .ok [] ts.tail else xJO f c m [] ts
def xJM (f : List Tok → PR Exp) (m : Nat) (t : Tok) (r : List Tok) : PR Exp :=
 bif isS t [91] then (xKE f m [93] r).bind fun a q => .ok (.mk 4 0 [] a) q
 else bif isS t [40] then (f r).bind fun e q => (xFJ [41] q).bind fun _ u => .ok e u
 else .err (t :: r)
def xKk (f : List Tok → PR Exp) (m : Nat) : List Tok → PR Exp
 | [] => .err []
 | t :: r =>
   bif t.kind == 2 then .ok (.mk 1 t.n [] []) r
   else bif t.kind == 3 then .ok (.mk 2 0 t.text []) r
   else bif t.kind == 1 then
    (bif xDl t.text then .ok (.mk 3 0 t.text []) r
    else bif decide (argc t.text ≥ 0) then (xFJ [40] r).bind fun _ q => (xKE f m [41] q).bind fun a u => .ok (.mk 5 0 t.text a) u
    else xJM f m t r)
   else xJM f m t r
def xJP (g : List Tok → PR Exp) : Nat → Exp → List Tok → PR Exp
 | 0, _, ts => .err ts
 | m + 1, a, ts => bif seeS [42] ts then (g ts.tail).bind fun b r => xJP g m (.mk 6 3 [] [a, b]) r else .ok a ts
def xL1 (g : List Tok → PR Exp) (m : Nat) (ts : List Tok) : PR Exp := (g ts).bind fun a r => xJP g m a r
def xJT (g : List Tok → PR Exp) : Nat → Exp → List Tok → PR Exp
 | 0, _, ts => .err ts
 | m + 1, a, ts => bif seeS [43] ts then (g ts.tail).bind fun b r => xJT g m (.mk 6 1 [] [a, b]) r
   else bif seeS [45] ts then (g ts.tail).bind fun b r => xJT g m (.mk 6 2 [] [a, b]) r else .ok a ts
def pSum (g : List Tok → PR Exp) (m : Nat) (ts : List Tok) : PR Exp := (g ts).bind fun a r => xJT g m a r
def xPJ (g : List Tok → PR Exp) (a : Exp) (r : List Tok) : PR Exp :=
 bif seeS [60] r then (g r.tail).bind fun b q => .ok (.mk 6 4 [] [a, b]) q
 else bif seeS [61, 61] r then (g r.tail).bind fun b q => .ok (.mk 6 5 [] [a, b]) q else .ok a r
def pCmp (g : List Tok → PR Exp) (ts : List Tok) : PR Exp := (g ts).bind fun a r => xPJ g a r
def pTwo (f : List Tok → PR Exp) (k : Int) (s1 s2 : Str) (ts : List Tok) : PR Exp :=
 (xLZ ts).bind fun x q1 => (xFJ s1 q1).bind fun _ q2 => (f q2).bind fun a q3 => (xFJ s2 q3).bind fun _ q4 => (f q4).bind fun b q5 => .ok (.mk k 0 x [a, b]) q5
def pIf (f : List Tok → PR Exp) (ts : List Tok) : PR Exp :=
 (f ts).bind fun a q1 => (xFJ [116, 104, 101, 110] q1).bind fun _ q2 => (f q2).bind fun b q3 => (xFJ [101, 108, 115, 101] q3).bind fun _ q4 => (f q4).bind fun c q5 => .ok (.mk 8 0 [] [a, b, c]) q5
def xKl (f g : List Tok → PR Exp) (ts : List Tok) : PR Exp :=
 bif seeK [108, 101, 116] ts then pTwo f 7 [61] [105, 110] ts.tail
 else bif seeK [105, 102] ts then pIf f ts.tail
 else bif seeK [102, 111, 114] ts then pTwo f 9 [105, 110] [100, 111] ts.tail
 else pCmp g ts
def xPL (f : List Tok → PR Exp) (m : Nat) : List Tok → PR Exp := pSum (xL1 (xKk f m) m) m
def pE : Nat → List Tok → PR Exp
 | 0, ts => .err ts
 | m + 1, ts => xKl (pE m) (xPL (pE m) (m + 1)) ts
theorem xNF {s : Str} {ts r : List Tok} {u : Unit} (h : xFJ s ts = .ok u r) : ∃ t, ts = t :: r ∧ (isK t s || isS t s) = true := by
 cases ts with
 | nil => cases h
 | cons t q =>
   simp only [xFJ] at h
   cases hb : isK t s || isS t s <;> rw [hb] at h <;> cases h
   exact ⟨t, rfl, hb⟩
theorem xNE {ts r : List Tok} {x : Str} (h : xLZ ts = .ok x r) : ∃ t, ts = t :: r ∧ x = t.text ∧ t.kind = 1 ∧ xDl t.text = true := by
 cases ts with
 | nil => cases h
 | cons t q =>
   simp only [xLZ] at h
   cases hb : t.kind == 1 <;> rw [hb] at h
   · cases h
   · cases hv : xDl t.text <;> rw [hv] at h <;> cases h
     exact ⟨t, rfl, rfl, by simpa using hb, hv⟩
theorem xKo {s : Str} {ts : List Tok} (h : seeS s ts = true) : ∃ t, ts = t :: ts.tail ∧ isS t s = true := by
 cases ts with
 | nil => cases h
 | cons t q => exact ⟨t, rfl, h⟩
theorem xL6 {s : Str} {ts : List Tok} (h : seeK s ts = true) : ∃ t, ts = t :: ts.tail ∧ isK t s = true := by
 cases ts with
 | nil => cases h
 | cons t q => exact ⟨t, rfl, h⟩
theorem xFx {s : Str} {ts : List Tok} (h : seeS s ts = true) : ts.tail.length + 1 = ts.length := by
 obtain ⟨t, h1, _⟩ := xKo h
 rw [h1]; rfl
theorem xFw {s : Str} {ts : List Tok} (h : seeK s ts = true) : ts.tail.length + 1 = ts.length := by
 obtain ⟨t, h1, _⟩ := xL6 h
 rw [h1]; rfl
theorem xE4 {s : Str} {ts r : List Tok} {u : Unit} (h : xFJ s ts = .ok u r) : r.length + 1 = ts.length := by
 obtain ⟨t, h1, _⟩ := xNF h
 rw [h1]; rfl
theorem xL0 {ts r : List Tok} {x : Str} (h : xLZ ts = .ok x r) : r.length + 1 = ts.length := by
 obtain ⟨t, h1, _⟩ := xNE h
 rw [h1]; rfl
def tw (ts : List Tok) : Nat := (ts.map fun t => t.text.length + 3).sum
theorem xJC (t : Tok) (r : List Tok) : tw (t :: r) = t.text.length + 3 + tw r := by simp [tw]
def xTF (K : Nat) (ts : List Tok) (e : Exp) (r : List Tok) : Prop := e.size + tw r ≤ tw ts ∧ e.Fit K
def xCk (K : Nat) (f : List Tok → PR Exp) : Prop := ∀ ts e r, (∀ t ∈ ts, t.Fit K) → tw ts ≤ K → f ts = .ok e r → xTF K ts e r ∧ (∀ t ∈ r, t.Fit K) ∧ r.length < ts.length
theorem xGp {K : Nat} {k n : Int} {t : Str} {a : List Exp} (hk : I64 k) (hn : I64 n) (ht : t.length ≤ K) (ha : a.length ≤ K) (hx : ∀ x ∈ a, x.Fit K) : (Exp.mk k n t a).Fit K :=
 Exp.fit_iff.2 ⟨hk, hn, ht, ha, hx⟩
theorem xFR (k n : Int) (t : Str) (a : List Exp) : (Exp.mk k n t a).size = t.length + (a.length + (a.map Exp.size).sum) := Exp.size_eq _
theorem xDO {x : Int} (h : 0 ≤ x ∧ x ≤ 1000) : I64 x := by unfold I64; omega
theorem xHB {K : Nat} {s : Str} {ts r : List Tok} {u : Unit} (hf : ∀ t ∈ ts, t.Fit K) (h : xFJ s ts = .ok u r) : (∀ t ∈ r, t.Fit K) ∧ tw r + 3 ≤ tw ts ∧ r.length < ts.length := by
 obtain ⟨t, rfl, _⟩ := xNF h
 exact ⟨fun x hx => hf x (List.mem_cons_of_mem _ hx), by rw [xJC]; omega, by simp⟩
theorem xPZ {K : Nat} {ts : List Tok} (hf : ∀ t ∈ ts, t.Fit K) (h : (∃ t, ts = t :: ts.tail ∧ True)) : (∀ t ∈ ts.tail, t.Fit K) ∧ tw ts.tail + 3 ≤ tw ts ∧ ts.tail.length < ts.length := by
 obtain ⟨t, h1, _⟩ := h
 generalize ts.tail = q at h1
 subst h1
 exact ⟨fun x hx => hf x (List.mem_cons_of_mem _ hx), by rw [xJC]; omega, by simp⟩
theorem xIM {K : Nat} {s : Str} {ts : List Tok} (hf : ∀ t ∈ ts, t.Fit K) (h : seeS s ts = true) : (∀ t ∈ ts.tail, t.Fit K) ∧ tw ts.tail + 3 ≤ tw ts ∧ ts.tail.length < ts.length := by
 obtain ⟨t, h1, _⟩ := xKo h
 exact xPZ hf ⟨t, h1, trivial⟩
theorem xM2 {K : Nat} {s : Str} {ts : List Tok} (hf : ∀ t ∈ ts, t.Fit K) (h : seeK s ts = true) : (∀ t ∈ ts.tail, t.Fit K) ∧ tw ts.tail + 3 ≤ tw ts ∧ ts.tail.length < ts.length := by
 obtain ⟨t, h1, _⟩ := xL6 h
 exact xPZ hf ⟨t, h1, trivial⟩
theorem xL9 (a b : List Exp) : ((a ++ b).map Exp.size).sum = (a.map Exp.size).sum + (b.map Exp.size).sum := by simp
theorem xLY {K : Nat} {f : List Tok → PR Exp} (hf : xCk K f) (c : Str) : ∀ (m : Nat) (acc : List Exp) (ts : List Tok) (a : List Exp) (r : List Tok), (∀ t ∈ ts, t.Fit K) → tw ts ≤ K → (∀ x ∈ acc, x.Fit K) → xJO f c m acc ts = .ok a r →
 (a.length + (a.map Exp.size).sum + tw r ≤ acc.length + (acc.map Exp.size).sum + tw ts) ∧ (∀ x ∈ a, x.Fit K) ∧ (∀ t ∈ r, t.Fit K) ∧ r.length < ts.length := by
 intro m
 induction m with
 | zero => intro acc ts a r _ _ _ h; cases h
 | succ m ih =>
   intro acc ts a r h1 h2 h3 h
   obtain ⟨e, q, he, h⟩ := PR.bind_ok h
   obtain ⟨⟨w1, w2⟩, g1, g2⟩ := hf ts e q h1 h2 he
   have hacc : ∀ x ∈ acc ++ [e], x.Fit K := fun x hx => by
    rcases List.mem_append.1 hx with hx | hx
    · exact h3 x hx
    · rw [List.mem_singleton.1 hx]; exact w2
   have hsz : (acc ++ [e]).length + ((acc ++ [e]).map Exp.size).sum = acc.length + (acc.map Exp.size).sum + (1 + e.size) := by
    rw [xL9, jA]; simp only [List.map_cons, List.map_nil, List.sum_cons, List.sum_nil, jC, jN]; omega
   cases hc : seeS c q <;> rw [hc] at h
   · obtain ⟨u, v, hn, h⟩ := PR.bind_ok h
     obtain ⟨n1, n2, n3⟩ := xHB g1 hn
     obtain ⟨a1, a2, a3, a4⟩ := ih (acc ++ [e]) v a r n1 (by omega) hacc h
     exact ⟨by omega, a2, a3, by omega⟩
   · cases h
     obtain ⟨n1, n2, n3⟩ := xIM g1 hc
     exact ⟨by omega, hacc, n1, by omega⟩
theorem xKm {K : Nat} {f : List Tok → PR Exp} (hf : xCk K f) {m : Nat} {c : Str} {ts r : List Tok} {a : List Exp} (h1 : ∀ t ∈ ts, t.Fit K) (h2 : tw ts ≤ K) (h : xKE f m c ts = .ok a r) :
 (a.length + (a.map Exp.size).sum + tw r ≤ tw ts) ∧ (∀ x ∈ a, x.Fit K) ∧ (∀ t ∈ r, t.Fit K) ∧ r.length < ts.length := by
 unfold xKE at h
 cases hc : seeS c ts <;> rw [hc] at h
 · have := xLY hf c m [] ts a r h1 h2 (fun x hx => by cases hx) h
   simpa using this
 · cases h
   obtain ⟨n1, n2, n3⟩ := xIM h1 hc
   exact ⟨by simp; omega, (fun x hx => by cases hx), n1, n3⟩
theorem xJN {K : Nat} {f : List Tok → PR Exp} (hf : xCk K f) {m : Nat} {t : Tok} {q r : List Tok} {e : Exp} (h1 : ∀ x ∈ t :: q, x.Fit K) (h2 : tw (t :: q) ≤ K) (h : xJM f m t q = .ok e r) :
 xTF K (t :: q) e r ∧ (∀ x ∈ r, x.Fit K) ∧ r.length < (t :: q).length := by
 have hq : ∀ x ∈ q, x.Fit K := fun x hx => h1 x (List.mem_cons_of_mem _ hx)
 have hw := xJC t q
 unfold xJM at h
 cases c1 : isS t [91] <;> rw [c1] at h
 · cases c2 : isS t [40] <;> rw [c2] at h
   · cases h
   · obtain ⟨e', u, he, h⟩ := PR.bind_ok h
     obtain ⟨_, v, hn, h⟩ := PR.bind_ok h
     cases h
     obtain ⟨⟨w1, w2⟩, g1, g2⟩ := hf q e u hq (by omega) he
     obtain ⟨n1, n2, n3⟩ := xHB g1 hn
     exact ⟨⟨by omega, w2⟩, n1, by simp only [jC]; omega⟩
 · obtain ⟨a, u, ha, h⟩ := PR.bind_ok h
   cases h
   obtain ⟨w1, w2, w3, w4⟩ := xKm hf hq (by omega) ha
   refine ⟨⟨by rw [xFR]; simp only [jN]; omega, xGp (xDO (by omega)) (xDO (by omega)) (Nat.zero_le _) (by omega) w2⟩, w3, by simp only [jC]; omega⟩
theorem xGG {K : Nat} {f : List Tok → PR Exp} (hf : xCk K f) (m : Nat) : xCk K (xKk f m) := by
 intro ts e r h1 h2 h
 cases ts with
 | nil => cases h
 | cons t q =>
   have hq : ∀ x ∈ q, x.Fit K := fun x hx => h1 x (List.mem_cons_of_mem _ hx)
   obtain ⟨ft1, ft2, ft3, ft4⟩ := h1 t List.mem_cons_self
   have ft4 : t.text.length ≤ K := ft4
   have hw := xJC t q
   have zero : ∀ x ∈ ([] : List Exp), x.Fit K := fun x hx => by cases hx
   simp only [xKk] at h
   cases c1 : t.kind == 2 <;> rw [c1] at h
   · cases c2 : t.kind == 3 <;> rw [c2] at h
     · cases c3 : t.kind == 1 <;> rw [c3] at h
       · exact xJN hf h1 h2 h
       · cases c4 : xDl t.text <;> rw [c4] at h
         · cases c5 : decide (argc t.text ≥ 0) <;> rw [c5] at h
           · exact xJN hf h1 h2 h
           · obtain ⟨_, u, hn, h⟩ := PR.bind_ok h
             obtain ⟨a, v, ha, h⟩ := PR.bind_ok h
             cases h
             obtain ⟨n1, n2, n3⟩ := xHB hq hn
             obtain ⟨w1, w2, w3, w4⟩ := xKm hf n1 (by omega) ha
             exact ⟨⟨by rw [xFR]; omega, xGp (xDO (by omega)) (xDO (by omega)) ft4 (by omega) w2⟩, w3, by simp only [jC]; omega⟩
         · cases h
           exact ⟨⟨by rw [xFR]; simp only [jN, List.map_nil, List.sum_nil]; omega, xGp (xDO (by omega)) (xDO (by omega)) ft4 (Nat.zero_le _) zero⟩, hq, by simp⟩
     · cases h
       exact ⟨⟨by rw [xFR]; simp only [jN, List.map_nil, List.sum_nil]; omega, xGp (xDO (by omega)) (xDO (by omega)) ft4 (Nat.zero_le _) zero⟩, hq, by simp⟩
   · cases h
     exact ⟨⟨by rw [xFR]; simp only [jN, List.map_nil, List.sum_nil]; omega, xGp (xDO (by omega)) ft2 (Nat.zero_le _) (Nat.zero_le _) zero⟩, hq, by simp⟩
theorem xJ8 {K : Nat} {k n : Int} {a b : Exp} {w : Nat} (hk : I64 k) (hn : I64 n) (ha : a.Fit K) (hb : b.Fit K) (h2 : 2 ≤ K) : (Exp.mk k n [] [a, b]).Fit K ∧ (Exp.mk k n [] [a, b]).size = a.size + b.size + 2 :=
 ⟨xGp hk hn (Nat.zero_le _) h2 (fun x hx => by
   simp only [List.mem_cons, List.not_mem_nil, or_false] at hx
   rcases hx with rfl | rfl <;> assumption), by rw [xFR]; simp only [jC, jN, List.map_cons, List.map_nil, List.sum_cons, List.sum_nil]; omega⟩
theorem xL2 {K : Nat} {g : List Tok → PR Exp} (hg : xCk K g) : ∀ (m : Nat) (a : Exp) (ts : List Tok) (e : Exp) (r : List Tok), (∀ t ∈ ts, t.Fit K) → tw ts ≤ K → a.Fit K → xJP g m a ts = .ok e r →
 e.size + tw r ≤ a.size + tw ts ∧ e.Fit K ∧ (∀ t ∈ r, t.Fit K) ∧ r.length ≤ ts.length := by
 intro m
 induction m with
 | zero => intro a ts e r _ _ _ h; cases h
 | succ m ih =>
   intro a ts e r h1 h2 h3 h
   unfold xJP at h
   cases c1 : seeS [42] ts <;> rw [c1] at h
   · cases h; exact ⟨Nat.le_refl _, h3, h1, Nat.le_refl _⟩
   · obtain ⟨b, q, hb, h⟩ := PR.bind_ok h
     obtain ⟨n1, n2, n3⟩ := xIM h1 c1
     obtain ⟨⟨w1, w2⟩, g1, g2⟩ := hg _ b q n1 (by omega) hb
     obtain ⟨f1, f2⟩ := xJ8 (w := 0) (k := 6) (n := 3) (xDO (by omega)) (xDO (by omega)) h3 w2 (by omega)
     obtain ⟨p1, p2, p3, p4⟩ := ih _ q e r g1 (by omega) f1 h
     exact ⟨by omega, p2, p3, by omega⟩
theorem xM0 {K : Nat} {g : List Tok → PR Exp} (hg : xCk K g) : ∀ (m : Nat) (a : Exp) (ts : List Tok) (e : Exp) (r : List Tok), (∀ t ∈ ts, t.Fit K) → tw ts ≤ K → a.Fit K → xJT g m a ts = .ok e r →
 e.size + tw r ≤ a.size + tw ts ∧ e.Fit K ∧ (∀ t ∈ r, t.Fit K) ∧ r.length ≤ ts.length := by
 intro m
 induction m with
 | zero => intro a ts e r _ _ _ h; cases h
 | succ m ih =>
   intro a ts e r h1 h2 h3 h
   have one : ∀ (n : Int), I64 n → (∀ t ∈ ts.tail, t.Fit K) ∧ tw ts.tail + 3 ≤ tw ts ∧ ts.tail.length < ts.length → ((g ts.tail).bind fun b r => xJT g m (.mk 6 n [] [a, b]) r) = .ok e r →
    e.size + tw r ≤ a.size + tw ts ∧ e.Fit K ∧ (∀ t ∈ r, t.Fit K) ∧ r.length ≤ ts.length := by
    rintro n hn ⟨n1, n2, n3⟩ h
    obtain ⟨b, q, hb, h⟩ := PR.bind_ok h
    obtain ⟨⟨w1, w2⟩, g1, g2⟩ := hg _ b q n1 (by omega) hb
    obtain ⟨f1, f2⟩ := xJ8 (w := 0) (k := 6) (n := n) (xDO (by omega)) hn h3 w2 (by omega)
    obtain ⟨p1, p2, p3, p4⟩ := ih _ q e r g1 (by omega) f1 h
    exact ⟨by omega, p2, p3, by omega⟩
   unfold xJT at h
   cases c1 : seeS [43] ts <;> rw [c1] at h
   · cases c2 : seeS [45] ts <;> rw [c2] at h
     · cases h; exact ⟨Nat.le_refl _, h3, h1, Nat.le_refl _⟩
     · exact one 2 (xDO (by omega)) (xIM h1 c2) h
   · exact one 1 (xDO (by omega)) (xIM h1 c1) h
theorem xIK {K : Nat} {g : List Tok → PR Exp} (hg : xCk K g) (m : Nat) : xCk K (xL1 g m) := by
 intro ts e r h1 h2 h
 obtain ⟨a, q, ha, h⟩ := PR.bind_ok h
 obtain ⟨⟨w1, w2⟩, g1, g2⟩ := hg ts a q h1 h2 ha
 obtain ⟨p1, p2, p3, p4⟩ := xL2 hg m a q e r g1 (by omega) w2 h
 exact ⟨⟨by omega, p2⟩, p3, by omega⟩
theorem xN3 {K : Nat} {g : List Tok → PR Exp} (hg : xCk K g) (m : Nat) : xCk K (pSum g m) := by
 intro ts e r h1 h2 h
 obtain ⟨a, q, ha, h⟩ := PR.bind_ok h
 obtain ⟨⟨w1, w2⟩, g1, g2⟩ := hg ts a q h1 h2 ha
 obtain ⟨p1, p2, p3, p4⟩ := xM0 hg m a q e r g1 (by omega) w2 h
 exact ⟨⟨by omega, p2⟩, p3, by omega⟩
theorem xN2 {K : Nat} {g : List Tok → PR Exp} (hg : xCk K g) : xCk K (pCmp g) := by
 intro ts e r h1 h2 h
 obtain ⟨a, q, ha, h⟩ := PR.bind_ok h
 obtain ⟨⟨w1, w2⟩, g1, g2⟩ := hg ts a q h1 h2 ha
 have one : ∀ (n : Int), I64 n → (∀ t ∈ q.tail, t.Fit K) ∧ tw q.tail + 3 ≤ tw q ∧ q.tail.length < q.length → ((g q.tail).bind fun b r => PR.ok (.mk 6 n [] [a, b]) r) = .ok e r → xTF K ts e r ∧ (∀ x ∈ r, x.Fit K) ∧ r.length < ts.length := by
  rintro n hn ⟨n1, n2, n3⟩ h
  obtain ⟨b, u, hb, h⟩ := PR.bind_ok h
  cases h
  obtain ⟨⟨v1, v2⟩, l1, l2⟩ := hg _ b r n1 (by omega) hb
  obtain ⟨f1, f2⟩ := xJ8 (w := 0) (k := 6) (n := n) (xDO (by omega)) hn w2 v2 (by omega)
  exact ⟨⟨by omega, f1⟩, l1, by omega⟩
 unfold xPJ at h
 cases c1 : seeS [60] q <;> rw [c1] at h
 · cases c2 : seeS [61, 61] q <;> rw [c2] at h
   · cases h; exact ⟨⟨w1, w2⟩, g1, g2⟩
   · exact one 5 (xDO (by omega)) (xIM g1 c2) h
 · exact one 4 (xDO (by omega)) (xIM g1 c1) h
theorem xKZ {K : Nat} {f : List Tok → PR Exp} (hf : xCk K f) {k : Int} (hk : I64 k) {s1 s2 : Str} {ts r : List Tok} {e : Exp} (h1 : ∀ x ∈ ts, x.Fit K) (h2 : tw ts + 3 ≤ K) (h : pTwo f k s1 s2 ts = .ok e r) :
 e.size + tw r ≤ tw ts ∧ e.Fit K ∧ (∀ x ∈ r, x.Fit K) ∧ r.length < ts.length := by
 obtain ⟨x, q1, e1, h⟩ := PR.bind_ok h
 obtain ⟨_, q2, e2, h⟩ := PR.bind_ok h
 obtain ⟨a, q3, e3, h⟩ := PR.bind_ok h
 obtain ⟨_, q4, e4, h⟩ := PR.bind_ok h
 obtain ⟨b, q5, e5, h⟩ := PR.bind_ok h
 cases h
 obtain ⟨t, rfl, rfl, _, _⟩ := xNE e1
 have hq : ∀ x ∈ q1, x.Fit K := fun x hx => h1 x (List.mem_cons_of_mem _ hx)
 have ft4 : t.text.length ≤ K := (h1 t List.mem_cons_self).2.2.2
 have hw := xJC t q1
 obtain ⟨n1, n2, n3⟩ := xHB hq e2
 obtain ⟨⟨w1, w2⟩, g1, g2⟩ := hf _ a q3 n1 (by omega) e3
 obtain ⟨m1, m2, m3⟩ := xHB g1 e4
 obtain ⟨⟨v1, v2⟩, l1, l2⟩ := hf _ b r m1 (by omega) e5
 refine ⟨by rw [xFR]; simp only [jC, jN, List.map_cons, List.map_nil, List.sum_cons, List.sum_nil]; omega, xGp hk (xDO (by omega)) ft4 (by simp; omega) (fun x hx => ?_), l1, by simp only [jC]; omega⟩
 simp only [List.mem_cons, List.not_mem_nil, or_false] at hx
 rcases hx with rfl | rfl <;> assumption
theorem xPK {K : Nat} {f : List Tok → PR Exp} (hf : xCk K f) {ts r : List Tok} {e : Exp} (h1 : ∀ x ∈ ts, x.Fit K) (h2 : tw ts + 3 ≤ K) (h : pIf f ts = .ok e r) :
 e.size + tw r ≤ tw ts ∧ e.Fit K ∧ (∀ x ∈ r, x.Fit K) ∧ r.length < ts.length := by
 obtain ⟨a, q1, e1, h⟩ := PR.bind_ok h
 obtain ⟨_, q2, e2, h⟩ := PR.bind_ok h
 obtain ⟨b, q3, e3, h⟩ := PR.bind_ok h
 obtain ⟨_, q4, e4, h⟩ := PR.bind_ok h
 obtain ⟨c, q5, e5, h⟩ := PR.bind_ok h
 cases h
 obtain ⟨⟨w1, w2⟩, g1, g2⟩ := hf _ a q1 h1 (by omega) e1
 obtain ⟨n1, n2, n3⟩ := xHB g1 e2
 obtain ⟨⟨v1, v2⟩, l1, l2⟩ := hf _ b q3 n1 (by omega) e3
 obtain ⟨m1, m2, m3⟩ := xHB l1 e4
 obtain ⟨⟨x1, x2⟩, y1, y2⟩ := hf _ c r m1 (by omega) e5
 refine ⟨by rw [xFR]; simp only [jC, jN, List.map_cons, List.map_nil, List.sum_cons, List.sum_nil]; omega, xGp (xDO (by omega)) (xDO (by omega)) (Nat.zero_le _) (by simp; omega) (fun x hx => ?_), y1, by omega⟩
 simp only [List.mem_cons, List.not_mem_nil, or_false] at hx
 rcases hx with rfl | rfl | rfl <;> assumption
theorem xIL {K : Nat} {f : List Tok → PR Exp} (hf : xCk K f) (m : Nat) : xCk K (xPL f m) := xN3 (xIK (xGG hf m) m) m
theorem xLX {K : Nat} {f g : List Tok → PR Exp} (hf : xCk K f) (hg : xCk K g) : xCk K (xKl f g) := by
 intro ts e r h1 h2 h
 unfold xKl at h
 cases c1 : seeK [108, 101, 116] ts <;> rw [c1] at h
 · cases c2 : seeK [105, 102] ts <;> rw [c2] at h
   · cases c3 : seeK [102, 111, 114] ts <;> rw [c3] at h
     · exact xN2 hg ts e r h1 h2 h
     · obtain ⟨n1, n2, n3⟩ := xM2 h1 c3
       obtain ⟨a1, a2, a3, a4⟩ := xKZ hf (xDO (by omega)) n1 (by omega) h
       exact ⟨⟨by omega, a2⟩, a3, by omega⟩
   · obtain ⟨n1, n2, n3⟩ := xM2 h1 c2
     obtain ⟨a1, a2, a3, a4⟩ := xPK hf n1 (by omega) h
     exact ⟨⟨by omega, a2⟩, a3, by omega⟩
 · obtain ⟨n1, n2, n3⟩ := xM2 h1 c1
   obtain ⟨a1, a2, a3, a4⟩ := xKZ hf (xDO (by omega)) n1 (by omega) h
   exact ⟨⟨by omega, a2⟩, a3, by omega⟩
theorem xEM {K : Nat} : ∀ m, xCk K (pE m)
 | 0 => fun ts e r _ _ h => by cases h
 | m + 1 => xLX (xEM m) (xIL (xEM m) (m + 1))
end Go.Ab
end
section
namespace Go.Ab
def gp (T ts : List Tok) : Psr := ⟨T, ((T.length - ts.length : Nat) : Int), -1⟩
def BadP (T ts : List Tok) (p : Psr) : Prop := p.list = T ∧ p.bad = ((T.length - ts.length : Nat) : Int) ∧ ts <:+ T
def SimP {α : Type} (T : List Tok) (R : PR α) (x : Option (α × Psr)) : Prop := match R with
 | .ok a ts => ts <:+ T ∧ x = some (a, gp T ts)
 | .err ts => ∃ a p, x = some (a, p) ∧ BadP T ts p
theorem BadP.nn {T ts : List Tok} {p : Psr} (h : BadP T ts p) : 0 ≤ p.bad := by rw [h.2.1]; omega
theorem SimP.bind {α β : Type} {T : List Tok} {R : PR α} {x : Option (α × Psr)} {k : α → List Tok → PR β} {g : α × Psr → Option (β × Psr)} (h : SimP T R x)
 (hk : ∀ a ts, R = .ok a ts → ts <:+ T → SimP T (k a ts) (g (a, gp T ts))) (hb : ∀ a p, 0 ≤ p.bad → ∃ b, g (a, p) = some (b, p)) : SimP T (R.bind k) (Option.bind x g) := by
 cases R with
 | ok a ts =>
   obtain ⟨h1, h2⟩ := h
   rw [h2]
   exact hk a ts rfl h1
 | err ts =>
   obtain ⟨a, p, h1, h2⟩ := h
   obtain ⟨b, h3⟩ := hb a p h2.nn
   rw [h1]
   exact ⟨b, p, h3, h2⟩
def hdT : List Tok → Tok
 | [] => Tok.mk 0 0 0 []
 | t :: _ => t
theorem xKO (N : Nat) (t : Tok) (s : Str) : xFf N t s = some (isS t s) := by unfold xFf isS; cases t.kind == 4 <;> rfl
theorem xKN (N : Nat) (t : Tok) (s : Str) : xDS N t s = some (isK t s) := by unfold xDS isK; cases t.kind == 1 <;> rfl
theorem xYZ (s : Str) (ts : List Tok) : isK (hdT ts) s = seeK s ts := by cases ts <;> rfl
theorem xTs (s : Str) (ts : List Tok) : isS (hdT ts) s = seeS s ts := by cases ts <;> rfl
theorem xCi {T ts : List Tok} (h : ts <:+ T) : ts.tail <:+ T := (List.tail_suffix ts).trans h
theorem xGD {T ts : List Tok} (N : Nat) (h : ts <:+ T) : xBu N (gp T ts) = some (hdT ts, gp T ts) := by
 obtain ⟨pre, rfl⟩ := h
 have e : (pre ++ ts).length - ts.length = pre.length := by rw [jA]; omega
 unfold xBu
 simp only [gp, e]
 rw [show decide ((-1 : Int) < 0) = true from rfl, jT]
 cases ts with
 | nil => rw [decide_eq_false (by simp), jF]; rfl
 | cons t r =>
   rw [decide_eq_true (by simp only [jA, jC]; omega), jT, if_pos (by simp only [jA, jC]; omega)]
   simp [List.getD, hdT]
theorem xJD {T ts : List Tok} (hT : T.length ≤ 1000) (h : ts <:+ T) (hne : ts.tail.length + 1 = ts.length) : Psr.mk (gp T ts).list (IntKind.i64.wrap ((gp T ts).pos + 1)) (gp T ts).bad = gp T ts.tail := by
 have hl := h.length_le
 unfold gp
 have : IntKind.i64.wrap (((T.length - ts.length : Nat) : Int) + 1) = ((T.length - ts.tail.length : Nat) : Int) := by rw [xCa (by omega) (by omega)]; omega
 simp only [this]
theorem xGr {T ts : List Tok} {s : Str} (N : Nat) (hT : T.length ≤ 1000) (h : ts <:+ T) (hs : seeS s ts = true) : xAE N (gp T ts) s = some (true, gp T ts.tail) := by
 unfold xAE
 rw [xGD N h]
 simp only [jS, xKO, xTs, hs, jT, xJD hT h (xFx hs)]
theorem xFY {T ts : List Tok} {s : Str} (N : Nat) (h : ts <:+ T) (hs : seeS s ts = false) : xAE N (gp T ts) s = some (false, gp T ts) := by
 unfold xAE
 rw [xGD N h]
 simp only [jS, xKO, xTs, hs, jF]
theorem xK4 {T ts : List Tok} (N : Nat) (h : ts <:+ T) : ∃ p, xBU N (gp T ts) = some (.mk 0 0 [] [], p) ∧ BadP T ts p := ⟨_, rfl, rfl, rfl, h⟩
theorem xJZ {p : Psr} (N : Nat) (h : 0 ≤ p.bad) : xBu N p = some (Tok.mk 0 0 0 [], p) := by
 unfold xBu; rw [decide_eq_false (by omega), jF]
theorem xF7 {p : Psr} (N : Nat) (s : Str) (h : 0 ≤ p.bad) : xAE N p s = some (false, p) := by
 unfold xAE; rw [xJZ N h]; rfl
theorem xNd {p : Psr} (N : Nat) (h : 0 ≤ p.bad) : xBU N p = some (.mk 0 0 [] [], p) := by
 unfold xBU; rw [decide_eq_false (by omega), jF]
theorem xGS {p : Psr} (N : Nat) (s : Str) (h : 0 ≤ p.bad) : xAA N p s = some p := by
 unfold xAA; simp only [xJZ N h, jS, xKN, xKO, xNd N h]; rfl
theorem SimP.need {β : Type} {T ts : List Tok} {s : Str} {N : Nat} {k : Unit → List Tok → PR β} {g : Psr → Option (β × Psr)} (hT : T.length ≤ 1000) (h : ts <:+ T)
 (hk : ∀ r, xFJ s ts = .ok () r → r <:+ T → SimP T (k () r) (g (gp T r))) (hb : ∀ p, 0 ≤ p.bad → ∃ b, g p = some (b, p)) : SimP T ((xFJ s ts).bind k) (Option.bind (xAA N (gp T ts) s) g) := by
 have bad : isK (hdT ts) s = false → isS (hdT ts) s = false → ∀ R : PR β, R = .err ts → SimP T R (Option.bind (xAA N (gp T ts) s) g) := by
  intro h1 h2 R hR
  subst hR
  obtain ⟨p, hp1, hp2⟩ := xK4 N h
  obtain ⟨b, hb⟩ := hb p hp2.nn
  refine ⟨b, p, ?_, hp2⟩
  unfold xAA
  simp only [xGD N h, jS, xKN, xKO, h1, h2, jF, hp1, hb]
 cases ts with
 | nil => exact bad rfl rfl _ rfl
 | cons t r =>
   cases h1 : isK t s
   · cases h2 : isS t s
     · exact bad h1 h2 _ (by simp only [xFJ, h1, h2, Bool.or_false, jF, PR.bind])
     · have e : xFJ s (t :: r) = .ok () r := by simp only [xFJ, h1, h2, Bool.or_true, jT]
       rw [e]
       have := hk r e (xCi h)
       unfold xAA
       simp only [xGD N h, jS, xKN, xKO, hdT, h1, h2, jF, jT, xJD hT h rfl]
       exact this
   · have e : xFJ s (t :: r) = .ok () r := by simp only [xFJ, h1, Bool.true_or, jT]
     rw [e]
     have := hk r e (xCi h)
     unfold xAA
     simp only [xGD N h, jS, xKN, xKO, hdT, h1, jF, jT, xJD hT h rfl]
     exact this
structure TokT (K : Nat) (T : List Tok) : Prop where
 len : T.length ≤ 1000
 fit : ∀ t ∈ T, t.Fit K
 tw : tw T ≤ K
theorem xZe {T ts : List Tok} (h : ts <:+ T) : tw ts ≤ tw T := by
 obtain ⟨pre, rfl⟩ := h
 simp [tw]
theorem TokT.suf {K : Nat} {T ts : List Tok} (hT : TokT K T) (h : ts <:+ T) : (∀ t ∈ ts, t.Fit K) ∧ Ab.tw ts ≤ K := ⟨fun t ht => hT.fit t (h.subset ht), Nat.le_trans (xZe h) hT.tw⟩
theorem eat {K : Nat} {T ts r : List Tok} {f : List Tok → PR Exp} {e : Exp} (hT : TokT K T) (hf : xCk K f) (h : ts <:+ T) (he : f ts = .ok e r) : r.length < ts.length := by
 obtain ⟨h1, h2⟩ := hT.suf h
 exact (hf ts e r h1 h2 he).2.2
theorem xQl {K : Nat} {T ts : List Tok} {N : Nat} (hT : TokT K T) (hN : K < N) (hK : K ≤ 1048576) (h : ts <:+ T) : SimP T (xLZ ts) (xBV N (gp T ts)) := by
 have bad : xBV N (gp T ts) = Option.bind (xBU N (gp T ts)) (fun r2 => some ([], r2.2)) → SimP T (.err ts : PR Str) (xBV N (gp T ts)) := fun he => by
  obtain ⟨p, h1, h2⟩ := xK4 N h
  rw [he, h1]
  exact ⟨[], p, rfl, h2⟩
 cases ts with
 | nil =>
   refine bad ?_
   unfold xBV
   simp only [xGD N h, jS, hdT]; rfl
 | cons t r =>
   have hft := hT.fit t (h.subset List.mem_cons_self)
   have hlen : t.text.length ≤ K := hft.2.2.2
   have hv := xFA (N := N) (s := t.text) (by omega) (by omega)
   simp only [xLZ]
   cases h1 : t.kind == 1
   · refine bad ?_
     unfold xBV
     simp only [xGD N h, jS, hdT, bne, h1, Bool.not_false, jT]
   · cases h2 : xDl t.text
     · refine bad ?_
       unfold xBV
       simp only [xGD N h, jS, hdT, bne, h1, hv, h2, Bool.not_true, Bool.not_false, jT, jF]
     · refine ⟨xCi h, ?_⟩
       unfold xBV
       simp only [xGD N h, jS, hdT, bne, h1, hv, h2, Bool.not_true, jT, jF, xJD hT.len h rfl]
       rfl
abbrev e0 : Exp := .mk 0 0 [] []
def xGv (q : Psr → Option (Exp × Psr)) : Prop := ∀ p, 0 ≤ p.bad → q p = some (e0, p)
def xOa (q : Psr → Str → Option (List Exp × Psr)) : Prop := ∀ p s, 0 ≤ p.bad → q p s = some ([], p)
def FPs (T : List Tok) (n : Nat) (f : List Tok → PR Exp) (q : Psr → Option (Exp × Psr)) : Prop := ∀ ts, ts <:+ T → ts.length < n → SimP T (f ts) (q (gp T ts))
section
variable {K : Nat} {T : List Tok} {N : Nat} {q0 q1 : Psr → Option (Exp × Psr)} {q2 : Psr → Str → Option (List Exp × Psr)} {q3 q4 : Psr → Option (Exp × Psr)}
theorem xMj : decide ((-1 : Int) < 0) = true := rfl
theorem xOo (T ts : List Tok) : (gp T ts).bad = -1 := rfl
theorem xOu (hT : TokT K T) {n : Nat} {f : List Tok → PR Exp} (hf : xCk K f) (hq : FPs T n f q1) (hb : xGv q1) (c : Str) : ∀ (m fuel : Nat) (acc : List Exp) (ts : List Tok), ts <:+ T → ts.length < n → ts.length < m → ts.length + 1 < fuel → acc.length + ts.length ≤ 2000 →
 SimP T (xJO f c m acc ts) (xCe N q0 q1 q2 q3 q4 fuel c acc (gp T ts)) := by
 intro m
 induction m with
 | zero => intro fuel acc ts _ _ h; omega
 | succ m ih =>
   intro fuel acc ts h hn hm hfu ha
   obtain ⟨fuel, rfl⟩ : ∃ k, fuel = k + 1 := ⟨fuel - 1, by omega⟩
   simp only [xJO, xCe, xOo, xMj, jT]
   refine SimP.bind (hq ts h hn) (fun e r he hr => ?_) (fun e p hp => ?_)
   · have hl := eat hT hf h he
     simp only [Exp.re_eq]
     rw [if_pos (by simp only [jC, jN]; unfold Lim; omega)]
     cases hs : seeS c r
     · rw [xFY N hr hs, jS]
       simp only [jF]
       refine SimP.need hT.len hr (fun q hq' hqs => ?_) (fun p hp => ?_)
       · have := xE4 hq'
         exact ih fuel (acc ++ [e]) q hqs (by omega) (by omega) (by omega) (by simp only [jA, jC, jN]; omega)
       · obtain ⟨fuel, rfl⟩ : ∃ k, fuel = k + 1 := ⟨fuel - 1, by omega⟩
         exact ⟨acc ++ [e], by simp only [xCe]; rw [decide_eq_false (by omega), jF]⟩
     · rw [xGr N hT.len hr hs, jS]
       exact ⟨xCi hr, rfl⟩
   · obtain ⟨fuel, rfl⟩ : ∃ k, fuel = k + 1 := ⟨fuel - 1, by omega⟩
     simp only [Exp.re_eq]
     rw [if_pos (by simp only [jC, jN]; unfold Lim; omega), xF7 N c hp, jS]
     simp only [jF, xGS N _ hp, jS]
     exact ⟨acc ++ [e], by simp only [xCe]; rw [decide_eq_false (by omega), jF]⟩
theorem xQj (hN : 0 < N) (s : Str) {p : Psr} (h : 0 ≤ p.bad) : xCg N q0 q1 q2 q3 q4 p s = some ([], p) := by
 obtain ⟨M, rfl⟩ : ∃ k, N = k + 1 := ⟨N - 1, by omega⟩
 unfold xCg
 rw [xF7 _ s h, jS]
 simp only [jF, xCe]
 rw [decide_eq_false (by omega), jF]
theorem xQk (hT : TokT K T) (hN : 1002 < N) {n m : Nat} {f : List Tok → PR Exp} (hf : xCk K f) (hq : FPs T n f q1) (hb : xGv q1) (c : Str) {ts : List Tok} (h : ts <:+ T) (hn : ts.length < n) (hm : ts.length < m) :
 SimP T (xKE f m c ts) (xCg N q0 q1 q2 q3 q4 (gp T ts) c) := by
 have hl := h.length_le
 have := hT.len
 unfold xKE xCg
 cases hs : seeS c ts
 · rw [xFY N h hs, jS]
   simp only [jF]
   exact xOu hT hf hq hb c m N [] ts h hn hm (by omega) (by simp; omega)
 · rw [xGr N hT.len h hs, jS]
   exact ⟨xCi h, rfl⟩
def FPl (T : List Tok) (n m : Nat) (f : List Tok → PR Exp) (q : Psr → Str → Option (List Exp × Psr)) : Prop := ∀ c ts, ts <:+ T → ts.length < n → SimP T (xKE f m c ts) (q (gp T ts) c)
theorem xNa {p : Psr} (h : 0 ≤ p.bad) : xCp N q0 q1 q2 q3 q4 p = some (e0, p) := by
 unfold xCp
 simp only [xJZ N h, jS, xF7 N _ h, xNd N h]
 rfl
theorem xLK (hT : TokT K T) {n m : Nat} {f : List Tok → PR Exp} (hf : xCk K f) (hq : FPs T n f q1) (hb : xGv q1) (hl : FPl T n m f q2) (hbl : xOa q2) {t : Tok} {r : List Tok} (h : t :: r <:+ T) (hn : r.length < n) :
 SimP T (xJM f m t r) (Option.bind (xAE N (gp T (t :: r)) [91]) fun r2 =>
  bif r2.1 then (
   Option.bind (q2 r2.2 [93]) fun r3 =>
   some ((Exp.mk 4 0 [] r3.1), r3.2)
  ) else (
    Option.bind (xAE N r2.2 [40]) fun r3 =>
    bif r3.1 then (
     Option.bind (q1 r3.2) fun r4 =>
     Option.bind (xAA N r4.2 [41]) fun r5 =>
     some (r4.1, r5)
    ) else (
      Option.bind (xBU N r3.2) fun r4 =>
      some (r4.1, r4.2)
    )
  )) := by
 have hr : r <:+ T := xCi h
 unfold xJM
 cases h1 : isS t [91]
 · rw [xFY N h h1, jS]
   simp only [jF]
   cases h2 : isS t [40]
   · rw [xFY N h h2, jS]
     simp only [jF]
     obtain ⟨p, hp1, hp2⟩ := xK4 N h
     rw [hp1]
     exact ⟨_, p, rfl, hp2⟩
   · rw [xGr N hT.len h h2, jS]
     simp only [jT, List.tail_cons]
     refine SimP.bind (hq r hr hn) (fun e u he hu => ?_) (fun e p hp => ⟨e, by simp only [xGS N _ hp, jS]⟩)
     exact SimP.need hT.len hu (fun v _ hv => ⟨hv, rfl⟩) (fun p hp => ⟨e, rfl⟩)
 · rw [xGr N hT.len h h1, jS]
   simp only [jT, List.tail_cons]
   exact SimP.bind (hl [93] r hr hn) (fun a u _ hu => ⟨hu, rfl⟩) (fun a p hp => ⟨_, rfl⟩)
theorem xP9 (hT : TokT K T) (hN : K < N) (hK : K ≤ 1048576) {n m : Nat} {f : List Tok → PR Exp} (hf : xCk K f) (hq : FPs T n f q1) (hb : xGv q1) (hl : FPl T n m f q2) (hbl : xOa q2) :
 FPs T (n + 1) (xKk f m) (xCp N q0 q1 q2 q3 q4) := by
 intro ts h hn
 unfold xCp
 rw [xGD N h, jS]
 cases ts with
 | nil =>
   simp only [hdT, xFY N h (s := [91]) rfl, xFY N h (s := [40]) rfl, jS]
   obtain ⟨p, hp1, hp2⟩ := xK4 N h
   exact ⟨_, p, by rw [hp1]; rfl, hp2⟩
 | cons t r =>
   have hr : r <:+ T := xCi h
   have hn' : r.length < n := by simp only [jC] at hn; omega
   have hft := hT.fit t (h.subset List.mem_cons_self)
   have hlen : t.text.length ≤ K := hft.2.2.2
   have hv := xFA (N := N) (s := t.text) (by omega) (by omega)
   have hadv := xJD hT.len h rfl
   rw [List.tail_cons] at hadv
   simp only [xKk, hdT, hadv]
   cases h1 : t.kind == 2
   · cases h2 : t.kind == 3
     · cases h3 : t.kind == 1
       · exact xLK hT hf hq hb hl hbl h hn'
       · simp only [jT, jF, hv, jS]
         cases h4 : xDl t.text
         · simp only [jF, xF9, jS]
           cases h5 : decide (argc t.text ≥ 0)
           · exact xLK hT hf hq hb hl hbl h hn'
           · simp only [jT]
             refine SimP.need hT.len hr (fun u hu hus => ?_) (fun p hp => ⟨_, by rw [hbl p _ hp, jS]⟩)
             have := xE4 hu
             exact SimP.bind (hl [41] u hus (by omega)) (fun a v _ hv => ⟨hv, rfl⟩) (fun a p hp => ⟨_, rfl⟩)
         · exact ⟨hr, rfl⟩
     · exact ⟨hr, rfl⟩
   · exact ⟨hr, rfl⟩
theorem xPM (hT : TokT K T) {n : Nat} {g : List Tok → PR Exp} (hg : xCk K g) (hq : FPs T n g q0) (hb : xGv q0) (b2 : Exp) : ∀ (m fuel : Nat) (a : Exp) (ts : List Tok), ts <:+ T → ts.length ≤ n → ts.length < m → ts.length < fuel →
 SimP T (xJP g m a ts) (xBR N q0 q1 q2 q3 q4 fuel (gp T ts) b2 a) := by
 intro m
 induction m with
 | zero => intro fuel a ts _ _ h; omega
 | succ m ih =>
   intro fuel a ts h hn hm hfu
   obtain ⟨fuel, rfl⟩ : ∃ k, fuel = k + 1 := ⟨fuel - 1, by omega⟩
   simp only [xJP, xBR]
   cases hs : seeS [42] ts
   · rw [xFY N h hs, jS]
     exact ⟨h, rfl⟩
   · have hl := xFx hs
     rw [xGr N hT.len h hs, jS]
     simp only [jT, Exp.re_eq]
     obtain ⟨fuel, rfl⟩ : ∃ k, fuel = k + 1 := ⟨fuel - 1, by omega⟩
     refine SimP.bind (hq ts.tail (xCi h) (by omega)) (fun b r hbr hr => ?_) (fun b p hp => ⟨.mk 6 3 [] [a, b], by simp only [xBR, xF7 N _ hp, jS, jF]⟩)
     have := eat hT hg (xCi h) hbr
     exact ih (fuel + 1) _ r hr (by omega) (by omega) (by omega)
theorem xTg (hT : TokT K T) (hN : 1002 < N) {n m : Nat} {g : List Tok → PR Exp} (hg : xCk K g) (hq : FPs T n g q0) (hb : xGv q0) (hnm : n ≤ m) : FPs T n (xL1 g m) (xBY N q0 q1 q2 q3 q4) := by
 intro ts h hn
 have hl := h.length_le
 have := hT.len
 unfold xL1 xBY
 obtain ⟨M, rfl⟩ : ∃ k, N = k + 1 := ⟨N - 1, by omega⟩
 refine SimP.bind (hq ts h hn) (fun b r hbr hr => ?_) (fun b p hp => ⟨b, by simp only [xBR, xF7 _ _ hp, jS, jF]⟩)
 have := eat hT hg h hbr
 exact xPM hT hg hq hb e0 m (M + 1) b r hr (by omega) (by omega) (by omega)
theorem xNH (hN : 0 < N) (hb : xGv q0) : xGv (xBY N q0 q1 q2 q3 q4) := by
 intro p hp
 obtain ⟨M, rfl⟩ : ∃ k, N = k + 1 := ⟨N - 1, by omega⟩
 unfold xBY
 simp only [hb p hp, jS, xBR, xF7 _ _ hp, jF]
theorem xTo (hT : TokT K T) {n : Nat} {g : List Tok → PR Exp} (hg : xCk K g) (hq : FPs T n g q3) (hb : xGv q3) (b2 : Exp) : ∀ (m fuel : Nat) (a : Exp) (ts : List Tok), ts <:+ T → ts.length ≤ n → ts.length < m → ts.length < fuel →
 SimP T (xJT g m a ts) (xB0 N q0 q1 q2 q3 q4 fuel (gp T ts) b2 a) := by
 intro m
 induction m with
 | zero => intro fuel a ts _ _ h; omega
 | succ m ih =>
   intro fuel a ts h hn hm hfu
   obtain ⟨fuel, rfl⟩ : ∃ k, fuel = k + 1 := ⟨fuel - 1, by omega⟩
   have step : ∀ s k, seeS s ts = true → SimP T ((g ts.tail).bind fun b r => xJT g m (.mk 6 k [] [a, b]) r) (Option.bind (q3 (gp T ts.tail)) fun r3 => xB0 N q0 q1 q2 q3 q4 fuel r3.2 b2 (Exp.mk 6 k [] [(Exp.re a), (Exp.re r3.1)])) := by
    intro s k hs
    have hl := xFx hs
    simp only [Exp.re_eq]
    obtain ⟨fuel, rfl⟩ : ∃ k, fuel = k + 1 := ⟨fuel - 1, by omega⟩
    refine SimP.bind (hq ts.tail (xCi h) (by omega)) (fun b r hbr hr => ?_) (fun b p hp => ⟨.mk 6 k [] [a, b], by simp only [xB0]; rw [decide_eq_false (by omega), jF]⟩)
    have := eat hT hg (xCi h) hbr
    exact ih (fuel + 1) _ r hr (by omega) (by omega) (by omega)
   simp only [xJT, xB0, xOo, xMj, jT]
   cases hs : seeS [43] ts
   · rw [xFY N h hs, jS]
     simp only [Bool.not_false, jT, jF]
     cases hs2 : seeS [45] ts
     · rw [xFY N h hs2, jS]
       exact ⟨h, rfl⟩
     · rw [xGr N hT.len h hs2, jS]
       simp only [Bool.not_true, jF, jT]
       exact step _ 2 hs2
   · rw [xGr N hT.len h hs, jS]
     simp only [Bool.not_true, jF, jT]
     exact step _ 1 hs
theorem xYl (hT : TokT K T) (hN : 1002 < N) {n m : Nat} {g : List Tok → PR Exp} (hg : xCk K g) (hq : FPs T n g q3) (hb : xGv q3) (hnm : n ≤ m) : FPs T n (pSum g m) (xCI N q0 q1 q2 q3 q4) := by
 intro ts h hn
 have hl := h.length_le
 have := hT.len
 unfold pSum xCI
 obtain ⟨M, rfl⟩ : ∃ k, N = k + 1 := ⟨N - 1, by omega⟩
 refine SimP.bind (hq ts h hn) (fun b r hbr hr => ?_) (fun b p hp => ⟨b, by simp only [xB0]; rw [decide_eq_false (by omega), jF]⟩)
 have := eat hT hg h hbr
 exact xTo hT hg hq hb e0 m (M + 1) b r hr (by omega) (by omega) (by omega)
theorem xPX (hN : 0 < N) (hb : xGv q3) : xGv (xCI N q0 q1 q2 q3 q4) := by
 intro p hp
 obtain ⟨M, rfl⟩ : ∃ k, N = k + 1 := ⟨N - 1, by omega⟩
 unfold xCI
 simp only [hb p hp, jS, xB0]
 rw [decide_eq_false (by omega), jF]
theorem xTA (N : Nat) : xEk N (List.getD [4, 5] (Int.toNat 0) Ty.int.dflt) = some [60] := rfl
theorem xTB (N : Nat) : xEk N (List.getD [4, 5] (Int.toNat 1) Ty.int.dflt) = some [61, 61] := rfl
theorem xOj {p : Psr} (hp : 0 ≤ p.bad) (fuel : Nat) (a b2 : Exp) : xCH N q0 q1 q2 q3 q4 (fuel + 3) [4, 5] (List.length [4, 5] : Int) 0 p b2 a = some (a, p) := by
 have e1 : IntKind.i64.wrap (0 + 1) = 1 := rfl
 have e2 : IntKind.i64.wrap (1 + 1) = 2 := rfl
 simp only [xCH, xTA, xTB, jS, xF7 N _ hp, jF, e1, e2]
 rfl
theorem xTJ (hT : TokT K T) {n : Nat} {g : List Tok → PR Exp} (hg : xCk K g) (hq : FPs T n g q4) (hb : xGv q4) (fuel : Nat) (a b2 : Exp) {ts : List Tok} (h : ts <:+ T) (hn : ts.length ≤ n) :
 SimP T (xPJ g a ts) (xCH N q0 q1 q2 q3 q4 (fuel + 3) [4, 5] (List.length [4, 5] : Int) 0 (gp T ts) b2 a) := by
 have e1 : IntKind.i64.wrap (0 + 1) = 1 := rfl
 have e2 : IntKind.i64.wrap (1 + 1) = 2 := rfl
 have c0 : decide ((0 : Int) < (List.length [4, 5] : Int)) = true := rfl
 have c1 : decide ((1 : Int) < (List.length [4, 5] : Int)) = true := rfl
 have c2 : decide ((2 : Int) < (List.length [4, 5] : Int)) = false := rfl
 have i0 : (0 : Int) ≤ 0 ∧ (0 : Int) < (List.length [4, 5] : Int) := by decide
 have i1 : (0 : Int) ≤ 1 ∧ (1 : Int) < (List.length [4, 5] : Int) := by decide
 have step : ∀ s k, seeS s ts = true → SimP T ((g ts.tail).bind fun b r => PR.ok (.mk 6 k [] [a, b]) r) (Option.bind (q4 (gp T ts.tail)) fun r3 => some ((Exp.mk 6 k [] [(Exp.re a), (Exp.re r3.1)]), r3.2)) := by
  intro s k hs
  have hl := xFx hs
  simp only [Exp.re_eq]
  exact SimP.bind (hq ts.tail (xCi h) (by omega)) (fun b r hbr hr => ⟨hr, rfl⟩) (fun b p hp => ⟨_, rfl⟩)
 unfold xPJ
 simp only [xCH, c0, c1, c2, if_pos i0, if_pos i1, jT, jF, xTA, xTB, e1, e2, jS]
 cases hs : seeS [60] ts
 · rw [xFY N h hs, jS]
   simp only [jF]
   cases hs2 : seeS [61, 61] ts
   · rw [xFY N h hs2, jS]
     exact ⟨h, rfl⟩
   · rw [xGr N hT.len h hs2, jS]
     exact step _ 5 hs2
 · rw [xGr N hT.len h hs, jS]
   exact step _ 4 hs
theorem xQe (hN : 3 ≤ N) (hb : xGv q4) : xGv (xCq N q0 q1 q2 q3 q4) := by
 intro p hp
 obtain ⟨M, rfl⟩ : ∃ k, N = k + 3 := ⟨N - 3, by omega⟩
 unfold xCq
 simp only [xJZ _ hp, jS, xKN, hb p hp]
 exact xOj hp M e0 e0
theorem lim1 (x : Exp) : 0 + List.length [x] ≤ Lim := by simp [Lim]
theorem lim2 (x y : Exp) : List.length ([] ++ [x]) + List.length [y] ≤ Lim := by simp [Lim]
theorem lim3 (x y z : Exp) : List.length (([] ++ [x]) ++ [y]) + List.length [z] ≤ Lim := by simp [Lim]
theorem xP2 (hT : TokT K T) (hN : K < N) (hK : K ≤ 1048576) {n : Nat} {f : List Tok → PR Exp} (hf : xCk K f) (hq : FPs T n f q1) (hb : xGv q1) (k : Int) (s1 s2 : Str) {ts : List Tok} (h : ts <:+ T) (hn : ts.length < n) :
 SimP T (pTwo f k s1 s2 ts) (Option.bind (xBV N (gp T ts)) fun r3 => Option.bind (xAA N r3.2 s1) fun r4 => Option.bind (q1 r4) fun r5 =>
  if 0 + List.length [(Exp.re r5.1)] ≤ Lim then Option.bind (xAA N r5.2 s2) fun r6 => Option.bind (q1 r6) fun r7 =>
   if List.length ([] ++ [(Exp.re r5.1)]) + List.length [(Exp.re r7.1)] ≤ Lim then some ((Exp.mk k 0 r3.1 (([] ++ [(Exp.re r5.1)]) ++ [(Exp.re r7.1)])), r7.2) else none else none) := by
 simp only [if_pos (lim1 _), if_pos (lim2 _ _), Exp.re_eq]
 refine SimP.bind (xQl hT hN hK h) (fun x r1 hx hr1 => ?_) (fun x p hp => ⟨.mk k 0 x [e0, e0], by simp only [xGS N _ hp, hb p hp, jS]; rfl⟩)
 have l1 := xL0 hx
 refine SimP.need hT.len hr1 (fun r2 h2 hr2 => ?_) (fun p hp => ⟨.mk k 0 x [e0, e0], by simp only [xGS N _ hp, hb p hp, jS]; rfl⟩)
 have l2 := xE4 h2
 refine SimP.bind (hq r2 hr2 (by omega)) (fun a r3 h3 hr3 => ?_) (fun a p hp => ⟨.mk k 0 x [a, e0], by simp only [xGS N _ hp, hb p hp, jS]; rfl⟩)
 have l3 := eat hT hf hr2 h3
 refine SimP.need hT.len hr3 (fun r4 h4 hr4 => ?_) (fun p hp => ⟨.mk k 0 x [a, e0], by simp only [hb p hp, jS]; rfl⟩)
 have l4 := xE4 h4
 exact SimP.bind (hq r4 hr4 (by omega)) (fun b r5 h5 hr5 => ⟨hr5, rfl⟩) (fun b p hp => ⟨_, rfl⟩)
theorem xYY (hT : TokT K T) {n : Nat} {f : List Tok → PR Exp} (hf : xCk K f) (hq : FPs T n f q1) (hb : xGv q1) {ts : List Tok} (h : ts <:+ T) (hn : ts.length < n) :
 SimP T (pIf f ts) (Option.bind (q1 (gp T ts)) fun r5 =>
  if 0 + List.length [(Exp.re r5.1)] ≤ Lim then
  Option.bind (xAA N r5.2 [116, 104, 101, 110]) fun r6 =>
  Option.bind (q1 r6) fun r7 =>
  if List.length ([] ++ [(Exp.re r5.1)]) + List.length [(Exp.re r7.1)] ≤ Lim then
  Option.bind (xAA N r7.2 [101, 108, 115, 101]) fun r8 =>
  Option.bind (q1 r8) fun r9 =>
  if List.length (([] ++ [(Exp.re r5.1)]) ++ [(Exp.re r7.1)]) + List.length [(Exp.re r9.1)] ≤ Lim then
  some ((Exp.mk 8 0 [] ((([] ++ [(Exp.re r5.1)]) ++ [(Exp.re r7.1)]) ++ [(Exp.re r9.1)])), r9.2)
  else none
  else none
  else none) := by
 simp only [if_pos (lim1 _), if_pos (lim2 _ _), if_pos (lim3 _ _ _), Exp.re_eq]
 refine SimP.bind (hq ts h hn) (fun a r1 h1 hr1 => ?_) (fun a p hp => ⟨.mk 8 0 [] [a, e0, e0], by simp only [xGS N _ hp, hb p hp, jS]; rfl⟩)
 have l1 := eat hT hf h h1
 refine SimP.need hT.len hr1 (fun r2 h2 hr2 => ?_) (fun p hp => ⟨.mk 8 0 [] [a, e0, e0], by simp only [xGS N _ hp, hb p hp, jS]; rfl⟩)
 have l2 := xE4 h2
 refine SimP.bind (hq r2 hr2 (by omega)) (fun b r3 h3 hr3 => ?_) (fun b p hp => ⟨.mk 8 0 [] [a, b, e0], by simp only [xGS N _ hp, hb p hp, jS]; rfl⟩)
 have l3 := eat hT hf hr2 h3
 refine SimP.need hT.len hr3 (fun r4 h4 hr4 => ?_) (fun p hp => ⟨.mk 8 0 [] [a, b, e0], by simp only [hb p hp, jS]; rfl⟩)
 have l4 := xE4 h4
 exact SimP.bind (hq r4 hr4 (by omega)) (fun c r5 h5 hr5 => ⟨hr5, rfl⟩) (fun c p hp => ⟨_, rfl⟩)
theorem xOk (hT : TokT K T) (hN : K < N) (hN2 : 1002 < N) (hK : K ≤ 1048576) {n : Nat} {f g : List Tok → PR Exp} (hf : xCk K f) (hg : xCk K g) (hq : FPs T n f q1) (hb : xGv q1) (hq4 : FPs T (n + 1) g q4) (hb4 : xGv q4) :
 FPs T (n + 1) (xKl f g) (xCq N q0 q1 q2 q3 q4) := by
 intro ts h hn
 unfold xKl xCq
 simp only [xGD N h, jS, xKN, xYZ]
 cases c1 : seeK [108, 101, 116] ts
 · simp only [jF]
   cases c2 : seeK [105, 102] ts
   · simp only [jF]
     cases c3 : seeK [102, 111, 114] ts
     · simp only [jF]
       obtain ⟨M, rfl⟩ : ∃ k, N = k + 3 := ⟨N - 3, by omega⟩
       unfold pCmp
       refine SimP.bind (hq4 ts h hn) (fun a r ha hr => ?_) (fun a p hp => ⟨a, xOj hp M a e0⟩)
       have := eat hT hg h ha
       exact xTJ hT hg hq4 hb4 M a e0 hr (by omega)
     · simp only [jT, xJD hT.len h (xFw c3)]
       have := xFw c3
       exact xP2 hT hN hK hf hq hb 9 _ _ (xCi h) (by omega)
   · simp only [jT, xJD hT.len h (xFw c2)]
     have := xFw c2
     exact xYY hT hf hq hb (xCi h) (by omega)
 · simp only [jT, xJD hT.len h (xFw c1)]
   have := xFw c1
   exact xP2 hT hN hK hf hq hb 7 _ _ (xCi h) (by omega)
end
theorem xMh {N : Nat} (hN : 3 ≤ N) : ∀ d, 4 ≤ d → xGv (xAb N d).c_impl_parser_expr := by
 intro d hd
 obtain ⟨d, rfl⟩ : ∃ k, d = k + 4 := ⟨d - 4, by omega⟩
 exact xQe (q0 := (xAb N (d + 3)).c_impl_parser_atom) (q1 := (xAb N (d + 3)).c_impl_parser_expr) (q2 := (xAb N (d + 3)).c_impl_parser_list2) (q3 := (xAb N (d + 3)).c_impl_parser_product) (q4 := (xAb N (d + 3)).c_impl_parser_sum) hN (xPX (q0 := (xAb N (d + 2)).c_impl_parser_atom) (q1 := (xAb N (d + 2)).c_impl_parser_expr) (q2 := (xAb N (d + 2)).c_impl_parser_list2) (q3 := (xAb N (d + 2)).c_impl_parser_product) (q4 := (xAb N (d + 2)).c_impl_parser_sum) (by omega) (xNH (q0 := (xAb N (d + 1)).c_impl_parser_atom) (q1 := (xAb N (d + 1)).c_impl_parser_expr) (q2 := (xAb N (d + 1)).c_impl_parser_list2) (q3 := (xAb N (d + 1)).c_impl_parser_product) (q4 := (xAb N (d + 1)).c_impl_parser_sum) (by omega) fun p hp => xNa (q0 := (xAb N d).c_impl_parser_atom) (q1 := (xAb N d).c_impl_parser_expr) (q2 := (xAb N d).c_impl_parser_list2) (q3 := (xAb N d).c_impl_parser_product) (q4 := (xAb N d).c_impl_parser_sum) hp))
theorem xY8 {K : Nat} {T : List Tok} {N : Nat} (hT : TokT K T) (hN : K < N) (hN2 : 1002 < N) (hK : K ≤ 1048576) : ∀ n d, 5 * n + 9 ≤ d → FPs T n (pE n) (xAb N d).c_impl_parser_expr := by
 intro n
 induction n with
 | zero => intro d _ ts _ h; omega
 | succ n ih =>
   intro d hd
   obtain ⟨d, rfl⟩ : ∃ k, d = k + 5 := ⟨d - 5, by omega⟩
   have f1 := ih d (by omega)
   have f2 := ih (d + 1) (by omega)
   have f4 := ih (d + 4) (by omega)
   have b1 := xMh (N := N) (by omega) d (by omega)
   have b2 := xMh (N := N) (by omega) (d + 1) (by omega)
   have b4 := xMh (N := N) (by omega) (d + 4) (by omega)
   have hl : FPl T n (n + 1) (pE n) (xAb N (d + 1)).c_impl_parser_list2 := fun c ts h hn => xQk (q0 := (xAb N d).c_impl_parser_atom) (q1 := (xAb N d).c_impl_parser_expr) (q2 := (xAb N d).c_impl_parser_list2) (q3 := (xAb N d).c_impl_parser_product) (q4 := (xAb N d).c_impl_parser_sum) hT hN2 (xEM n) f1 b1 c h hn (by omega)
   have hbl : xOa (xAb N (d + 1)).c_impl_parser_list2 := fun p s hp => xQj (q0 := (xAb N d).c_impl_parser_atom) (q1 := (xAb N d).c_impl_parser_expr) (q2 := (xAb N d).c_impl_parser_list2) (q3 := (xAb N d).c_impl_parser_product) (q4 := (xAb N d).c_impl_parser_sum) (by omega) s hp
   have a : FPs T (n + 1) (xKk (pE n) (n + 1)) (xAb N (d + 2)).c_impl_parser_atom := xP9 (q0 := (xAb N (d + 1)).c_impl_parser_atom) (q1 := (xAb N (d + 1)).c_impl_parser_expr) (q2 := (xAb N (d + 1)).c_impl_parser_list2) (q3 := (xAb N (d + 1)).c_impl_parser_product) (q4 := (xAb N (d + 1)).c_impl_parser_sum) hT hN hK (xEM n) f2 b2 hl hbl
   have ba : xGv (xAb N (d + 2)).c_impl_parser_atom := fun p hp => xNa (q0 := (xAb N (d + 1)).c_impl_parser_atom) (q1 := (xAb N (d + 1)).c_impl_parser_expr) (q2 := (xAb N (d + 1)).c_impl_parser_list2) (q3 := (xAb N (d + 1)).c_impl_parser_product) (q4 := (xAb N (d + 1)).c_impl_parser_sum) hp
   have p : FPs T (n + 1) (xL1 (xKk (pE n) (n + 1)) (n + 1)) (xAb N (d + 3)).c_impl_parser_product := xTg (q0 := (xAb N (d + 2)).c_impl_parser_atom) (q1 := (xAb N (d + 2)).c_impl_parser_expr) (q2 := (xAb N (d + 2)).c_impl_parser_list2) (q3 := (xAb N (d + 2)).c_impl_parser_product) (q4 := (xAb N (d + 2)).c_impl_parser_sum) hT hN2 (xGG (xEM n) _) a ba (Nat.le_refl _)
   have bp : xGv (xAb N (d + 3)).c_impl_parser_product := xNH (q0 := (xAb N (d + 2)).c_impl_parser_atom) (q1 := (xAb N (d + 2)).c_impl_parser_expr) (q2 := (xAb N (d + 2)).c_impl_parser_list2) (q3 := (xAb N (d + 2)).c_impl_parser_product) (q4 := (xAb N (d + 2)).c_impl_parser_sum) (by omega) ba
   have s : FPs T (n + 1) (xPL (pE n) (n + 1)) (xAb N (d + 4)).c_impl_parser_sum := xYl (q0 := (xAb N (d + 3)).c_impl_parser_atom) (q1 := (xAb N (d + 3)).c_impl_parser_expr) (q2 := (xAb N (d + 3)).c_impl_parser_list2) (q3 := (xAb N (d + 3)).c_impl_parser_product) (q4 := (xAb N (d + 3)).c_impl_parser_sum) hT hN2 (xIK (xGG (xEM n) _) _) p bp (Nat.le_refl _)
   have bs : xGv (xAb N (d + 4)).c_impl_parser_sum := xPX (q0 := (xAb N (d + 3)).c_impl_parser_atom) (q1 := (xAb N (d + 3)).c_impl_parser_expr) (q2 := (xAb N (d + 3)).c_impl_parser_list2) (q3 := (xAb N (d + 3)).c_impl_parser_product) (q4 := (xAb N (d + 3)).c_impl_parser_sum) (by omega) bp
   exact xOk (q0 := (xAb N (d + 4)).c_impl_parser_atom) (q1 := (xAb N (d + 4)).c_impl_parser_expr) (q2 := (xAb N (d + 4)).c_impl_parser_list2) (q3 := (xAb N (d + 4)).c_impl_parser_product) (q4 := (xAb N (d + 4)).c_impl_parser_sum) hT hN hN2 hK (xEM n) (xIL (xEM n) _) f4 b4 s bs
end Go.Ab
end
section
namespace Go.Ab
def gr (T : List Tok) (L : Int) (ts : List Tok) : Rdr := ⟨T, ((T.length - ts.length : Nat) : Int), L, -1⟩
def offT (L : Int) : List Tok → Int
 | [] => L
 | t :: _ => t.pos
def BadR (T : List Tok) (L : Int) (ts : List Tok) (r : Rdr) : Prop := r.toks = T ∧ r.fin = L ∧ r.bad = offT L ts ∧ ts <:+ T
structure TokW (T : List Tok) (L : Int) : Prop where
 pos : ∀ t ∈ T, 0 ≤ t.pos
 fin : 0 ≤ L
 name : ∀ t ∈ T, t.kind = 1 → ∃ (c : UInt8) (l : Str), t.text = c :: l ∧ 97 ≤ c.toNat
 sym : ∀ t ∈ T, t.kind = 4 → ∃ (c : UInt8) (l : Str), t.text = c :: l ∧ c.toNat < 97
theorem BadR.nn {T ts : List Tok} {L : Int} {r : Rdr} (hW : TokW T L) (h : BadR T L ts r) : 0 ≤ r.bad := by
 rw [h.2.2.1]
 cases ts with
 | nil => exact hW.fin
 | cons t q => exact hW.pos t (h.2.2.2.subset List.mem_cons_self)
def SimR {α : Type} (T : List Tok) (L : Int) (R : PR α) (x : Option (α × Rdr)) : Prop := match R with
 | .ok a ts => ts <:+ T ∧ x = some (a, gr T L ts)
 | .err ts => ∃ a p, x = some (a, p) ∧ BadR T L ts p
theorem SimR.bind {α β : Type} {T : List Tok} {L : Int} (hW : TokW T L) {R : PR α} {x : Option (α × Rdr)} {k : α → List Tok → PR β} {g : α × Rdr → Option (β × Rdr)} (h : SimR T L R x)
 (hk : ∀ a ts, R = .ok a ts → ts <:+ T → SimR T L (k a ts) (g (a, gr T L ts))) (hb : ∀ a p, 0 ≤ p.bad → ∃ b, g (a, p) = some (b, p)) : SimR T L (R.bind k) (Option.bind x g) := by
 cases R with
 | ok a ts =>
   obtain ⟨h1, h2⟩ := h
   rw [h2]
   exact hk a ts rfl h1
 | err ts =>
   obtain ⟨a, p, h1, h2⟩ := h
   obtain ⟨b, h3⟩ := hb a p (h2.nn hW)
   rw [h1]
   exact ⟨b, p, h3, h2⟩
theorem xYf (N : Nat) (t : Tok) (s : Str) : xC6 N t s = some (isS t s) := by unfold xC6 isS; cases t.kind == 4 <;> rfl
theorem vAA (N : Nat) (t : Tok) (s : Str) : xFr N t s = some (isK t s) := by unfold xFr isK; cases t.kind == 1 <;> rfl
theorem xQg {T ts : List Tok} {L : Int} {t : Tok} {q : List Tok} (h : t :: q <:+ T) : (decide ((gr T L (t :: q)).i < (List.length (gr T L (t :: q)).toks : Int)) = true ∧ decide ((gr T L (t :: q)).i ≥ (List.length (gr T L (t :: q)).toks : Int)) = false) ∧
 ((0 : Int) ≤ (gr T L (t :: q)).i ∧ (gr T L (t :: q)).i < (List.length (gr T L (t :: q)).toks)) ∧ List.getD (gr T L (t :: q)).toks (Int.toNat (gr T L (t :: q)).i) Ty.tok.dflt = t := by
 obtain ⟨pre, rfl⟩ := h
 have e : (pre ++ t :: q).length - (t :: q).length = pre.length := by rw [jA]; omega
 have e2 : (pre ++ t :: q).length = pre.length + (q.length + 1) := by simp
 simp only [gr, e]
 refine ⟨⟨decide_eq_true (by omega), decide_eq_false (by omega)⟩, by omega, ?_⟩
 simp [List.getD]
theorem xNe (T : List Tok) (L : Int) : decide ((gr T L []).i < (List.length (gr T L []).toks : Int)) = false ∧ decide ((gr T L []).i ≥ (List.length (gr T L []).toks : Int)) = true := by
 simp only [gr, jN, Nat.sub_zero]
 exact ⟨decide_eq_false (by omega), decide_eq_true (by omega)⟩
theorem xIU (T ts : List Tok) (L : Int) : (gr T L ts).bad = -1 := rfl
theorem xM4 {T ts : List Tok} {L : Int} (N : Nat) (s : Str) (h : ts <:+ T) : xBq N (gr T L ts) s = some (seeS s ts || seeK s ts, gr T L ts) := by
 unfold xBq
 rw [xIU, xMj, jT]
 cases ts with
 | nil => rw [(xNe T L).1, jF]; rfl
 | cons t q =>
   obtain ⟨⟨a1, _⟩, a2, a3⟩ := xQg (ts := t :: q) (L := L) h
   rw [a1, jT, if_pos a2, a3, xYf, jS, vAA]
   show _ = some (isS t s || isK t s, _)
   cases isS t s <;> rfl
def SymS (s : Str) : Prop := ∃ (c : UInt8) (l : Str), s = c :: l ∧ c.toNat < 97
def KeyS (s : Str) : Prop := ∃ (c : UInt8) (l : Str), s = c :: l ∧ 97 ≤ c.toNat
theorem xM3 {T ts : List Tok} {L : Int} (hW : TokW T L) (h : ts <:+ T) {s : Str} (hs : SymS s) : seeK s ts = false := by
 cases ts with
 | nil => rfl
 | cons t q =>
   show isK t s = false
   unfold isK
   cases hk : t.kind == 1
   · rfl
   · obtain ⟨c, l, h1, h2⟩ := hW.name t (h.subset List.mem_cons_self) (by simpa using hk)
     obtain ⟨c', l', rfl, h4⟩ := hs
     rw [jT, h1, beq_eq_false_iff_ne]
     intro e
     cases e
     omega
theorem xYg {T ts : List Tok} {L : Int} (hW : TokW T L) (h : ts <:+ T) {s : Str} (hs : KeyS s) : seeS s ts = false := by
 cases ts with
 | nil => rfl
 | cons t q =>
   show isS t s = false
   unfold isS
   cases hk : t.kind == 4
   · rfl
   · obtain ⟨c, l, h1, h2⟩ := hW.sym t (h.subset List.mem_cons_self) (by simpa using hk)
     obtain ⟨c', l', rfl, h4⟩ := hs
     rw [jT, h1, beq_eq_false_iff_ne]
     intro e
     cases e
     omega
theorem xL7 {T ts : List Tok} {L : Int} (hW : TokW T L) (N : Nat) {s : Str} (hs : SymS s) (h : ts <:+ T) : xBq N (gr T L ts) s = some (seeS s ts, gr T L ts) := by
 rw [xM4 N s h, xM3 hW h hs, Bool.or_false]
theorem xYh {T ts : List Tok} {L : Int} (hW : TokW T L) (N : Nat) {s : Str} (hs : KeyS s) (h : ts <:+ T) : xBq N (gr T L ts) s = some (seeK s ts, gr T L ts) := by
 rw [xM4 N s h, xYg hW h hs, Bool.false_or]
theorem xHb {T ts : List Tok} {L : Int} (hT : T.length ≤ 1000) (h : ts <:+ T) (hne : ts.tail.length + 1 = ts.length) : Rdr.mk (gr T L ts).toks (IntKind.i64.wrap ((gr T L ts).i + 1)) (gr T L ts).fin (gr T L ts).bad = gr T L ts.tail := by
 have hl := h.length_le
 unfold gr
 have : IntKind.i64.wrap (((T.length - ts.length : Nat) : Int) + 1) = ((T.length - ts.tail.length : Nat) : Int) := by rw [xCa (by omega) (by omega)]; omega
 simp only [this]
theorem xI4 {T ts : List Tok} {L : Int} (N : Nat) (h : ts <:+ T) : ∃ p, xBK N (gr T L ts) = some (e0, p) ∧ BadR T L ts p := by
 unfold xBK
 rw [xIU, xMj, jT]
 cases ts with
 | nil =>
   rw [(xNe T L).1, jF]
   exact ⟨_, rfl, rfl, rfl, rfl, h⟩
 | cons t q =>
   obtain ⟨⟨a1, _⟩, a2, a3⟩ := xQg (ts := t :: q) (L := L) h
   rw [a1, jT, if_pos a2, a3]
   exact ⟨_, rfl, rfl, rfl, rfl, h⟩
theorem xFy {p : Rdr} (N : Nat) (s : Str) (h : 0 ≤ p.bad) : xBq N p s = some (false, p) := by
 unfold xBq; rw [decide_eq_false (by omega), jF]
theorem xL8 {p : Rdr} (N : Nat) (h : 0 ≤ p.bad) : xBK N p = some (e0, p) := by
 unfold xBK; rw [decide_eq_false (by omega), jF]
theorem xGs {p : Rdr} (N : Nat) (s : Str) (h : 0 ≤ p.bad) : xBk N p s = some p := by
 unfold xBk; simp only [xFy N s h, jS, xL8 N h]; rfl
theorem SimR.need {β : Type} {T ts : List Tok} {L : Int} (hW : TokW T L) {s : Str} {N : Nat} {k : Unit → List Tok → PR β} {g : Rdr → Option (β × Rdr)} (hT : T.length ≤ 1000) (h : ts <:+ T)
 (hk : ∀ r, xFJ s ts = .ok () r → r <:+ T → SimR T L (k () r) (g (gr T L r))) (hb : ∀ p, 0 ≤ p.bad → ∃ b, g p = some (b, p)) : SimR T L ((xFJ s ts).bind k) (Option.bind (xBk N (gr T L ts) s) g) := by
 unfold xBk
 rw [xM4 N s h, jS]
 have bad : ∀ R : PR β, R = .err ts → SimR T L R (Option.bind (Option.bind (xBK N (gr T L ts)) fun r2 => some r2.2) g) := by
  intro R hR
  subst hR
  obtain ⟨p, hp1, hp2⟩ := xI4 (L := L) N h
  obtain ⟨b, hb⟩ := hb p (hp2.nn hW)
  refine ⟨b, p, ?_, hp2⟩
  rw [hp1, jS, jS, hb]
 cases ts with
 | nil => exact bad _ rfl
 | cons t r =>
   show SimR T L _ (Option.bind (bif (!(isS t s || isK t s)) then _ else _) g)
   cases h1 : isS t s || isK t s
   · exact bad _ (by simp only [xFJ, Bool.or_comm (isK t s), h1, jF, PR.bind])
   · have e : xFJ s (t :: r) = .ok () r := by simp only [xFJ, Bool.or_comm (isK t s), h1, jT]
     rw [e]
     simp only [Bool.not_true, jF, jS]
     have ha : Rdr.mk (gr T L (t :: r)).toks (IntKind.i64.wrap ((gr T L (t :: r)).i + 1)) (gr T L (t :: r)).fin (gr T L (t :: r)).bad = gr T L r := xHb hT h rfl
     rw [ha]
     exact hk r e (xCi h)
theorem xPQ {K : Nat} {T ts : List Tok} {L : Int} {N : Nat} (hT : TokT K T) (hN : K < N) (h24 : 24 < N) (hK : K ≤ 1048576) (h : ts <:+ T) : SimR T L (xLZ ts) (xDh N (gr T L ts)) := by
 have bad : xDh N (gr T L ts) = Option.bind (xBK N (gr T L ts)) (fun r2 => some ([], r2.2)) → SimR T L (.err ts : PR Str) (xDh N (gr T L ts)) := fun he => by
  obtain ⟨p, h1, h2⟩ := xI4 (L := L) N h
  rw [he, h1]
  exact ⟨[], p, rfl, h2⟩
 have c0 : decide ((-1 : Int) ≥ 0) = false := rfl
 cases ts with
 | nil =>
   refine bad ?_
   unfold xDh
   rw [xIU, c0, jF, (xNe T L).2, jT]
 | cons t r =>
   have hft := hT.fit t (h.subset List.mem_cons_self)
   have hlen : t.text.length ≤ K := hft.2.2.2
   have hv := xFD (N := N) (s := t.text) (by omega) (by omega) h24
   obtain ⟨⟨_, a1⟩, a2, a3⟩ := xQg (ts := t :: r) (L := L) h
   simp only [xLZ]
   cases h1 : t.kind == 1
   · refine bad ?_
     unfold xDh
     rw [xIU, c0, jF, a1, jF, if_pos a2, a3]
     simp only [bne, h1, Bool.not_false, jT]
   · cases h2 : xDl t.text
     · refine bad ?_
       unfold xDh
       rw [xIU, c0, jF, a1, jF, if_pos a2, a3]
       simp only [bne, h1, hv, h2, jS, Bool.not_true, Bool.not_false, jT, jF]
     · refine ⟨xCi h, ?_⟩
       have hl := h.length_le
       have hT1 := hT.len
       have e1 : IntKind.i64.wrap ((IntKind.i64.wrap ((gr T L (t :: r)).i + 1)) - 1) = (gr T L (t :: r)).i := by
        show IntKind.i64.wrap ((IntKind.i64.wrap (((T.length - (t :: r).length : Nat) : Int) + 1)) - 1) = ((T.length - (t :: r).length : Nat) : Int)
        rw [xCa (x := ((T.length - (t :: r).length : Nat) : Int) + 1) (by omega) (by omega), xCa (by omega) (by omega)]; omega
       have ha : Rdr.mk (gr T L (t :: r)).toks (IntKind.i64.wrap ((gr T L (t :: r)).i + 1)) (gr T L (t :: r)).fin (gr T L (t :: r)).bad = gr T L r := xHb hT.len h rfl
       unfold xDh
       rw [e1, ha, xIU, c0, jF, a1, jF, if_pos a2, a3]
       simp only [bne, h1, hv, h2, jS, Bool.not_true, jT, jF, if_pos a2]
def xFk (q : Rdr → Option (Exp × Rdr)) : Prop := ∀ p, 0 ≤ p.bad → q p = some (e0, p)
def xMg (q : Rdr → Str → Option (List Exp × Rdr)) : Prop := ∀ p s, 0 ≤ p.bad → q p s = some ([], p)
def FRs (T : List Tok) (L : Int) (n : Nat) (f : List Tok → PR Exp) (q : Rdr → Option (Exp × Rdr)) : Prop := ∀ ts, ts <:+ T → ts.length < n → SimR T L (f ts) (q (gr T L ts))
theorem sOp (N : Nat) (k : Int) (a b : Exp) : xD0 N k a b = some (.mk 6 k [] [a, b]) := by unfold xD0; simp only [Exp.re_eq]
theorem xPO {s s' : Str} {ts : List Tok} (h : seeS s ts = true) (hne : s ≠ s') : seeS s' ts = false := by
 cases ts with
 | nil => cases h
 | cons t q =>
   have h : isS t s = true := h
   show isS t s' = false
   unfold isS at h ⊢
   cases hk : t.kind == 4
   · rfl
   · rw [hk, jT] at h
     rw [jT, beq_eq_false_iff_ne]
     intro e
     exact hne ((beq_iff_eq.1 h).symm.trans e)
section
variable {K : Nat} {T : List Tok} {L : Int} {N : Nat} {q0 : Rdr → Str → Option (List Exp × Rdr)} {q1 q2 q3 q4 q5 : Rdr → Option (Exp × Rdr)}
theorem xOh (hW : TokW T L) (hT : TokT K T) {n : Nat} {f : List Tok → PR Exp} (hf : xCk K f) (hq : FRs T L n f q3) (c : Str) (hc : SymS c) (hc2 : c ≠ [44]) : ∀ (m fuel : Nat) (acc : List Exp) (ts : List Tok), ts <:+ T → ts.length < n → ts.length < m → ts.length < fuel → acc.length + ts.length ≤ 2000 →
 SimR T L (xJO f c m acc ts) (xEF N q0 q1 q2 q3 q4 q5 fuel c acc (gr T L ts)) := by
 have hco : SymS [44] := ⟨44, [], rfl, by decide⟩
 intro m
 induction m with
 | zero => intro fuel acc ts _ _ h; omega
 | succ m ih =>
   intro fuel acc ts h hn hm hfu ha
   obtain ⟨fuel, rfl⟩ : ∃ k, fuel = k + 1 := ⟨fuel - 1, by omega⟩
   simp only [xJO, xEF, xIU, xMj, jT]
   refine SimR.bind hW (hq ts h hn) (fun e r he hr => ?_) (fun e p hp => ?_)
   · have hl := eat hT hf h he
     simp only [Exp.re_eq]
     rw [if_pos (by simp only [jC, jN]; unfold Lim; omega)]
     rw [xL7 hW N hco hr, jS]
     cases hs : seeS [44] r
     · simp only [Bool.not_false, jT]
       have hk := xM3 hW hr hco
       have e1 : xFJ [44] r = .err r := by
        cases r with
        | nil => rfl
        | cons t q =>
          have hk : isK t [44] = false := hk
          have hs : isS t [44] = false := hs
          simp only [xFJ, hk, hs, Bool.or_false, jF]
       have hkc := xM3 hW hr hc
       have e2 : (bif seeS c r then PR.ok (acc ++ [e]) r.tail else (xFJ [44] r).bind fun _ q => xJO f c m (acc ++ [e]) q) = (xFJ c r).bind fun _ q => .ok (acc ++ [e]) q := by
        rw [e1]
        cases r with
        | nil => rfl
        | cons t q =>
          have hkc : isK t c = false := hkc
          show (bif isS t c then _ else _) = _
          simp only [xFJ, hkc, Bool.false_or]
          cases isS t c <;> rfl
       rw [e2]
       exact SimR.need hW hT.len hr (fun q _ hq => ⟨hq, rfl⟩) (fun p hp => ⟨_, rfl⟩)
     · have hs' := xPO hs (Ne.symm hc2)
       obtain ⟨t, q, rfl⟩ : ∃ t q, r = t :: q := by
        obtain ⟨t, h1, _⟩ := xKo hs
        exact ⟨t, _, h1⟩
       have hs2 : isS t [44] = true := hs
       have e1 : xFJ [44] (t :: q) = .ok () q := by simp only [xFJ, hs2, Bool.or_true, jT]
       have ha : Rdr.mk (gr T L (t :: q)).toks (IntKind.i64.wrap ((gr T L (t :: q)).i + 1)) (gr T L (t :: q)).fin (gr T L (t :: q)).bad = gr T L q := xHb hT.len hr rfl
       rw [hs', e1]
       simp only [Bool.not_true, jF, ha, PR.bind]
       exact ih fuel (acc ++ [e]) q (xCi hr) (by simp only [jC] at hl; omega) (by simp only [jC] at hl; omega) (by simp only [jC] at hl; omega) (by simp only [jA, jC, jN] at hl ⊢; omega)
   · simp only [Exp.re_eq]
     rw [if_pos (by simp only [jC, jN]; unfold Lim; omega), xFy N _ hp, jS]
     simp only [Bool.not_false, jT, xGs N _ hp, jS]
     exact ⟨_, rfl⟩
theorem xP5 (hN : 0 < N) (s : Str) {p : Rdr} (h : 0 ≤ p.bad) : xDs N q0 q1 q2 q3 q4 q5 p s = some ([], p) := by
 obtain ⟨M, rfl⟩ : ∃ k, N = k + 1 := ⟨N - 1, by omega⟩
 unfold xDs
 rw [xFy _ s h, jS]
 simp only [jF, xEF]
 rw [decide_eq_false (by omega), jF, xGs _ s h]; rfl
theorem xP6 (hW : TokW T L) (hT : TokT K T) (hN : 1002 < N) {n m : Nat} {f : List Tok → PR Exp} (hf : xCk K f) (hq : FRs T L n f q3) (c : Str) (hc : SymS c) (hc2 : c ≠ [44]) {ts : List Tok} (h : ts <:+ T) (hn : ts.length < n) (hm : ts.length < m) :
 SimR T L (xKE f m c ts) (xDs N q0 q1 q2 q3 q4 q5 (gr T L ts) c) := by
 have hl := h.length_le
 have := hT.len
 unfold xKE xDs
 rw [xL7 hW N hc h, jS]
 cases hs : seeS c ts
 · simp only [jF]
   exact xOh hW hT hf hq c hc hc2 m N [] ts h hn hm (by omega) (by simp; omega)
 · simp only [jT, xHb hT.len h (xFx hs)]
   exact ⟨xCi h, rfl⟩
def FRl (T : List Tok) (L : Int) (n m : Nat) (f : List Tok → PR Exp) (q : Rdr → Str → Option (List Exp × Rdr)) : Prop := ∀ c ts, SymS c → c ≠ [44] → ts <:+ T → ts.length < n → SimR T L (xKE f m c ts) (q (gr T L ts) c)
theorem xL5 {p : Rdr} (h : 0 ≤ p.bad) : xDt N q0 q1 q2 q3 q4 q5 p = some (e0, p) := by
 unfold xDt
 rw [decide_eq_true (by omega : p.bad ≥ 0), jT, xL8 N h]; rfl
theorem xK1 (hW : TokW T L) (hT : TokT K T) {n m : Nat} {f : List Tok → PR Exp} (hf : xCk K f) (hq : FRs T L n f q3) (hb : xFk q3) (hl : FRl T L n m f q0) (hbl : xMg q0) {t : Tok} {r : List Tok} (h : t :: r <:+ T) (hn : r.length < n) :
 SimR T L (xJM f m t r) (Option.bind (xC6 N t [91]) fun r1 =>
         bif r1 then (
          Option.bind (q0 (gr T L r) [93]) fun r2 =>
          some ((Exp.mk 4 0 [] r2.1), r2.2)
         ) else (
           Option.bind (xC6 N t [40]) fun r2 =>
           bif r2 then (
            Option.bind (q3 (gr T L r)) fun r3 =>
            Option.bind (xBk N r3.2 [41]) fun r4 =>
            some (r3.1, r4)
           ) else (
             Option.bind (xBK N (gr T L (t :: r))) fun r3 =>
             some (r3.1, r3.2)
           )
         )) := by
 have hr : r <:+ T := xCi h
 unfold xJM
 rw [xYf, jS]
 cases h1 : isS t [91]
 · simp only [jF, xYf, jS]
   cases h2 : isS t [40]
   · simp only [jF]
     obtain ⟨p, hp1, hp2⟩ := xI4 (L := L) N h
     rw [hp1]
     exact ⟨_, p, rfl, hp2⟩
   · simp only [jT]
     refine SimR.bind hW (hq r hr hn) (fun e u he hu => ?_) (fun e p hp => ⟨e, by simp only [xGs N _ hp, jS]⟩)
     exact SimR.need hW hT.len hu (fun v _ hv => ⟨hv, rfl⟩) (fun p hp => ⟨e, rfl⟩)
 · simp only [jT]
   exact SimR.bind hW (hl [93] r ⟨93, [], rfl, by decide⟩ (by decide) hr hn) (fun a u _ hu => ⟨hu, rfl⟩) (fun a p hp => ⟨_, rfl⟩)
theorem xPN (hW : TokW T L) (hT : TokT K T) (hN : K < N) (h24 : 24 < N) (hK : K ≤ 1048576) {n m : Nat} {f : List Tok → PR Exp} (hf : xCk K f) (hq : FRs T L n f q3) (hb : xFk q3) (hl : FRl T L n m f q0) (hbl : xMg q0) :
 FRs T L (n + 1) (xKk f m) (xDt N q0 q1 q2 q3 q4 q5) := by
 intro ts h hn
 have c0 : decide ((-1 : Int) ≥ 0) = false := rfl
 unfold xDt
 rw [xIU, c0, jF]
 cases ts with
 | nil =>
   rw [(xNe T L).2, jT]
   obtain ⟨p, hp1, hp2⟩ := xI4 (L := L) N h
   exact ⟨_, p, by rw [hp1]; rfl, hp2⟩
 | cons t r =>
   have hr : r <:+ T := xCi h
   have hn' : r.length < n := by simp only [jC] at hn; omega
   have hft := hT.fit t (h.subset List.mem_cons_self)
   have hlen : t.text.length ≤ K := hft.2.2.2
   have hv := xFD (N := N) (s := t.text) (by omega) (by omega) h24
   obtain ⟨⟨_, a1⟩, a2, a3⟩ := xQg (ts := t :: r) (L := L) h
   have ha : Rdr.mk (gr T L (t :: r)).toks (IntKind.i64.wrap ((gr T L (t :: r)).i + 1)) (gr T L (t :: r)).fin (gr T L (t :: r)).bad = gr T L r := xHb hT.len h rfl
   have ha' : Rdr.mk (gr T L (t :: r)).toks (IntKind.i64.wrap ((gr T L (t :: r)).i + 1)) (gr T L (t :: r)).fin (-1) = gr T L r := ha
   rw [a1, jF, if_pos a2, a3]
   simp only [xKk, ha']
   cases h1 : t.kind == 2
   · cases h2 : t.kind == 3
     · cases h3 : t.kind == 1
       · exact xK1 hW hT hf hq hb hl hbl h hn'
       · simp only [jT, jF, hv, jS]
         cases h4 : xDl t.text
         · simp only [jF, xE5, jS]
           cases h5 : decide (argc t.text ≥ 0)
           · exact xK1 hW hT hf hq hb hl hbl h hn'
           · simp only [jT]
             refine SimR.need hW hT.len hr (fun u hu hus => ?_) (fun p hp => ⟨_, by rw [hbl p _ hp, jS]⟩)
             have := xE4 hu
             exact SimR.bind hW (hl [41] u ⟨41, [], rfl, by decide⟩ (by decide) hus (by omega)) (fun a v _ hv => ⟨hv, rfl⟩) (fun a p hp => ⟨_, rfl⟩)
         · exact ⟨hr, rfl⟩
     · exact ⟨hr, rfl⟩
   · exact ⟨hr, rfl⟩
theorem xN6 (hW : TokW T L) (hT : TokT K T) {n : Nat} {g : List Tok → PR Exp} (hg : xCk K g) (hq : FRs T L n g q1) (hb : xFk q1) (b2 : Exp) : ∀ (m fuel : Nat) (a : Exp) (ts : List Tok), ts <:+ T → ts.length ≤ n → ts.length < m → ts.length < fuel →
 SimR T L (xJP g m a ts) (xCO N q0 q1 q2 q3 q4 q5 fuel (gr T L ts) b2 a) := by
 have hs0 : SymS [42] := ⟨42, [], rfl, by decide⟩
 intro m
 induction m with
 | zero => intro fuel a ts _ _ h; omega
 | succ m ih =>
   intro fuel a ts h hn hm hfu
   obtain ⟨fuel, rfl⟩ : ∃ k, fuel = k + 1 := ⟨fuel - 1, by omega⟩
   simp only [xJP, xCO]
   rw [xL7 hW N hs0 h, jS]
   cases hs : seeS [42] ts
   · exact ⟨h, rfl⟩
   · have hl := xFx hs
     simp only [jT, sOp, jS, xHb hT.len h hl]
     obtain ⟨fuel, rfl⟩ : ∃ k, fuel = k + 1 := ⟨fuel - 1, by omega⟩
     refine SimR.bind hW (hq ts.tail (xCi h) (by omega)) (fun b r hbr hr => ?_) (fun b p hp => ⟨.mk 6 3 [] [a, b], by simp only [xCO, xFy N _ hp, jS, jF]⟩)
     have := eat hT hg (xCi h) hbr
     exact ih (fuel + 1) _ r hr (by omega) (by omega) (by omega)
theorem xPU (hW : TokW T L) (hT : TokT K T) (hN : 1002 < N) {n m : Nat} {g : List Tok → PR Exp} (hg : xCk K g) (hq : FRs T L n g q1) (hb : xFk q1) (hnm : n ≤ m) : FRs T L n (xL1 g m) (xCL N q0 q1 q2 q3 q4 q5) := by
 intro ts h hn
 have hl := h.length_le
 have := hT.len
 unfold xL1 xCL
 obtain ⟨M, rfl⟩ : ∃ k, N = k + 1 := ⟨N - 1, by omega⟩
 refine SimR.bind hW (hq ts h hn) (fun b r hbr hr => ?_) (fun b p hp => ⟨b, by simp only [xCO, xFy _ _ hp, jS, jF]⟩)
 have := eat hT hg h hbr
 exact xN6 hW hT hg hq hb e0 m (M + 1) b r hr (by omega) (by omega) (by omega)
theorem xMd (hN : 0 < N) (hb : xFk q1) : xFk (xCL N q0 q1 q2 q3 q4 q5) := by
 intro p hp
 obtain ⟨M, rfl⟩ : ∃ k, N = k + 1 := ⟨N - 1, by omega⟩
 unfold xCL
 simp only [hb p hp, jS, xCO, xFy _ _ hp, jF]
theorem xPW (hW : TokW T L) (hT : TokT K T) {n : Nat} {g : List Tok → PR Exp} (hg : xCk K g) (hq : FRs T L n g q4) (hb : xFk q4) (b2 : Exp) : ∀ (m fuel : Nat) (a : Exp) (ts : List Tok), ts <:+ T → ts.length ≤ n → ts.length < m → ts.length < fuel →
 SimR T L (xJT g m a ts) (xCC N q0 q1 q2 q3 q4 q5 fuel (gr T L ts) b2 a) := by
 have hp0 : SymS [43] := ⟨43, [], rfl, by decide⟩
 have hm0 : SymS [45] := ⟨45, [], rfl, by decide⟩
 intro m
 induction m with
 | zero => intro fuel a ts _ _ h; omega
 | succ m ih =>
   intro fuel a ts h hn hm hfu
   obtain ⟨fuel, rfl⟩ : ∃ k, fuel = k + 1 := ⟨fuel - 1, by omega⟩
   have step : ∀ s k, seeS s ts = true → SimR T L ((g ts.tail).bind fun b r => xJT g m (.mk 6 k [] [a, b]) r) (Option.bind (q4 (gr T L ts.tail)) fun r3 => Option.bind (xD0 N k a r3.1) fun r4 => xCC N q0 q1 q2 q3 q4 q5 fuel r3.2 b2 r4) := by
    intro s k hs
    have hl := xFx hs
    simp only [sOp, jS]
    obtain ⟨fuel, rfl⟩ : ∃ k, fuel = k + 1 := ⟨fuel - 1, by omega⟩
    refine SimR.bind hW (hq ts.tail (xCi h) (by omega)) (fun b r hbr hr => ?_) (fun b p hp => ⟨.mk 6 k [] [a, b], by simp only [xCC, xFy N _ hp, jS, jF]⟩)
    have := eat hT hg (xCi h) hbr
    exact ih (fuel + 1) _ r hr (by omega) (by omega) (by omega)
   simp only [xJT, xCC]
   rw [xL7 hW N hp0 h, jS]
   cases hs : seeS [43] ts
   · simp only [jF, xL7 hW N hm0 h, jS]
     cases hs2 : seeS [45] ts
     · exact ⟨h, rfl⟩
     · simp only [jT, xHb hT.len h (xFx hs2)]
       exact step _ 2 hs2
   · simp only [jT, xL7 hW N hm0 h, jS, xPO hs (by decide : ([43] : Str) ≠ [45]), jF, xHb hT.len h (xFx hs)]
     exact step _ 1 hs
theorem xTm (hW : TokW T L) (hT : TokT K T) (hN : 1002 < N) {n m : Nat} {g : List Tok → PR Exp} (hg : xCk K g) (hq : FRs T L n g q4) (hb : xFk q4) (hnm : n ≤ m) : FRs T L n (pSum g m) (xDN N q0 q1 q2 q3 q4 q5) := by
 intro ts h hn
 have hl := h.length_le
 have := hT.len
 unfold pSum xDN
 obtain ⟨M, rfl⟩ : ∃ k, N = k + 1 := ⟨N - 1, by omega⟩
 refine SimR.bind hW (hq ts h hn) (fun b r hbr hr => ?_) (fun b p hp => ⟨b, by simp only [xCC, xFy _ _ hp, jS, jF]⟩)
 have := eat hT hg h hbr
 exact xPW hW hT hg hq hb e0 m (M + 1) b r hr (by omega) (by omega) (by omega)
theorem xNL (hN : 0 < N) (hb : xFk q4) : xFk (xDN N q0 q1 q2 q3 q4 q5) := by
 intro p hp
 obtain ⟨M, rfl⟩ : ∃ k, N = k + 1 := ⟨N - 1, by omega⟩
 unfold xDN
 simp only [hb p hp, jS, xCC, xFy _ _ hp, jF]
theorem xTi (hb : xFk q5) : xFk (xCK N q0 q1 q2 q3 q4 q5) := by
 intro p hp
 unfold xCK
 simp only [hb p hp, jS, xFy _ _ hp, jF]
theorem xTj (hW : TokW T L) (hT : TokT K T) {n : Nat} {g : List Tok → PR Exp} (hg : xCk K g) (hq : FRs T L n g q5) (hb : xFk q5) : FRs T L n (pCmp g) (xCK N q0 q1 q2 q3 q4 q5) := by
 intro ts h hn
 have s1 : SymS [60] := ⟨60, [], rfl, by decide⟩
 have s2 : SymS [61, 61] := ⟨61, [61], rfl, by decide⟩
 unfold pCmp xCK
 refine SimR.bind hW (hq ts h hn) (fun a r ha hr => ?_) (fun a p hp => ⟨a, by simp only [jS, xFy _ _ hp, jF]⟩)
 have hl := eat hT hg h ha
 have step : ∀ s k, seeS s r = true → SimR T L ((g r.tail).bind fun b q => PR.ok (.mk 6 k [] [a, b]) q) (Option.bind (q5 (gr T L r.tail)) fun r3 => Option.bind (xD0 N k a r3.1) fun r4 => some (r4, r3.2)) := by
  intro s k hs
  have hl := xFx hs
  simp only [sOp, jS]
  exact SimR.bind hW (hq r.tail (xCi hr) (by omega)) (fun b r hbr hr => ⟨hr, rfl⟩) (fun b p hp => ⟨_, rfl⟩)
 unfold xPJ
 simp only [xL7 hW N s1 hr, xL7 hW N s2 hr, jS]
 cases hs : seeS [60] r
 · simp only [jF]
   cases hs2 : seeS [61, 61] r
   · exact ⟨hr, rfl⟩
   · simp only [jT, xHb hT.len hr (xFx hs2)]
     exact step _ 5 hs2
 · simp only [jT, xHb hT.len hr (xFx hs)]
   exact step _ 4 hs
theorem xPP (hb : xFk q2) : xFk (xDu N q0 q1 q2 q3 q4 q5) := by
 intro p hp
 unfold xDu
 simp only [hb p hp, jS, xFy _ _ hp, jF]
theorem xNM (hW : TokW T L) (hT : TokT K T) (hN : K < N) (h24 : 24 < N) (hK : K ≤ 1048576) {n : Nat} {f : List Tok → PR Exp} (hf : xCk K f) (hq : FRs T L n f q3) (hb : xFk q3) (k : Int) (s1 s2 : Str) {ts : List Tok} (h : ts <:+ T) (hn : ts.length < n) :
 SimR T L (pTwo f k s1 s2 ts) (Option.bind (xDh N (gr T L ts)) fun r2 =>
 Option.bind (xBk N r2.2 s1) fun r3 =>
 Option.bind (q3 r3) fun r4 =>
 Option.bind (xBk N r4.2 s2) fun r5 =>
 Option.bind (q3 r5) fun r6 =>
 some ((Exp.mk k 0 r2.1 [(Exp.re r4.1), (Exp.re r6.1)]), r6.2)) := by
 simp only [Exp.re_eq]
 refine SimR.bind hW (xPQ hT hN h24 hK h) (fun x r1 hx hr1 => ?_) (fun x p hp => ⟨.mk k 0 x [e0, e0], by simp only [xGs N _ hp, hb p hp, jS]⟩)
 have l1 := xL0 hx
 refine SimR.need hW hT.len hr1 (fun r2 h2 hr2 => ?_) (fun p hp => ⟨.mk k 0 x [e0, e0], by simp only [xGs N _ hp, hb p hp, jS]⟩)
 have l2 := xE4 h2
 refine SimR.bind hW (hq r2 hr2 (by omega)) (fun a r3 h3 hr3 => ?_) (fun a p hp => ⟨.mk k 0 x [a, e0], by simp only [xGs N _ hp, hb p hp, jS]⟩)
 have l3 := eat hT hf hr2 h3
 refine SimR.need hW hT.len hr3 (fun r4 h4 hr4 => ?_) (fun p hp => ⟨.mk k 0 x [a, e0], by simp only [hb p hp, jS]⟩)
 have l4 := xE4 h4
 exact SimR.bind hW (hq r4 hr4 (by omega)) (fun b r5 h5 hr5 => ⟨hr5, rfl⟩) (fun b p hp => ⟨_, rfl⟩)
theorem xYi (hW : TokW T L) (hT : TokT K T) {n : Nat} {f : List Tok → PR Exp} (hf : xCk K f) (hq : FRs T L n f q3) (hb : xFk q3) {ts : List Tok} (h : ts <:+ T) (hn : ts.length < n) :
 SimR T L (pIf f ts) (Option.bind (q3 (gr T L ts)) fun r3 =>
  Option.bind (xBk N r3.2 [116, 104, 101, 110]) fun r4 =>
  Option.bind (q3 r4) fun r5 =>
  Option.bind (xBk N r5.2 [101, 108, 115, 101]) fun r6 =>
  Option.bind (q3 r6) fun r7 =>
  some ((Exp.mk 8 0 [] [(Exp.re r3.1), (Exp.re r5.1), (Exp.re r7.1)]), r7.2)) := by
 simp only [Exp.re_eq]
 refine SimR.bind hW (hq ts h hn) (fun a r1 h1 hr1 => ?_) (fun a p hp => ⟨.mk 8 0 [] [a, e0, e0], by simp only [xGs N _ hp, hb p hp, jS]⟩)
 have l1 := eat hT hf h h1
 refine SimR.need hW hT.len hr1 (fun r2 h2 hr2 => ?_) (fun p hp => ⟨.mk 8 0 [] [a, e0, e0], by simp only [xGs N _ hp, hb p hp, jS]⟩)
 have l2 := xE4 h2
 refine SimR.bind hW (hq r2 hr2 (by omega)) (fun b r3 h3 hr3 => ?_) (fun b p hp => ⟨.mk 8 0 [] [a, b, e0], by simp only [xGs N _ hp, hb p hp, jS]⟩)
 have l3 := eat hT hf hr2 h3
 refine SimR.need hW hT.len hr3 (fun r4 h4 hr4 => ?_) (fun p hp => ⟨.mk 8 0 [] [a, b, e0], by simp only [hb p hp, jS]⟩)
 have l4 := xE4 h4
 exact SimR.bind hW (hq r4 hr4 (by omega)) (fun c r5 h5 hr5 => ⟨hr5, rfl⟩) (fun c p hp => ⟨_, rfl⟩)
theorem xN5 (hW : TokW T L) (hT : TokT K T) (hN : K < N) (h24 : 24 < N) (hK : K ≤ 1048576) {n : Nat} {f g : List Tok → PR Exp} (hf : xCk K f) (hq : FRs T L n f q3) (hb : xFk q3) (hq2 : FRs T L (n + 1) (pCmp g) q2) :
 FRs T L (n + 1) (xKl f g) (xDu N q0 q1 q2 q3 q4 q5) := by
 intro ts h hn
 have k1 : KeyS [108, 101, 116] := ⟨108, [101, 116], rfl, by decide⟩
 have k2 : KeyS [105, 102] := ⟨105, [102], rfl, by decide⟩
 have k3 : KeyS [102, 111, 114] := ⟨102, [111, 114], rfl, by decide⟩
 unfold xKl xDu
 simp only [xYh hW N k1 h, xYh hW N k2 h, xYh hW N k3 h, jS]
 cases c1 : seeK [108, 101, 116] ts
 · simp only [jF]
   cases c2 : seeK [105, 102] ts
   · simp only [jF]
     cases c3 : seeK [102, 111, 114] ts
     · simp only [jF]
       have := hq2 ts h hn
       have e : (Option.bind (q2 (gr T L ts)) fun r4 => some (r4.1, r4.2)) = q2 (gr T L ts) := by cases q2 (gr T L ts) <;> rfl
       rw [e]
       exact this
     · simp only [jT, xHb hT.len h (xFw c3)]
       have := xFw c3
       exact xNM hW hT hN h24 hK hf hq hb 9 _ _ (xCi h) (by omega)
   · simp only [jT, xHb hT.len h (xFw c2)]
     have := xFw c2
     exact xYi hW hT hf hq hb (xCi h) (by omega)
 · simp only [jT, xHb hT.len h (xFw c1)]
   have := xFw c1
   exact xNM hW hT hN h24 hK hf hq hb 7 _ _ (xCi h) (by omega)
end
theorem xNI {N : Nat} (hN : 0 < N) : ∀ d, 5 ≤ d → xFk (xAa N d).c_spec_l11Expr := by
 intro d hd
 obtain ⟨d, rfl⟩ : ∃ k, d = k + 5 := ⟨d - 5, by omega⟩
 exact xPP (q0 := (xAa N (d + 4)).c_spec_l11Args) (q1 := (xAa N (d + 4)).c_spec_l11Atom) (q2 := (xAa N (d + 4)).c_spec_l11Compare) (q3 := (xAa N (d + 4)).c_spec_l11Expr) (q4 := (xAa N (d + 4)).c_spec_l11Product) (q5 := (xAa N (d + 4)).c_spec_l11Sum) (xTi (q0 := (xAa N (d + 3)).c_spec_l11Args) (q1 := (xAa N (d + 3)).c_spec_l11Atom) (q2 := (xAa N (d + 3)).c_spec_l11Compare) (q3 := (xAa N (d + 3)).c_spec_l11Expr) (q4 := (xAa N (d + 3)).c_spec_l11Product) (q5 := (xAa N (d + 3)).c_spec_l11Sum) (xNL (q0 := (xAa N (d + 2)).c_spec_l11Args) (q1 := (xAa N (d + 2)).c_spec_l11Atom) (q2 := (xAa N (d + 2)).c_spec_l11Compare) (q3 := (xAa N (d + 2)).c_spec_l11Expr) (q4 := (xAa N (d + 2)).c_spec_l11Product) (q5 := (xAa N (d + 2)).c_spec_l11Sum) hN (xMd (q0 := (xAa N (d + 1)).c_spec_l11Args) (q1 := (xAa N (d + 1)).c_spec_l11Atom) (q2 := (xAa N (d + 1)).c_spec_l11Compare) (q3 := (xAa N (d + 1)).c_spec_l11Expr) (q4 := (xAa N (d + 1)).c_spec_l11Product) (q5 := (xAa N (d + 1)).c_spec_l11Sum) hN fun p hp => xL5 (q0 := (xAa N d).c_spec_l11Args) (q1 := (xAa N d).c_spec_l11Atom) (q2 := (xAa N d).c_spec_l11Compare) (q3 := (xAa N d).c_spec_l11Expr) (q4 := (xAa N d).c_spec_l11Product) (q5 := (xAa N d).c_spec_l11Sum) hp)))
theorem xYe {K : Nat} {T : List Tok} {L : Int} {N : Nat} (hW : TokW T L) (hT : TokT K T) (hN : K < N) (hN2 : 1002 < N) (hK : K ≤ 1048576) : ∀ n d, 6 * n + 11 ≤ d → FRs T L n (pE n) (xAa N d).c_spec_l11Expr := by
 intro n
 induction n with
 | zero => intro d _ ts _ h; omega
 | succ n ih =>
   intro d hd
   obtain ⟨d, rfl⟩ : ∃ k, d = k + 6 := ⟨d - 6, by omega⟩
   have f1 := ih d (by omega)
   have f2 := ih (d + 1) (by omega)
   have f5 := ih (d + 5) (by omega)
   have b2 := xNI (N := N) (by omega) (d + 1) (by omega)
   have b5 := xNI (N := N) (by omega) (d + 5) (by omega)
   have hl : FRl T L n (n + 1) (pE n) (xAa N (d + 1)).c_spec_l11Args := fun c ts hc hc2 h hn => xP6 (q0 := (xAa N d).c_spec_l11Args) (q1 := (xAa N d).c_spec_l11Atom) (q2 := (xAa N d).c_spec_l11Compare) (q3 := (xAa N d).c_spec_l11Expr) (q4 := (xAa N d).c_spec_l11Product) (q5 := (xAa N d).c_spec_l11Sum) hW hT hN2 (xEM n) f1 c hc hc2 h hn (by omega)
   have hbl : xMg (xAa N (d + 1)).c_spec_l11Args := fun p s hp => xP5 (q0 := (xAa N d).c_spec_l11Args) (q1 := (xAa N d).c_spec_l11Atom) (q2 := (xAa N d).c_spec_l11Compare) (q3 := (xAa N d).c_spec_l11Expr) (q4 := (xAa N d).c_spec_l11Product) (q5 := (xAa N d).c_spec_l11Sum) (by omega) s hp
   have a : FRs T L (n + 1) (xKk (pE n) (n + 1)) (xAa N (d + 2)).c_spec_l11Atom := xPN (q0 := (xAa N (d + 1)).c_spec_l11Args) (q1 := (xAa N (d + 1)).c_spec_l11Atom) (q2 := (xAa N (d + 1)).c_spec_l11Compare) (q3 := (xAa N (d + 1)).c_spec_l11Expr) (q4 := (xAa N (d + 1)).c_spec_l11Product) (q5 := (xAa N (d + 1)).c_spec_l11Sum) hW hT hN (by omega) hK (xEM n) f2 b2 hl hbl
   have ba : xFk (xAa N (d + 2)).c_spec_l11Atom := fun p hp => xL5 (q0 := (xAa N (d + 1)).c_spec_l11Args) (q1 := (xAa N (d + 1)).c_spec_l11Atom) (q2 := (xAa N (d + 1)).c_spec_l11Compare) (q3 := (xAa N (d + 1)).c_spec_l11Expr) (q4 := (xAa N (d + 1)).c_spec_l11Product) (q5 := (xAa N (d + 1)).c_spec_l11Sum) hp
   have p : FRs T L (n + 1) (xL1 (xKk (pE n) (n + 1)) (n + 1)) (xAa N (d + 3)).c_spec_l11Product := xPU (q0 := (xAa N (d + 2)).c_spec_l11Args) (q1 := (xAa N (d + 2)).c_spec_l11Atom) (q2 := (xAa N (d + 2)).c_spec_l11Compare) (q3 := (xAa N (d + 2)).c_spec_l11Expr) (q4 := (xAa N (d + 2)).c_spec_l11Product) (q5 := (xAa N (d + 2)).c_spec_l11Sum) hW hT hN2 (xGG (xEM n) _) a ba (Nat.le_refl _)
   have bp : xFk (xAa N (d + 3)).c_spec_l11Product := xMd (q0 := (xAa N (d + 2)).c_spec_l11Args) (q1 := (xAa N (d + 2)).c_spec_l11Atom) (q2 := (xAa N (d + 2)).c_spec_l11Compare) (q3 := (xAa N (d + 2)).c_spec_l11Expr) (q4 := (xAa N (d + 2)).c_spec_l11Product) (q5 := (xAa N (d + 2)).c_spec_l11Sum) (by omega) ba
   have s : FRs T L (n + 1) (xPL (pE n) (n + 1)) (xAa N (d + 4)).c_spec_l11Sum := xTm (q0 := (xAa N (d + 3)).c_spec_l11Args) (q1 := (xAa N (d + 3)).c_spec_l11Atom) (q2 := (xAa N (d + 3)).c_spec_l11Compare) (q3 := (xAa N (d + 3)).c_spec_l11Expr) (q4 := (xAa N (d + 3)).c_spec_l11Product) (q5 := (xAa N (d + 3)).c_spec_l11Sum) hW hT hN2 (xIK (xGG (xEM n) _) _) p bp (Nat.le_refl _)
   have bs : xFk (xAa N (d + 4)).c_spec_l11Sum := xNL (q0 := (xAa N (d + 3)).c_spec_l11Args) (q1 := (xAa N (d + 3)).c_spec_l11Atom) (q2 := (xAa N (d + 3)).c_spec_l11Compare) (q3 := (xAa N (d + 3)).c_spec_l11Expr) (q4 := (xAa N (d + 3)).c_spec_l11Product) (q5 := (xAa N (d + 3)).c_spec_l11Sum) (by omega) bp
   have c : FRs T L (n + 1) (pCmp (xPL (pE n) (n + 1))) (xAa N (d + 5)).c_spec_l11Compare := xTj (q0 := (xAa N (d + 4)).c_spec_l11Args) (q1 := (xAa N (d + 4)).c_spec_l11Atom) (q2 := (xAa N (d + 4)).c_spec_l11Compare) (q3 := (xAa N (d + 4)).c_spec_l11Expr) (q4 := (xAa N (d + 4)).c_spec_l11Product) (q5 := (xAa N (d + 4)).c_spec_l11Sum) hW hT (xIL (xEM n) _) s bs
   exact xN5 (q0 := (xAa N (d + 5)).c_spec_l11Args) (q1 := (xAa N (d + 5)).c_spec_l11Atom) (q2 := (xAa N (d + 5)).c_spec_l11Compare) (q3 := (xAa N (d + 5)).c_spec_l11Expr) (q4 := (xAa N (d + 5)).c_spec_l11Product) (q5 := (xAa N (d + 5)).c_spec_l11Sum) hW hT hN (by omega) hK (xEM n) f5 b5 c
end Go.Ab
end
