/- The statement FnExactParseError holds: plain functions, certificates, laws. Conditions: none. -/
import Derived.Test.YthbobcapimmnhaaGreatDoorL2
import Derived.Test.YthbobcapimmnhaaGreatDoorFnExactParseErrorP0
set_option linter.all false
section
open Go.Proofs
namespace Go.Ab.T
set_option maxRecDepth 100000
variable [Inhabited Lb]
variable [Nonempty Tab10]
variable [Nonempty ErrVars]
noncomputable def I117 : Info := { body := (Tryz.f117.body).getD .skip, nt := 26, results := [.tmp 2], keep := [0, 4, 6, 8, 12, 24, 40, 48], live := [], modes := [] }
theorem xGn : FnOk Tryz.prog 117 Tryz.f117 I117 := ⟨Tryz.func117, by kernel_rfl, by kernel_rfl, by kernel_rfl, by kernel_rfl⟩
def xPh (a0 : Str) : rE I117 (xAj a0) [Y] [] = dn (xAg 0) [iY (xK8 a0)] := by kernel_rfl
def xPi (a0 : Str) : rE I117 (xAj a0) [F, Y, Y] [] = dn (xAg 1) [xDh a0, xLE a0, xLE a0] := by kernel_rfl
def xPj (a0 : Str) : rE I117 (xAj a0) [F, F, Y, Y] [] = dn (xAg 1) [xDh a0, xDq a0, xLF a0, xLF a0] := by kernel_rfl
def xPk (a0 : Str) : rE I117 (xAj a0) [F, F, F, Y, Y] [] = dn (xAg 1) [xDh a0, xDq a0, xDG a0, xLG a0, xLG a0] := by kernel_rfl
def xPl (a0 : Str) : rE I117 (xAj a0) [F, F, F, F, Y, Y] [] = dn (xAg 1) [xDh a0, xDq a0, xDG a0, xDV a0, xLH a0, xLH a0] := by kernel_rfl
def xPm (a0 : Str) : rE I117 (xAj a0) [F, F, F, F, F, Y] [] = dn (xAg 1) [xDh a0, xDq a0, xDG a0, xDV a0, xD4 a0, iY (xK9 a0)] := by kernel_rfl
def xPn (a0 : Str) : rE I117 (xAj a0) [F, F, F, F, F, F, Y, Y] [] = dn (xAg 2) [xDh a0, xDq a0, xDG a0, xDV a0, xD4 a0, xEg a0, xLI a0, xLI a0] := by kernel_rfl
def xPo (a0 : Str) : rE I117 (xAj a0) [F, F, F, F, F, F, F, Y, Y] [] = dn (xAg 2) [xDh a0, xDq a0, xDG a0, xDV a0, xD4 a0, xEg a0, xEC a0, xLJ a0, xLJ a0] := by kernel_rfl
def xPp (a0 : Str) : rE I117 (xAj a0) [F, F, F, F, F, F, F, F, Y, Y] [] = dn (xAg 2) [xDh a0, xDq a0, xDG a0, xDV a0, xD4 a0, xEg a0, xEC a0, xEV a0, xLK a0, xLK a0] := by kernel_rfl
def xPq (a0 : Str) : rE I117 (xAj a0) [F, F, F, F, F, F, F, F, F, Y, Y] [] = dn (xAg 2) [xDh a0, xDq a0, xDG a0, xDV a0, xD4 a0, xEg a0, xEC a0, xEV a0, xFb a0, xLL a0, xLL a0] := by kernel_rfl
def xNi (a0 : Str) : rE I117 (xAj a0) [F, F, F, F, F, F, F, F, F, F, Y, Y] [] = dn (xAg 2) [xDh a0, xDq a0, xDG a0, xDV a0, xD4 a0, xEg a0, xEC a0, xEV a0, xFb a0, xFv a0, xLM a0, xLM a0] := by kernel_rfl
def xNj (a0 : Str) : rE I117 (xAj a0) [F, F, F, F, F, F, F, F, F, F, F, Y, Y] [] = dn (xAg 2) [xDh a0, xDq a0, xDG a0, xDV a0, xD4 a0, xEg a0, xEC a0, xEV a0, xFb a0, xFv a0, xFX a0, xLN a0, xLN a0] := by kernel_rfl
def xNk (a0 : Str) : rE I117 (xAj a0) [F, F, F, F, F, F, F, F, F, F, F, F, Y] [] = dn (xAg 2) [xDh a0, xDq a0, xDG a0, xDV a0, xD4 a0, xEg a0, xEC a0, xEV a0, xFb a0, xFv a0, xFX a0, xGF a0, iY (xLa a0)] := by kernel_rfl
def xNl (a0 : Str) : rE I117 (xAj a0) [F, F, F, F, F, F, F, F, F, F, F, F, F, Y, Y] [] = dn (xAg 3) [xDh a0, xDq a0, xDG a0, xDV a0, xD4 a0, xEg a0, xEC a0, xEV a0, xFb a0, xFv a0, xFX a0, xGF a0, xHk a0, xLO a0, xLO a0] := by kernel_rfl
def xNm (a0 : Str) : rE I117 (xAj a0) [F, F, F, F, F, F, F, F, F, F, F, F, F, F, Y, Y] [] = dn (xAg 3) [xDh a0, xDq a0, xDG a0, xDV a0, xD4 a0, xEg a0, xEC a0, xEV a0, xFb a0, xFv a0, xFX a0, xGF a0, xHk a0, xIl a0, xLP a0, xLP a0] := by kernel_rfl
def xNn (a0 : Str) : rE I117 (xAj a0) [F, F, F, F, F, F, F, F, F, F, F, F, F, F, F, Y] [] = dn (xAg 3) [xDh a0, xDq a0, xDG a0, xDV a0, xD4 a0, xEg a0, xEC a0, xEV a0, xFb a0, xFv a0, xFX a0, xGF a0, xHk a0, xIl a0, xJs a0, iY (xLb a0)] := by kernel_rfl
def xNo (a0 : Str) : rE I117 (xAj a0) [F, F, F, F, F, F, F, F, F, F, F, F, F, F, F, F, Y] [] = dn (xAg 4) [xDh a0, xDq a0, xDG a0, xDV a0, xD4 a0, xEg a0, xEC a0, xEV a0, xFb a0, xFv a0, xFX a0, xGF a0, xHk a0, xIl a0, xJs a0, xLQ a0, iY (xJY a0)] := by kernel_rfl
def xNp (a0 : Str) : rE I117 (xAj a0) [F, F, F, F, F, F, F, F, F, F, F, F, F, F, F, F, F] [] = dn (xAg (-1)) [xDh a0, xDq a0, xDG a0, xDV a0, xD4 a0, xEg a0, xEC a0, xEV a0, xFb a0, xFv a0, xFX a0, xGF a0, xHk a0, xIl a0, xJs a0, xLQ a0, iN (xJY a0)] := by kernel_rfl
theorem xVj {N : Nat} : ∀ a0 r, xCg N a0 = some r → RE Tryz.f117 I117 (xAj a0) (xAg r) := fun a0 r h =>
 cE h (fun h0 h => dE h xGn (xPh a0) (oc h0 on)) fun h0 h =>
 cE h (fun h1 h => dE h xGn (xPi a0) (oc3 h0 h1 h1 on)) fun h1 h =>
 cE h (fun h2 h => dE h xGn (xPj a0) (oc4 h0 h1 h2 h2 on)) fun h2 h =>
 cE h (fun h3 h => dE h xGn (xPk a0) (oc5 h0 h1 h2 h3 h3 on)) fun h3 h =>
 cE h (fun h4 h => dE h xGn (xPl a0) (oc6 h0 h1 h2 h3 h4 h4 on)) fun h4 h =>
 cE h (fun h5 h => dE h xGn (xPm a0) (oc6 h0 h1 h2 h3 h4 h5 on)) fun h5 h =>
 cE h (fun h6 h => dE h xGn (xPn a0) (oc8 h0 h1 h2 h3 h4 h5 h6 h6 on)) fun h6 h =>
 cE h (fun h7 h => dE h xGn (xPo a0) (oc9 h0 h1 h2 h3 h4 h5 h6 h7 h7 on)) fun h7 h =>
 cE h (fun h8 h => dE h xGn (xPp a0) (oc10 h0 h1 h2 h3 h4 h5 h6 h7 h8 h8 on)) fun h8 h =>
 cE h (fun h9 h => dE h xGn (xPq a0) (oc11 h0 h1 h2 h3 h4 h5 h6 h7 h8 h9 h9 on)) fun h9 h =>
 cE h (fun h10 h => dE h xGn (xNi a0) (oc12 h0 h1 h2 h3 h4 h5 h6 h7 h8 h9 h10 h10 on)) fun h10 h =>
 cE h (fun h11 h => dE h xGn (xNj a0) (oc12 h0 h1 h2 h3 h4 h5 h6 h7 h8 h9 h10 h11 (oc h11 on))) fun h11 h =>
 cE h (fun h12 h => dE h xGn (xNk a0) (oc12 h0 h1 h2 h3 h4 h5 h6 h7 h8 h9 h10 h11 (oc h12 on))) fun h12 h =>
 cE h (fun h13 h => dE h xGn (xNl a0) (oc12 h0 h1 h2 h3 h4 h5 h6 h7 h8 h9 h10 h11 (oc3 h12 h13 h13 on))) fun h13 h =>
 cE h (fun h14 h => dE h xGn (xNm a0) (oc12 h0 h1 h2 h3 h4 h5 h6 h7 h8 h9 h10 h11 (oc4 h12 h13 h14 h14 on))) fun h14 h =>
 cE h (fun h15 h => dE h xGn (xNn a0) (oc12 h0 h1 h2 h3 h4 h5 h6 h7 h8 h9 h10 h11 (oc4 h12 h13 h14 h15 on))) fun h15 h =>
 cE h (fun h16 h => dE h xGn (xNo a0) (oc12 h0 h1 h2 h3 h4 h5 h6 h7 h8 h9 h10 h11 (oc5 h12 h13 h14 h15 h16 on))) fun h16 h =>
 dE h xGn (xNp a0) (oc12 h0 h1 h2 h3 h4 h5 h6 h7 h8 h9 h10 h11 (oc5 h12 h13 h14 h15 h16 on))
theorem xCy {N : Nat} {a0 : Str} {r : Int} (h : xCg N  a0 = some r) : AbC 117 (xAj a0) (xAg r) :=
 AbsCalls.of_reach xGn rfl rfl (Nat.le_of_ble_eq_true rfl) (xVj a0 r h)
noncomputable def I115 : Info := { body := (Tryz.f115.body).getD .skip, nt := 15, results := [.tmp 2], keep := [0, 4, 6, 8], live := [], modes := [] }
theorem xJC : FnOk Tryz.prog 115 Tryz.f115 I115 := ⟨Tryz.func115, by kernel_rfl, by kernel_rfl, by kernel_rfl, by kernel_rfl⟩
def xOZ (a0 : Str) : rE I115 (xBs a0) [Y, Y] [] = dn (xBe true) [iY ((a0 : Str) == [108, 101, 116]), iY ((a0 : Str) == [108, 101, 116])] := by kernel_rfl
abbrev xHo (v0 : Str) : Prop := iN ((v0 : Str) == [108, 101, 116])
def xO0 (a0 : Str) : rE I115 (xBs a0) [F, Y, Y] [] = dn (xBe true) [xHo a0, iY ((a0 : Str) == [105, 110]), iY ((a0 : Str) == [105, 110])] := by kernel_rfl
abbrev xH4 (v0 : Str) : Prop := iN ((v0 : Str) == [105, 110])
def xO1 (a0 : Str) : rE I115 (xBs a0) [F, F, Y, Y] [] = dn (xBe true) [xHo a0, xH4 a0, iY ((a0 : Str) == [105, 102]), iY ((a0 : Str) == [105, 102])] := by kernel_rfl
abbrev xIM (v0 : Str) : Prop := iN ((v0 : Str) == [105, 102])
abbrev xLd (v0 : Str) := (v0 : Str) == [116, 104, 101, 110]
def xO2 (a0 : Str) : rE I115 (xBs a0) [F, F, F, Y, Y] [] = dn (xBe true) [xHo a0, xH4 a0, xIM a0, iY (xLd a0), iY (xLd a0)] := by kernel_rfl
abbrev xJK (v0 : Str) : Prop := iN (xLd v0)
abbrev xLe (v0 : Str) := (v0 : Str) == [101, 108, 115, 101]
def xO3 (a0 : Str) : rE I115 (xBs a0) [F, F, F, F, Y, Y] [] = dn (xBe true) [xHo a0, xH4 a0, xIM a0, xJK a0, iY (xLe a0), iY (xLe a0)] := by kernel_rfl
abbrev xKQ (v0 : Str) : Prop := iN (xLe v0)
abbrev xJ4 (v0 : Str) := (v0 : Str) == [102, 111, 114]
def xO4 (a0 : Str) : rE I115 (xBs a0) [F, F, F, F, F, Y, Y] [] = dn (xBe true) [xHo a0, xH4 a0, xIM a0, xJK a0, xKQ a0, iY (xJ4 a0), iY (xJ4 a0)] := by kernel_rfl
def xO5 (a0 : Str) : rE I115 (xBs a0) [F, F, F, F, F, F, Y] [] = dn (xBe true) [xHo a0, xH4 a0, xIM a0, xJK a0, xKQ a0, iN (xJ4 a0), iY ((a0 : Str) == [100, 111])] := by kernel_rfl
def xO6 (a0 : Str) (r1 : Int) : rE I115 (xBs a0) [F, F, F, F, F, F, F] [xAg r1] = dn (xBe (dc (r1 ≥ 0))) [xHo a0, xH4 a0, xIM a0, xJK a0, xKQ a0, iN (xJ4 a0), iN ((a0 : Str) == [100, 111]), AbC 117 (xAj a0) (xAg r1)] := by kernel_rfl
theorem xVh {N : Nat} : ∀ a0 r, xEj N a0 = some r → RE Tryz.f115 I115 (xBs a0) (xBe r) := fun a0 r h =>
 cE h (fun h0 h => dE h xJC (xOZ a0) (oc2 h0 h0 on)) fun h0 h =>
 cE h (fun h1 h => dE h xJC (xO0 a0) (oc3 h0 h1 h1 on)) fun h1 h =>
 cE h (fun h2 h => dE h xJC (xO1 a0) (oc4 h0 h1 h2 h2 on)) fun h2 h =>
 cE h (fun h3 h => dE h xJC (xO2 a0) (oc5 h0 h1 h2 h3 h3 on)) fun h3 h =>
 cE h (fun h4 h => dE h xJC (xO3 a0) (oc6 h0 h1 h2 h3 h4 h4 on)) fun h4 h =>
 cE h (fun h5 h => dE h xJC (xO4 a0) (oc7 h0 h1 h2 h3 h4 h5 h5 on)) fun h5 h =>
 cE h (fun h6 h => dE h xJC (xO5 a0) (oc7 h0 h1 h2 h3 h4 h5 h6 on)) fun h6 h =>
 bE h fun r1 h7 h => dE h xJC (xO6 a0 r1) (oc8 h0 h1 h2 h3 h4 h5 h6 (xCy h7) on)
theorem xHE {N : Nat} {a0 : Str} {r : Bool} (h : xEj N  a0 = some r) : AbC 115 (xBs a0) (xBe r) :=
 AbsCalls.of_reach xJC rfl rfl (Nat.le_of_ble_eq_true rfl) (xVh a0 r h)
noncomputable def I93 : Info := { body := (Tryz.f93.body).getD .skip, nt := 10, results := [.tmp 2], keep := [0, 4], live := [], modes := [(1, [(2, .take, false)])] }
theorem fk93 : FnOk Tryz.prog 93 Tryz.f93 I93 := ⟨Tryz.func93, by kernel_rfl, by kernel_rfl, by kernel_rfl, by kernel_rfl⟩
def xUz (a0 : Str) (r1 r2 : Bool) : rE I93 (xCU a0) [Y] [xBE r1, xBe r2] = dn (xAy (!r2)) [AbC 114 (xEF a0) (xBE r1), iY r1, AbC 115 (xBs a0) (xBe r2)] := by kernel_rfl
def xUA (a0 : Str) (r1 : Bool) : rE I93 (xCU a0) [F] [xBE r1] = dn (xAy false) [AbC 114 (xEF a0) (xBE r1), iN r1] := by kernel_rfl
theorem xWQ {N : Nat} : ∀ a0 r, xCt N a0 = some r → RE Tryz.f93 I93 (xCU a0) (xAy r) := fun a0 r h =>
 bE h fun r1 h0 h => cE h (fun h1 h => bE h fun r2 h2 h => dE h fk93 (xUz a0 r1 r2) (oc3 (xHg h0) h1 (xHE h2) on)) fun h1 h =>
 dE h fk93 (xUA a0 r1) (oc2 (xHg h0) h1 on)
theorem xAX {N : Nat} {a0 : Str} {r : Bool} (h : xCt N  a0 = some r) : AbC 93 (xCU a0) (xAy r) :=
 AbsCalls.of_reach fk93 rfl rfl (Nat.le_of_ble_eq_true rfl) (xWQ a0 r h)
noncomputable def I94 : Info := { body := (Tryz.f94.body).getD .skip, nt := 16, results := [.cell 2 25], keep := [0, 4, 14, 1, 5], live := [], modes := [], ext := [0] }
theorem fk94 : FnOk Tryz.prog 94 Tryz.f94 I94 := ⟨Tryz.func94, by kernel_rfl, by kernel_rfl, by kernel_rfl, by kernel_rfl⟩
def xUB (a0 : Psr) : rE I94 (xBJ a0) [Y] [] = dn (xAO ((Exp.mk 0 0 [] []), (Psr.mk (Psr.list a0) (Psr.pos a0) (Psr.pos a0)))) [xGU a0] := by kernel_rfl
def xUC (a0 : Psr) : rE I94 (xBJ a0) [F] [] = dn (xAO ((Exp.mk 0 0 [] []), a0)) [xJJ a0] := by kernel_rfl
theorem xWR {N : Nat} : ∀ a0 r, xBA N a0 = some r → RE Tryz.f94 I94 (xBJ a0) (xAO r) := fun a0 r h =>
 cE h (fun h0 h => dE h fk94 (xUB a0) (oc h0 on)) fun h0 h =>
 dE h fk94 (xUC a0) (oc h0 on)
theorem xDA {N : Nat} {a0 : Psr} {r : Exp × Psr} (h : xBA N  a0 = some r) : AbC 94 (xBJ a0) (xAO r) :=
 AbsCalls.of_reach fk94 rfl rfl (Nat.le_of_ble_eq_true rfl) (xWR a0 r h)
noncomputable def I52 : Info := { body := (Tryz.f52.body).getD .skip, nt := 26, results := [.tmp 2], keep := [0, 4, 6, 28, 1, 7], live := [], modes := [(2, [(3, .take, false)])], ext := [0] }
theorem fk52 : FnOk Tryz.prog 52 Tryz.f52 I52 := ⟨Tryz.func52, by kernel_rfl, by kernel_rfl, by kernel_rfl, by kernel_rfl⟩
abbrev xDH (v0 : Psr) (v1 : Tok × Psr) : Prop := AbC 51 (xCx v0) (xAf v1)
def xTc (a0 : Psr) (r1 : Tok × Psr) (r2 : Exp × Psr) : rE I52 (xCY a0) [Y, Y] [xAf r1, xAO r2] = dn (xB2 ([], r2.2)) [xDH a0 r1, iY ((Tok.kind r1.1) != 1), iY true, AbC 94 (xBJ r1.2) (xAO r2)] := by kernel_rfl
abbrev xHp (v0 : Tok × Psr) (v1 : Bool) : Prop := AbC 93 (xCU (Tok.text v0.1)) (xAy v1)
def xTd (a0 : Psr) (r1 : Tok × Psr) (r2 : Bool) (r3 : Exp × Psr) : rE I52 (xCY a0) [F, Y] [xAf r1, xAy r2, xAO r3] = dn (xB2 ([], r3.2)) [xDH a0 r1, iN ((Tok.kind r1.1) != 1), xHp r1 r2, iY (!r2), AbC 94 (xBJ r1.2) (xAO r3)] := by kernel_rfl
abbrev xG2 (v0 : Tok × Psr) := Psr.mk (Psr.list v0.2) (W ((Psr.pos v0.2) + 1)) (Psr.bad v0.2)
def xTe (a0 : Psr) (r1 : Tok × Psr) (r2 : Bool) : rE I52 (xCY a0) [F, F] [xAf r1, xAy r2] = dn (xB2 ((Tok.text r1.1), (xG2 r1))) [xDH a0 r1, iN ((Tok.kind r1.1) != 1), xHp r1 r2, iN (!r2)] := by kernel_rfl
theorem xWl {N : Nat} : ∀ a0 r, xBB N a0 = some r → RE Tryz.f52 I52 (xCY a0) (xB2 r) := fun a0 r h =>
 bE h fun r1 h0 h => cE h (fun h1 h => bE h fun r2 h3 h => dE h fk52 (xTc a0 r1 r2) (oc4 (xAi h0) h1 rfl (xDA h3) on)) fun h1 h =>
 bE h fun r2 h2 h => cE h (fun h3 h => bE h fun r3 h4 h => dE h fk52 (xTd a0 r1 r2 r3) (oc5 (xAi h0) h1 (xAX h2) h3 (xDA h4) on)) fun h3 h =>
 dE h fk52 (xTe a0 r1 r2) (oc4 (xAi h0) h1 (xAX h2) h3 on)
theorem xFG {N : Nat} {a0 : Psr} {r : Str × Psr} (h : xBB N  a0 = some r) : AbC 52 (xCY a0) (xB2 r) :=
 AbsCalls.of_reach fk52 rfl rfl (Nat.le_of_ble_eq_true rfl) (xWl a0 r h)
noncomputable def I95 : Info := { body := (Tryz.f95.body).getD .skip, nt := 14, results := [.tmp 4], keep := [0, 2, 4, 8, 5], live := [], modes := [(1, [(3, .take, false)])] }
theorem fk95 : FnOk Tryz.prog 95 Tryz.f95 I95 := ⟨Tryz.func95, by kernel_rfl, by kernel_rfl, by kernel_rfl, by kernel_rfl⟩
def xUD (a0 : Tok) (a1 : Str) : rE I95 (xCM a0 a1) [Y] [] = dn (xBz (((Tok.text a0) : Str) == a1)) [iY ((Tok.kind a0) == 4)] := by kernel_rfl
def xUE (a0 : Tok) (a1 : Str) : rE I95 (xCM a0 a1) [F] [] = dn (xBz false) [iN ((Tok.kind a0) == 4)] := by kernel_rfl
theorem xWS {N : Nat} : ∀ a0 a1 r, xEv N a0 a1 = some r → RE Tryz.f95 I95 (xCM a0 a1) (xBz r) := fun a0 a1 r h =>
 cE h (fun h0 h => dE h fk95 (xUD a0 a1) (oc h0 on)) fun h0 h =>
 dE h fk95 (xUE a0 a1) (oc h0 on)
theorem xEJ {N : Nat} {a0 : Tok} {a1 : Str} {r : Bool} (h : xEv N  a0 a1 = some r) : AbC 95 (xCM a0 a1) (xBz r) :=
 AbsCalls.of_reach fk95 rfl rfl (Nat.le_of_ble_eq_true rfl) (xWS a0 a1 r h)
noncomputable def I53 : Info := { body := (Tryz.f53.body).getD .skip, nt := 23, results := [], keep := [0, 2, 26, 1], live := [], modes := [(0, [(4, .take, false)])], ext := [0] }
theorem fk53 : FnOk Tryz.prog 53 Tryz.f53 I53 := ⟨Tryz.func53, by kernel_rfl, by kernel_rfl, by kernel_rfl, by kernel_rfl⟩
abbrev xMU (v0 : Tok × Psr) := xAo (Psr.mk (Psr.list v0.2) (W ((Psr.pos v0.2) + 1)) (Psr.bad v0.2))
def xTf (a0 : Psr) (a1 : Str) (r1 : Tok × Psr) (r2 : Bool) : rE I53 (xAL a0 a1) [Y, Y] [xAf r1, xAs r2] = dn (xMU r1) [xDH a0 r1, AbC 50 (xBb r1.1 a1) (xAs r2), iY r2, iY true] := by kernel_rfl
abbrev xHq (v0 v1 : Tok × Psr) : Prop := AbC 51 (xCx v0.2) (xAf v1)
def xTg (a0 : Psr) (a1 : Str) (r1 : Tok × Psr) (r2 : Bool) (r3 : Tok × Psr) (r4 : Bool) : rE I53 (xAL a0 a1) [F, Y] [xAf r1, xAs r2, xAf r3, xBz r4] = dn (xMU r3) [xDH a0 r1, AbC 50 (xBb r1.1 a1) (xAs r2), iN r2, xHq r1 r3, AbC 95 (xCM r3.1 a1) (xBz r4), iY r4] := by kernel_rfl
def xTh (a0 : Psr) (a1 : Str) (r1 : Tok × Psr) (r2 : Bool) (r3 : Tok × Psr) (r4 : Bool) (r5 : Exp × Psr) : rE I53 (xAL a0 a1) [F, F] [xAf r1, xAs r2, xAf r3, xBz r4, xAO r5] = dn (xAo r5.2) [xDH a0 r1, AbC 50 (xBb r1.1 a1) (xAs r2), iN r2, xHq r1 r3, AbC 95 (xCM r3.1 a1) (xBz r4), iN r4, AbC 94 (xBJ r3.2) (xAO r5)] := by kernel_rfl
theorem xWm {N : Nat} : ∀ a0 a1 r, xAw N a0 a1 = some r → RE Tryz.f53 I53 (xAL a0 a1) (xAo r) := fun a0 a1 r h =>
 bE h fun r1 h0 h => bE h fun r2 h1 h => cE h (fun h2 h => dE h fk53 (xTf a0 a1 r1 r2) (oc4 (xAi h0) (xBl h1) h2 rfl on)) fun h2 h =>
 bE h fun r3 h3 h => bE h fun r4 h4 h => cE h (fun h5 h => dE h fk53 (xTg a0 a1 r1 r2 r3 r4) (oc6 (xAi h0) (xBl h1) h2 (xAi h3) (xEJ h4) h5 on)) fun h5 h =>
 bE h fun r5 h6 h => dE h fk53 (xTh a0 a1 r1 r2 r3 r4 r5) (oc7 (xAi h0) (xBl h1) h2 (xAi h3) (xEJ h4) h5 (xDA h6) on)
theorem xBv {N : Nat} {a0 : Psr} {a1 : Str} {r : Psr} (h : xAw N  a0 a1 = some r) : AbC 53 (xAL a0 a1) (xAo r) :=
 AbsCalls.of_reach fk53 rfl rfl (Nat.le_of_ble_eq_true rfl) (xWm a0 a1 r h)
noncomputable def I55 : Info := { body := (Tryz.f55.body).getD .skip, nt := 16, results := [.tmp 4], keep := [0, 2, 8, 16, 1], live := [], modes := [], ext := [0] }
theorem fk55 : FnOk Tryz.prog 55 Tryz.f55 I55 := ⟨Tryz.func55, by kernel_rfl, by kernel_rfl, by kernel_rfl, by kernel_rfl⟩
def xTn (a0 : Psr) (a1 : Str) (r1 : Tok × Psr) (r2 : Bool) : rE I55 (xAm a0 a1) [Y] [xAf r1, xBz r2] = dn (xAc (true, (xG2 r1))) [xDH a0 r1, AbC 95 (xCM r1.1 a1) (xBz r2), iY r2] := by kernel_rfl
def xTo (a0 : Psr) (a1 : Str) (r1 : Tok × Psr) (r2 : Bool) : rE I55 (xAm a0 a1) [F] [xAf r1, xBz r2] = dn (xAc (false, r1.2)) [xDH a0 r1, AbC 95 (xCM r1.1 a1) (xBz r2), iN r2] := by kernel_rfl
theorem xWp {N : Nat} : ∀ a0 a1 r, xAA N a0 a1 = some r → RE Tryz.f55 I55 (xAm a0 a1) (xAc r) := fun a0 a1 r h =>
 bE h fun r1 h0 h => bE h fun r2 h1 h => cE h (fun h2 h => dE h fk55 (xTn a0 a1 r1 r2) (oc3 (xAi h0) (xEJ h1) h2 on)) fun h2 h =>
 dE h fk55 (xTo a0 a1 r1 r2) (oc3 (xAi h0) (xEJ h1) h2 on)
theorem xAk {N : Nat} {a0 : Psr} {a1 : Str} {r : Bool × Psr} (h : xAA N  a0 a1 = some r) : AbC 55 (xAm a0 a1) (xAc r) :=
 AbsCalls.of_reach fk55 rfl rfl (Nat.le_of_ble_eq_true rfl) (xWp a0 a1 r h)
noncomputable def I56 : Info := { body := (Tryz.f56.body).getD .skip, nt := 11, results := [.tmp 2], keep := [0, 4, 10], live := [], modes := [] }
theorem fk56 : FnOk Tryz.prog 56 Tryz.f56 I56 := ⟨Tryz.func56, by kernel_rfl, by kernel_rfl, by kernel_rfl, by kernel_rfl⟩
def xTp (a0 : Int) (r1 : Bool) : rE I56 (xDI a0) [Y] [xAT r1] = dn (xCN [63]) [AbC 97 (xCl a0 1 5) (xAT r1), iY (!r1)] := by kernel_rfl
def xTq (a0 : Int) (r1 : Bool) : rE I56 (xDI a0) [F] [xAT r1] = dn (xCN (gD [[43], [45], [42], [60], [61, 61]] (tN (W (a0 - 1))) Ty.str.dflt)) [AbC 97 (xCl a0 1 5) (xAT r1), iN (!r1), (0 : Int) ≤ (W (a0 - 1)) ∧ (W (a0 - 1)) < (Ln [[43], [45], [42], [60], [61, 61]])] := by kernel_rfl
theorem xWq {N : Nat} : ∀ a0 r, xEZ N a0 = some r → RE Tryz.f56 I56 (xDI a0) (xCN r) := fun a0 r h =>
 bE h fun r1 h0 h => cE h (fun h1 h => dE h fk56 (xTp a0 r1) (oc2 (xC5 h0) h1 on)) fun h1 h =>
 iE h fun h2 h => dE h fk56 (xTq a0 r1) (oc3 (xC5 h0) h1 h2 on)
theorem xGD {N : Nat} {a0 : Int} {r : Str} (h : xEZ N  a0 = some r) : AbC 56 (xDI a0) (xCN r) :=
 AbsCalls.of_reach fk56 rfl rfl (Nat.le_of_ble_eq_true rfl) (xWq a0 r h)
def G116 (q : Psr → Option (Exp × Psr)) : Prop := ∀ a0 r, q a0 = some r → AbC 116 (xAK a0) (xAD r)
def G31 (q : Psr → Option (Exp × Psr)) : Prop := ∀ a0 r, q a0 = some r → AbC 31 (xAZ a0) (xAe r)
def G131 (q : Psr → Str → Option ((List Exp) × Psr)) : Prop := ∀ a0 a1 r, q a0 a1 = some r → AbC 131 (xBR a0 a1) (xAR r)
def G96 (q : Psr → Option (Exp × Psr)) : Prop := ∀ a0 r, q a0 = some r → AbC 96 (xBV a0) (xAU r)
def G54 (q : Psr → Option (Exp × Psr)) : Prop := ∀ a0 r, q a0 = some r → AbC 54 (xDg a0) (xBG r)
noncomputable def I116 : Info := { body := (Tryz.f116.body).getD .skip, nt := 94, results := [.cell 2 25], keep := [0, 4, 6, 8, 14, 42, 70, 108, 156, 168, 1, 5, 7, 9], live := [], modes := [(8, [(3, .take, false)]), (11, [(3, .take, false)]), (20, [(0, .take, false)])], ext := [0] }
theorem xIH : FnOk Tryz.prog 116 Tryz.f116 I116 := ⟨Tryz.func116, by kernel_rfl, by kernel_rfl, by kernel_rfl, by kernel_rfl⟩
def xO7 (a0 : Psr) (r1 : Tok × Psr) : rE I116 (xAK a0) [Y] [xAf r1] = dn (xAD ((Exp.mk 1 (Tok.n r1.1) [] []), (xG2 r1))) [xDH a0 r1, iY ((Tok.kind r1.1) == 2)] := by kernel_rfl
abbrev xGv (v0 : Tok × Psr) : Prop := iN ((Tok.kind v0.1) == 2)
def xO8 (a0 : Psr) (r1 : Tok × Psr) : rE I116 (xAK a0) [F, Y] [xAf r1] = dn (xAD ((Exp.mk 2 0 (Tok.text r1.1) []), (xG2 r1))) [xDH a0 r1, xGv r1, iY ((Tok.kind r1.1) == 3)] := by kernel_rfl
abbrev xGV (v0 : Tok × Psr) : Prop := iN ((Tok.kind v0.1) == 3)
abbrev xGw (v0 : Tok × Psr) : Prop := iY ((Tok.kind v0.1) == 1)
def xO9 (a0 : Psr) (r1 : Tok × Psr) (r2 : Bool) : rE I116 (xAK a0) [F, F, Y, Y] [xAf r1, xAy r2] = dn (xAD ((Exp.mk 3 0 (Tok.text r1.1) []), (xG2 r1))) [xDH a0 r1, xGv r1, xGV r1, xGw r1, xHp r1 r2, iY r2] := by kernel_rfl
abbrev xJL (v0 : Tok × Psr) (v1 : Int) : Prop := AbC 117 (xAj (Tok.text v0.1)) (xAg v1)
def xPa (a0 : Psr) (r1 : Tok × Psr) (r2 : Bool) (r3 : Int) (r4 : Psr) (r5 : (List Exp) × Psr) : rE I116 (xAK a0) [F, F, Y, F, Y, Y] [xAf r1, xAy r2, xAg r3, xAo r4, xAR r5] = dn (xAD ((Exp.mk 5 0 (Tok.text r1.1) r5.1), r5.2)) [xDH a0 r1, xGv r1, xGV r1, xGw r1, xHp r1 r2, iN r2, xGw r1, xJL r1 r3, iY (dc (r3 ≥ 0)), AbC 53 (xAL (xG2 r1) [40]) (xAo r4), AbC 131 (xBR r4 [41]) (xAR r5)] := by kernel_rfl
abbrev xH5 (v0 : Tok × Psr) (v1 : Bool × Psr) : Prop := AbC 55 (xAm v0.2 [91]) (xAc v1)
def xPb (a0 : Psr) (r1 : Tok × Psr) (r2 : Bool) (r3 : Int) (r4 : Bool × Psr) (r5 : (List Exp) × Psr) : rE I116 (xAK a0) [F, F, Y, F, Y, F, Y] [xAf r1, xAy r2, xAg r3, xAc r4, xAR r5] = dn (xAD ((Exp.mk 4 0 [] r5.1), r5.2)) [xDH a0 r1, xGv r1, xGV r1, xGw r1, xHp r1 r2, iN r2, xGw r1, xJL r1 r3, xIo r3, xH5 r1 r4, iY r4.1, AbC 131 (xBR r4.2 [93]) (xAR r5)] := by kernel_rfl
def xPc (a0 : Psr) (r1 : Tok × Psr) (r2 : Bool) (r3 : Int) (r4 : Bool × Psr) (r5 : Bool × Psr) (r6 : Exp × Psr) (r7 : Psr) : rE I116 (xAK a0) [F, F, Y, F, Y, F, F, Y] [xAf r1, xAy r2, xAg r3, xAc r4, xAc r5, xAe r6, xAo r7] = dn (xAD (r6.1, r7)) [xDH a0 r1, xGv r1, xGV r1, xGw r1, xHp r1 r2, iN r2, xGw r1, xJL r1 r3, xIo r3, xH5 r1 r4, iN r4.1, AbC 55 (xAm r4.2 [40]) (xAc r5), iY r5.1, AbC 31 (xAZ r5.2) (xAe r6), AbC 53 (xAL r6.2 [41]) (xAo r7)] := by kernel_rfl
def xPd (a0 : Psr) (r1 : Tok × Psr) (r2 : Bool) (r3 : Int) (r4 : Bool × Psr) (r5 : Bool × Psr) (r6 : Exp × Psr) : rE I116 (xAK a0) [F, F, Y, F, Y, F, F, F] [xAf r1, xAy r2, xAg r3, xAc r4, xAc r5, xAO r6] = dn (xAD (r6.1, r6.2)) [xDH a0 r1, xGv r1, xGV r1, xGw r1, xHp r1 r2, iN r2, xGw r1, xJL r1 r3, xIo r3, xH5 r1 r4, iN r4.1, AbC 55 (xAm r4.2 [40]) (xAc r5), iN r5.1, AbC 94 (xBJ r5.2) (xAO r6)] := by kernel_rfl
abbrev xH6 (v0 : Tok × Psr) : Prop := iN ((Tok.kind v0.1) == 1)
def xPe (a0 : Psr) (r1 : Tok × Psr) (r2 : Bool × Psr) (r3 : (List Exp) × Psr) : rE I116 (xAK a0) [F, F, F, F, F, F, Y] [xAf r1, xAc r2, xAR r3] = dn (xAD ((Exp.mk 4 0 [] r3.1), r3.2)) [xDH a0 r1, xGv r1, xGV r1, xH6 r1, iN false, xH6 r1, iN false, xH5 r1 r2, iY r2.1, AbC 131 (xBR r2.2 [93]) (xAR r3)] := by kernel_rfl
def xPf (a0 : Psr) (r1 : Tok × Psr) (r2 : Bool × Psr) (r3 : Bool × Psr) (r4 : Exp × Psr) (r5 : Psr) : rE I116 (xAK a0) [F, F, F, F, F, F, F, Y] [xAf r1, xAc r2, xAc r3, xAe r4, xAo r5] = dn (xAD (r4.1, r5)) [xDH a0 r1, xGv r1, xGV r1, xH6 r1, iN false, xH6 r1, iN false, xH5 r1 r2, iN r2.1, AbC 55 (xAm r2.2 [40]) (xAc r3), iY r3.1, AbC 31 (xAZ r3.2) (xAe r4), AbC 53 (xAL r4.2 [41]) (xAo r5)] := by kernel_rfl
def xPg (a0 : Psr) (r1 : Tok × Psr) (r2 : Bool × Psr) (r3 : Bool × Psr) (r4 : Exp × Psr) : rE I116 (xAK a0) [F, F, F, F, F, F, F, F] [xAf r1, xAc r2, xAc r3, xAO r4] = dn (xAD (r4.1, r4.2)) [xDH a0 r1, xGv r1, xGV r1, xH6 r1, iN false, xH6 r1, iN false, xH5 r1 r2, iN r2.1, AbC 55 (xAm r2.2 [40]) (xAc r3), iN r3.1, AbC 94 (xBJ r3.2) (xAO r4)] := by kernel_rfl
theorem xVi {N q0 q1 q2 q3 q4} (g0 : G116 q0) (g1 : G31 q1) (g2 : G131 q2) (g3 : G96 q3) (g4 : G54 q4) : ∀ a0 r, xB0 N q0 q1 q2 q3 q4 a0 = some r → RE Tryz.f116 I116 (xAK a0) (xAD r) := fun a0 r h =>
 bE h fun r1 h0 h => cE h (fun h1 h => dE h xIH (xO7 a0 r1) (oc2 (xAi h0) h1 on)) fun h1 h =>
 cE h (fun h2 h => dE h xIH (xO8 a0 r1) (oc3 (xAi h0) h1 h2 on)) fun h2 h =>
 cE h (fun h3 h => bE h fun r2 h4 h => cE h (fun h5 h => dE h xIH (xO9 a0 r1 r2) (oc6 (xAi h0) h1 h2 h3 (xAX h4) h5 on)) fun h5 h =>
 bE h fun r3 h7 h => cE h (fun h8 h => bE h fun r4 h9 h => bE h fun r5 h10 h => dE h xIH (xPa a0 r1 r2 r3 r4 r5) (oc11 (xAi h0) h1 h2 h3 (xAX h4) h5 h3 (xCy h7) h8 (xBv h9) (g2 _ _ _ h10) on)) fun h8 h =>
 bE h fun r4 h9 h => cE h (fun h10 h => bE h fun r5 h11 h => dE h xIH (xPb a0 r1 r2 r3 r4 r5) (oc12 (xAi h0) h1 h2 h3 (xAX h4) h5 h3 (xCy h7) h8 (xAk h9) h10 (g2 _ _ _ h11) on)) fun h10 h =>
 bE h fun r5 h11 h => cE h (fun h12 h => bE h fun r6 h13 h => bE h fun r7 h14 h => dE h xIH (xPc a0 r1 r2 r3 r4 r5 r6 r7) (oc12 (xAi h0) h1 h2 h3 (xAX h4) h5 h3 (xCy h7) h8 (xAk h9) h10 (xAk h11) (oc3 h12 (g1 _ _ h13) (xBv h14) on))) fun h12 h =>
 bE h fun r6 h13 h => dE h xIH (xPd a0 r1 r2 r3 r4 r5 r6) (oc12 (xAi h0) h1 h2 h3 (xAX h4) h5 h3 (xCy h7) h8 (xAk h9) h10 (xAk h11) (oc2 h12 (xDA h13) on))) fun h3 h =>
 bE h fun r2 h7 h => cE h (fun h8 h => bE h fun r3 h9 h => dE h xIH (xPe a0 r1 r2 r3) (oc10 (xAi h0) h1 h2 h3 rfl h3 rfl (xAk h7) h8 (g2 _ _ _ h9) on)) fun h8 h =>
 bE h fun r3 h9 h => cE h (fun h10 h => bE h fun r4 h11 h => bE h fun r5 h12 h => dE h xIH (xPf a0 r1 r2 r3 r4 r5) (oc12 (xAi h0) h1 h2 h3 rfl h3 rfl (xAk h7) h8 (xAk h9) h10 (g1 _ _ h11) (oc (xBv h12) on))) fun h10 h =>
 bE h fun r4 h11 h => dE h xIH (xPg a0 r1 r2 r3 r4) (oc12 (xAi h0) h1 h2 h3 rfl h3 rfl (xAk h7) h8 (xAk h9) h10 (xDA h11) on)
theorem xGb {N q0 q1 q2 q3 q4} (g0 : G116 q0) (g1 : G31 q1) (g2 : G131 q2) (g3 : G96 q3) (g4 : G54 q4) {a0} {r} (h : xB0 N q0 q1 q2 q3 q4 a0 = some r) : AbC 116 (xAK a0) (xAD r) :=
 AbsCalls.of_reach xIH rfl rfl (Nat.le_of_ble_eq_true rfl) (xVi g0 g1 g2 g3 g4 a0 r h)
noncomputable def I31 : Info := { body := (Tryz.f31.body).getD .skip, nt := 133, results := [.cell 2 25], keep := [0, 4, 6, 8, 10, 12, 16, 18, 84, 160, 230, 232, 234, 236, 248, 1, 5, 7, 9, 11, 13], live := [(28, [0, 4, 12, 230, 232, 234, 1, 5, 13])], modes := [(5, [(1, .take, false), (5, .take, false)]), (7, [(1, .take, false), (5, .take, false)]), (8, [(0, .take, false)]), (12, [(1, .take, false), (5, .take, false)]), (14, [(1, .take, false), (5, .take, false)]), (16, [(1, .take, false), (5, .take, false)]), (17, [(0, .take, false)]), (22, [(1, .take, false), (5, .take, false)]), (24, [(1, .take, false), (5, .take, false)]), (25, [(0, .take, false)]), (31, [(1, .take, false)]), (32, [(1, .take, false)]), (33, [(0, .take, false)])], ext := [0] }
theorem fk31 : FnOk Tryz.prog 31 Tryz.f31 I31 := ⟨Tryz.func31, by kernel_rfl, by kernel_rfl, by kernel_rfl, by kernel_rfl⟩
def xJj (x115 : List Int) (x116 x117 : Int) (b0 : Psr) (b2 b6 : Exp) : St := [(0, .v false [.ptr 0 0]), (4, .v false [.ptr 2 0]), (12, .v false [.ptr 6 0]), (230, .v false [.sl .own .int x115]), (232, .v false [.int .i64 x116]), (234, .v false [.int .i64 x117]), (1, .v true [.sl .ro .tok (Psr.list b0), .int .i64 (Psr.pos b0), .int .i64 (Psr.bad b0)]), (5, .v true [.int .i64 (Exp.kind b2), .int .i64 (Exp.n b2), .str (Exp.text b2), .sl .own .exp (Exp.args b2)]), (13, .v true [.int .i64 (Exp.kind b6), .int .i64 (Exp.n b6), .str (Exp.text b6), .sl .own .exp (Exp.args b6)])]
def xPT (x115 : List Int) (x116 x117 : Int) (b0 : Psr) (b2 b6 : Exp) (r1 : Str) (r2 : Bool × Psr) (r3 : Exp × Psr) : rS 28 I31 (xJj x115 x116 x117 b0 b2 b6) [Y, Y] [xCN r1, xAc r2, xBG r3] = dn (xAe ((Exp.mk 6 (gD x115 (tN x117) Ty.int.dflt) [] [(Exp.re b6), (Exp.re r3.1)]), r3.2)) [iY (dc (x117 < x116)), (0 : Int) ≤ x117 ∧ x117 < (Ln x115), AbC 56 (xDI (gD x115 (tN x117) Ty.int.dflt)) (xCN r1), AbC 55 (xAm b0 r1) (xAc r2), iY r2.1, AbC 54 (xDg r2.2) (xBG r3)] := by kernel_rfl
def xPU (x115 : List Int) (x116 x117 : Int) (b0 : Psr) (b2 b6 : Exp) (r1 : Str) (r2 : Bool × Psr) : rS 28 I31 (xJj x115 x116 x117 b0 b2 b6) [Y, F] [xCN r1, xAc r2] = st 28 I31 (xJj x115 x116 (W (x117 + 1)) r2.2 b2 b6) [iY (dc (x117 < x116)), (0 : Int) ≤ x117 ∧ x117 < (Ln x115), AbC 56 (xDI (gD x115 (tN x117) Ty.int.dflt)) (xCN r1), AbC 55 (xAm b0 r1) (xAc r2), iN r2.1] := by kernel_rfl
def xPV (x115 : List Int) (x116 x117 : Int) (b0 : Psr) (b2 b6 : Exp) : rS 28 I31 (xJj x115 x116 x117 b0 b2 b6) [F] [] = dn (xAe (b6, b0)) [iN (dc (x117 < x116))] := by kernel_rfl
abbrev xJM (v0 : Tok × Psr) (v1 : Bool) : Prop := AbC 50 (xBb v0.1 [108, 101, 116]) (xAs v1)
abbrev xMG (v0 : Tok × Psr) (v1 : Str × Psr) : Prop := AbC 52 (xCY (xG2 v0)) (xB2 v1)
abbrev xGW (v0 : Psr) (v1 : Exp × Psr) : Prop := AbC 31 (xAZ v0) (xAe v1)
abbrev xKR (v0 v1 : Exp × Psr) : Prop := Ln ([] ++ [(Exp.re v0.1)]) + Ln [(Exp.re v1.1)] ≤ Lim
def xSl (a0 : Psr) (r1 : Tok × Psr) (r2 : Bool) (r3 : Str × Psr) (r4 : Psr) (r5 : Exp × Psr) (r6 : Psr) (r7 : Exp × Psr) : rE I31 (xAZ a0) [Y] [xAf r1, xAs r2, xB2 r3, xAo r4, xAe r5, xAo r6, xAe r7] = dn (xAe ((Exp.mk 7 0 r3.1 (([] ++ [(Exp.re r5.1)]) ++ [(Exp.re r7.1)])), r7.2)) [xDH a0 r1, xJM r1 r2, iY r2, xMG r1 r3, AbC 53 (xAL r3.2 [61]) (xAo r4), xGW r4 r5, 0 + Ln [(Exp.re r5.1)] ≤ Lim, AbC 53 (xAL r5.2 [105, 110]) (xAo r6), xGW r6 r7, xKR r5 r7] := by kernel_rfl
def xSm (a0 : Psr) (r1 : Tok × Psr) (r2 : Bool) (r3 : Tok × Psr) (r4 : Bool) (r5 : Exp × Psr) (r6 : Psr) (r7 : Exp × Psr) (r8 : Psr) (r9 : Exp × Psr) : rE I31 (xAZ a0) [F, Y] [xAf r1, xAs r2, xAf r3, xAs r4, xAe r5, xAo r6, xAe r7, xAo r8, xAe r9] = dn (xAe ((Exp.mk 8 0 [] ((([] ++ [(Exp.re r5.1)]) ++ [(Exp.re r7.1)]) ++ [(Exp.re r9.1)])), r9.2)) [xDH a0 r1, xJM r1 r2, iN r2, xHq r1 r3, AbC 50 (xBb r3.1 [105, 102]) (xAs r4), iY r4, AbC 31 (xAZ (xG2 r3)) (xAe r5), 0 + Ln [(Exp.re r5.1)] ≤ Lim, AbC 53 (xAL r5.2 [116, 104, 101, 110]) (xAo r6), xGW r6 r7, xKR r5 r7, AbC 53 (xAL r7.2 [101, 108, 115, 101]) (xAo r8), xGW r8 r9, Ln (([] ++ [(Exp.re r5.1)]) ++ [(Exp.re r7.1)]) + Ln [(Exp.re r9.1)] ≤ Lim] := by kernel_rfl
def xSn (a0 : Psr) (r1 : Tok × Psr) (r2 : Bool) (r3 : Tok × Psr) (r4 : Bool) (r5 : Tok × Psr) (r6 : Bool) (r7 : Str × Psr) (r8 : Psr) (r9 : Exp × Psr) (r10 : Psr) (r11 : Exp × Psr) : rE I31 (xAZ a0) [F, F, Y] [xAf r1, xAs r2, xAf r3, xAs r4, xAf r5, xAs r6, xB2 r7, xAo r8, xAe r9, xAo r10, xAe r11] = dn (xAe ((Exp.mk 9 0 r7.1 (([] ++ [(Exp.re r9.1)]) ++ [(Exp.re r11.1)])), r11.2)) [xDH a0 r1, xJM r1 r2, iN r2, xHq r1 r3, AbC 50 (xBb r3.1 [105, 102]) (xAs r4), iN r4, xHq r3 r5, AbC 50 (xBb r5.1 [102, 111, 114]) (xAs r6), iY r6, xMG r5 r7, AbC 53 (xAL r7.2 [105, 110]) (xAo r8), xGW r8 r9, 0 + Ln [(Exp.re r9.1)] ≤ Lim, AbC 53 (xAL r9.2 [100, 111]) (xAo r10), xGW r10 r11, xKR r9 r11] := by kernel_rfl
def xSo (a0 : Psr) (r1 : Tok × Psr) (r2 : Bool) (r3 : Tok × Psr) (r4 : Bool) (r5 : Tok × Psr) (r6 : Bool) (r7 : Exp × Psr) : rE I31 (xAZ a0) [F, F, F] [xAf r1, xAs r2, xAf r3, xAs r4, xAf r5, xAs r6, xBG r7] = st 28 I31 (xJj [4, 5] (Ln [4, 5] : Int) 0 r7.2 (Exp.mk 0 0 [] []) r7.1) [xDH a0 r1, xJM r1 r2, iN r2, xHq r1 r3, AbC 50 (xBb r3.1 [105, 102]) (xAs r4), iN r4, xHq r3 r5, AbC 50 (xBb r5.1 [102, 111, 114]) (xAs r6), iN r6, AbC 54 (xDg r5.2) (xBG r7)] := by kernel_rfl
theorem xVs {N q0 q1 q2 q3 q4} (g0 : G116 q0) (g1 : G31 q1) (g2 : G131 q2) (g3 : G96 q3) (g4 : G54 q4) : ∀ n x115 x116 x117 b0 b2 b6 r, xCb N q0 q1 q2 q3 q4 n x115 x116 x117 b0 b2 b6 = some r → RS Tryz.f31 I31 28 (xJj x115 x116 x117 b0 b2 b6) (xAe r) := by
 intro n
 induction n with
 | zero => exact fun _ _ _ _ _ _ _ h => nE h
 | succ n ih =>
  exact fun x115 x116 x117 b0 b2 b6 r h =>
   cE h (fun h0 h => iE h fun h1 h => bE h fun r1 h2 h => bE h fun r2 h3 h => cE h (fun h4 h => bE h fun r3 h5 h => dS h fk31 (xPT x115 x116 x117 b0 b2 b6 r1 r2 r3) (oc6 h0 h1 (xGD h2) (xAk h3) h4 (g4 _ _ h5) on)) fun h4 h =>
   tS fk31 (xPU x115 x116 x117 b0 b2 b6 r1 r2) (oc5 h0 h1 (xGD h2) (xAk h3) h4 on) (ih _ _ _ _ _ _ _ h)) fun h0 h =>
   dS h fk31 (xPV x115 x116 x117 b0 b2 b6) (oc h0 on)
theorem xV3 {N q0 q1 q2 q3 q4} (g0 : G116 q0) (g1 : G31 q1) (g2 : G131 q2) (g3 : G96 q3) (g4 : G54 q4) : ∀ a0 r, xB1 N q0 q1 q2 q3 q4 a0 = some r → RE Tryz.f31 I31 (xAZ a0) (xAe r) := fun a0 r h =>
 bE h fun r1 h0 h => bE h fun r2 h1 h => cE h (fun h2 h => bE h fun r3 h3 h => bE h fun r4 h4 h => bE h fun r5 h5 h => iE h fun h6 h => bE h fun r6 h7 h => bE h fun r7 h8 h => iE h fun h9 h => dE h fk31 (xSl a0 r1 r2 r3 r4 r5 r6 r7) (oc10 (xAi h0) (xBl h1) h2 (xFG h3) (xBv h4) (g1 _ _ h5) h6 (xBv h7) (g1 _ _ h8) h9 on)) fun h2 h =>
 bE h fun r3 h3 h => bE h fun r4 h4 h => cE h (fun h5 h => bE h fun r5 h6 h => iE h fun h7 h => bE h fun r6 h8 h => bE h fun r7 h9 h => iE h fun h10 h => bE h fun r8 h11 h => bE h fun r9 h12 h => iE h fun h13 h => dE h fk31 (xSm a0 r1 r2 r3 r4 r5 r6 r7 r8 r9) (oc12 (xAi h0) (xBl h1) h2 (xAi h3) (xBl h4) h5 (g1 _ _ h6) h7 (xBv h8) (g1 _ _ h9) h10 (xBv h11) (oc2 (g1 _ _ h12) h13 on))) fun h5 h =>
 bE h fun r5 h6 h => bE h fun r6 h7 h => cE h (fun h8 h => bE h fun r7 h9 h => bE h fun r8 h10 h => bE h fun r9 h11 h => iE h fun h12 h => bE h fun r10 h13 h => bE h fun r11 h14 h => iE h fun h15 h => dE h fk31 (xSn a0 r1 r2 r3 r4 r5 r6 r7 r8 r9 r10 r11) (oc12 (xAi h0) (xBl h1) h2 (xAi h3) (xBl h4) h5 (xAi h6) (xBl h7) h8 (xFG h9) (xBv h10) (g1 _ _ h11) (oc4 h12 (xBv h13) (g1 _ _ h14) h15 on))) fun h8 h =>
 bE h fun r7 h9 h => tE fk31 (xSo a0 r1 r2 r3 r4 r5 r6 r7) (oc10 (xAi h0) (xBl h1) h2 (xAi h3) (xBl h4) h5 (xAi h6) (xBl h7) h8 (g4 _ _ h9) on) (xVs g0 g1 g2 g3 g4 _ _ _ _ _ _ _ _ h)
theorem xGc {N q0 q1 q2 q3 q4} (g0 : G116 q0) (g1 : G31 q1) (g2 : G131 q2) (g3 : G96 q3) (g4 : G54 q4) {a0} {r} (h : xB1 N q0 q1 q2 q3 q4 a0 = some r) : AbC 31 (xAZ a0) (xAe r) :=
 AbsCalls.of_reach fk31 rfl rfl (Nat.le_of_ble_eq_true rfl) (xV3 g0 g1 g2 g3 g4 a0 r h)
noncomputable def I131 : Info := { body := (Tryz.f131.body).getD .skip, nt := 27, results := [.tmp 4], keep := [0, 2, 8, 10, 18, 30, 46, 1], live := [(4, [0, 2, 10, 1])], modes := [(3, [(0, .take, false)]), (5, [(0, .take, false), (4, .take, false)]), (8, [(0, .take, false)])], ext := [0] }
theorem xL9 : FnOk Tryz.prog 131 Tryz.f131 I131 := ⟨Tryz.func131, by kernel_rfl, by kernel_rfl, by kernel_rfl, by kernel_rfl⟩
def xJh (x1 : Str) (x5 : List Exp) (b0 : Psr) : St := [(0, .v false [.ptr 0 0]), (2, .v false [.str x1]), (10, .v false [.sl .own .exp x5]), (1, .v true [.sl .ro .tok (Psr.list b0), .int .i64 (Psr.pos b0), .int .i64 (Psr.bad b0)])]
def xPJ (x1 : Str) (x5 : List Exp) (b0 : Psr) (r1 : Exp × Psr) (r2 : Bool × Psr) : rS 4 I131 (xJh x1 x5 b0) [Y, Y] [xAe r1, xAc r2] = dn (xAR ((x5 ++ [(Exp.re r1.1)]), r2.2)) [xGU b0, xGW b0 r1, Ln x5 + Ln [(Exp.re r1.1)] ≤ Lim, AbC 55 (xAm r1.2 x1) (xAc r2), iY r2.1] := by kernel_rfl
def xPK (x1 : Str) (x5 : List Exp) (b0 : Psr) (r1 : Exp × Psr) (r2 : Bool × Psr) (r3 : Psr) : rS 4 I131 (xJh x1 x5 b0) [Y, F] [xAe r1, xAc r2, xAo r3] = st 4 I131 (xJh x1 (x5 ++ [(Exp.re r1.1)]) r3) [xGU b0, xGW b0 r1, Ln x5 + Ln [(Exp.re r1.1)] ≤ Lim, AbC 55 (xAm r1.2 x1) (xAc r2), iN r2.1, AbC 53 (xAL r2.2 [44]) (xAo r3)] := by kernel_rfl
def xPL (x1 : Str) (x5 : List Exp) (b0 : Psr) : rS 4 I131 (xJh x1 x5 b0) [F] [] = dn (xAR (x5, b0)) [xJJ b0] := by kernel_rfl
def xPM (a0 : Psr) (a1 : Str) (r1 : Bool × Psr) : rE I131 (xBR a0 a1) [Y] [xAc r1] = dn (xAR ([], r1.2)) [AbC 55 (xAm a0 a1) (xAc r1), iY r1.1] := by kernel_rfl
def xPN (a0 : Psr) (a1 : Str) (r1 : Bool × Psr) : rE I131 (xBR a0 a1) [F] [xAc r1] = st 4 I131 (xJh a1 [] r1.2) [AbC 55 (xAm a0 a1) (xAc r1), iN r1.1] := by kernel_rfl
theorem xVo {N q0 q1 q2 q3 q4} (g0 : G116 q0) (g1 : G31 q1) (g2 : G131 q2) (g3 : G96 q3) (g4 : G54 q4) : ∀ n x1 x5 b0 r, xBS N q0 q1 q2 q3 q4 n x1 x5 b0 = some r → RS Tryz.f131 I131 4 (xJh x1 x5 b0) (xAR r) := by
 intro n
 induction n with
 | zero => exact fun _ _ _ _ h => nE h
 | succ n ih =>
  exact fun x1 x5 b0 r h =>
   cE h (fun h0 h => bE h fun r1 h1 h => iE h fun h2 h => bE h fun r2 h3 h => cE h (fun h4 h => dS h xL9 (xPJ x1 x5 b0 r1 r2) (oc5 h0 (g1 _ _ h1) h2 (xAk h3) h4 on)) fun h4 h =>
   bE h fun r3 h5 h => tS xL9 (xPK x1 x5 b0 r1 r2 r3) (oc6 h0 (g1 _ _ h1) h2 (xAk h3) h4 (xBv h5) on) (ih _ _ _ _ h)) fun h0 h =>
   dS h xL9 (xPL x1 x5 b0) (oc h0 on)
theorem xVp {N q0 q1 q2 q3 q4} (g0 : G116 q0) (g1 : G31 q1) (g2 : G131 q2) (g3 : G96 q3) (g4 : G54 q4) : ∀ a0 a1 r, xBU N q0 q1 q2 q3 q4 a0 a1 = some r → RE Tryz.f131 I131 (xBR a0 a1) (xAR r) := fun a0 a1 r h =>
 bE h fun r1 h0 h => cE h (fun h1 h => dE h xL9 (xPM a0 a1 r1) (oc2 (xAk h0) h1 on)) fun h1 h =>
 tE xL9 (xPN a0 a1 r1) (oc2 (xAk h0) h1 on) (xVo g0 g1 g2 g3 g4 _ _ _ _ _ h)
theorem xF5 {N q0 q1 q2 q3 q4} (g0 : G116 q0) (g1 : G31 q1) (g2 : G131 q2) (g3 : G96 q3) (g4 : G54 q4) {a0} {a1} {r} (h : xBU N q0 q1 q2 q3 q4 a0 a1 = some r) : AbC 131 (xBR a0 a1) (xAR r) :=
 AbsCalls.of_reach xL9 rfl rfl (Nat.le_of_ble_eq_true rfl) (xVp g0 g1 g2 g3 g4 a0 a1 r h)
noncomputable def I96 : Info := { body := (Tryz.f96.body).getD .skip, nt := 14, results := [.cell 2 25], keep := [0, 4, 6, 14, 1, 5, 7], live := [(2, [0, 4, 6, 1, 5, 7])], modes := [(3, [(0, .take, false)]), (4, [(0, .take, false)])], ext := [0] }
theorem fk96 : FnOk Tryz.prog 96 Tryz.f96 I96 := ⟨Tryz.func96, by kernel_rfl, by kernel_rfl, by kernel_rfl, by kernel_rfl⟩
def xMq (b0 : Psr) (b2 b3 : Exp) : St := [(0, .v false [.ptr 0 0]), (4, .v false [.ptr 2 0]), (6, .v false [.ptr 3 0]), (1, .v true [.sl .ro .tok (Psr.list b0), .int .i64 (Psr.pos b0), .int .i64 (Psr.bad b0)]), (5, .v true [.int .i64 (Exp.kind b2), .int .i64 (Exp.n b2), .str (Exp.text b2), .sl .own .exp (Exp.args b2)]), (7, .v true [.int .i64 (Exp.kind b3), .int .i64 (Exp.n b3), .str (Exp.text b3), .sl .own .exp (Exp.args b3)])]
def xUF (b0 : Psr) (b2 b3 : Exp) (r1 : Bool × Psr) (r2 : Exp × Psr) : rS 2 I96 (xMq b0 b2 b3) [Y] [xAc r1, xAD r2] = st 2 I96 (xMq r2.2 b2 (Exp.mk 6 3 [] [(Exp.re b3), (Exp.re r2.1)])) [AbC 55 (xAm b0 [42]) (xAc r1), iY r1.1, AbC 116 (xAK r1.2) (xAD r2)] := by kernel_rfl
def xUG (b0 : Psr) (b2 b3 : Exp) (r1 : Bool × Psr) : rS 2 I96 (xMq b0 b2 b3) [F] [xAc r1] = dn (xAU (b3, r1.2)) [AbC 55 (xAm b0 [42]) (xAc r1), iN r1.1] := by kernel_rfl
def xUH (a0 : Psr) (r1 : Exp × Psr) : rE I96 (xBV a0) [] [xAD r1] = st 2 I96 (xMq r1.2 (Exp.mk 0 0 [] []) r1.1) [AbC 116 (xAK a0) (xAD r1)] := by kernel_rfl
theorem xWT {N q0 q1 q2 q3 q4} (g0 : G116 q0) (g1 : G31 q1) (g2 : G131 q2) (g3 : G96 q3) (g4 : G54 q4) : ∀ n b0 b2 b3 r, xBy N q0 q1 q2 q3 q4 n b0 b2 b3 = some r → RS Tryz.f96 I96 2 (xMq b0 b2 b3) (xAU r) := by
 intro n
 induction n with
 | zero => exact fun _ _ _ _ h => nE h
 | succ n ih =>
  exact fun b0 b2 b3 r h =>
   bE h fun r1 h0 h => cE h (fun h1 h => bE h fun r2 h2 h => tS fk96 (xUF b0 b2 b3 r1 r2) (oc3 (xAk h0) h1 (g0 _ _ h2) on) (ih _ _ _ _ h)) fun h1 h =>
   dS h fk96 (xUG b0 b2 b3 r1) (oc2 (xAk h0) h1 on)
theorem xWU {N q0 q1 q2 q3 q4} (g0 : G116 q0) (g1 : G31 q1) (g2 : G131 q2) (g3 : G96 q3) (g4 : G54 q4) : ∀ a0 r, xBD N q0 q1 q2 q3 q4 a0 = some r → RE Tryz.f96 I96 (xBV a0) (xAU r) := fun a0 r h =>
 bE h fun r1 h0 h => tE fk96 (xUH a0 r1) (oc (g0 _ _ h0) on) (xWT g0 g1 g2 g3 g4 _ _ _ _ _ h)
theorem xFH {N q0 q1 q2 q3 q4} (g0 : G116 q0) (g1 : G31 q1) (g2 : G131 q2) (g3 : G96 q3) (g4 : G54 q4) {a0} {r} (h : xBD N q0 q1 q2 q3 q4 a0 = some r) : AbC 96 (xBV a0) (xAU r) :=
 AbsCalls.of_reach fk96 rfl rfl (Nat.le_of_ble_eq_true rfl) (xWU g0 g1 g2 g3 g4 a0 r h)
noncomputable def I54 : Info := { body := (Tryz.f54.body).getD .skip, nt := 25, results := [.cell 2 25], keep := [0, 4, 6, 8, 22, 28, 34, 1, 5, 7], live := [(2, [0, 4, 6, 1, 5, 7])], modes := [(7, [(0, .take, false), (1, .take, false)]), (8, [(0, .take, false)])], ext := [0] }
theorem fk54 : FnOk Tryz.prog 54 Tryz.f54 I54 := ⟨Tryz.func54, by kernel_rfl, by kernel_rfl, by kernel_rfl, by kernel_rfl⟩
def xKb (b0 : Psr) (b2 b3 : Exp) : St := [(0, .v false [.ptr 0 0]), (4, .v false [.ptr 2 0]), (6, .v false [.ptr 3 0]), (1, .v true [.sl .ro .tok (Psr.list b0), .int .i64 (Psr.pos b0), .int .i64 (Psr.bad b0)]), (5, .v true [.int .i64 (Exp.kind b2), .int .i64 (Exp.n b2), .str (Exp.text b2), .sl .own .exp (Exp.args b2)]), (7, .v true [.int .i64 (Exp.kind b3), .int .i64 (Exp.n b3), .str (Exp.text b3), .sl .own .exp (Exp.args b3)])]
def xTi (b0 : Psr) (b2 b3 : Exp) (r1 : Bool × Psr) (r2 : Bool × Psr) : rS 2 I54 (xKb b0 b2 b3) [Y, Y, Y] [xAc r1, xAc r2] = dn (xBG (b3, r2.2)) [xGU b0, AbC 55 (xAm b0 [43]) (xAc r1), iY (!r1.1), AbC 55 (xAm r1.2 [45]) (xAc r2), iY (!r2.1)] := by kernel_rfl
def xTj (b0 : Psr) (b2 b3 : Exp) (r1 : Bool × Psr) (r2 : Bool × Psr) (r3 : Exp × Psr) : rS 2 I54 (xKb b0 b2 b3) [Y, Y, F] [xAc r1, xAc r2, xAU r3] = st 2 I54 (xKb r3.2 b2 (Exp.mk 6 2 [] [(Exp.re b3), (Exp.re r3.1)])) [xGU b0, AbC 55 (xAm b0 [43]) (xAc r1), iY (!r1.1), AbC 55 (xAm r1.2 [45]) (xAc r2), iN (!r2.1), AbC 96 (xBV r2.2) (xAU r3)] := by kernel_rfl
def xTk (b0 : Psr) (b2 b3 : Exp) (r1 : Bool × Psr) (r2 : Exp × Psr) : rS 2 I54 (xKb b0 b2 b3) [Y, F] [xAc r1, xAU r2] = st 2 I54 (xKb r2.2 b2 (Exp.mk 6 1 [] [(Exp.re b3), (Exp.re r2.1)])) [xGU b0, AbC 55 (xAm b0 [43]) (xAc r1), iN (!r1.1), AbC 96 (xBV r1.2) (xAU r2)] := by kernel_rfl
def xTl (b0 : Psr) (b2 b3 : Exp) : rS 2 I54 (xKb b0 b2 b3) [F] [] = dn (xBG (b3, b0)) [xJJ b0] := by kernel_rfl
def xTm (a0 : Psr) (r1 : Exp × Psr) : rE I54 (xDg a0) [] [xAU r1] = st 2 I54 (xKb r1.2 (Exp.mk 0 0 [] []) r1.1) [AbC 96 (xBV a0) (xAU r1)] := by kernel_rfl
theorem xWn {N q0 q1 q2 q3 q4} (g0 : G116 q0) (g1 : G31 q1) (g2 : G131 q2) (g3 : G96 q3) (g4 : G54 q4) : ∀ n b0 b2 b3 r, xBF N q0 q1 q2 q3 q4 n b0 b2 b3 = some r → RS Tryz.f54 I54 2 (xKb b0 b2 b3) (xBG r) := by
 intro n
 induction n with
 | zero => exact fun _ _ _ _ h => nE h
 | succ n ih =>
  exact fun b0 b2 b3 r h =>
   cE h (fun h0 h => bE h fun r1 h1 h => cE h (fun h2 h => bE h fun r2 h3 h => cE h (fun h4 h => dS h fk54 (xTi b0 b2 b3 r1 r2) (oc5 h0 (xAk h1) h2 (xAk h3) h4 on)) fun h4 h =>
   bE h fun r3 h5 h => tS fk54 (xTj b0 b2 b3 r1 r2 r3) (oc6 h0 (xAk h1) h2 (xAk h3) h4 (g3 _ _ h5) on) (ih _ _ _ _ h)) fun h2 h =>
   bE h fun r2 h3 h => tS fk54 (xTk b0 b2 b3 r1 r2) (oc4 h0 (xAk h1) h2 (g3 _ _ h3) on) (ih _ _ _ _ h)) fun h0 h =>
   dS h fk54 (xTl b0 b2 b3) (oc h0 on)
theorem xWo {N q0 q1 q2 q3 q4} (g0 : G116 q0) (g1 : G31 q1) (g2 : G131 q2) (g3 : G96 q3) (g4 : G54 q4) : ∀ a0 r, xCc N q0 q1 q2 q3 q4 a0 = some r → RE Tryz.f54 I54 (xDg a0) (xBG r) := fun a0 r h =>
 bE h fun r1 h0 h => tE fk54 (xTm a0 r1) (oc (g3 _ _ h0) on) (xWn g0 g1 g2 g3 g4 _ _ _ _ _ h)
theorem xGs {N q0 q1 q2 q3 q4} (g0 : G116 q0) (g1 : G31 q1) (g2 : G131 q2) (g3 : G96 q3) (g4 : G54 q4) {a0} {r} (h : xCc N q0 q1 q2 q3 q4 a0 = some r) : AbC 54 (xDg a0) (xBG r) :=
 AbsCalls.of_reach fk54 rfl rfl (Nat.le_of_ble_eq_true rfl) (xWo g0 g1 g2 g3 g4 a0 r h)
theorem xGr {N : Nat} : ∀ d, G116 (xAb N d).c_impl_parser_atom ∧ G31 (xAb N d).c_impl_parser_expr ∧ G131 (xAb N d).c_impl_parser_list2 ∧ G96 (xAb N d).c_impl_parser_product ∧ G54 (xAb N d).c_impl_parser_sum := by
 intro d
 induction d with
 | zero => exact ⟨fun _ _ h => nE h, fun _ _ h => nE h, fun _ _ _ h => nE h, fun _ _ h => nE h, fun _ _ h => nE h⟩
 | succ d ih =>
  obtain ⟨ih0, ih1, ih2, ih3, ih4⟩ := ih
  exact ⟨fun _ _ h => xGb (N := N) ih0 ih1 ih2 ih3 ih4 h, fun _ _ h => xGc (N := N) ih0 ih1 ih2 ih3 ih4 h, fun _ _ _ h => xF5 (N := N) ih0 ih1 ih2 ih3 ih4 h, fun _ _ h => xFH (N := N) ih0 ih1 ih2 ih3 ih4 h, fun _ _ h => xGs (N := N) ih0 ih1 ih2 ih3 ih4 h⟩
theorem xA6 {N : Nat} {a0 : Psr} {r : Exp × Psr} (h : xEK N a0 = some r) : AbC 31 (xAZ a0) (xAe r) := (xGr N).2.1 _ r h
def G57 (q : Exp → Option (Int)) : Prop := ∀ a0 r, q a0 = some r → AbC 57 (xCa a0) (xA3 r)
noncomputable def I57 : Info := { body := (Tryz.f57.body).getD .skip, nt := 19, results := [.tmp 2], keep := [0, 2, 4, 6, 10, 14, 16, 18, 20, 3, 11], live := [(3, [6, 14, 16, 18])], modes := [(6, [(1, .take, false)])] }
theorem fk57 : FnOk Tryz.prog 57 Tryz.f57 I57 := ⟨Tryz.func57, by kernel_rfl, by kernel_rfl, by kernel_rfl, by kernel_rfl⟩
def xMo (x3 : Int) (x7 : List Exp) (x8 x9 : Int) : St := [(6, .v false [.int .i64 x3]), (14, .v false [.sl .ro .exp x7]), (16, .v false [.int .i64 x8]), (18, .v false [.int .i64 x9])]
def xTr (x3 : Int) (x7 : List Exp) (x8 x9 r1 : Int) : rS 3 I57 (xMo x3 x7 x8 x9) [Y] [xA3 r1] = st 3 I57 (xMo (W (x3 + r1)) x7 x8 (W (x9 + 1))) [iY (dc (x9 < x8)), (0 : Int) ≤ x9 ∧ x9 < (Ln x7), AbC 57 (xCa (gD x7 (tN x9) Ty.exp.dflt)) (xA3 r1)] := by kernel_rfl
def xTs (x3 : Int) (x7 : List Exp) (x8 x9 : Int) : rS 3 I57 (xMo x3 x7 x8 x9) [F] [] = dn (xA3 x3) [iN (dc (x9 < x8))] := by kernel_rfl
def xTt (a0 : Exp) : rE I57 (xCa a0) [] [] = st 3 I57 (xMo 1 (Exp.args a0) (xGx a0) 0) [] := by kernel_rfl
theorem xWr {N q0} (g0 : G57 q0) : ∀ n x3 x7 x8 x9 r, xCX N q0 n x3 x7 x8 x9 = some r → RS Tryz.f57 I57 3 (xMo x3 x7 x8 x9) (xA3 r) := by
 intro n
 induction n with
 | zero => exact fun _ _ _ _ _ h => nE h
 | succ n ih =>
  exact fun x3 x7 x8 x9 r h =>
   cE h (fun h0 h => iE h fun h1 h => bE h fun r1 h2 h => tS fk57 (xTr x3 x7 x8 x9 r1) (oc3 h0 h1 (g0 _ _ h2) on) (ih _ _ _ _ _ h)) fun h0 h =>
   dS h fk57 (xTs x3 x7 x8 x9) (oc h0 on)
theorem xWs {N q0} (g0 : G57 q0) : ∀ a0 r, xER N q0 a0 = some r → RE Tryz.f57 I57 (xCa a0) (xA3 r) := fun a0 r h =>
 tE fk57 (xTt a0) on (xWr g0 _ _ _ _ _ _ h)
theorem xGI {N q0} (g0 : G57 q0) {a0} {r} (h : xER N q0 a0 = some r) : AbC 57 (xCa a0) (xA3 r) :=
 AbsCalls.of_reach fk57 rfl rfl (Nat.le_of_ble_eq_true rfl) (xWs g0 a0 r h)
theorem xFj {N : Nat} : ∀ d, G57 (xDf N d)
 | 0 => fun _ _ h => nE h
 | d + 1 => fun _ _ h => xGI (N := N) (xFj d) h
theorem xFc {N : Nat} {a0 : Exp} {r : Int} (h : xF4 N a0 = some r) : AbC 57 (xCa a0) (xA3 r) := xFj N _ r h
def G58 (q : Exp → Option (Int)) : Prop := ∀ a0 r, q a0 = some r → AbC 58 (xCz a0) (xBm r)
noncomputable def I58 : Info := { body := (Tryz.f58.body).getD .skip, nt := 20, results := [.tmp 2], keep := [0, 2, 4, 6, 10, 14, 16, 18, 20, 3, 11], live := [(3, [6, 14, 16, 18])], modes := [(6, [(1, .take, false)])] }
theorem fk58 : FnOk Tryz.prog 58 Tryz.f58 I58 := ⟨Tryz.func58, by kernel_rfl, by kernel_rfl, by kernel_rfl, by kernel_rfl⟩
def xMp (x3 : Int) (x7 : List Exp) (x8 x9 : Int) : St := [(6, .v false [.int .i64 x3]), (14, .v false [.sl .ro .exp x7]), (16, .v false [.int .i64 x8]), (18, .v false [.int .i64 x9])]
def xTu (x3 : Int) (x7 : List Exp) (x8 x9 r1 : Int) : rS 3 I58 (xMp x3 x7 x8 x9) [Y] [xBm r1] = st 3 I58 (xMp (if r1 > x3 then r1 else x3) x7 x8 (W (x9 + 1))) [iY (dc (x9 < x8)), (0 : Int) ≤ x9 ∧ x9 < (Ln x7), AbC 58 (xCz (gD x7 (tN x9) Ty.exp.dflt)) (xBm r1)] := by kernel_rfl
def xTv (x3 : Int) (x7 : List Exp) (x8 x9 : Int) : rS 3 I58 (xMp x3 x7 x8 x9) [F] [] = dn (xBm (W (x3 + 1))) [iN (dc (x9 < x8))] := by kernel_rfl
def xTw (a0 : Exp) : rE I58 (xCz a0) [] [] = st 3 I58 (xMp 0 (Exp.args a0) (xGx a0) 0) [] := by kernel_rfl
theorem xWt {N q0} (g0 : G58 q0) : ∀ n x3 x7 x8 x9 r, xDu N q0 n x3 x7 x8 x9 = some r → RS Tryz.f58 I58 3 (xMp x3 x7 x8 x9) (xBm r) := by
 intro n
 induction n with
 | zero => exact fun _ _ _ _ _ h => nE h
 | succ n ih =>
  exact fun x3 x7 x8 x9 r h =>
   cE h (fun h0 h => iE h fun h1 h => bE h fun r1 h2 h => tS fk58 (xTu x3 x7 x8 x9 r1) (oc3 h0 h1 (g0 _ _ h2) on) (ih _ _ _ _ _ h)) fun h0 h =>
   dS h fk58 (xTv x3 x7 x8 x9) (oc h0 on)
theorem xWu {N q0} (g0 : G58 q0) : ∀ a0 r, xEQ N q0 a0 = some r → RE Tryz.f58 I58 (xCz a0) (xBm r) := fun a0 r h =>
 tE fk58 (xTw a0) on (xWt g0 _ _ _ _ _ _ h)
theorem xGH {N q0} (g0 : G58 q0) {a0} {r} (h : xEQ N q0 a0 = some r) : AbC 58 (xCz a0) (xBm r) :=
 AbsCalls.of_reach fk58 rfl rfl (Nat.le_of_ble_eq_true rfl) (xWu g0 a0 r h)
theorem xFi {N : Nat} : ∀ d, G58 (xDN N d)
 | 0 => fun _ _ h => nE h
 | d + 1 => fun _ _ h => xGH (N := N) (xFi d) h
theorem xGa {N : Nat} {a0 : Exp} {r : Int} (h : xF3 N a0 = some r) : AbC 58 (xCz a0) (xBm r) := xFi N _ r h
noncomputable def I98 : Info := { body := (Tryz.f98.body).getD .skip, nt := 120, results := [.tmp 2], keep := [0, 2, 4, 6, 16, 18, 46, 74, 102, 130, 154, 182, 212, 3], live := [], modes := [(4, [(3, .take, false), (8, .take, false)]), (6, [(3, .take, false), (8, .take, false)]), (8, [(3, .take, false), (8, .take, false)]), (10, [(3, .take, false), (8, .take, false)]), (12, [(3, .take, false)]), (14, [(3, .take, false), (8, .take, false)]), (17, [(3, .take, false), (8, .take, false)]), (19, [(3, .take, false), (8, .take, false)])] }
theorem fk98 : FnOk Tryz.prog 98 Tryz.f98 I98 := ⟨Tryz.func98, by kernel_rfl, by kernel_rfl, by kernel_rfl, by kernel_rfl⟩
abbrev xKS (v0 : Exp) (v1 : Bool) : Prop := AbC 97 (xCl (Exp.n v0) 0 1000000000) (xAT v1)
abbrev xLf (v0 : Exp) := xAB ((Ln (Exp.args v0) : Int) == 0)
def xUK (a0 : Exp) (r1 : Bool) : rE I98 (xAu a0) [Y, Y, Y] [xAT r1] = dn (xLf a0) [xJv a0, xKS a0 r1, iY r1, xGt a0] := by kernel_rfl
def xUL (a0 : Exp) (r1 : Bool) : rE I98 (xAu a0) [Y, Y, F] [xAT r1] = dn (xAB false) [xJv a0, xKS a0 r1, iY r1, xGO a0] := by kernel_rfl
def xUM (a0 : Exp) (r1 : Bool) : rE I98 (xAu a0) [Y, F, F] [xAT r1] = dn (xAB false) [xJv a0, xKS a0 r1, iN r1, iN false] := by kernel_rfl
def xUN (a0 : Exp) (r1 : Bool) : rE I98 (xAu a0) [F, Y, Y, Y] [xAH r1] = dn (xLf a0) [xBc a0, xHV a0, xDn a0, AbC 91 (xCV (Exp.text a0)) (xAH r1), iY r1] := by kernel_rfl
def xUO (a0 : Exp) (r1 : Bool) : rE I98 (xAu a0) [F, Y, Y, F] [xAH r1] = dn (xAB false) [xBc a0, xHV a0, xDn a0, AbC 91 (xCV (Exp.text a0)) (xAH r1), iN r1] := by kernel_rfl
def xUP (a0 : Exp) : rE I98 (xAu a0) [F, Y, F, F] [] = dn (xAB false) [xBc a0, xHV a0, xE2 a0, iN false] := by kernel_rfl
abbrev xH7 (v0 : Exp) (v1 : Bool) : Prop := AbC 93 (xCU (Exp.text v0)) (xAy v1)
def xUQ (a0 : Exp) (r1 : Bool) : rE I98 (xAu a0) [F, F, Y, Y, Y] [xAy r1] = dn (xLf a0) [xBc a0, xBx a0, xHW a0, xDn a0, xH7 a0 r1, iY r1] := by kernel_rfl
def xUR (a0 : Exp) (r1 : Bool) : rE I98 (xAu a0) [F, F, Y, Y, F] [xAy r1] = dn (xAB false) [xBc a0, xBx a0, xHW a0, xDn a0, xH7 a0 r1, iN r1] := by kernel_rfl
def xUS (a0 : Exp) : rE I98 (xAu a0) [F, F, Y, F, F] [] = dn (xAB false) [xBc a0, xBx a0, xHW a0, xE2 a0, iN false] := by kernel_rfl
def xUT (a0 : Exp) : rE I98 (xAu a0) [F, F, F, Y, Y, Y] [] = dn (xAB (dc ((xGx a0) ≤ 8))) [xBc a0, xBx a0, xBX a0, xHX a0, xDn a0, xGt a0] := by kernel_rfl
def xQJ (a0 : Exp) : rE I98 (xAu a0) [F, F, F, Y, Y, F] [] = dn (xAB false) [xBc a0, xBx a0, xBX a0, xHX a0, xDn a0, xGO a0] := by kernel_rfl
def xQK (a0 : Exp) : rE I98 (xAu a0) [F, F, F, Y, F, F] [] = dn (xAB false) [xBc a0, xBx a0, xBX a0, xHX a0, xE2 a0, iN false] := by kernel_rfl
def xQL (a0 : Exp) (r1 : Int) : rE I98 (xAu a0) [F, F, F, F, Y, Y] [xAg r1] = dn (xAB ((xGx a0) == r1)) [xBc a0, xBx a0, xBX a0, xCD a0, xJE a0, xDn a0, AbC 117 (xAj (Exp.text a0)) (xAg r1)] := by kernel_rfl
def xQM (a0 : Exp) : rE I98 (xAu a0) [F, F, F, F, Y, F] [] = dn (xAB false) [xBc a0, xBx a0, xBX a0, xCD a0, xJE a0, xE2 a0] := by kernel_rfl
abbrev xLg (v0 : Exp) := xAB ((Ln (Exp.args v0) : Int) == 2)
def xQN (a0 : Exp) (r1 : Bool) : rE I98 (xAu a0) [F, F, F, F, F, Y, Y, Y] [xAT r1] = dn (xLg a0) [xBc a0, xBx a0, xBX a0, xCD a0, xDa a0, xHY a0, AbC 97 (xCl (Exp.n a0) 1 5) (xAT r1), iY r1, xGt a0] := by kernel_rfl
def xQO (a0 : Exp) (r1 : Bool) : rE I98 (xAu a0) [F, F, F, F, F, Y, Y, F] [xAT r1] = dn (xAB false) [xBc a0, xBx a0, xBX a0, xCD a0, xDa a0, xHY a0, AbC 97 (xCl (Exp.n a0) 1 5) (xAT r1), iY r1, xGO a0] := by kernel_rfl
def xQP (a0 : Exp) (r1 : Bool) : rE I98 (xAu a0) [F, F, F, F, F, Y, F, F] [xAT r1] = dn (xAB false) [xBc a0, xBx a0, xBX a0, xCD a0, xDa a0, xHY a0, AbC 97 (xCl (Exp.n a0) 1 5) (xAT r1), iN r1, iN false] := by kernel_rfl
def xQQ (a0 : Exp) (r1 : Bool) : rE I98 (xAu a0) [F, F, F, F, F, F, Y, Y, Y, Y] [xAy r1] = dn (xLg a0) [xBc a0, xBx a0, xBX a0, xCD a0, xDa a0, xDY a0, xFp a0, xFp a0, xDn a0, xH7 a0 r1, iY r1] := by kernel_rfl
def xQR (a0 : Exp) (r1 : Bool) : rE I98 (xAu a0) [F, F, F, F, F, F, Y, Y, Y, F] [xAy r1] = dn (xAB false) [xBc a0, xBx a0, xBX a0, xCD a0, xDa a0, xDY a0, xFp a0, xFp a0, xDn a0, xH7 a0 r1, iN r1] := by kernel_rfl
def xQS (a0 : Exp) : rE I98 (xAu a0) [F, F, F, F, F, F, Y, Y, F, F] [] = dn (xAB false) [xBc a0, xBx a0, xBX a0, xCD a0, xDa a0, xDY a0, xFp a0, xFp a0, xE2 a0, iN false] := by kernel_rfl
def xQT (a0 : Exp) (r1 : Bool) : rE I98 (xAu a0) [F, F, F, F, F, F, F, Y, Y, Y] [xAy r1] = dn (xLg a0) [xBc a0, xBx a0, xBX a0, xCD a0, xDa a0, xDY a0, xE3 a0, xHZ a0, xDn a0, xH7 a0 r1, iY r1] := by kernel_rfl
def xQU (a0 : Exp) (r1 : Bool) : rE I98 (xAu a0) [F, F, F, F, F, F, F, Y, Y, F] [xAy r1] = dn (xAB false) [xBc a0, xBx a0, xBX a0, xCD a0, xDa a0, xDY a0, xE3 a0, xHZ a0, xDn a0, xH7 a0 r1, iN r1] := by kernel_rfl
def xQV (a0 : Exp) : rE I98 (xAu a0) [F, F, F, F, F, F, F, Y, F, F] [] = dn (xAB false) [xBc a0, xBx a0, xBX a0, xCD a0, xDa a0, xDY a0, xE3 a0, xHZ a0, xE2 a0, iN false] := by kernel_rfl
def xQW (a0 : Exp) : rE I98 (xAu a0) [F, F, F, F, F, F, F, F, Y, Y, Y] [] = dn (xAB ((xGx a0) == 3)) [xBc a0, xBx a0, xBX a0, xCD a0, xDa a0, xDY a0, xE3 a0, xGP a0, xH0 a0, xDn a0, xGt a0] := by kernel_rfl
def xQX (a0 : Exp) : rE I98 (xAu a0) [F, F, F, F, F, F, F, F, Y, Y, F] [] = dn (xAB false) [xBc a0, xBx a0, xBX a0, xCD a0, xDa a0, xDY a0, xE3 a0, xGP a0, xH0 a0, xDn a0, xGO a0] := by kernel_rfl
def xQY (a0 : Exp) : rE I98 (xAu a0) [F, F, F, F, F, F, F, F, Y, F, F] [] = dn (xAB false) [xBc a0, xBx a0, xBX a0, xCD a0, xDa a0, xDY a0, xE3 a0, xGP a0, xH0 a0, xE2 a0, iN false] := by kernel_rfl
def xQZ (a0 : Exp) : rE I98 (xAu a0) [F, F, F, F, F, F, F, F, F] [] = dn (xAB false) [xBc a0, xBx a0, xBX a0, xCD a0, xDa a0, xDY a0, xE3 a0, xGP a0, iN ((Exp.kind a0) == 8)] := by kernel_rfl
theorem xWW {N : Nat} : ∀ a0 r, xFF N a0 = some r → RE Tryz.f98 I98 (xAu a0) (xAB r) := fun a0 r h =>
 cE h (fun h0 h => bE h fun r1 h1 h => cE h (fun h2 h => cE h (fun h3 h => dE h fk98 (xUK a0 r1) (oc4 h0 (xC5 h1) h2 h3 on)) fun h3 h =>
 dE h fk98 (xUL a0 r1) (oc4 h0 (xC5 h1) h2 h3 on)) fun h2 h =>
 dE h fk98 (xUM a0 r1) (oc4 h0 (xC5 h1) h2 rfl on)) fun h0 h =>
 cE h (fun h1 h => cE h (fun h2 h => bE h fun r1 h3 h => cE h (fun h4 h => dE h fk98 (xUN a0 r1) (oc5 h0 h1 h2 (xCW h3) h4 on)) fun h4 h =>
 dE h fk98 (xUO a0 r1) (oc5 h0 h1 h2 (xCW h3) h4 on)) fun h2 h =>
 dE h fk98 (xUP a0) (oc4 h0 h1 h2 rfl on)) fun h1 h =>
 cE h (fun h2 h => cE h (fun h3 h => bE h fun r1 h4 h => cE h (fun h5 h => dE h fk98 (xUQ a0 r1) (oc6 h0 h1 h2 h3 (xAX h4) h5 on)) fun h5 h =>
 dE h fk98 (xUR a0 r1) (oc6 h0 h1 h2 h3 (xAX h4) h5 on)) fun h3 h =>
 dE h fk98 (xUS a0) (oc5 h0 h1 h2 h3 rfl on)) fun h2 h =>
 cE h (fun h3 h => cE h (fun h4 h => cE h (fun h5 h => dE h fk98 (xUT a0) (oc6 h0 h1 h2 h3 h4 h5 on)) fun h5 h =>
 dE h fk98 (xQJ a0) (oc6 h0 h1 h2 h3 h4 h5 on)) fun h4 h =>
 dE h fk98 (xQK a0) (oc6 h0 h1 h2 h3 h4 rfl on)) fun h3 h =>
 cE h (fun h4 h => cE h (fun h5 h => bE h fun r1 h6 h => dE h fk98 (xQL a0 r1) (oc7 h0 h1 h2 h3 h4 h5 (xCy h6) on)) fun h5 h =>
 dE h fk98 (xQM a0) (oc6 h0 h1 h2 h3 h4 h5 on)) fun h4 h =>
 cE h (fun h5 h => bE h fun r1 h6 h => cE h (fun h7 h => cE h (fun h8 h => dE h fk98 (xQN a0 r1) (oc9 h0 h1 h2 h3 h4 h5 (xC5 h6) h7 h8 on)) fun h8 h =>
 dE h fk98 (xQO a0 r1) (oc9 h0 h1 h2 h3 h4 h5 (xC5 h6) h7 h8 on)) fun h7 h =>
 dE h fk98 (xQP a0 r1) (oc9 h0 h1 h2 h3 h4 h5 (xC5 h6) h7 rfl on)) fun h5 h =>
 cE h (fun h6 h => cE h (fun h8 h => bE h fun r1 h9 h => cE h (fun h10 h => dE h fk98 (xQQ a0 r1) (oc11 h0 h1 h2 h3 h4 h5 h6 h6 h8 (xAX h9) h10 on)) fun h10 h =>
 dE h fk98 (xQR a0 r1) (oc11 h0 h1 h2 h3 h4 h5 h6 h6 h8 (xAX h9) h10 on)) fun h8 h =>
 dE h fk98 (xQS a0) (oc10 h0 h1 h2 h3 h4 h5 h6 h6 h8 rfl on)) fun h6 h =>
 cE h (fun h7 h => cE h (fun h8 h => bE h fun r1 h9 h => cE h (fun h10 h => dE h fk98 (xQT a0 r1) (oc11 h0 h1 h2 h3 h4 h5 h6 h7 h8 (xAX h9) h10 on)) fun h10 h =>
 dE h fk98 (xQU a0 r1) (oc11 h0 h1 h2 h3 h4 h5 h6 h7 h8 (xAX h9) h10 on)) fun h8 h =>
 dE h fk98 (xQV a0) (oc10 h0 h1 h2 h3 h4 h5 h6 h7 h8 rfl on)) fun h7 h =>
 cE h (fun h8 h => cE h (fun h9 h => cE h (fun h10 h => dE h fk98 (xQW a0) (oc11 h0 h1 h2 h3 h4 h5 h6 h7 h8 h9 h10 on)) fun h10 h =>
 dE h fk98 (xQX a0) (oc11 h0 h1 h2 h3 h4 h5 h6 h7 h8 h9 h10 on)) fun h9 h =>
 dE h fk98 (xQY a0) (oc11 h0 h1 h2 h3 h4 h5 h6 h7 h8 h9 rfl on)) fun h8 h =>
 dE h fk98 (xQZ a0) (oc9 h0 h1 h2 h3 h4 h5 h6 h7 h8 on)
theorem xJa {N : Nat} {a0 : Exp} {r : Bool} (h : xFF N  a0 = some r) : AbC 98 (xAu a0) (xAB r) :=
 AbsCalls.of_reach fk98 rfl rfl (Nat.le_of_ble_eq_true rfl) (xWW a0 r h)
def G59 (q : Exp → Option (Bool)) : Prop := ∀ a0 r, q a0 = some r → AbC 59 (xCO a0) (xBo r)
noncomputable def I59 : Info := { body := (Tryz.f59.body).getD .skip, nt := 18, results := [.tmp 2], keep := [0, 2, 4, 8, 12, 14, 16, 18, 28, 3, 9], live := [(2, [2, 12, 14, 16, 3])], modes := [(6, [(1, .take, false)])] }
theorem fk59 : FnOk Tryz.prog 59 Tryz.f59 I59 := ⟨Tryz.func59, by kernel_rfl, by kernel_rfl, by kernel_rfl, by kernel_rfl⟩
def xL5 (x6 : List Exp) (x7 x8 : Int) (b1 : Exp) : St := [(2, .v false [.ptr 1 0]), (12, .v false [.sl .ro .exp x6]), (14, .v false [.int .i64 x7]), (16, .v false [.int .i64 x8]), (3, .v true [.int .i64 (Exp.kind b1), .int .i64 (Exp.n b1), .str (Exp.text b1), .sl .ro .exp (Exp.args b1)])]
def xTx (x6 : List Exp) (x7 x8 : Int) (b1 : Exp) (r1 : Bool) : rS 2 I59 (xL5 x6 x7 x8 b1) [Y, Y] [xBo r1] = dn (xBo false) [iY (dc (x8 < x7)), (0 : Int) ≤ x8 ∧ x8 < (Ln x6), AbC 59 (xCO (gD x6 (tN x8) Ty.exp.dflt)) (xBo r1), iY (!r1)] := by kernel_rfl
def xTy (x6 : List Exp) (x7 x8 : Int) (b1 : Exp) (r1 : Bool) : rS 2 I59 (xL5 x6 x7 x8 b1) [Y, F] [xBo r1] = st 2 I59 (xL5 x6 x7 (W (x8 + 1)) b1) [iY (dc (x8 < x7)), (0 : Int) ≤ x8 ∧ x8 < (Ln x6), AbC 59 (xCO (gD x6 (tN x8) Ty.exp.dflt)) (xBo r1), iN (!r1)] := by kernel_rfl
def xTz (x6 : List Exp) (x7 x8 : Int) (b1 : Exp) (r1 : Bool) : rS 2 I59 (xL5 x6 x7 x8 b1) [F] [xAB r1] = dn (xBo r1) [iN (dc (x8 < x7)), AbC 98 (xAu b1) (xAB r1)] := by kernel_rfl
def xTA (a0 : Exp) : rE I59 (xCO a0) [] [] = st 2 I59 (xL5 (Exp.args a0) (xGx a0) 0 a0) [] := by kernel_rfl
theorem xWv {N q0} (g0 : G59 q0) : ∀ n x6 x7 x8 b1 r, xDk N q0 n x6 x7 x8 b1 = some r → RS Tryz.f59 I59 2 (xL5 x6 x7 x8 b1) (xBo r) := by
 intro n
 induction n with
 | zero => exact fun _ _ _ _ _ h => nE h
 | succ n ih =>
  exact fun x6 x7 x8 b1 r h =>
   cE h (fun h0 h => iE h fun h1 h => bE h fun r1 h2 h => cE h (fun h3 h => dS h fk59 (xTx x6 x7 x8 b1 r1) (oc4 h0 h1 (g0 _ _ h2) h3 on)) fun h3 h =>
   tS fk59 (xTy x6 x7 x8 b1 r1) (oc4 h0 h1 (g0 _ _ h2) h3 on) (ih _ _ _ _ _ h)) fun h0 h =>
   bE h fun r1 h1 h => dS h fk59 (xTz x6 x7 x8 b1 r1) (oc2 h0 (xJa h1) on)
theorem xWw {N q0} (g0 : G59 q0) : ∀ a0 r, xE0 N q0 a0 = some r → RE Tryz.f59 I59 (xCO a0) (xBo r) := fun a0 r h =>
 tE fk59 (xTA a0) on (xWv g0 _ _ _ _ _ _ h)
theorem xGM {N q0} (g0 : G59 q0) {a0} {r} (h : xE0 N q0 a0 = some r) : AbC 59 (xCO a0) (xBo r) :=
 AbsCalls.of_reach fk59 rfl rfl (Nat.le_of_ble_eq_true rfl) (xWw g0 a0 r h)
theorem xFt {N : Nat} : ∀ d, G59 (xDX N d)
 | 0 => fun _ _ h => nE h
 | d + 1 => fun _ _ h => xGM (N := N) (xFt d) h
theorem xIw {N : Nat} {a0 : Exp} {r : Bool} (h : xGo N a0 = some r) : AbC 59 (xCO a0) (xBo r) := xFt N _ r h
noncomputable def I32 : Info := { body := (Tryz.f32.body).getD .skip, nt := 15, results := [.tmp 2], keep := [0, 2, 4, 3], live := [], modes := [(1, [(3, .take, false), (8, .take, false)])] }
theorem fk32 : FnOk Tryz.prog 32 Tryz.f32 I32 := ⟨Tryz.func32, by kernel_rfl, by kernel_rfl, by kernel_rfl, by kernel_rfl⟩
def xSp (a0 : Exp) (r1 r2 : Int) (r3 : Bool) : rE I32 (xCS a0) [Y, Y] [xA3 r1, xBm r2, xBo r3] = dn (xA5 r3) [AbC 57 (xCa a0) (xA3 r1), iY (dc (r1 ≤ 40)), AbC 58 (xCz a0) (xBm r2), iY (dc (r2 ≤ 8)), AbC 59 (xCO a0) (xBo r3)] := by kernel_rfl
def xSq (a0 : Exp) (r1 r2 : Int) : rE I32 (xCS a0) [Y, F] [xA3 r1, xBm r2] = dn (xA5 false) [AbC 57 (xCa a0) (xA3 r1), iY (dc (r1 ≤ 40)), AbC 58 (xCz a0) (xBm r2), iN (dc (r2 ≤ 8))] := by kernel_rfl
def xSr (a0 : Exp) (r1 : Int) : rE I32 (xCS a0) [F, F] [xA3 r1] = dn (xA5 false) [AbC 57 (xCa a0) (xA3 r1), iN (dc (r1 ≤ 40)), iN false] := by kernel_rfl
theorem xV4 {N : Nat} : ∀ a0 r, xCs N a0 = some r → RE Tryz.f32 I32 (xCS a0) (xA5 r) := fun a0 r h =>
 bE h fun r1 h0 h => cE h (fun h1 h => bE h fun r2 h2 h => cE h (fun h3 h => bE h fun r3 h4 h => dE h fk32 (xSp a0 r1 r2 r3) (oc5 (xFc h0) h1 (xGa h2) h3 (xIw h4) on)) fun h3 h =>
 dE h fk32 (xSq a0 r1 r2) (oc4 (xFc h0) h1 (xGa h2) h3 on)) fun h1 h =>
 dE h fk32 (xSr a0 r1) (oc3 (xFc h0) h1 rfl on)
theorem xCT {N : Nat} {a0 : Exp} {r : Bool} (h : xCs N  a0 = some r) : AbC 32 (xCS a0) (xA5 r) :=
 AbsCalls.of_reach fk32 rfl rfl (Nat.le_of_ble_eq_true rfl) (xV4 a0 r h)
noncomputable def I12 : Info := { body := (Tryz.f12.body).getD .skip, nt := 72, results := [.cell 2 25, .tmp 3], keep := [0, 4, 6, 8, 10, 12, 14, 28, 70, 98, 114, 138, 5, 15, 39], live := [], modes := [(1, [(2, .take, false)]), (6, [(5, .take, false)]), (14, [(0, .take, false)])] }
theorem fk12 : FnOk Tryz.prog 12 Tryz.f12 I12 := ⟨Tryz.func12, by kernel_rfl, by kernel_rfl, by kernel_rfl, by kernel_rfl⟩
abbrev xFd (v0 : Str) (v1 : (List Tok) × Int) : Prop := AbC 30 (xEb v0) (xAE v1)
def xRN (a0 : Str) (r1 : (List Tok) × Int) : rE I12 (xAQ a0) [Y] [xAE r1] = dn (xAY ((Exp.mk 0 0 [] []), r1.2)) [xFd a0 r1, iY (dc (r1.2 ≥ 0))] := by kernel_rfl
abbrev xFr (v0 : (List Tok) × Int) (v1 : Exp × Psr) : Prop := AbC 31 (xAZ (Psr.mk v0.1 0 (-1))) (xAe v1)
abbrev xGX (v0 : Exp × Psr) : Prop := iY (dc ((Psr.bad v0.2) < 0))
abbrev xGy (v0 : (List Tok) × Int) := (Ln v0.1 : Int)
abbrev xJN (v0 : Exp × Psr) (v1 : (List Tok) × Int) : Prop := iY (dc ((Psr.pos v0.2) < (xGy v1)))
abbrev xLh (v0 : Str) := xAY ((Exp.mk 0 0 [] []), (Ln v0 : Int))
def xRO (a0 : Str) (r1 : (List Tok) × Int) (r2 : Exp × Psr) : rE I12 (xAQ a0) [F, Y, Y, Y] [xAE r1, xAe r2] = dn (xLh a0) [xFd a0 r1, xDT r1, xFr r1 r2, xGX r2, xJN r2 r1, iY (dc ((Psr.pos r2.2) ≥ (xGy r1)))] := by kernel_rfl
def xRP (a0 : Str) (r1 : (List Tok) × Int) (r2 : Exp × Psr) : rE I12 (xAQ a0) [F, Y, Y, F, Y] [xAE r1, xAe r2] = dn (xAY ((Exp.mk 0 0 [] []), (Tok.pos (gD r1.1 (tN (Psr.pos r2.2)) Ty.tok.dflt)))) [xFd a0 r1, xDT r1, xFr r1 r2, xGX r2, xJN r2 r1, iN (dc ((Psr.pos r2.2) ≥ (xGy r1))), iY (dc ((Psr.pos r2.2) ≥ 0)), (0 : Int) ≤ (Psr.pos r2.2) ∧ (Psr.pos r2.2) < (Ln r1.1)] := by kernel_rfl
abbrev xH8 (v0 : Exp × Psr) (v1 : Bool) : Prop := AbC 32 (xCS v0.1) (xA5 v1)
def xRQ (a0 : Str) (r1 : (List Tok) × Int) (r2 : Exp × Psr) (r3 : Bool) : rE I12 (xAQ a0) [F, Y, Y, F, F, Y] [xAE r1, xAe r2, xA5 r3] = dn (xAY ((Exp.mk 0 0 [] []), 0)) [xFd a0 r1, xDT r1, xFr r1 r2, xGX r2, xJN r2 r1, iN (dc ((Psr.pos r2.2) ≥ (xGy r1))), iN (dc ((Psr.pos r2.2) ≥ 0)), xH8 r2 r3, iY (!r3)] := by kernel_rfl
def xRR (a0 : Str) (r1 : (List Tok) × Int) (r2 : Exp × Psr) (r3 : Bool) : rE I12 (xAQ a0) [F, Y, Y, F, F, F] [xAE r1, xAe r2, xA5 r3] = dn (xAY (r2.1, (-1))) [xFd a0 r1, xDT r1, xFr r1 r2, xGX r2, xJN r2 r1, iN (dc ((Psr.pos r2.2) ≥ (xGy r1))), iN (dc ((Psr.pos r2.2) ≥ 0)), xH8 r2 r3, iN (!r3)] := by kernel_rfl
abbrev xJO (v0 : Exp × Psr) (v1 : (List Tok) × Int) : Prop := iN (dc ((Psr.pos v0.2) < (xGy v1)))
def xRS (a0 : Str) (r1 : (List Tok) × Int) (r2 : Exp × Psr) : rE I12 (xAQ a0) [F, Y, F, Y] [xAE r1, xAe r2] = dn (xLh a0) [xFd a0 r1, xDT r1, xFr r1 r2, xGX r2, xJO r2 r1, iY (dc ((Psr.bad r2.2) ≥ (xGy r1)))] := by kernel_rfl
abbrev xH9 (v0 : Exp × Psr) (v1 : (List Tok) × Int) : Prop := iN (dc ((Psr.bad v0.2) ≥ (xGy v1)))
def xRT (a0 : Str) (r1 : (List Tok) × Int) (r2 : Exp × Psr) : rE I12 (xAQ a0) [F, Y, F, F, Y] [xAE r1, xAe r2] = dn (xAY ((Exp.mk 0 0 [] []), (Tok.pos (gD r1.1 (tN (Psr.bad r2.2)) Ty.tok.dflt)))) [xFd a0 r1, xDT r1, xFr r1 r2, xGX r2, xJO r2 r1, xH9 r2 r1, iY (dc ((Psr.bad r2.2) ≥ 0)), (0 : Int) ≤ (Psr.bad r2.2) ∧ (Psr.bad r2.2) < (Ln r1.1)] := by kernel_rfl
abbrev xJP (v0 : Exp × Psr) : Prop := iN (dc ((Psr.bad v0.2) ≥ 0))
def xRU (a0 : Str) (r1 : (List Tok) × Int) (r2 : Exp × Psr) (r3 : Bool) : rE I12 (xAQ a0) [F, Y, F, F, F, Y] [xAE r1, xAe r2, xA5 r3] = dn (xAY ((Exp.mk 0 0 [] []), 0)) [xFd a0 r1, xDT r1, xFr r1 r2, xGX r2, xJO r2 r1, xH9 r2 r1, xJP r2, xH8 r2 r3, iY (!r3)] := by kernel_rfl
def xRV (a0 : Str) (r1 : (List Tok) × Int) (r2 : Exp × Psr) (r3 : Bool) : rE I12 (xAQ a0) [F, Y, F, F, F, F] [xAE r1, xAe r2, xA5 r3] = dn (xAY (r2.1, (-1))) [xFd a0 r1, xDT r1, xFr r1 r2, xGX r2, xJO r2 r1, xH9 r2 r1, xJP r2, xH8 r2 r3, iN (!r3)] := by kernel_rfl
abbrev xJQ (v0 : Exp × Psr) : Prop := iN (dc ((Psr.bad v0.2) < 0))
def xRW (a0 : Str) (r1 : (List Tok) × Int) (r2 : Exp × Psr) : rE I12 (xAQ a0) [F, F, F, Y] [xAE r1, xAe r2] = dn (xLh a0) [xFd a0 r1, xDT r1, xFr r1 r2, xJQ r2, iN false, iY (dc ((Psr.bad r2.2) ≥ (xGy r1)))] := by kernel_rfl
def xPG (a0 : Str) (r1 : (List Tok) × Int) (r2 : Exp × Psr) : rE I12 (xAQ a0) [F, F, F, F, Y] [xAE r1, xAe r2] = dn (xAY ((Exp.mk 0 0 [] []), (Tok.pos (gD r1.1 (tN (Psr.bad r2.2)) Ty.tok.dflt)))) [xFd a0 r1, xDT r1, xFr r1 r2, xJQ r2, iN false, xH9 r2 r1, iY (dc ((Psr.bad r2.2) ≥ 0)), (0 : Int) ≤ (Psr.bad r2.2) ∧ (Psr.bad r2.2) < (Ln r1.1)] := by kernel_rfl
def xPH (a0 : Str) (r1 : (List Tok) × Int) (r2 : Exp × Psr) (r3 : Bool) : rE I12 (xAQ a0) [F, F, F, F, F, Y] [xAE r1, xAe r2, xA5 r3] = dn (xAY ((Exp.mk 0 0 [] []), 0)) [xFd a0 r1, xDT r1, xFr r1 r2, xJQ r2, iN false, xH9 r2 r1, xJP r2, xH8 r2 r3, iY (!r3)] := by kernel_rfl
def xPI (a0 : Str) (r1 : (List Tok) × Int) (r2 : Exp × Psr) (r3 : Bool) : rE I12 (xAQ a0) [F, F, F, F, F, F] [xAE r1, xAe r2, xA5 r3] = dn (xAY (r2.1, (-1))) [xFd a0 r1, xDT r1, xFr r1 r2, xJQ r2, iN false, xH9 r2 r1, xJP r2, xH8 r2 r3, iN (!r3)] := by kernel_rfl
theorem xVV {N : Nat} : ∀ a0 r, xDp N a0 = some r → RE Tryz.f12 I12 (xAQ a0) (xAY r) := fun a0 r h =>
 bE h fun r1 h0 h => cE h (fun h1 h => dE h fk12 (xRN a0 r1) (oc2 (xBn h0) h1 on)) fun h1 h =>
 bE h fun r2 h2 h => cE h (fun h3 h => cE h (fun h4 h => cE h (fun h5 h => dE h fk12 (xRO a0 r1 r2) (oc6 (xBn h0) h1 (xA6 h2) h3 h4 h5 on)) fun h5 h =>
 cE h (fun h6 h => iE h fun h7 h => dE h fk12 (xRP a0 r1 r2) (oc8 (xBn h0) h1 (xA6 h2) h3 h4 h5 h6 h7 on)) fun h6 h =>
 bE h fun r3 h7 h => cE h (fun h8 h => dE h fk12 (xRQ a0 r1 r2 r3) (oc9 (xBn h0) h1 (xA6 h2) h3 h4 h5 h6 (xCT h7) h8 on)) fun h8 h =>
 dE h fk12 (xRR a0 r1 r2 r3) (oc9 (xBn h0) h1 (xA6 h2) h3 h4 h5 h6 (xCT h7) h8 on)) fun h4 h =>
 cE h (fun h5 h => dE h fk12 (xRS a0 r1 r2) (oc6 (xBn h0) h1 (xA6 h2) h3 h4 h5 on)) fun h5 h =>
 cE h (fun h6 h => iE h fun h7 h => dE h fk12 (xRT a0 r1 r2) (oc8 (xBn h0) h1 (xA6 h2) h3 h4 h5 h6 h7 on)) fun h6 h =>
 bE h fun r3 h7 h => cE h (fun h8 h => dE h fk12 (xRU a0 r1 r2 r3) (oc9 (xBn h0) h1 (xA6 h2) h3 h4 h5 h6 (xCT h7) h8 on)) fun h8 h =>
 dE h fk12 (xRV a0 r1 r2 r3) (oc9 (xBn h0) h1 (xA6 h2) h3 h4 h5 h6 (xCT h7) h8 on)) fun h3 h =>
 cE h (fun h5 h => dE h fk12 (xRW a0 r1 r2) (oc6 (xBn h0) h1 (xA6 h2) h3 rfl h5 on)) fun h5 h =>
 cE h (fun h6 h => iE h fun h7 h => dE h fk12 (xPG a0 r1 r2) (oc8 (xBn h0) h1 (xA6 h2) h3 rfl h5 h6 h7 on)) fun h6 h =>
 bE h fun r3 h7 h => cE h (fun h8 h => dE h fk12 (xPH a0 r1 r2 r3) (oc9 (xBn h0) h1 (xA6 h2) h3 rfl h5 h6 (xCT h7) h8 on)) fun h8 h =>
 dE h fk12 (xPI a0 r1 r2 r3) (oc9 (xBn h0) h1 (xA6 h2) h3 rfl h5 h6 (xCT h7) h8 on)
theorem xHS {N : Nat} {a0 : Str} {r : Exp × Int} (h : xDp N  a0 = some r) : AbC 12 (xAQ a0) (xAY r) :=
 AbsCalls.of_reach fk12 rfl rfl (Nat.le_of_ble_eq_true rfl) (xVV a0 r h)
noncomputable def I10 : Info := { body := (Tryz.f10.body).getD .skip, nt := 12, results := [.tmp 2], keep := [0, 4, 8, 7], live := [], modes := [(1, [(2, .take, false)]), (2, [(0, .take, false)])] }
theorem fk10 : FnOk Tryz.prog 10 Tryz.f10 I10 := ⟨Tryz.func10, by kernel_rfl, by kernel_rfl, by kernel_rfl, by kernel_rfl⟩
def xRC (a0 : Str) (r1 : Exp × Int) : rE I10 (xDO a0) [] [xAY r1] = dn (xCF (dc (r1.2 ≥ 0))) [AbC 12 (xAQ a0) (xAY r1)] := by kernel_rfl
theorem xVT {N : Nat} : ∀ a0 r, xEk N a0 = some r → RE Tryz.f10 I10 (xDO a0) (xCF r) := fun a0 r h =>
 bE h fun r1 h0 h => dE h fk10 (xRC a0 r1) (oc (xHS h0) on)
theorem xFV {N : Nat} {a0 : Str} {r : Bool} (h : xEk N  a0 = some r) : AbC 10 (xDO a0) (xCF r) :=
 AbsCalls.of_reach fk10 rfl rfl (Nat.le_of_ble_eq_true rfl) (xVT a0 r h)
noncomputable def I3 : Info := { body := (Tryz.f3.body).getD .skip, nt := 15, results := [.tmp 2], keep := [0, 4, 6, 8, 14, 28], live := [], modes := [(5, [(0, .take, false), (1, .take, false)])] }
theorem fk3 : FnOk Tryz.prog 3 Tryz.f3 I3 := ⟨Tryz.func3, by kernel_rfl, by kernel_rfl, by kernel_rfl, by kernel_rfl⟩
def xVH (a0 : Str) : rE I3 (xCm a0) [Y] [] = dn (xCn true) [iY (dc ((Ln a0 : Int) > 1048576))] := by kernel_rfl
def xVI (a0 : Str) (r1 r2 : Bool) : rE I3 (xCm a0) [F, Y] [xCH r1, xCF r2] = dn (xCn false) [iN (dc ((Ln a0 : Int) > 1048576)), AbC 9 (xDR a0) (xCH r1), AbC 10 (xDO a0) (xCF r2), iY (!((r2 : Bool) == r1))] := by kernel_rfl
def xVJ (a0 : Str) (r1 r2 : Bool) : rE I3 (xCm a0) [F, F] [xCH r1, xCF r2] = dn (xCn true) [iN (dc ((Ln a0 : Int) > 1048576)), AbC 9 (xDR a0) (xCH r1), AbC 10 (xDO a0) (xCF r2), iN (!((r2 : Bool) == r1))] := by kernel_rfl
theorem c3_e {N : Nat} : ∀ a0 r, xDE N a0 = some r → RE Tryz.f3 I3 (xCm a0) (xCn r) := fun a0 r h =>
 cE h (fun h0 h => dE h fk3 (xVH a0) (oc h0 on)) fun h0 h =>
 bE h fun r1 h1 h => bE h fun r2 h2 h => cE h (fun h3 h => dE h fk3 (xVI a0 r1 r2) (oc4 h0 (xFZ h1) (xFV h2) h3 on)) fun h3 h =>
 dE h fk3 (xVJ a0 r1 r2) (oc4 h0 (xFZ h1) (xFV h2) h3 on)
theorem laws_FnExactParseError_ok {N : Nat} {a0 : Str} {r : Bool} (h : xDE N  a0 = some r) : AbC 3 (xCm a0) (xCn r) :=
 AbsCalls.of_reach fk3 rfl rfl (Nat.le_of_ble_eq_true rfl) (c3_e a0 r h)
end Go.Ab.T
end
section
open Go.Proofs
namespace Go.Ab.T
set_option maxRecDepth 100000
variable [Inhabited Lb]
variable [Nonempty Tab10]
variable [Nonempty ErrVars]
noncomputable def I64 : Info := { body := (Tryz.f64.body).getD .skip, nt := 12, results := [.tmp 4], keep := [0, 2, 8, 1], live := [], modes := [], ext := [0] }
end Go.Ab.T
end
section
namespace Go.Ab
def Big (p : Nat → Prop) : Prop := ∃ k, ∀ N, k ≤ N → p N
def Big2 (p : Nat → Nat → Prop) : Prop := ∃ k, ∀ N n, k ≤ N → k ≤ n → p N n
theorem Big.imp {p q : Nat → Prop} (h : Big p) (f : ∀ N, p N → q N) : Big q := h.elim fun k hk => ⟨k, fun N hN => f N (hk N hN)⟩
theorem Big2.imp {p q : Nat → Nat → Prop} (h : Big2 p) (f : ∀ N n, p N n → q N n) : Big2 q := h.elim fun k hk => ⟨k, fun N n h1 h2 => f N n (hk N n h1 h2)⟩
theorem Big.of {p : Nat → Prop} (h : ∀ N, p N) : Big p := ⟨0, fun N _ => h N⟩
theorem Big2.of {p : Nat → Nat → Prop} (h : ∀ N n, p N n) : Big2 p := ⟨0, fun N n _ _ => h N n⟩
theorem Big.and {p q : Nat → Prop} (h : Big p) (h' : Big q) : Big fun N => p N ∧ q N := by
 obtain ⟨a, ha⟩ := h; obtain ⟨b, hb⟩ := h'
 exact ⟨max a b, fun N hN => ⟨ha N (by omega), hb N (by omega)⟩⟩
theorem Big2.and {p q : Nat → Nat → Prop} (h : Big2 p) (h' : Big2 q) : Big2 fun N n => p N n ∧ q N n := by
 obtain ⟨a, ha⟩ := h; obtain ⟨b, hb⟩ := h'
 exact ⟨max a b, fun N n h1 h2 => ⟨ha N n (by omega) (by omega), hb N n (by omega) (by omega)⟩⟩
theorem Big.two {p : Nat → Prop} (h : Big p) : Big2 fun N _ => p N := h.elim fun k hk => ⟨k, fun N _ h _ => hk N h⟩
theorem Big2.diag {p : Nat → Nat → Prop} (h : Big2 p) : Big fun N => p N N := h.elim fun k hk => ⟨k, fun N h => hk N N h h⟩
theorem Big2.succ {p : Nat → Nat → Prop} (h : Big2 fun N n => p N (n + 1)) : Big2 p := by
 obtain ⟨k, hk⟩ := h
 refine ⟨k + 1, fun N n h1 h2 => ?_⟩
 obtain ⟨m, rfl⟩ : ∃ m, n = m + 1 := ⟨n - 1, by omega⟩
 exact hk N m (by omega) (by omega)
theorem Big2.list {α : Type} {p : α → Nat → Nat → Prop} {l : List α} (h : ∀ x ∈ l, Big2 (p x)) : Big2 fun N n => ∀ x ∈ l, p x N n := by
 induction l with
 | nil => exact .of fun N n x hx => by cases hx
 | cons a l ih =>
   refine ((h a List.mem_cons_self).and (ih fun x hx => h x (List.mem_cons_of_mem _ hx))).imp fun N n ⟨h1, h2⟩ x hx => ?_
   rcases List.mem_cons.1 hx with rfl | hx
   · exact h1
   · exact h2 x hx
theorem Big.get {p : Nat → Prop} (h : Big p) : ∃ N, p N := h.elim fun k hk => ⟨k, hk k (Nat.le_refl k)⟩
def I64 (x : Int) : Prop := -9223372036854775808 ≤ x ∧ x ≤ 9223372036854775807
theorem xKD (x : Int) : IntKind.i64.wrap x = if x % 18446744073709551616 ≥ 9223372036854775808 then x % 18446744073709551616 - 18446744073709551616 else x % 18446744073709551616 := by
 show (if (true && decide (x % 18446744073709551616 ≥ 9223372036854775808)) = true then x % 18446744073709551616 - 18446744073709551616 else x % 18446744073709551616) = _
 simp only [Bool.true_and, decide_eq_true_eq]
theorem xLr (x : Int) : IntKind.u8.wrap x = x % 256 := by
 show (if (false && decide (x % 256 ≥ 128)) = true then x % 256 - 256 else x % 256) = _
 simp
theorem xBY {x : Int} (h1 : -9223372036854775808 ≤ x) (h2 : x ≤ 9223372036854775807) : IntKind.i64.wrap x = x := by
 rw [xKD]
 split <;> omega
theorem xLq {x : Int} (h1 : 0 ≤ x) (h2 : x ≤ 255) : IntKind.u8.wrap x = x := by
 rw [xLr]
 omega
theorem xC9 {α : Type} {xs : List α} {i : Nat} {x : α} {l : List α} (h : xs.drop i = x :: l) : i < xs.length ∧ xs[i]? = some x ∧ xs.drop (i + 1) = l := by
 have h1 : i < xs.length := by
  rcases Nat.lt_or_ge i xs.length with h1 | h1
  · exact h1
  · rw [List.drop_eq_nil_of_le h1] at h; cases h
 rw [List.drop_eq_getElem_cons h1] at h
 cases h
 exact ⟨h1, by simp [h1], rfl⟩
theorem xGl {α : Type} {xs : List α} {i : Nat} (h : xs.drop i = []) : xs.length ≤ i := by simpa using h
end Go.Ab
end
section
namespace Go.Ab
inductive DK (K : Nat) : D → Prop where
 | int {k n} (h : (Lit.int k n).wf = true) : DK K (.int k n)
 | bool (b) : DK K (.bool b)
 | str {s : Str} (h : s.length ≤ K) : DK K (.str s)
 | sl {sz rows} (h : rows.length ≤ K) (hr : ∀ r ∈ rows, ∀ x ∈ r, DK K x) : DK K (.sl sz rows)
theorem xRj {n : Int} : (Lit.int .i64 n).wf = true ↔ I64 n := by
 show (decide (_ ≤ n) && decide (n ≤ _)) = true ↔ _
 rw [Bool.and_eq_true, decide_eq_true_eq, decide_eq_true_eq]
 exact Iff.rfl
theorem DK.i64 {K : Nat} {n : Int} : DK K (.int .i64 n) ↔ I64 n := ⟨fun h => by cases h with | int h => exact xRj.1 h, fun h => .int (xRj.2 h)⟩
theorem DK.str_iff {K : Nat} {s : Str} : DK K (.str s) ↔ s.length ≤ K := ⟨fun h => by cases h; assumption, .str⟩
theorem DK.sl_iff {K sz : Nat} {α : Type} {f : α → List D} {xs : List α} : DK K (.sl sz (xs.map f)) ↔ xs.length ≤ K ∧ ∀ x ∈ xs, ∀ d ∈ f x, DK K d := by
 constructor
 · intro h
   cases h with
   | sl h hr => exact ⟨by simpa using h, fun x hx => hr _ (List.mem_map_of_mem hx)⟩
 · rintro ⟨h, hr⟩
   refine .sl (by simpa using h) fun r hr' => ?_
   obtain ⟨x, hx, rfl⟩ := List.mem_map.1 hr'
   exact hr x hx
def LFit {α : Type} (K : Nat) (p : α → Prop) (l : List α) : Prop := l.length ≤ K ∧ ∀ x ∈ l, p x
def Ty.Fit (K : Nat) (T : Ty) (x : T.den) : Prop := ∀ d ∈ T.toD x, DK K d
def Org.Fit (o : Org) : Prop := I64 o.cell ∧ I64 o.row
def Rowd.Fit (K : Nat) (r : Rowd) : Prop := LFit K I64 r.cells ∧ LFit K Org.Fit r.frm
def Str.Fit (K : Nat) (s : Str) : Prop := s.length ≤ K
def Exp.Fit (K : Nat) (v : Exp) : Prop := ∀ d ∈ Exp.toD v, DK K d
def Fil.Fit (K : Nat) (v : Fil) : Prop := Str.Fit K v.name ∧ I64 v.n
def Tok.Fit (K : Nat) (v : Tok) : Prop := I64 v.kind ∧ I64 v.n ∧ I64 v.pos ∧ Str.Fit K v.text
theorem xVS {K : Nat} {r : Rowd} : (∀ d ∈ Rowd.toD r, DK K d) ↔ r.Fit K := by
 simp only [Rowd.toD, List.mem_cons, List.not_mem_nil, or_false, forall_eq_or_imp, forall_eq, DK.sl_iff, DK.i64, Rowd.Fit, LFit, Org.Fit]
theorem xWX {K : Nat} {r : Fil} : Ty.Fit K .fil r ↔ r.Fit K := by
 simp only [Ty.Fit, Ty.toD, List.mem_cons, List.not_mem_nil, or_false, forall_eq_or_imp, forall_eq, DK.str_iff, DK.i64, Fil.Fit, Str.Fit]
theorem Exp.fit_iff {K : Nat} {v : Exp} : v.Fit K ↔ I64 v.kind ∧ I64 v.n ∧ Str.Fit K v.text ∧ LFit K (Exp.Fit K) v.args := by
 cases v
 simp only [Exp.Fit, Exp.toD, Exp.toDs_eq, List.mem_cons, List.not_mem_nil, or_false, forall_eq_or_imp, forall_eq, DK.sl_iff, DK.i64, DK.str_iff, Str.Fit, LFit, Exp.kind, Exp.n, Exp.text, Exp.args]
theorem xI1 {l : List Exp} {x : Exp} (h : x ∈ l) (k n : Int) (t : Str) : SizeOf.sizeOf x < SizeOf.sizeOf (Exp.mk k n t l) := by
 have := List.sizeOf_lt_of_mem h
 simp only [Exp.mk.sizeOf_spec]
 omega
theorem Exp.ind {p : Exp → Prop} (h : ∀ k n t l, (∀ x ∈ l, p x) → p (.mk k n t l)) : ∀ v, p v
 | .mk k n t l => h k n t l fun x hx => Exp.ind h x
termination_by v => SizeOf.sizeOf v
decreasing_by exact xI1 hx k n t
end Go.Ab
end
section
namespace Go.Ab
theorem xFo {α σ ρ : Type} {L : Nat → Int → σ → Option ρ} (x0 : List α) (g : List α → σ → ρ) (Inv : Nat → σ → Prop)
 (hnil : ∀ n s, Inv x0.length s → L (n + 1) (x0.length : Nat) s = some (g [] s))
 (hcons : ∀ i x l s, x0.drop i = x :: l → i < x0.length → x0[i]? = some x → Inv i s →
   (∃ s', Inv (i + 1) s' ∧ g (x :: l) s = g l s' ∧ ∀ n, L (n + 1) (i : Nat) s = L n ((i + 1 : Nat) : Int) s') ∨ (∀ n, L (n + 1) (i : Nat) s = some (g (x :: l) s))) :
 ∀ n i s, Inv i s → i ≤ x0.length → x0.length < n + i → L n (i : Nat) s = some (g (x0.drop i) s) := by
 intro n
 induction n with
 | zero => intro i s _ h1 h2; omega
 | succ n ih =>
   intro i s hs hi hn
   cases hd : x0.drop i with
   | nil =>
     have := xGl hd
     obtain rfl : i = x0.length := by omega
     exact hnil n s hs
   | cons x l =>
     obtain ⟨h1, h2, h3⟩ := xC9 hd
     rcases hcons i x l s hd h1 h2 hs with ⟨s', h4, h5, h6⟩ | h
     · rw [h6, ih (i + 1) s' h4 (by omega) (by omega), h3, h5]
     · exact h n
theorem xCj {α : Type} {xs : List α} {i : Nat} {x : α} (h : xs[i]? = some x) (d : α) : xs.getD i d = x := by simp [List.getD, h]
theorem xBO {i : Nat} {len : Nat} (h : i < len) (hl : len ≤ 9223372036854775807) : IntKind.i64.wrap ((i : Int) + 1) = ((i + 1 : Nat) : Int) := by
 rw [xBY (by omega) (by omega)]; omega
def left (s : Nat) (l : Int) : Int := if (s : Int) ≤ l then l - s else -1
theorem xJD {s : Nat} {l : Int} (h : (s : Int) ≤ l) : left s l = l - s := by unfold left; rw [if_pos h]
theorem xIB {s : Nat} {l : Int} (h : ¬ (s : Int) ≤ l) : left s l = -1 := by unfold left; rw [if_neg h]
section
variable {α : Type} {d : α}
end
end Go.Ab
end
section
namespace Go.Ab
theorem vk (a b c : Int) (t : Str) (l : List Val) (k : List Str) (r : List Rowd) : (Val.mk a b c t l k r).kind = a := rfl
theorem vs (a b c : Int) (t : Str) (l : List Val) (k : List Str) (r : List Rowd) : (Val.mk a b c t l k r).step = c := rfl
theorem vl (a b c : Int) (t : Str) (l : List Val) (k : List Str) (r : List Rowd) : (Val.mk a b c t l k r).list = l := rfl
theorem ek (a b : Int) (t : Str) (l : List Exp) : (Exp.mk a b t l).kind = a := rfl
theorem ea (a b : Int) (t : Str) (l : List Exp) : (Exp.mk a b t l).args = l := rfl
mutual
def Exp.size : Exp → Nat
 | .mk _ _ t a => t.length + (a.length + Exp.sizes a)
def Exp.sizes : List Exp → Nat
 | [] => 0
 | x :: r => Exp.size x + Exp.sizes r
end
theorem Exp.sizes_eq (l : List Exp) : Exp.sizes l = (l.map Exp.size).sum := by
 induction l with
 | nil => rfl
 | cons x l ih => simp [Exp.sizes, ih]
theorem xQ5 {α : Type} {f : α → Nat} {l : List α} {x : α} (h : x ∈ l) : f x ≤ (l.map f).sum := by
 induction l with
 | nil => cases h
 | cons a l ih =>
   simp only [List.map_cons, List.sum_cons]
   rcases List.mem_cons.1 h with rfl | h
   · omega
   · have := ih h; omega
theorem Exp.size_eq (e : Exp) : e.size = e.text.length + (e.args.length + (e.args.map Exp.size).sum) := by
 cases e; simp [Exp.size, Exp.sizes_eq, Exp.text, Exp.args]
theorem xLt (n : Nat) : Big fun N => n < N := ⟨n + 1, fun N h => by omega⟩
end Go.Ab
end
section
namespace Go.Ab
def xHn (c : UInt8) : Bool := decide ((c.toNat : Int) ≥ 97) && decide ((c.toNat : Int) ≤ 122)
def xIE (c : UInt8) : Bool := decide ((c.toNat : Int) ≥ 48) && decide ((c.toNat : Int) ≤ 57)
def xFY : List UInt8 → Bool → Bool
 | [], _ => true
 | x :: r, f => (xHn x || (!f && xIE x)) && xFY r false
theorem xI5 {N : Nat} {s : Str} (hl : s.length ≤ 9223372036854775807) (hn : s.length < N) : xF2 N s = some (xFY s true && decide ((s.length : Int) > 0)) :=
 xFo (L := fun n i _ => xCq N n s i) s (fun l f => xFY l f && decide ((s.length : Int) > 0)) (fun i f => f = (i == 0)) (fun n _ _ => by simp [xCq, xFY])
  (fun i x l f hd hi hx hf => by
    have hi' : (i : Int) < (s.length : Int) := by omega
    have hi0 : ((i : Int) == 0) = f := by rw [hf]; cases i <;> simp <;> omega
    by_cases h1 : (xHn x || (!f && xIE x)) = true
    · refine .inl ⟨false, by simp, by simp [xFY, h1], fun n => ?_⟩
      simp only [xCq, decide_eq_true hi', jT, Int.toNat_natCast, xCj hx, xBO hi hl, hi0]
      rw [if_pos (by omega)]
      unfold xHn xIE at h1
      by_cases c1 : (x.toNat : Int) ≥ 97 <;> by_cases c2 : (x.toNat : Int) ≤ 122 <;> by_cases c3 : (x.toNat : Int) ≥ 48 <;> by_cases c4 : (x.toNat : Int) ≤ 57 <;> cases f <;>
       simp only [c1, c2, c3, c4, decide_true, decide_false, jT, jF, Bool.not_true, Bool.not_false, Bool.and_true, Bool.and_false, Bool.or_true, Bool.or_false, Bool.false_and, Bool.true_and, Bool.false_or, Bool.false_eq_true] at h1 ⊢
    · refine .inr fun n => ?_
      have h1 := Bool.eq_false_iff.2 h1
      simp only [xCq, decide_eq_true hi', jT, Int.toNat_natCast, xCj hx, xBO hi hl, hi0, xFY, h1, Bool.false_and]
      rw [if_pos (by omega)]
      unfold xHn xIE at h1
      by_cases c1 : (x.toNat : Int) ≥ 97 <;> by_cases c2 : (x.toNat : Int) ≤ 122 <;> by_cases c3 : (x.toNat : Int) ≥ 48 <;> by_cases c4 : (x.toNat : Int) ≤ 57 <;> cases f <;>
       simp only [c1, c2, c3, c4, decide_true, decide_false, jT, jF, Bool.not_true, Bool.not_false, Bool.and_true, Bool.and_false, Bool.or_true, Bool.or_false, Bool.false_and, Bool.true_and, Bool.false_or, Bool.true_eq_false] at h1 ⊢) N 0 true rfl (by omega) (by omega)
theorem xHh (N : Nat) (a b c : Int) : xEl N a b c = some (decide (b ≤ a) && decide (a ≤ c)) := by
 unfold xEl
 cases h : decide (b ≤ a) <;> simp
theorem xKB (N : Nat) (a b c : Int) : xGi N a b c = some (decide (b ≤ a) && decide (a ≤ c)) := by
 unfold xGi
 cases h : decide (b ≤ a)
 · rfl
 · rfl
theorem xJb {N : Nat} {s : Str} (hl : s.length ≤ 9223372036854775807) (hn : s.length < N) : xGp N s = some (xFY s true && (decide ((1 : Int) ≤ s.length) && decide ((s.length : Int) ≤ 8))) :=
 xFo (L := fun n i _ => xC4 N n s i) s (fun l f => xFY l f && (decide ((1 : Int) ≤ s.length) && decide ((s.length : Int) ≤ 8))) (fun i f => f = (i == 0)) (fun n _ _ => by simp [xC4, xFY, xHh])
  (fun i x l f hd hi hx hf => by
    have hi' : (i : Int) < (s.length : Int) := by omega
    have hi0 : ((i : Int) == 0) = f := by rw [hf]; cases i <;> simp <;> omega
    have e1 : decide ((x.toNat : Int) < 48) = !decide ((x.toNat : Int) ≥ 48) := by by_cases c : (x.toNat : Int) ≥ 48 <;> simp [c] <;> omega
    have e2 : decide ((x.toNat : Int) > 57) = !decide ((x.toNat : Int) ≤ 57) := by by_cases c : (x.toNat : Int) ≤ 57 <;> simp [c] <;> omega
    by_cases h1 : (xHn x || (!f && xIE x)) = true
    · refine .inl ⟨false, by simp, by simp [xFY, h1], fun n => ?_⟩
      simp only [xC4, decide_eq_true hi', jT, Int.toNat_natCast, xCj hx, xBO hi hl, hi0, e1, e2]
      rw [if_pos (by omega)]
      unfold xHn xIE at h1
      by_cases c1 : (x.toNat : Int) ≥ 97 <;> by_cases c2 : (x.toNat : Int) ≤ 122 <;> by_cases c3 : (x.toNat : Int) ≥ 48 <;> by_cases c4 : (x.toNat : Int) ≤ 57 <;> cases f <;>
       simp only [c1, c2, c3, c4, decide_true, decide_false, jT, jF, Bool.not_true, Bool.not_false, Bool.and_true, Bool.and_false, Bool.or_true, Bool.or_false, Bool.false_and, Bool.true_and, Bool.false_or, Bool.false_eq_true] at h1 ⊢
    · refine .inr fun n => ?_
      have h1 := Bool.eq_false_iff.2 h1
      simp only [xC4, decide_eq_true hi', jT, Int.toNat_natCast, xCj hx, xBO hi hl, hi0, e1, e2, xFY, h1, Bool.false_and]
      rw [if_pos (by omega)]
      unfold xHn xIE at h1
      by_cases c1 : (x.toNat : Int) ≥ 97 <;> by_cases c2 : (x.toNat : Int) ≤ 122 <;> by_cases c3 : (x.toNat : Int) ≥ 48 <;> by_cases c4 : (x.toNat : Int) ≤ 57 <;> cases f <;>
       simp only [c1, c2, c3, c4, decide_true, decide_false, jT, jF, Bool.not_true, Bool.not_false, Bool.and_true, Bool.and_false, Bool.or_true, Bool.or_false, Bool.false_and, Bool.true_and, Bool.false_or, Bool.true_eq_false] at h1 ⊢) N 0 true rfl (by omega) (by omega)
def xGg : List Str := [[108, 101, 116], [105, 110], [105, 102], [116, 104, 101, 110], [101, 108, 115, 101], [102, 111, 114], [100, 111], [108, 101, 110], [115, 117, 109], [116, 97, 107, 101], [115, 107, 105, 112], [114, 97, 110, 103, 101], [110, 116, 104], [119, 104, 101, 114, 101], [107, 101, 101, 112], [97, 100, 100], [103, 114, 111, 117, 112], [106, 111, 105, 110], [99, 111, 108, 117, 109, 110], [114, 111, 119, 115], [99, 108, 111, 99, 107], [99, 104, 97, 110, 99, 101], [102, 105, 108, 101], [116, 97, 98, 108, 101]]
theorem xJ5 {N : Nat} {xs : List Str} {s : Str} (hl : xs.length ≤ 9223372036854775807) (hn : xs.length < N) : xG8 N xs s = some (xs.any (· == s)) :=
 xFo (σ := Unit) (L := fun n i _ => xD9 N n xs s i) xs (fun l _ => l.any (· == s)) (fun _ _ => True) (fun n _ _ => by simp [xD9])
  (fun i x l _ hd hi hx _ => by
    have hi' : (i : Int) < (xs.length : Int) := by omega
    cases h1 : x == s
    · refine .inl ⟨(), trivial, by simp [h1], fun n => ?_⟩
      simp only [xD9, decide_eq_true hi', jT, Int.toNat_natCast, xCj hx, h1, jF, xBO hi hl]
      rw [if_pos (by omega)]
    · refine .inr fun n => ?_
      simp only [xD9, decide_eq_true hi', jT, Int.toNat_natCast, xCj hx, h1]
      rw [if_pos (by omega)]
      simp [h1]) N 0 () trivial (by omega) (by omega)
def xG7 (s : Str) : Bool := xGg.any (· == s)
theorem xHM {N : Nat} {s : Str} (hn : 24 < N) : xEp N s = some (xG7 s) := by
 unfold xEp xE7
 rw [jS, show ([[108, 101, 116], [105, 110], [105, 102], [116, 104, 101, 110], [101, 108, 115, 101], [102, 111, 114], [100, 111], [108, 101, 110], [115, 117, 109], [116, 97, 107, 101], [115, 107, 105, 112], [114, 97, 110, 103, 101], [110, 116, 104], [119, 104, 101, 114, 101], [107, 101, 101, 112], [97, 100, 100], [103, 114, 111, 117, 112], [106, 111, 105, 110], [99, 111, 108, 117, 109, 110], [114, 111, 119, 115], [99, 108, 111, 99, 107], [99, 104, 97, 110, 99, 101], [102, 105, 108, 101], [116, 97, 98, 108, 101]] : List Str) = xGg from rfl, xJ5 (by decide) hn]
 rfl
theorem xHD (N : Nat) (s : Str) : xEj N s = some (xG7 s) := by
 by_cases h : s ∈ xGg
 · have h' : xG7 s = true := List.any_eq_true.2 ⟨s, h, by simp⟩
   rw [h']
   simp only [xGg, List.mem_cons, List.not_mem_nil, or_false] at h
   rcases h with h | h | h | h | h | h | h | h | h | h | h | h | h | h | h | h | h | h | h | h | h | h | h | h <;> subst h <;> rfl
 · have h' : xG7 s = false := by
    unfold xG7
    rw [List.any_eq_false]
    intro x hx hxs
    exact h (by rw [← eq_of_beq hxs]; exact hx)
   rw [h']
   have hne : ∀ x ∈ xGg, (s == x) = false := by
    intro x hx
    cases hb : s == x
    · rfl
    · exact absurd (by rw [eq_of_beq hb]; exact hx) h
   simp only [xGg, List.mem_cons, List.not_mem_nil, or_false, forall_eq_or_imp, forall_eq] at hne
   simp only [xEj, xCg, hne, jF, jS]
   rfl
def xDe (s : Str) : Bool := xFY s true && (decide ((1 : Int) ≤ s.length) && decide ((s.length : Int) ≤ 8)) && !xG7 s
theorem xEP {N : Nat} {s : Str} (hl : s.length ≤ 9223372036854775807) (hn : s.length < N) : xCt N s = some (xDe s) := by
 unfold xCt xDe
 rw [xJb hl hn, jS]
 cases (xFY s true && (decide ((1 : Int) ≤ s.length) && decide ((s.length : Int) ≤ 8)))
 · rfl
 · rw [xHD]; rfl
theorem xES {N : Nat} {s : Str} (hl : s.length ≤ 9223372036854775807) (hn : s.length < N) (hn2 : 24 < N) : xCw N s = some (xDe s) := by
 unfold xCw xDe
 rw [xI5 hl hn, jS, xHM hn2]
 have : decide ((s.length : Int) > 0) = decide ((1 : Int) ≤ s.length) := by by_cases c : (s.length : Int) > 0 <;> simp [c] <;> omega
 rw [this]
 cases xFY s true <;> cases decide ((1 : Int) ≤ s.length) <;> cases decide ((s.length : Int) ≤ 8) <;> rfl
end Go.Ab
end
section
namespace Go.Ab
def allI {α : Type} (p : Nat → α → Bool) : List α → Nat → Bool
 | [], _ => true
 | x :: r, i => p i x && allI p r (i + 1)
theorem xRm {α : Type} {L : Nat → Int → Option Bool} {x0 : List α} {p : Nat → α → Bool} {e : Option Bool} (hend : ∀ n, L (n + 1) (x0.length : Nat) = e)
 (hcons : ∀ (i : Nat) x n, i < x0.length → x0[i]? = some x → x ∈ x0 → L (n + 1) (i : Nat) = bif p i x then L n ((i + 1 : Nat) : Int) else some false) {n : Nat} (hn : x0.length < n) :
 L n 0 = bif allI p x0 0 then e else some false := by
 have key : ∀ (m i : Nat), i ≤ x0.length → x0.length < m + i → L m (i : Nat) = bif allI p (x0.drop i) i then e else some false := by
  intro m
  induction m with
  | zero => intro i h1 h2; omega
  | succ m ih =>
    intro i h1 h2
    cases hd : x0.drop i with
    | nil =>
      have := xGl hd
      obtain rfl : i = x0.length := by omega
      rw [hend]; rfl
    | cons x l =>
      obtain ⟨g1, g2, g3⟩ := xC9 hd
      rw [hcons i x m g1 g2 (List.mem_of_getElem? g2), ih (i + 1) (by omega) (by omega), g3]
      simp only [allI]
      cases p i x <;> rfl
 exact key n 0 (by omega) (by omega)
def xVN (c : UInt8) : Bool := !(decide ((c.toNat : Int) < 32)) && (!(decide ((c.toNat : Int) > 126)) && !((c.toNat : Int) == 34))
def xHl (s : Str) : Bool := allI (fun _ => xVN) s 0 && decide ((s.length : Int) ≤ 20)
theorem xRo {a b : Bool} : (bif a then some b else some false) = some (a && b) := by cases a <;> rfl
theorem xET {N : Nat} {s : Str} (hl : s.length ≤ 9223372036854775807) (hn : s.length < N) : xDK N s = some (xHl s) := by
 rw [xHl, ← xRo]
 exact xRm (L := fun n i => xB4 N n s i) (fun n => by simp [xB4]) (fun i x n hi hx hm => by
  have hi' : (i : Int) < (s.length : Int) := by omega
  simp only [xB4, decide_eq_true hi', jT, Int.toNat_natCast, xCj hx, xBO hi hl, xVN]
  rw [if_pos (by omega)]
  cases decide ((x.toNat : Int) < 32) <;> cases decide ((x.toNat : Int) > 126) <;> cases ((x.toNat : Int) == 34) <;> rfl) hn
theorem xGG (N n : Nat) (s : Str) (i : Int) : xDz N n s i = xB4 N n s i := by
 induction n generalizing i with
 | zero => rfl
 | succ n ih => simp only [xDz, xB4, ih]
theorem xFE {N : Nat} {s : Str} (hl : s.length ≤ 9223372036854775807) (hn : s.length < N) : xCu N s = some (xHl s) := (xGG N N s 0).trans (xET hl hn)
end Go.Ab
end
section
namespace Go.Ab
def kb : List Val → List Int → Bool
 | [], _ => false
 | _ :: _, [] => false
 | x :: r, k :: ks => (x.kind != k) || kb r ks
end Go.Ab
end
section
namespace Go.Ab
def pick (k : Int) (n : Int) (rs : List Rowd) : List Rowd := rs.filter fun r => r.cells.getD k.toNat Ty.int.dflt == n
end Go.Ab
end
section
namespace Go.Ab
def dd (n : Nat) : Str := if n = 0 then [] else Lib.decDigits n
theorem xKG {n : Nat} (h : n ≠ 0) : dd n = dd (n / 10) ++ [UInt8.ofNat (48 + n % 10)] := by
 unfold dd
 rw [if_neg h]
 by_cases h1 : n < 10
 · rw [Lib.decDigits, dif_pos h1, if_pos (by omega), Nat.mod_eq_of_lt h1]; rfl
 · rw [Lib.decDigits, dif_neg h1, if_neg (by omega)]
theorem xMy {n : Int} (h : n ≠ 0) : Lib.itoa n = (bif decide (n < 0) then [45] else []) ++ dd n.natAbs := by
 have h2 : ¬ n.natAbs = 0 := by omega
 unfold Lib.itoa dd
 by_cases h1 : n < 0
 · rw [if_pos h1, decide_eq_true h1, if_neg h2]; rfl
 · rw [if_neg h1, decide_eq_false h1, if_neg h2, show n.toNat = n.natAbs from by omega]; rfl
theorem xVw : ∀ (k n : Nat), n < 10 ^ k → (dd n).length ≤ k := by
 intro k
 induction k with
 | zero => intro n h; have : n = 0 := by simpa using h
           subst this; exact Nat.le_refl _
 | succ k ih =>
   intro n h
   by_cases h0 : n = 0
   · subst h0; exact Nat.zero_le _
   · rw [xKG h0, jA]
     have := ih (n / 10) (by rw [Nat.pow_succ] at h; omega)
     simp only [jC, jN]; omega
mutual
def Exp.cnt : Exp → Nat
 | .mk _ _ _ a => 1 + Exp.cnts a
def Exp.cnts : List Exp → Nat
 | [] => 0
 | x :: r => Exp.cnt x + Exp.cnts r
end
theorem Exp.cnts_eq (l : List Exp) : Exp.cnts l = (l.map Exp.cnt).sum := by
 induction l with
 | nil => rfl
 | cons x l ih => simp only [Exp.cnts, List.map_cons, List.sum_cons, ih]
theorem Exp.cnt_eq (e : Exp) : e.cnt = 1 + (e.args.map Exp.cnt).sum := by
 cases e; simp only [Exp.cnt, Exp.cnts_eq, Exp.args]
mutual
def Exp.nest : Exp → Nat
 | .mk _ _ _ a => Exp.nests a + 1
def Exp.nests : List Exp → Nat
 | [] => 0
 | x :: r => max (Exp.nest x) (Exp.nests r)
end
theorem Exp.nest_eq (e : Exp) : e.nest = Exp.nests e.args + 1 := by cases e; rfl
theorem xNO {f g : Exp → Nat} : ∀ {a : List Exp}, (∀ x ∈ a, f x ≤ g x + 1) → (a.map f).sum ≤ a.length + (a.map g).sum
 | [], _ => Nat.le_refl _
 | x :: l, ih => by
   have h1 := ih x List.mem_cons_self
   have h2 := xNO fun y hy => ih y (List.mem_cons_of_mem _ hy)
   simp only [List.map_cons, List.sum_cons, jC]; omega
theorem Exp.cnt_le : ∀ e : Exp, e.cnt ≤ e.size + 1 := by
 refine Exp.ind fun k n t a ih => ?_
 rw [Exp.cnt_eq, Exp.size_eq]
 have := xNO ih
 show 1 + (a.map Exp.cnt).sum ≤ t.length + (a.length + (a.map Exp.size).sum) + 1
 omega
theorem xLz : ∀ {a : List Exp}, (∀ x ∈ a, x.nest ≤ x.cnt) → Exp.nests a ≤ (a.map Exp.cnt).sum
 | [], _ => Nat.le_refl _
 | x :: l, ih => by
   have h1 := ih x List.mem_cons_self
   have h2 := xLz fun y hy => ih y (List.mem_cons_of_mem _ hy)
   simp only [Exp.nests, List.map_cons, List.sum_cons]; omega
theorem Exp.nest_le : ∀ e : Exp, e.nest ≤ e.cnt := by
 refine Exp.ind fun k n t a ih => ?_
 rw [Exp.nest_eq, Exp.cnt_eq]
 have := xLz ih
 show Exp.nests a + 1 ≤ 1 + (a.map Exp.cnt).sum
 omega
def xMC (vT vN : Str → Bool) (ac : Str → Int) (k n : Int) (t : Str) (l : Nat) : Bool :=
 bif k == 1 then (decide (0 ≤ n) && decide (n ≤ 1000000000)) && ((t == []) && (l == 0))
 else bif k == 2 then (n == 0) && (vT t && (l == 0))
 else bif k == 3 then (n == 0) && (vN t && (l == 0))
 else bif k == 4 then (n == 0) && ((t == []) && decide (l ≤ 8))
 else bif k == 5 then (n == 0) && ((l : Int) == ac t)
 else bif k == 6 then (decide (1 ≤ n) && decide (n ≤ 5)) && ((t == []) && (l == 2))
 else bif k == 7 then (n == 0) && (vN t && (l == 2))
 else bif k == 9 then (n == 0) && (vN t && (l == 2))
 else bif k == 8 then (n == 0) && ((t == []) && (l == 3)) else false
end Go.Ab
end
section
namespace Go.Ab
theorem xHv {N : Nat} : ∀ (k n : Nat) (x : Int) (b : Bool) (q : Str), x.natAbs < 10 ^ k → k < n → k + q.length ≤ 1000 → (-9223372036854775808 ≤ x ∧ x ≤ 9223372036854775807) →
 xBP N n x b q = some ((bif b then [45] else []) ++ (dd x.natAbs ++ q)) := by
 intro k
 induction k with
 | zero =>
   intro n x b q hx hn hq hi
   obtain ⟨n, rfl⟩ : ∃ m, n = m + 1 := ⟨n - 1, by omega⟩
   have : x = 0 := by have : x.natAbs < 1 := by simpa using hx
                      omega
   subst this
   simp only [xBP, show ((0 : Int) != 0) = false from rfl, jF]
   cases b
   · rfl
   · simp only [jT]
     rw [if_pos (by simp only [jC, jN]; unfold Lim; omega)]; rfl
 | succ k ih =>
   intro n x b q hx hn hq hi
   obtain ⟨n, rfl⟩ : ∃ m, n = m + 1 := ⟨n - 1, by omega⟩
   by_cases h0 : x = 0
   · subst h0
     simp only [xBP, show ((0 : Int) != 0) = false from rfl, jF]
     cases b
     · rfl
     · simp only [jT]
       rw [if_pos (by simp only [jC, jN]; unfold Lim; omega)]; rfl
   · have hne : (x != 0) = true := by simpa using h0
     have hn0 : x.natAbs ≠ 0 := by omega
     have hd : (Int.tdiv x 10).natAbs = x.natAbs / 10 := by rw [Int.natAbs_tdiv]; rfl
     have hm : (Int.tmod x 10).natAbs = x.natAbs % 10 := by rw [Int.natAbs_tmod]; rfl
     have hdi : -9223372036854775808 ≤ Int.tdiv x 10 ∧ Int.tdiv x 10 ≤ 9223372036854775807 := by omega
     have hb : (Int.tdiv x 10).natAbs < 10 ^ k := by rw [hd]; rw [Nat.pow_succ] at hx; omega
     have hw : IntKind.i64.wrap (Int.tdiv x 10) = Int.tdiv x 10 := xBY (by omega) (by omega)
     have fin : ∀ c : Int, c = ((48 + x.natAbs % 10 : Nat) : Int) → xBP N n (Int.tdiv x 10) b ((List.map (fun n => UInt8.ofNat (Int.toNat n)) [c]) ++ q) = some ((bif b then [45] else []) ++ (dd x.natAbs ++ q)) := by
      intro c hc
      rw [ih n _ b _ hb (by omega) (by simp only [jA, List.length_map, jC, jN]; omega) hdi, hd, xKG hn0, hc]
      simp only [List.map_cons, List.map_nil, Int.toNat_natCast, List.append_assoc, List.cons_append, List.nil_append]
     have hlim : ∀ c : Int, List.length (List.map (fun n => UInt8.ofNat (Int.toNat n)) [c]) + List.length q ≤ Lim := fun c => by
      simp only [List.length_map, jC, jN]; unfold Lim; omega
     by_cases hneg : Int.tmod x 10 < 0
     · have e1 : IntKind.i64.wrap (0 - Int.tmod x 10) = 0 - Int.tmod x 10 := xBY (by omega) (by omega)
       have e2 : IntKind.i64.wrap (48 + (0 - Int.tmod x 10)) = 48 + (0 - Int.tmod x 10) := xBY (by omega) (by omega)
       have e3 : IntKind.u8.wrap (48 + (0 - Int.tmod x 10)) = 48 + (0 - Int.tmod x 10) := xLq (by omega) (by omega)
       simp only [xBP, hne, jT, decide_eq_true hneg, e1, e2, e3, hw]
       rw [if_pos (hlim _)]
       exact fin _ (by omega)
     · have e2 : IntKind.i64.wrap (48 + Int.tmod x 10) = 48 + Int.tmod x 10 := xBY (by omega) (by omega)
       have e3 : IntKind.u8.wrap (48 + Int.tmod x 10) = 48 + Int.tmod x 10 := xLq (by omega) (by omega)
       simp only [xBP, hne, jT, decide_eq_false hneg, jF, e2, e3, hw]
       rw [if_pos (hlim _)]
       exact fin _ (by omega)
theorem xIc {N : Nat} {x : Int} (hN : 100 < N) (hi : -9223372036854775808 ≤ x ∧ x ≤ 9223372036854775807) : xEe N x = some (Lib.itoa x) := by
 unfold xEe
 by_cases h0 : x = 0
 · subst h0
   simp only [beq_self_eq_true, jT]
   show some [48] = some (Lib.decDigits 0)
   rw [Lib.decDigits, dif_pos (by omega)]; rfl
 · have e20 : x.natAbs < 10 ^ 20 := by
    have : (10 : Nat) ^ 20 = 100000000000000000000 := by decide
    omega
   rw [show (x == 0) = false from beq_eq_false_iff_ne.2 h0, jF, xHv 20 N x _ [] e20 (by omega) (by simp) hi, xMy h0, List.append_nil]
theorem xU5 {α : Type} {b : Bool} {x y : Option α} (h1 : ∃ r, x = some r) (h2 : ∃ r, y = some r) : ∃ r, (bif b then x else y) = some r := by cases b <;> assumption
theorem xDF {α : Type} {b : Bool} {x y : Option α} {p q : α} (h1 : x = some p) (h2 : y = some q) : (bif b then x else y) = some (bif b then p else q) := by cases b <;> assumption
def argc (s : Str) : Int := (xBH 0 s).getD 0
theorem xEo (N : Nat) (s : Str) : xBH N s = some (argc s) := by
 have key : ∃ r, xBH 0 s = some r := by
  unfold xBH
  repeat (first | exact ⟨_, rfl⟩ | refine xU5 ⟨_, rfl⟩ ?_)
 obtain ⟨r, hr⟩ := key
 show xBH 0 s = _
 rw [argc, hr]; rfl
theorem xFh (N : Nat) (s : Str) : xCg N s = some (argc s) := (show xCg N s = xBH N s from rfl).trans (xEo N s)
def xKi (e : Exp) : Bool := xMC xHl xDe argc e.kind e.n e.text e.args.length
theorem xVC (l : Nat) : ((l : Int) == 0) = (l == 0) := by
 rcases Nat.eq_zero_or_pos l with rfl | h
 · rfl
 · rw [beq_eq_false_iff_ne.2 (by omega : l ≠ 0), beq_eq_false_iff_ne.2 (by omega : (l : Int) ≠ 0)]
theorem xVD (l : Nat) : ((l : Int) == 2) = (l == 2) := by
 rcases Decidable.em (l = 2) with rfl | h
 · rfl
 · rw [beq_eq_false_iff_ne.2 h, beq_eq_false_iff_ne.2 (by omega : (l : Int) ≠ 2)]
theorem xVE (l : Nat) : ((l : Int) == 3) = (l == 3) := by
 rcases Decidable.em (l = 3) with rfl | h
 · rfl
 · rw [beq_eq_false_iff_ne.2 h, beq_eq_false_iff_ne.2 (by omega : (l : Int) ≠ 3)]
theorem xVF (l : Nat) : decide ((l : Int) ≤ 8) = decide (l ≤ 8) := by
 rcases Decidable.em (l ≤ 8) with h | h
 · rw [decide_eq_true h, decide_eq_true (by omega : (l : Int) ≤ 8)]
 · rw [decide_eq_false h, decide_eq_false (by omega : ¬ (l : Int) ≤ 8)]
theorem xI9 {N : Nat} {e : Exp} (ht : e.text.length ≤ 9223372036854775807) (hn : e.text.length < N) : xFF N e = some (xKi e) := by
 simp only [xFF, xKi, xMC, xHh, xFE ht hn, xEP (N := N) ht hn, xFh, jS, xVC, xVD, xVE, xVF]
 refine xDF ?_ (xDF ?_ (xDF ?_ (xDF ?_ (xDF ?_ (xDF ?_ (xDF ?_ (xDF ?_ (xDF ?_ rfl)))))))) <;>
  first
  | rfl
  | (cases (decide ((0 : Int) ≤ e.n) && decide (e.n ≤ 1000000000)) <;> cases (e.text == []) <;> rfl)
  | (cases (decide ((1 : Int) ≤ e.n) && decide (e.n ≤ 5)) <;> cases (e.text == []) <;> rfl)
  | (cases (e.n == 0) <;> cases (e.text == []) <;> rfl)
  | (cases (e.n == 0) <;> cases (xHl e.text) <;> rfl)
  | (cases (e.n == 0) <;> cases (xDe e.text) <;> rfl)
theorem xI3 {N : Nat} {e : Exp} (ht : e.text.length ≤ 9223372036854775807) (hn : e.text.length < N) (h24 : 24 < N) : xFn N e = some (xKi e) := by
 simp only [xFn, xKi, xMC, xKB, xET ht hn, xES (N := N) (s := e.text) ht hn h24, xEo, jS, xVC, xVD, xVE, xVF]
 refine xDF ?_ (xDF ?_ (xDF ?_ (xDF ?_ (xDF ?_ (xDF ?_ (xDF ?_ (xDF ?_ (xDF ?_ rfl)))))))) <;>
  first
  | rfl
  | (cases (e.args.length == 0) <;> cases (e.text == []) <;> cases (decide ((0 : Int) ≤ e.n) && decide (e.n ≤ 1000000000)) <;> rfl)
  | (cases (e.args.length == 0) <;> cases (e.n == 0) <;> cases (xHl e.text) <;> rfl)
  | (cases (e.args.length == 0) <;> cases (e.n == 0) <;> cases (xDe e.text) <;> rfl)
  | (cases (e.n == 0) <;> cases (e.text == []) <;> rfl)
  | (cases (e.args.length == 2) <;> cases (e.text == []) <;> cases (decide ((1 : Int) ≤ e.n) && decide (e.n ≤ 5)) <;> rfl)
  | (cases (e.args.length == 2) <;> cases (e.n == 0) <;> cases (xDe e.text) <;> rfl)
  | (cases (e.args.length == 3) <;> cases (e.n == 0) <;> cases (e.text == []) <;> rfl)
mutual
def okE : Exp → Bool
 | .mk k n t a => okEs a && xKi (.mk k n t a)
def okEs : List Exp → Bool
 | [] => true
 | x :: r => okE x && okEs r
end
theorem xRB (l : List Exp) : okEs l = l.all okE := by
 induction l with
 | nil => rfl
 | cons x l ih => simp only [okEs, List.all_cons, ih]
theorem xVG (e : Exp) : okE e = (e.args.all okE && xKi e) := by
 cases e; simp only [okE, xRB]; rfl
theorem xU3 {K : Nat} (hK : K ≤ 1048576) : ∀ e : Exp, e.Fit K → Big2 fun N d => xDX N d e = some (okE e) ∧ xEr N d e = some (okE e) := by
 refine Exp.ind fun k n t a ih h => ?_
 obtain ⟨h1, h2, h3, h4⟩ := Exp.fit_iff.1 h
 refine Big2.succ ?_
 refine ((Big2.list fun x hx => ih x hx (h4.2 x hx)).and (xLt (K + 30)).two).imp fun N d ⟨hx, hn⟩ => ?_
 have hl : a.length ≤ K := h4.1
 have ht : (Exp.mk k n t a).text.length ≤ K := h3
 rw [xVG]
 refine ⟨?_, ?_⟩
 · exact xFo (σ := Unit) (L := fun m i _ => xDk N (xDX N d) m a a.length i (.mk k n t a)) a (fun l _ => l.all okE && xKi (.mk k n t a)) (fun _ _ => True) (fun m _ _ => by simp [xDk, xI9 (N := N) (e := .mk k n t a) (by omega) (by omega)])
    (fun i x l _ hd hi hxi _ => by
      have hi' : (i : Int) < (a.length : Int) := by omega
      have hm := List.mem_of_getElem? hxi
      cases ho : okE x
      · refine .inr fun m => ?_
        simp only [xDk, decide_eq_true hi', jT, Int.toNat_natCast, xCj hxi, (hx x hm).1, ho, jS, Bool.not_false, List.all_cons, Bool.false_and]
        rw [if_pos (by omega)]
      · refine .inl ⟨(), trivial, by simp [ho], fun m => ?_⟩
        simp only [xDk, decide_eq_true hi', jT, Int.toNat_natCast, xCj hxi, (hx x hm).1, ho, jS, Bool.not_true, jF, xBO hi (by omega : a.length ≤ _)]
        rw [if_pos (by omega)]) N 0 () trivial (by omega) (by omega)
 · exact xFo (σ := Unit) (L := fun m i _ => xDU N (xEr N d) m i (.mk k n t a)) a (fun l _ => l.all okE && xKi (.mk k n t a)) (fun _ _ => True) (fun m _ _ => by simp [xDU, ea, xI3 (N := N) (e := .mk k n t a) (by omega) (by omega) (by omega)])
    (fun i x l _ hd hi hxi _ => by
      have hi' : (i : Int) < ((Exp.mk k n t a).args.length : Int) := by show (i : Int) < (a.length : Int); omega
      have hi2 : (0 : Int) ≤ (i : Int) ∧ (i : Int) < ((Exp.mk k n t a).args.length : Int) := ⟨by omega, hi'⟩
      have hm := List.mem_of_getElem? hxi
      have hxi2 : (Exp.mk k n t a).args[i]? = some x := hxi
      cases ho : okE x
      · refine .inr fun m => ?_
        simp only [xDU, decide_eq_true hi', if_pos hi2, jT, Int.toNat_natCast, xCj hxi2, (hx x hm).2, ho, jS, Bool.not_false, List.all_cons, Bool.false_and]
      · refine .inl ⟨(), trivial, by simp [ho], fun m => ?_⟩
        simp only [xDU, decide_eq_true hi', if_pos hi2, jT, Int.toNat_natCast, xCj hxi2, (hx x hm).2, ho, jS, Bool.not_true, jF, xBO hi (by omega : a.length ≤ _)]) N 0 () trivial (by omega) (by omega)
end Go.Ab
end
section
namespace Go.Ab
def sumC (l : List Exp) : Nat := (l.map Exp.cnt).sum
theorem xI6 (x : Exp) (l : List Exp) : sumC (x :: l) = x.cnt + sumC l := by simp only [sumC, List.map_cons, List.sum_cons]
theorem xMz (c s : Nat) {l : Int} (h : 0 ≤ l) : left (c + s) l = if left c l < 0 then left c l else left s (left c l) := by
 by_cases c1 : (c : Int) ≤ l
 · rw [xJD c1, if_neg (by omega)]
   by_cases c2 : (s : Int) ≤ l - c
   · rw [xJD c2, xJD (by omega)]; omega
   · rw [xIB c2, xIB (by omega)]
 · rw [xIB c1, if_pos (by omega), xIB (by omega)]
theorem xN1 {K : Nat} (hK : K ≤ 1048576) : ∀ e : Exp, e.Fit K → e.cnt ≤ 2000000 → Big2 fun N d => xDf N d e = some (e.cnt : Int) ∧ ∀ l : Int, 0 ≤ l → l ≤ 1000 → xDM N d e l = some (left e.cnt l) := by
 refine Exp.ind fun k n t a ih h hc => ?_
 obtain ⟨h1, h2, h3, h4⟩ := Exp.fit_iff.1 h
 rw [Exp.cnt_eq] at hc
 have hc : 1 + sumC a ≤ 2000000 := hc
 have hmem : ∀ x ∈ a, x.cnt ≤ sumC a := fun x hx => xQ5 (f := Exp.cnt) hx
 refine Big2.succ ?_
 refine ((Big2.list fun x hx => ih x hx (h4.2 x hx) (by have := hmem x hx; omega)).and (xLt (K + 30)).two).imp fun N d ⟨hx, hn⟩ => ?_
 have hl : a.length ≤ K := h4.1
 rw [Exp.cnt_eq]
 refine ⟨?_, fun l hl0 hl1 => ?_⟩
 · have := xFo (L := fun m i s => xCX N (xDf N d) m s a a.length i) a (fun l s => s + (sumC l : Int)) (fun i s => 0 ≤ s ∧ s + (sumC (a.drop i) : Int) ≤ 2000000) (fun m s _ => by simp [xCX, sumC])
    (fun i x l s hd hi hxi hs => by
      have hi' : (i : Int) < (a.length : Int) := by omega
      have hm := List.mem_of_getElem? hxi
      rw [hd, xI6] at hs
      have hw : IntKind.i64.wrap (s + (x.cnt : Int)) = s + (x.cnt : Int) := xBY (by omega) (by omega)
      refine .inl ⟨s + (x.cnt : Int), ⟨by omega, by rw [(xC9 hd).2.2]; omega⟩, by rw [xI6]; omega, fun m => ?_⟩
      simp only [xCX, decide_eq_true hi', jT, Int.toNat_natCast, xCj hxi, (hx x hm).1, jS, hw, xBO hi (by omega : a.length ≤ _)]
      rw [if_pos (by omega)]) N 0 1 ⟨by omega, by rw [List.drop_zero]; omega⟩ (by omega) (by omega)
   rw [List.drop_zero] at this
   show xCX N (xDf N d) N 1 a a.length 0 = some ((1 + sumC a : Nat) : Int)
   rw [show ((1 + sumC a : Nat) : Int) = 1 + (sumC a : Int) from by omega]
   exact this
 · have := xFo (L := fun m i s => xDc N (xDM N d) m s i (.mk k n t a)) a (fun l s => if s < 0 then s else left (sumC l) s) (fun i s => -1 ≤ s ∧ s ≤ 1000) (fun m s hs => by
    simp only [xDc, ea, Int.lt_irrefl, decide_false, jF, sumC, List.map_nil, List.sum_nil]
    split
    · rfl
    · rw [xJD (by omega)]; simp)
    (fun i x l s hd hi hxi hs => by
      have hi' : (i : Int) < ((Exp.mk k n t a).args.length : Int) := by show (i : Int) < (a.length : Int); omega
      have hi2 : (0 : Int) ≤ (i : Int) ∧ (i : Int) < ((Exp.mk k n t a).args.length : Int) := ⟨by omega, hi'⟩
      have hm := List.mem_of_getElem? hxi
      have hxi2 : (Exp.mk k n t a).args[i]? = some x := hxi
      by_cases hneg : s < 0
      · refine .inr fun m => ?_
        have h2 : ¬ s ≥ 0 := by omega
        simp only [xDc, decide_eq_true hi', jT, decide_eq_false h2, jF, if_pos hneg]
      · have h2 : s ≥ 0 := by omega
        refine .inl ⟨left x.cnt s, ?_, ?_, fun m => ?_⟩
        · unfold left; split <;> omega
        · rw [if_neg hneg, xI6, xMz _ _ (by omega)]
        · simp only [xDc, decide_eq_true hi', jT, decide_eq_true h2, if_pos hi2, Int.toNat_natCast, xCj hxi2, (hx x hm).2 s (by omega) (by omega), jS, xBO hi (by omega : a.length ≤ _)]) N 0 (l - 1) ⟨by omega, by omega⟩ (by omega) (by omega)
   rw [List.drop_zero] at this
   show xDc N (xDM N d) N (IntKind.i64.wrap (l - 1)) 0 (.mk k n t a) = some (left (1 + sumC a) l)
   rw [xBY (by omega) (by omega)]
   refine Eq.trans this ?_
   unfold left
   by_cases c0 : l - 1 < 0
   · rw [if_pos c0, if_neg (by omega)]; congr 1; omega
   · rw [if_neg c0]
     by_cases c2 : (sumC a : Int) ≤ l - 1
     · rw [if_pos c2, if_pos (by omega)]; congr 1; omega
     · rw [if_neg c2, if_neg (by omega)]
theorem xLy {x : Exp} : ∀ {a : List Exp}, x ∈ a → x.nest ≤ Exp.nests a
 | y :: l, h => by
   rcases List.mem_cons.1 h with rfl | h
   · simp only [Exp.nests]; omega
   · have := xLy h; simp only [Exp.nests]; omega
theorem maxI (a b : Nat) : (if (a : Int) > (b : Int) then (a : Int) else (b : Int)) = ((max b a : Nat) : Int) := by
 split <;> omega
theorem nest_eq {K : Nat} (hK : K ≤ 1048576) : ∀ e : Exp, e.Fit K → e.nest ≤ 2000000 → Big2 fun N d => xDN N d e = some (e.nest : Int) ∧ xDQ N d e = some (e.nest : Int) := by
 refine Exp.ind fun k n t a ih h hc => ?_
 obtain ⟨h1, h2, h3, h4⟩ := Exp.fit_iff.1 h
 rw [Exp.nest_eq] at hc
 have hc : Exp.nests a + 1 ≤ 2000000 := hc
 have hmem : ∀ x ∈ a, x.nest ≤ Exp.nests a := fun x hx => xLy hx
 refine Big2.succ ?_
 refine ((Big2.list fun x hx => ih x hx (h4.2 x hx) (by have := hmem x hx; omega)).and (xLt (K + 30)).two).imp fun N d ⟨hx, hn⟩ => ?_
 have hl : a.length ≤ K := h4.1
 rw [Exp.nest_eq]
 refine ⟨?_, ?_⟩
 · have := xFo (L := fun m i (s : Nat) => xDu N (xDN N d) m (s : Int) a a.length i) a (fun l s => ((max s (Exp.nests l) + 1 : Nat) : Int)) (fun i s => s ≤ 2000000) (fun m s hs => by
    have hw : IntKind.i64.wrap ((s : Int) + 1) = ((max s 0 + 1 : Nat) : Int) := by rw [xBY (by omega) (by omega)]; omega
    simp only [xDu, Int.lt_irrefl, decide_false, jF, hw, Exp.nests])
    (fun i x l s hd hi hxi hs => by
      have hi' : (i : Int) < (a.length : Int) := by omega
      have hm := List.mem_of_getElem? hxi
      have := hmem x hm
      refine .inl ⟨max s x.nest, by omega, by simp only [Exp.nests]; omega, fun m => ?_⟩
      simp only [xDu, decide_eq_true hi', jT, Int.toNat_natCast, xCj hxi, (hx x hm).1, jS, maxI, xBO hi (by omega : a.length ≤ _)]
      rw [if_pos (by omega)]) N 0 0 (by omega) (by omega) (by omega)
   rw [List.drop_zero] at this
   refine Eq.trans this ?_
   simp; rfl
 · have := xFo (L := fun m i (s : Nat) => xDw N (xDQ N d) m (s : Int) i (.mk k n t a)) a (fun l s => ((max s (Exp.nests l) + 1 : Nat) : Int)) (fun i s => s ≤ 2000000) (fun m s hs => by
    have hw : IntKind.i64.wrap ((s : Int) + 1) = ((max s 0 + 1 : Nat) : Int) := by rw [xBY (by omega) (by omega)]; omega
    simp only [xDw, ea, Int.lt_irrefl, decide_false, jF, hw, Exp.nests])
    (fun i x l s hd hi hxi hs => by
      have hi' : (i : Int) < ((Exp.mk k n t a).args.length : Int) := by show (i : Int) < (a.length : Int); omega
      have hi2 : (0 : Int) ≤ (i : Int) ∧ (i : Int) < ((Exp.mk k n t a).args.length : Int) := ⟨by omega, hi'⟩
      have hm := List.mem_of_getElem? hxi
      have hxi2 : (Exp.mk k n t a).args[i]? = some x := hxi
      have := hmem x hm
      have hmax : xGj N (s : Int) (x.nest : Int) = some ((max s x.nest : Nat) : Int) := by
       unfold xGj
       by_cases c : (s : Int) > (x.nest : Int)
       · rw [decide_eq_true c]; show some (s : Int) = _; congr 1; omega
       · rw [decide_eq_false c]; show some (x.nest : Int) = _; congr 1; omega
      refine .inl ⟨max s x.nest, by omega, by simp only [Exp.nests]; omega, fun m => ?_⟩
      simp only [xDw, decide_eq_true hi', jT, if_pos hi2, Int.toNat_natCast, xCj hxi2, (hx x hm).2, jS, hmax, xBO hi (by omega : a.length ≤ _)]) N 0 0 (by omega) (by omega) (by omega)
   rw [List.drop_zero] at this
   refine Eq.trans this ?_
   simp; rfl
def xGk (e : Exp) : Bool := (decide (e.cnt ≤ 40) && decide (e.nest ≤ 8)) && okE e
theorem xNT {K : Nat} (hK : K ≤ 1048576) {e : Exp} (h : e.Fit K) (hs : e.size ≤ 1048576) : Big fun N => xCs N e = some (xGk e) ∧ xCv N e = some (xGk e) := by
 have h1 := Exp.cnt_le e
 have h2 := Exp.nest_le e
 refine (((xN1 hK e h (by omega)).diag.and (nest_eq hK e h (by omega)).diag).and (xU3 hK e h).diag).imp fun N ⟨⟨⟨c1, c2⟩, n1, n2⟩, a1, a2⟩ => ?_
 have c3 : xF4 N e = some (e.cnt : Int) := c1
 have c4 : xG3 N e 40 = some (left e.cnt 40) := c2 40 (by omega) (by omega)
 have n3 : xF3 N e = some (e.nest : Int) := n1
 have n4 : xF7 N e = some (e.nest : Int) := n2
 have a3 : xGo N e = some (okE e) := a1
 have a4 : xHw N e = some (okE e) := a2
 have d1 : decide ((e.cnt : Int) ≤ 40) = decide (e.cnt ≤ 40) := decide_eq_decide.2 (by omega)
 have d2 : decide (left e.cnt 40 ≥ 0) = decide (e.cnt ≤ 40) := decide_eq_decide.2 (by unfold left; split <;> omega)
 have d3 : decide ((e.nest : Int) ≤ 8) = decide (e.nest ≤ 8) := decide_eq_decide.2 (by omega)
 refine ⟨?_, ?_⟩
 · simp only [xCs, c3, n3, a3, jS, d1, d3, xGk]
   cases decide (e.cnt ≤ 40) <;> cases decide (e.nest ≤ 8) <;> rfl
 · simp only [xCv, c4, n4, a4, jS, d2, d3, xGk]
   cases decide (e.cnt ≤ 40) <;> cases decide (e.nest ≤ 8) <;> rfl
end Go.Ab
end
section
namespace Go.Ab
inductive PR (α : Type) where
 | ok (a : α) (r : List Tok)
 | err (r : List Tok)
def PR.bind {α β : Type} : PR α → (α → List Tok → PR β) → PR β
 | .ok a r, k => k a r
 | .err r, _ => .err r
theorem PR.bind_ok {α β : Type} {R : PR α} {k : α → List Tok → PR β} {b : β} {r : List Tok} (h : R.bind k = .ok b r) : ∃ a q, R = .ok a q ∧ k a q = .ok b r := by
 cases R with
 | ok a q => exact ⟨a, q, rfl, h⟩
 | err q => cases h
def isK (t : Tok) (s : Str) : Bool := bif t.kind == 1 then t.text == s else false
def isS (t : Tok) (s : Str) : Bool := bif t.kind == 4 then t.text == s else false
def seeK (s : Str) : List Tok → Bool
 | [] => false
 | t :: _ => isK t s
def seeS (s : Str) : List Tok → Bool
 | [] => false
 | t :: _ => isS t s
def xEX (s : Str) : List Tok → PR Unit
 | [] => .err []
 | t :: r => bif isK t s || isS t s then .ok () r else .err (t :: r)
def xKp : List Tok → PR Str
 | [] => .err []
 | t :: r => bif t.kind == 1 then (bif xDe t.text then .ok t.text r else .err (t :: r)) else .err (t :: r)
def xIr (f : List Tok → PR Exp) (c : Str) : Nat → List Exp → List Tok → PR (List Exp)
 | 0, _, ts => .err ts
 | m + 1, acc, ts => (f ts).bind fun e r => bif seeS c r then .ok (acc ++ [e]) r.tail else (xEX [44] r).bind fun _ q => xIr f c m (acc ++ [e]) q
def xJc (f : List Tok → PR Exp) (m : Nat) (c : Str) (ts : List Tok) : PR (List Exp) := bif seeS c ts then .ok [] ts.tail else xIr f c m [] ts
def xIp (f : List Tok → PR Exp) (m : Nat) (t : Tok) (r : List Tok) : PR Exp :=
 bif isS t [91] then (xJc f m [93] r).bind fun a q => .ok (.mk 4 0 [] a) q
 else bif isS t [40] then (f r).bind fun e q => (xEX [41] q).bind fun _ u => .ok e u
 else .err (t :: r)
def xIW (f : List Tok → PR Exp) (m : Nat) : List Tok → PR Exp
 | [] => .err []
 | t :: r =>
   bif t.kind == 2 then .ok (.mk 1 t.n [] []) r
   else bif t.kind == 3 then .ok (.mk 2 0 t.text []) r
   else bif t.kind == 1 then
    (bif xDe t.text then .ok (.mk 3 0 t.text []) r
    else bif decide (argc t.text ≥ 0) then (xEX [40] r).bind fun _ q => (xJc f m [41] q).bind fun a u => .ok (.mk 5 0 t.text a) u
    else xIp f m t r)
   else xIp f m t r
def xIs (g : List Tok → PR Exp) : Nat → Exp → List Tok → PR Exp
 | 0, _, ts => .err ts
 | m + 1, a, ts => bif seeS [42] ts then (g ts.tail).bind fun b r => xIs g m (.mk 6 3 [] [a, b]) r else .ok a ts
def xKr (g : List Tok → PR Exp) (m : Nat) (ts : List Tok) : PR Exp := (g ts).bind fun a r => xIs g m a r
def xIx (g : List Tok → PR Exp) : Nat → Exp → List Tok → PR Exp
 | 0, _, ts => .err ts
 | m + 1, a, ts => bif seeS [43] ts then (g ts.tail).bind fun b r => xIx g m (.mk 6 1 [] [a, b]) r
   else bif seeS [45] ts then (g ts.tail).bind fun b r => xIx g m (.mk 6 2 [] [a, b]) r else .ok a ts
def pSum (g : List Tok → PR Exp) (m : Nat) (ts : List Tok) : PR Exp := (g ts).bind fun a r => xIx g m a r
def xNC (g : List Tok → PR Exp) (a : Exp) (r : List Tok) : PR Exp :=
 bif seeS [60] r then (g r.tail).bind fun b q => .ok (.mk 6 4 [] [a, b]) q
 else bif seeS [61, 61] r then (g r.tail).bind fun b q => .ok (.mk 6 5 [] [a, b]) q else .ok a r
def pCmp (g : List Tok → PR Exp) (ts : List Tok) : PR Exp := (g ts).bind fun a r => xNC g a r
def pTwo (f : List Tok → PR Exp) (k : Int) (s1 s2 : Str) (ts : List Tok) : PR Exp :=
 (xKp ts).bind fun x q1 => (xEX s1 q1).bind fun _ q2 => (f q2).bind fun a q3 => (xEX s2 q3).bind fun _ q4 => (f q4).bind fun b q5 => .ok (.mk k 0 x [a, b]) q5
def pIf (f : List Tok → PR Exp) (ts : List Tok) : PR Exp :=
 (f ts).bind fun a q1 => (xEX [116, 104, 101, 110] q1).bind fun _ q2 => (f q2).bind fun b q3 => (xEX [101, 108, 115, 101] q3).bind fun _ q4 => (f q4).bind fun c q5 => .ok (.mk 8 0 [] [a, b, c]) q5
def xIX (f g : List Tok → PR Exp) (ts : List Tok) : PR Exp :=
 bif seeK [108, 101, 116] ts then pTwo f 7 [61] [105, 110] ts.tail
 else bif seeK [105, 102] ts then pIf f ts.tail
 else bif seeK [102, 111, 114] ts then pTwo f 9 [105, 110] [100, 111] ts.tail
 else pCmp g ts
def xNE (f : List Tok → PR Exp) (m : Nat) : List Tok → PR Exp := pSum (xKr (xIW f m) m) m
def pE : Nat → List Tok → PR Exp
 | 0, ts => .err ts
 | m + 1, ts => xIX (pE m) (xNE (pE m) (m + 1)) ts
theorem xLX {s : Str} {ts r : List Tok} {u : Unit} (h : xEX s ts = .ok u r) : ∃ t, ts = t :: r ∧ (isK t s || isS t s) = true := by
 cases ts with
 | nil => cases h
 | cons t q =>
   simp only [xEX] at h
   cases hb : isK t s || isS t s <;> rw [hb] at h <;> cases h
   exact ⟨t, rfl, hb⟩
theorem xLW {ts r : List Tok} {x : Str} (h : xKp ts = .ok x r) : ∃ t, ts = t :: r ∧ x = t.text ∧ t.kind = 1 ∧ xDe t.text = true := by
 cases ts with
 | nil => cases h
 | cons t q =>
   simp only [xKp] at h
   cases hb : t.kind == 1 <;> rw [hb] at h
   · cases h
   · cases hv : xDe t.text <;> rw [hv] at h <;> cases h
     exact ⟨t, rfl, rfl, by simpa using hb, hv⟩
theorem xI0 {s : Str} {ts : List Tok} (h : seeS s ts = true) : ∃ t, ts = t :: ts.tail ∧ isS t s = true := by
 cases ts with
 | nil => cases h
 | cons t q => exact ⟨t, rfl, h⟩
theorem xKx {s : Str} {ts : List Tok} (h : seeK s ts = true) : ∃ t, ts = t :: ts.tail ∧ isK t s = true := by
 cases ts with
 | nil => cases h
 | cons t q => exact ⟨t, rfl, h⟩
theorem xEM {s : Str} {ts : List Tok} (h : seeS s ts = true) : ts.tail.length + 1 = ts.length := by
 obtain ⟨t, h1, _⟩ := xI0 h
 rw [h1]; rfl
theorem xEL {s : Str} {ts : List Tok} (h : seeK s ts = true) : ts.tail.length + 1 = ts.length := by
 obtain ⟨t, h1, _⟩ := xKx h
 rw [h1]; rfl
theorem xEn {s : Str} {ts r : List Tok} {u : Unit} (h : xEX s ts = .ok u r) : r.length + 1 = ts.length := by
 obtain ⟨t, h1, _⟩ := xLX h
 rw [h1]; rfl
theorem xKq {ts r : List Tok} {x : Str} (h : xKp ts = .ok x r) : r.length + 1 = ts.length := by
 obtain ⟨t, h1, _⟩ := xLW h
 rw [h1]; rfl
def tw (ts : List Tok) : Nat := (ts.map fun t => t.text.length + 3).sum
theorem xIg (t : Tok) (r : List Tok) : tw (t :: r) = t.text.length + 3 + tw r := by simp [tw]
def xRl (K : Nat) (ts : List Tok) (e : Exp) (r : List Tok) : Prop := e.size + tw r ≤ tw ts ∧ e.Fit K
def xBZ (K : Nat) (f : List Tok → PR Exp) : Prop := ∀ ts e r, (∀ t ∈ ts, t.Fit K) → tw ts ≤ K → f ts = .ok e r → xRl K ts e r ∧ (∀ t ∈ r, t.Fit K) ∧ r.length < ts.length
theorem xFU {K : Nat} {k n : Int} {t : Str} {a : List Exp} (hk : I64 k) (hn : I64 n) (ht : t.length ≤ K) (ha : a.length ≤ K) (hx : ∀ x ∈ a, x.Fit K) : (Exp.mk k n t a).Fit K :=
 Exp.fit_iff.2 ⟨hk, hn, ht, ha, hx⟩
theorem xFl (k n : Int) (t : Str) (a : List Exp) : (Exp.mk k n t a).size = t.length + (a.length + (a.map Exp.size).sum) := Exp.size_eq _
theorem xDy {x : Int} (h : 0 ≤ x ∧ x ≤ 1000) : I64 x := by unfold I64; omega
theorem xGz {K : Nat} {s : Str} {ts r : List Tok} {u : Unit} (hf : ∀ t ∈ ts, t.Fit K) (h : xEX s ts = .ok u r) : (∀ t ∈ r, t.Fit K) ∧ tw r + 3 ≤ tw ts ∧ r.length < ts.length := by
 obtain ⟨t, rfl, _⟩ := xLX h
 exact ⟨fun x hx => hf x (List.mem_cons_of_mem _ hx), by rw [xIg]; omega, by simp⟩
theorem xNQ {K : Nat} {ts : List Tok} (hf : ∀ t ∈ ts, t.Fit K) (h : (∃ t, ts = t :: ts.tail ∧ True)) : (∀ t ∈ ts.tail, t.Fit K) ∧ tw ts.tail + 3 ≤ tw ts ∧ ts.tail.length < ts.length := by
 obtain ⟨t, h1, _⟩ := h
 generalize ts.tail = q at h1
 subst h1
 exact ⟨fun x hx => hf x (List.mem_cons_of_mem _ hx), by rw [xIg]; omega, by simp⟩
theorem xHu {K : Nat} {s : Str} {ts : List Tok} (hf : ∀ t ∈ ts, t.Fit K) (h : seeS s ts = true) : (∀ t ∈ ts.tail, t.Fit K) ∧ tw ts.tail + 3 ≤ tw ts ∧ ts.tail.length < ts.length := by
 obtain ⟨t, h1, _⟩ := xI0 h
 exact xNQ hf ⟨t, h1, trivial⟩
theorem xLl {K : Nat} {s : Str} {ts : List Tok} (hf : ∀ t ∈ ts, t.Fit K) (h : seeK s ts = true) : (∀ t ∈ ts.tail, t.Fit K) ∧ tw ts.tail + 3 ≤ tw ts ∧ ts.tail.length < ts.length := by
 obtain ⟨t, h1, _⟩ := xKx h
 exact xNQ hf ⟨t, h1, trivial⟩
theorem xKA (a b : List Exp) : ((a ++ b).map Exp.size).sum = (a.map Exp.size).sum + (b.map Exp.size).sum := by simp
theorem xKo {K : Nat} {f : List Tok → PR Exp} (hf : xBZ K f) (c : Str) : ∀ (m : Nat) (acc : List Exp) (ts : List Tok) (a : List Exp) (r : List Tok), (∀ t ∈ ts, t.Fit K) → tw ts ≤ K → (∀ x ∈ acc, x.Fit K) → xIr f c m acc ts = .ok a r →
 (a.length + (a.map Exp.size).sum + tw r ≤ acc.length + (acc.map Exp.size).sum + tw ts) ∧ (∀ x ∈ a, x.Fit K) ∧ (∀ t ∈ r, t.Fit K) ∧ r.length < ts.length := by
 intro m
 induction m with
 | zero => intro acc ts a r _ _ _ h; cases h
 | succ m ih =>
   intro acc ts a r h1 h2 h3 h
   obtain ⟨e, q, he, h⟩ := PR.bind_ok h
   obtain ⟨⟨w1, w2⟩, g1, g2⟩ := hf ts e q h1 h2 he
   have hacc : ∀ x ∈ acc ++ [e], x.Fit K := fun x hx => by
    rcases List.mem_append.1 hx with hx | hx
    · exact h3 x hx
    · rw [List.mem_singleton.1 hx]; exact w2
   have hsz : (acc ++ [e]).length + ((acc ++ [e]).map Exp.size).sum = acc.length + (acc.map Exp.size).sum + (1 + e.size) := by
    rw [xKA, jA]; simp only [List.map_cons, List.map_nil, List.sum_cons, List.sum_nil, jC, jN]; omega
   cases hc : seeS c q <;> rw [hc] at h
   · obtain ⟨u, v, hn, h⟩ := PR.bind_ok h
     obtain ⟨n1, n2, n3⟩ := xGz g1 hn
     obtain ⟨a1, a2, a3, a4⟩ := ih (acc ++ [e]) v a r n1 (by omega) hacc h
     exact ⟨by omega, a2, a3, by omega⟩
   · cases h
     obtain ⟨n1, n2, n3⟩ := xHu g1 hc
     exact ⟨by omega, hacc, n1, by omega⟩
theorem xIY {K : Nat} {f : List Tok → PR Exp} (hf : xBZ K f) {m : Nat} {c : Str} {ts r : List Tok} {a : List Exp} (h1 : ∀ t ∈ ts, t.Fit K) (h2 : tw ts ≤ K) (h : xJc f m c ts = .ok a r) :
 (a.length + (a.map Exp.size).sum + tw r ≤ tw ts) ∧ (∀ x ∈ a, x.Fit K) ∧ (∀ t ∈ r, t.Fit K) ∧ r.length < ts.length := by
 unfold xJc at h
 cases hc : seeS c ts <;> rw [hc] at h
 · have := xKo hf c m [] ts a r h1 h2 (fun x hx => by cases hx) h
   simpa using this
 · cases h
   obtain ⟨n1, n2, n3⟩ := xHu h1 hc
   exact ⟨by simp; omega, (fun x hx => by cases hx), n1, n3⟩
theorem xIq {K : Nat} {f : List Tok → PR Exp} (hf : xBZ K f) {m : Nat} {t : Tok} {q r : List Tok} {e : Exp} (h1 : ∀ x ∈ t :: q, x.Fit K) (h2 : tw (t :: q) ≤ K) (h : xIp f m t q = .ok e r) :
 xRl K (t :: q) e r ∧ (∀ x ∈ r, x.Fit K) ∧ r.length < (t :: q).length := by
 have hq : ∀ x ∈ q, x.Fit K := fun x hx => h1 x (List.mem_cons_of_mem _ hx)
 have hw := xIg t q
 unfold xIp at h
 cases c1 : isS t [91] <;> rw [c1] at h
 · cases c2 : isS t [40] <;> rw [c2] at h
   · cases h
   · obtain ⟨e', u, he, h⟩ := PR.bind_ok h
     obtain ⟨_, v, hn, h⟩ := PR.bind_ok h
     cases h
     obtain ⟨⟨w1, w2⟩, g1, g2⟩ := hf q e u hq (by omega) he
     obtain ⟨n1, n2, n3⟩ := xGz g1 hn
     exact ⟨⟨by omega, w2⟩, n1, by simp only [jC]; omega⟩
 · obtain ⟨a, u, ha, h⟩ := PR.bind_ok h
   cases h
   obtain ⟨w1, w2, w3, w4⟩ := xIY hf hq (by omega) ha
   refine ⟨⟨by rw [xFl]; simp only [jN]; omega, xFU (xDy (by omega)) (xDy (by omega)) (Nat.zero_le _) (by omega) w2⟩, w3, by simp only [jC]; omega⟩
theorem xFO {K : Nat} {f : List Tok → PR Exp} (hf : xBZ K f) (m : Nat) : xBZ K (xIW f m) := by
 intro ts e r h1 h2 h
 cases ts with
 | nil => cases h
 | cons t q =>
   have hq : ∀ x ∈ q, x.Fit K := fun x hx => h1 x (List.mem_cons_of_mem _ hx)
   obtain ⟨ft1, ft2, ft3, ft4⟩ := h1 t List.mem_cons_self
   have ft4 : t.text.length ≤ K := ft4
   have hw := xIg t q
   have zero : ∀ x ∈ ([] : List Exp), x.Fit K := fun x hx => by cases hx
   simp only [xIW] at h
   cases c1 : t.kind == 2 <;> rw [c1] at h
   · cases c2 : t.kind == 3 <;> rw [c2] at h
     · cases c3 : t.kind == 1 <;> rw [c3] at h
       · exact xIq hf h1 h2 h
       · cases c4 : xDe t.text <;> rw [c4] at h
         · cases c5 : decide (argc t.text ≥ 0) <;> rw [c5] at h
           · exact xIq hf h1 h2 h
           · obtain ⟨_, u, hn, h⟩ := PR.bind_ok h
             obtain ⟨a, v, ha, h⟩ := PR.bind_ok h
             cases h
             obtain ⟨n1, n2, n3⟩ := xGz hq hn
             obtain ⟨w1, w2, w3, w4⟩ := xIY hf n1 (by omega) ha
             exact ⟨⟨by rw [xFl]; omega, xFU (xDy (by omega)) (xDy (by omega)) ft4 (by omega) w2⟩, w3, by simp only [jC]; omega⟩
         · cases h
           exact ⟨⟨by rw [xFl]; simp only [jN, List.map_nil, List.sum_nil]; omega, xFU (xDy (by omega)) (xDy (by omega)) ft4 (Nat.zero_le _) zero⟩, hq, by simp⟩
     · cases h
       exact ⟨⟨by rw [xFl]; simp only [jN, List.map_nil, List.sum_nil]; omega, xFU (xDy (by omega)) (xDy (by omega)) ft4 (Nat.zero_le _) zero⟩, hq, by simp⟩
   · cases h
     exact ⟨⟨by rw [xFl]; simp only [jN, List.map_nil, List.sum_nil]; omega, xFU (xDy (by omega)) ft2 (Nat.zero_le _) (Nat.zero_le _) zero⟩, hq, by simp⟩
theorem xIK {K : Nat} {k n : Int} {a b : Exp} {w : Nat} (hk : I64 k) (hn : I64 n) (ha : a.Fit K) (hb : b.Fit K) (h2 : 2 ≤ K) : (Exp.mk k n [] [a, b]).Fit K ∧ (Exp.mk k n [] [a, b]).size = a.size + b.size + 2 :=
 ⟨xFU hk hn (Nat.zero_le _) h2 (fun x hx => by
   simp only [List.mem_cons, List.not_mem_nil, or_false] at hx
   rcases hx with rfl | rfl <;> assumption), by rw [xFl]; simp only [jC, jN, List.map_cons, List.map_nil, List.sum_cons, List.sum_nil]; omega⟩
theorem xKs {K : Nat} {g : List Tok → PR Exp} (hg : xBZ K g) : ∀ (m : Nat) (a : Exp) (ts : List Tok) (e : Exp) (r : List Tok), (∀ t ∈ ts, t.Fit K) → tw ts ≤ K → a.Fit K → xIs g m a ts = .ok e r →
 e.size + tw r ≤ a.size + tw ts ∧ e.Fit K ∧ (∀ t ∈ r, t.Fit K) ∧ r.length ≤ ts.length := by
 intro m
 induction m with
 | zero => intro a ts e r _ _ _ h; cases h
 | succ m ih =>
   intro a ts e r h1 h2 h3 h
   unfold xIs at h
   cases c1 : seeS [42] ts <;> rw [c1] at h
   · cases h; exact ⟨Nat.le_refl _, h3, h1, Nat.le_refl _⟩
   · obtain ⟨b, q, hb, h⟩ := PR.bind_ok h
     obtain ⟨n1, n2, n3⟩ := xHu h1 c1
     obtain ⟨⟨w1, w2⟩, g1, g2⟩ := hg _ b q n1 (by omega) hb
     obtain ⟨f1, f2⟩ := xIK (w := 0) (k := 6) (n := 3) (xDy (by omega)) (xDy (by omega)) h3 w2 (by omega)
     obtain ⟨p1, p2, p3, p4⟩ := ih _ q e r g1 (by omega) f1 h
     exact ⟨by omega, p2, p3, by omega⟩
theorem xLi {K : Nat} {g : List Tok → PR Exp} (hg : xBZ K g) : ∀ (m : Nat) (a : Exp) (ts : List Tok) (e : Exp) (r : List Tok), (∀ t ∈ ts, t.Fit K) → tw ts ≤ K → a.Fit K → xIx g m a ts = .ok e r →
 e.size + tw r ≤ a.size + tw ts ∧ e.Fit K ∧ (∀ t ∈ r, t.Fit K) ∧ r.length ≤ ts.length := by
 intro m
 induction m with
 | zero => intro a ts e r _ _ _ h; cases h
 | succ m ih =>
   intro a ts e r h1 h2 h3 h
   have one : ∀ (n : Int), I64 n → (∀ t ∈ ts.tail, t.Fit K) ∧ tw ts.tail + 3 ≤ tw ts ∧ ts.tail.length < ts.length → ((g ts.tail).bind fun b r => xIx g m (.mk 6 n [] [a, b]) r) = .ok e r →
    e.size + tw r ≤ a.size + tw ts ∧ e.Fit K ∧ (∀ t ∈ r, t.Fit K) ∧ r.length ≤ ts.length := by
    rintro n hn ⟨n1, n2, n3⟩ h
    obtain ⟨b, q, hb, h⟩ := PR.bind_ok h
    obtain ⟨⟨w1, w2⟩, g1, g2⟩ := hg _ b q n1 (by omega) hb
    obtain ⟨f1, f2⟩ := xIK (w := 0) (k := 6) (n := n) (xDy (by omega)) hn h3 w2 (by omega)
    obtain ⟨p1, p2, p3, p4⟩ := ih _ q e r g1 (by omega) f1 h
    exact ⟨by omega, p2, p3, by omega⟩
   unfold xIx at h
   cases c1 : seeS [43] ts <;> rw [c1] at h
   · cases c2 : seeS [45] ts <;> rw [c2] at h
     · cases h; exact ⟨Nat.le_refl _, h3, h1, Nat.le_refl _⟩
     · exact one 2 (xDy (by omega)) (xHu h1 c2) h
   · exact one 1 (xDy (by omega)) (xHu h1 c1) h
theorem xHs {K : Nat} {g : List Tok → PR Exp} (hg : xBZ K g) (m : Nat) : xBZ K (xKr g m) := by
 intro ts e r h1 h2 h
 obtain ⟨a, q, ha, h⟩ := PR.bind_ok h
 obtain ⟨⟨w1, w2⟩, g1, g2⟩ := hg ts a q h1 h2 ha
 obtain ⟨p1, p2, p3, p4⟩ := xKs hg m a q e r g1 (by omega) w2 h
 exact ⟨⟨by omega, p2⟩, p3, by omega⟩
theorem xMg {K : Nat} {g : List Tok → PR Exp} (hg : xBZ K g) (m : Nat) : xBZ K (pSum g m) := by
 intro ts e r h1 h2 h
 obtain ⟨a, q, ha, h⟩ := PR.bind_ok h
 obtain ⟨⟨w1, w2⟩, g1, g2⟩ := hg ts a q h1 h2 ha
 obtain ⟨p1, p2, p3, p4⟩ := xLi hg m a q e r g1 (by omega) w2 h
 exact ⟨⟨by omega, p2⟩, p3, by omega⟩
theorem xMf {K : Nat} {g : List Tok → PR Exp} (hg : xBZ K g) : xBZ K (pCmp g) := by
 intro ts e r h1 h2 h
 obtain ⟨a, q, ha, h⟩ := PR.bind_ok h
 obtain ⟨⟨w1, w2⟩, g1, g2⟩ := hg ts a q h1 h2 ha
 have one : ∀ (n : Int), I64 n → (∀ t ∈ q.tail, t.Fit K) ∧ tw q.tail + 3 ≤ tw q ∧ q.tail.length < q.length → ((g q.tail).bind fun b r => PR.ok (.mk 6 n [] [a, b]) r) = .ok e r → xRl K ts e r ∧ (∀ x ∈ r, x.Fit K) ∧ r.length < ts.length := by
  rintro n hn ⟨n1, n2, n3⟩ h
  obtain ⟨b, u, hb, h⟩ := PR.bind_ok h
  cases h
  obtain ⟨⟨v1, v2⟩, l1, l2⟩ := hg _ b r n1 (by omega) hb
  obtain ⟨f1, f2⟩ := xIK (w := 0) (k := 6) (n := n) (xDy (by omega)) hn w2 v2 (by omega)
  exact ⟨⟨by omega, f1⟩, l1, by omega⟩
 unfold xNC at h
 cases c1 : seeS [60] q <;> rw [c1] at h
 · cases c2 : seeS [61, 61] q <;> rw [c2] at h
   · cases h; exact ⟨⟨w1, w2⟩, g1, g2⟩
   · exact one 5 (xDy (by omega)) (xHu g1 c2) h
 · exact one 4 (xDy (by omega)) (xHu g1 c1) h
theorem xJx {K : Nat} {f : List Tok → PR Exp} (hf : xBZ K f) {k : Int} (hk : I64 k) {s1 s2 : Str} {ts r : List Tok} {e : Exp} (h1 : ∀ x ∈ ts, x.Fit K) (h2 : tw ts + 3 ≤ K) (h : pTwo f k s1 s2 ts = .ok e r) :
 e.size + tw r ≤ tw ts ∧ e.Fit K ∧ (∀ x ∈ r, x.Fit K) ∧ r.length < ts.length := by
 obtain ⟨x, q1, e1, h⟩ := PR.bind_ok h
 obtain ⟨_, q2, e2, h⟩ := PR.bind_ok h
 obtain ⟨a, q3, e3, h⟩ := PR.bind_ok h
 obtain ⟨_, q4, e4, h⟩ := PR.bind_ok h
 obtain ⟨b, q5, e5, h⟩ := PR.bind_ok h
 cases h
 obtain ⟨t, rfl, rfl, _, _⟩ := xLW e1
 have hq : ∀ x ∈ q1, x.Fit K := fun x hx => h1 x (List.mem_cons_of_mem _ hx)
 have ft4 : t.text.length ≤ K := (h1 t List.mem_cons_self).2.2.2
 have hw := xIg t q1
 obtain ⟨n1, n2, n3⟩ := xGz hq e2
 obtain ⟨⟨w1, w2⟩, g1, g2⟩ := hf _ a q3 n1 (by omega) e3
 obtain ⟨m1, m2, m3⟩ := xGz g1 e4
 obtain ⟨⟨v1, v2⟩, l1, l2⟩ := hf _ b r m1 (by omega) e5
 refine ⟨by rw [xFl]; simp only [jC, jN, List.map_cons, List.map_nil, List.sum_cons, List.sum_nil]; omega, xFU hk (xDy (by omega)) ft4 (by simp; omega) (fun x hx => ?_), l1, by simp only [jC]; omega⟩
 simp only [List.mem_cons, List.not_mem_nil, or_false] at hx
 rcases hx with rfl | rfl <;> assumption
theorem xND {K : Nat} {f : List Tok → PR Exp} (hf : xBZ K f) {ts r : List Tok} {e : Exp} (h1 : ∀ x ∈ ts, x.Fit K) (h2 : tw ts + 3 ≤ K) (h : pIf f ts = .ok e r) :
 e.size + tw r ≤ tw ts ∧ e.Fit K ∧ (∀ x ∈ r, x.Fit K) ∧ r.length < ts.length := by
 obtain ⟨a, q1, e1, h⟩ := PR.bind_ok h
 obtain ⟨_, q2, e2, h⟩ := PR.bind_ok h
 obtain ⟨b, q3, e3, h⟩ := PR.bind_ok h
 obtain ⟨_, q4, e4, h⟩ := PR.bind_ok h
 obtain ⟨c, q5, e5, h⟩ := PR.bind_ok h
 cases h
 obtain ⟨⟨w1, w2⟩, g1, g2⟩ := hf _ a q1 h1 (by omega) e1
 obtain ⟨n1, n2, n3⟩ := xGz g1 e2
 obtain ⟨⟨v1, v2⟩, l1, l2⟩ := hf _ b q3 n1 (by omega) e3
 obtain ⟨m1, m2, m3⟩ := xGz l1 e4
 obtain ⟨⟨x1, x2⟩, y1, y2⟩ := hf _ c r m1 (by omega) e5
 refine ⟨by rw [xFl]; simp only [jC, jN, List.map_cons, List.map_nil, List.sum_cons, List.sum_nil]; omega, xFU (xDy (by omega)) (xDy (by omega)) (Nat.zero_le _) (by simp; omega) (fun x hx => ?_), y1, by omega⟩
 simp only [List.mem_cons, List.not_mem_nil, or_false] at hx
 rcases hx with rfl | rfl | rfl <;> assumption
theorem xHt {K : Nat} {f : List Tok → PR Exp} (hf : xBZ K f) (m : Nat) : xBZ K (xNE f m) := xMg (xHs (xFO hf m) m) m
theorem xKn {K : Nat} {f g : List Tok → PR Exp} (hf : xBZ K f) (hg : xBZ K g) : xBZ K (xIX f g) := by
 intro ts e r h1 h2 h
 unfold xIX at h
 cases c1 : seeK [108, 101, 116] ts <;> rw [c1] at h
 · cases c2 : seeK [105, 102] ts <;> rw [c2] at h
   · cases c3 : seeK [102, 111, 114] ts <;> rw [c3] at h
     · exact xMf hg ts e r h1 h2 h
     · obtain ⟨n1, n2, n3⟩ := xLl h1 c3
       obtain ⟨a1, a2, a3, a4⟩ := xJx hf (xDy (by omega)) n1 (by omega) h
       exact ⟨⟨by omega, a2⟩, a3, by omega⟩
   · obtain ⟨n1, n2, n3⟩ := xLl h1 c2
     obtain ⟨a1, a2, a3, a4⟩ := xND hf n1 (by omega) h
     exact ⟨⟨by omega, a2⟩, a3, by omega⟩
 · obtain ⟨n1, n2, n3⟩ := xLl h1 c1
   obtain ⟨a1, a2, a3, a4⟩ := xJx hf (xDy (by omega)) n1 (by omega) h
   exact ⟨⟨by omega, a2⟩, a3, by omega⟩
theorem xD6 {K : Nat} : ∀ m, xBZ K (pE m)
 | 0 => fun ts e r _ _ h => by cases h
 | m + 1 => xKn (xD6 m) (xHt (xD6 m) (m + 1))
end Go.Ab
end
section
namespace Go.Ab
def gp (T ts : List Tok) : Psr := ⟨T, ((T.length - ts.length : Nat) : Int), -1⟩
def BadP (T ts : List Tok) (p : Psr) : Prop := p.list = T ∧ p.bad = ((T.length - ts.length : Nat) : Int) ∧ ts <:+ T
def SimP {α : Type} (T : List Tok) (R : PR α) (x : Option (α × Psr)) : Prop := match R with
 | .ok a ts => ts <:+ T ∧ x = some (a, gp T ts)
 | .err ts => ∃ a p, x = some (a, p) ∧ BadP T ts p
theorem BadP.nn {T ts : List Tok} {p : Psr} (h : BadP T ts p) : 0 ≤ p.bad := by rw [h.2.1]; omega
theorem SimP.bind {α β : Type} {T : List Tok} {R : PR α} {x : Option (α × Psr)} {k : α → List Tok → PR β} {g : α × Psr → Option (β × Psr)} (h : SimP T R x)
 (hk : ∀ a ts, R = .ok a ts → ts <:+ T → SimP T (k a ts) (g (a, gp T ts))) (hb : ∀ a p, 0 ≤ p.bad → ∃ b, g (a, p) = some (b, p)) : SimP T (R.bind k) (Option.bind x g) := by
 cases R with
 | ok a ts =>
   obtain ⟨h1, h2⟩ := h
   rw [h2]
   exact hk a ts rfl h1
 | err ts =>
   obtain ⟨a, p, h1, h2⟩ := h
   obtain ⟨b, h3⟩ := hb a p h2.nn
   rw [h1]
   exact ⟨b, p, h3, h2⟩
def hdT : List Tok → Tok
 | [] => Tok.mk 0 0 0 []
 | t :: _ => t
theorem xJl (N : Nat) (t : Tok) (s : Str) : xEv N t s = some (isS t s) := by unfold xEv isS; cases t.kind == 4 <;> rfl
theorem xJk (N : Nat) (t : Tok) (s : Str) : xDo N t s = some (isK t s) := by unfold xDo isK; cases t.kind == 1 <;> rfl
theorem xVB (s : Str) (ts : List Tok) : isK (hdT ts) s = seeK s ts := by cases ts <;> rfl
theorem xRa (s : Str) (ts : List Tok) : isS (hdT ts) s = seeS s ts := by cases ts <;> rfl
theorem xBW {T ts : List Tok} (h : ts <:+ T) : ts.tail <:+ T := (List.tail_suffix ts).trans h
theorem xFL {T ts : List Tok} (N : Nat) (h : ts <:+ T) : xBf N (gp T ts) = some (hdT ts, gp T ts) := by
 obtain ⟨pre, rfl⟩ := h
 have e : (pre ++ ts).length - ts.length = pre.length := by rw [jA]; omega
 unfold xBf
 simp only [gp, e]
 rw [show decide ((-1 : Int) < 0) = true from rfl, jT]
 cases ts with
 | nil => rw [decide_eq_false (by simp), jF]; rfl
 | cons t r =>
   rw [decide_eq_true (by simp only [jA, jC]; omega), jT, if_pos (by simp only [jA, jC]; omega)]
   simp [List.getD, hdT]
theorem xIh {T ts : List Tok} (hT : T.length ≤ 1000) (h : ts <:+ T) (hne : ts.tail.length + 1 = ts.length) : Psr.mk (gp T ts).list (IntKind.i64.wrap ((gp T ts).pos + 1)) (gp T ts).bad = gp T ts.tail := by
 have hl := h.length_le
 unfold gp
 have : IntKind.i64.wrap (((T.length - ts.length : Nat) : Int) + 1) = ((T.length - ts.tail.length : Nat) : Int) := by rw [xBY (by omega) (by omega)]; omega
 simp only [this]
theorem xFy {T ts : List Tok} {s : Str} (N : Nat) (hT : T.length ≤ 1000) (h : ts <:+ T) (hs : seeS s ts = true) : xAA N (gp T ts) s = some (true, gp T ts.tail) := by
 unfold xAA
 rw [xFL N h]
 simp only [jS, xJl, xRa, hs, jT, xIh hT h (xEM hs)]
theorem xE9 {T ts : List Tok} {s : Str} (N : Nat) (h : ts <:+ T) (hs : seeS s ts = false) : xAA N (gp T ts) s = some (false, gp T ts) := by
 unfold xAA
 rw [xFL N h]
 simp only [jS, xJl, xRa, hs, jF]
theorem xJB {T ts : List Tok} (N : Nat) (h : ts <:+ T) : ∃ p, xBA N (gp T ts) = some (.mk 0 0 [] [], p) ∧ BadP T ts p := ⟨_, rfl, rfl, rfl, h⟩
theorem xIC {p : Psr} (N : Nat) (h : 0 ≤ p.bad) : xBf N p = some (Tok.mk 0 0 0 [], p) := by
 unfold xBf; rw [decide_eq_false (by omega), jF]
theorem xFf {p : Psr} (N : Nat) (s : Str) (h : 0 ≤ p.bad) : xAA N p s = some (false, p) := by
 unfold xAA; rw [xIC N h]; rfl
theorem xLw {p : Psr} (N : Nat) (h : 0 ≤ p.bad) : xBA N p = some (.mk 0 0 [] [], p) := by
 unfold xBA; rw [decide_eq_false (by omega), jF]
theorem xFW {p : Psr} (N : Nat) (s : Str) (h : 0 ≤ p.bad) : xAw N p s = some p := by
 unfold xAw; simp only [xIC N h, jS, xJk, xJl, xLw N h]; rfl
theorem SimP.need {β : Type} {T ts : List Tok} {s : Str} {N : Nat} {k : Unit → List Tok → PR β} {g : Psr → Option (β × Psr)} (hT : T.length ≤ 1000) (h : ts <:+ T)
 (hk : ∀ r, xEX s ts = .ok () r → r <:+ T → SimP T (k () r) (g (gp T r))) (hb : ∀ p, 0 ≤ p.bad → ∃ b, g p = some (b, p)) : SimP T ((xEX s ts).bind k) (Option.bind (xAw N (gp T ts) s) g) := by
 have bad : isK (hdT ts) s = false → isS (hdT ts) s = false → ∀ R : PR β, R = .err ts → SimP T R (Option.bind (xAw N (gp T ts) s) g) := by
  intro h1 h2 R hR
  subst hR
  obtain ⟨p, hp1, hp2⟩ := xJB N h
  obtain ⟨b, hb⟩ := hb p hp2.nn
  refine ⟨b, p, ?_, hp2⟩
  unfold xAw
  simp only [xFL N h, jS, xJk, xJl, h1, h2, jF, hp1, hb]
 cases ts with
 | nil => exact bad rfl rfl _ rfl
 | cons t r =>
   cases h1 : isK t s
   · cases h2 : isS t s
     · exact bad h1 h2 _ (by simp only [xEX, h1, h2, Bool.or_false, jF, PR.bind])
     · have e : xEX s (t :: r) = .ok () r := by simp only [xEX, h1, h2, Bool.or_true, jT]
       rw [e]
       have := hk r e (xBW h)
       unfold xAw
       simp only [xFL N h, jS, xJk, xJl, hdT, h1, h2, jF, jT, xIh hT h rfl]
       exact this
   · have e : xEX s (t :: r) = .ok () r := by simp only [xEX, h1, Bool.true_or, jT]
     rw [e]
     have := hk r e (xBW h)
     unfold xAw
     simp only [xFL N h, jS, xJk, xJl, hdT, h1, jF, jT, xIh hT h rfl]
     exact this
structure TokT (K : Nat) (T : List Tok) : Prop where
 len : T.length ≤ 1000
 fit : ∀ t ∈ T, t.Fit K
 tw : tw T ≤ K
theorem xVR {T ts : List Tok} (h : ts <:+ T) : tw ts ≤ tw T := by
 obtain ⟨pre, rfl⟩ := h
 simp [tw]
theorem TokT.suf {K : Nat} {T ts : List Tok} (hT : TokT K T) (h : ts <:+ T) : (∀ t ∈ ts, t.Fit K) ∧ Ab.tw ts ≤ K := ⟨fun t ht => hT.fit t (h.subset ht), Nat.le_trans (xVR h) hT.tw⟩
theorem eat {K : Nat} {T ts r : List Tok} {f : List Tok → PR Exp} {e : Exp} (hT : TokT K T) (hf : xBZ K f) (h : ts <:+ T) (he : f ts = .ok e r) : r.length < ts.length := by
 obtain ⟨h1, h2⟩ := hT.suf h
 exact (hf ts e r h1 h2 he).2.2
theorem xOc {K : Nat} {T ts : List Tok} {N : Nat} (hT : TokT K T) (hN : K < N) (hK : K ≤ 1048576) (h : ts <:+ T) : SimP T (xKp ts) (xBB N (gp T ts)) := by
 have bad : xBB N (gp T ts) = Option.bind (xBA N (gp T ts)) (fun r2 => some ([], r2.2)) → SimP T (.err ts : PR Str) (xBB N (gp T ts)) := fun he => by
  obtain ⟨p, h1, h2⟩ := xJB N h
  rw [he, h1]
  exact ⟨[], p, rfl, h2⟩
 cases ts with
 | nil =>
   refine bad ?_
   unfold xBB
   simp only [xFL N h, jS, hdT]; rfl
 | cons t r =>
   have hft := hT.fit t (h.subset List.mem_cons_self)
   have hlen : t.text.length ≤ K := hft.2.2.2
   have hv := xEP (N := N) (s := t.text) (by omega) (by omega)
   simp only [xKp]
   cases h1 : t.kind == 1
   · refine bad ?_
     unfold xBB
     simp only [xFL N h, jS, hdT, bne, h1, Bool.not_false, jT]
   · cases h2 : xDe t.text
     · refine bad ?_
       unfold xBB
       simp only [xFL N h, jS, hdT, bne, h1, hv, h2, Bool.not_true, Bool.not_false, jT, jF]
     · refine ⟨xBW h, ?_⟩
       unfold xBB
       simp only [xFL N h, jS, hdT, bne, h1, hv, h2, Bool.not_true, jT, jF, xIh hT.len h rfl]
       rfl
abbrev e0 : Exp := .mk 0 0 [] []
def xFC (q : Psr → Option (Exp × Psr)) : Prop := ∀ p, 0 ≤ p.bad → q p = some (e0, p)
def xMm (q : Psr → Str → Option (List Exp × Psr)) : Prop := ∀ p s, 0 ≤ p.bad → q p s = some ([], p)
def FPs (T : List Tok) (n : Nat) (f : List Tok → PR Exp) (q : Psr → Option (Exp × Psr)) : Prop := ∀ ts, ts <:+ T → ts.length < n → SimP T (f ts) (q (gp T ts))
section
variable {K : Nat} {T : List Tok} {N : Nat} {q0 q1 : Psr → Option (Exp × Psr)} {q2 : Psr → Str → Option (List Exp × Psr)} {q3 q4 : Psr → Option (Exp × Psr)}
theorem xKH : decide ((-1 : Int) < 0) = true := rfl
theorem xMw (T ts : List Tok) : (gp T ts).bad = -1 := rfl
theorem xMB (hT : TokT K T) {n : Nat} {f : List Tok → PR Exp} (hf : xBZ K f) (hq : FPs T n f q1) (hb : xFC q1) (c : Str) : ∀ (m fuel : Nat) (acc : List Exp) (ts : List Tok), ts <:+ T → ts.length < n → ts.length < m → ts.length + 1 < fuel → acc.length + ts.length ≤ 2000 →
 SimP T (xIr f c m acc ts) (xBS N q0 q1 q2 q3 q4 fuel c acc (gp T ts)) := by
 intro m
 induction m with
 | zero => intro fuel acc ts _ _ h; omega
 | succ m ih =>
   intro fuel acc ts h hn hm hfu ha
   obtain ⟨fuel, rfl⟩ : ∃ k, fuel = k + 1 := ⟨fuel - 1, by omega⟩
   simp only [xIr, xBS, xMw, xKH, jT]
   refine SimP.bind (hq ts h hn) (fun e r he hr => ?_) (fun e p hp => ?_)
   · have hl := eat hT hf h he
     simp only [Exp.re_eq]
     rw [if_pos (by simp only [jC, jN]; unfold Lim; omega)]
     cases hs : seeS c r
     · rw [xE9 N hr hs, jS]
       simp only [jF]
       refine SimP.need hT.len hr (fun q hq' hqs => ?_) (fun p hp => ?_)
       · have := xEn hq'
         exact ih fuel (acc ++ [e]) q hqs (by omega) (by omega) (by omega) (by simp only [jA, jC, jN]; omega)
       · obtain ⟨fuel, rfl⟩ : ∃ k, fuel = k + 1 := ⟨fuel - 1, by omega⟩
         exact ⟨acc ++ [e], by simp only [xBS]; rw [decide_eq_false (by omega), jF]⟩
     · rw [xFy N hT.len hr hs, jS]
       exact ⟨xBW hr, rfl⟩
   · obtain ⟨fuel, rfl⟩ : ∃ k, fuel = k + 1 := ⟨fuel - 1, by omega⟩
     simp only [Exp.re_eq]
     rw [if_pos (by simp only [jC, jN]; unfold Lim; omega), xFf N c hp, jS]
     simp only [jF, xFW N _ hp, jS]
     exact ⟨acc ++ [e], by simp only [xBS]; rw [decide_eq_false (by omega), jF]⟩
theorem xOa (hN : 0 < N) (s : Str) {p : Psr} (h : 0 ≤ p.bad) : xBU N q0 q1 q2 q3 q4 p s = some ([], p) := by
 obtain ⟨M, rfl⟩ : ∃ k, N = k + 1 := ⟨N - 1, by omega⟩
 unfold xBU
 rw [xFf _ s h, jS]
 simp only [jF, xBS]
 rw [decide_eq_false (by omega), jF]
theorem xOb (hT : TokT K T) (hN : 1002 < N) {n m : Nat} {f : List Tok → PR Exp} (hf : xBZ K f) (hq : FPs T n f q1) (hb : xFC q1) (c : Str) {ts : List Tok} (h : ts <:+ T) (hn : ts.length < n) (hm : ts.length < m) :
 SimP T (xJc f m c ts) (xBU N q0 q1 q2 q3 q4 (gp T ts) c) := by
 have hl := h.length_le
 have := hT.len
 unfold xJc xBU
 cases hs : seeS c ts
 · rw [xE9 N h hs, jS]
   simp only [jF]
   exact xMB hT hf hq hb c m N [] ts h hn hm (by omega) (by simp; omega)
 · rw [xFy N hT.len h hs, jS]
   exact ⟨xBW h, rfl⟩
def FPl (T : List Tok) (n m : Nat) (f : List Tok → PR Exp) (q : Psr → Str → Option (List Exp × Psr)) : Prop := ∀ c ts, ts <:+ T → ts.length < n → SimP T (xJc f m c ts) (q (gp T ts) c)
theorem xLs {p : Psr} (h : 0 ≤ p.bad) : xB0 N q0 q1 q2 q3 q4 p = some (e0, p) := by
 unfold xB0
 simp only [xIC N h, jS, xFf N _ h, xLw N h]
 rfl
theorem xKf (hT : TokT K T) {n m : Nat} {f : List Tok → PR Exp} (hf : xBZ K f) (hq : FPs T n f q1) (hb : xFC q1) (hl : FPl T n m f q2) (hbl : xMm q2) {t : Tok} {r : List Tok} (h : t :: r <:+ T) (hn : r.length < n) :
 SimP T (xIp f m t r) (Option.bind (xAA N (gp T (t :: r)) [91]) fun r2 =>
  bif r2.1 then (
   Option.bind (q2 r2.2 [93]) fun r3 =>
   some ((Exp.mk 4 0 [] r3.1), r3.2)
  ) else (
    Option.bind (xAA N r2.2 [40]) fun r3 =>
    bif r3.1 then (
     Option.bind (q1 r3.2) fun r4 =>
     Option.bind (xAw N r4.2 [41]) fun r5 =>
     some (r4.1, r5)
    ) else (
      Option.bind (xBA N r3.2) fun r4 =>
      some (r4.1, r4.2)
    )
  )) := by
 have hr : r <:+ T := xBW h
 unfold xIp
 cases h1 : isS t [91]
 · rw [xE9 N h h1, jS]
   simp only [jF]
   cases h2 : isS t [40]
   · rw [xE9 N h h2, jS]
     simp only [jF]
     obtain ⟨p, hp1, hp2⟩ := xJB N h
     rw [hp1]
     exact ⟨_, p, rfl, hp2⟩
   · rw [xFy N hT.len h h2, jS]
     simp only [jT, List.tail_cons]
     refine SimP.bind (hq r hr hn) (fun e u he hu => ?_) (fun e p hp => ⟨e, by simp only [xFW N _ hp, jS]⟩)
     exact SimP.need hT.len hu (fun v _ hv => ⟨hv, rfl⟩) (fun p hp => ⟨e, rfl⟩)
 · rw [xFy N hT.len h h1, jS]
   simp only [jT, List.tail_cons]
   exact SimP.bind (hl [93] r hr hn) (fun a u _ hu => ⟨hu, rfl⟩) (fun a p hp => ⟨_, rfl⟩)
theorem xN0 (hT : TokT K T) (hN : K < N) (hK : K ≤ 1048576) {n m : Nat} {f : List Tok → PR Exp} (hf : xBZ K f) (hq : FPs T n f q1) (hb : xFC q1) (hl : FPl T n m f q2) (hbl : xMm q2) :
 FPs T (n + 1) (xIW f m) (xB0 N q0 q1 q2 q3 q4) := by
 intro ts h hn
 unfold xB0
 rw [xFL N h, jS]
 cases ts with
 | nil =>
   simp only [hdT, xE9 N h (s := [91]) rfl, xE9 N h (s := [40]) rfl, jS]
   obtain ⟨p, hp1, hp2⟩ := xJB N h
   exact ⟨_, p, by rw [hp1]; rfl, hp2⟩
 | cons t r =>
   have hr : r <:+ T := xBW h
   have hn' : r.length < n := by simp only [jC] at hn; omega
   have hft := hT.fit t (h.subset List.mem_cons_self)
   have hlen : t.text.length ≤ K := hft.2.2.2
   have hv := xEP (N := N) (s := t.text) (by omega) (by omega)
   have hadv := xIh hT.len h rfl
   rw [List.tail_cons] at hadv
   simp only [xIW, hdT, hadv]
   cases h1 : t.kind == 2
   · cases h2 : t.kind == 3
     · cases h3 : t.kind == 1
       · exact xKf hT hf hq hb hl hbl h hn'
       · simp only [jT, jF, hv, jS]
         cases h4 : xDe t.text
         · simp only [jF, xFh, jS]
           cases h5 : decide (argc t.text ≥ 0)
           · exact xKf hT hf hq hb hl hbl h hn'
           · simp only [jT]
             refine SimP.need hT.len hr (fun u hu hus => ?_) (fun p hp => ⟨_, by rw [hbl p _ hp, jS]⟩)
             have := xEn hu
             exact SimP.bind (hl [41] u hus (by omega)) (fun a v _ hv => ⟨hv, rfl⟩) (fun a p hp => ⟨_, rfl⟩)
         · exact ⟨hr, rfl⟩
     · exact ⟨hr, rfl⟩
   · exact ⟨hr, rfl⟩
theorem xNF (hT : TokT K T) {n : Nat} {g : List Tok → PR Exp} (hg : xBZ K g) (hq : FPs T n g q0) (hb : xFC q0) (b2 : Exp) : ∀ (m fuel : Nat) (a : Exp) (ts : List Tok), ts <:+ T → ts.length ≤ n → ts.length < m → ts.length < fuel →
 SimP T (xIs g m a ts) (xBy N q0 q1 q2 q3 q4 fuel (gp T ts) b2 a) := by
 intro m
 induction m with
 | zero => intro fuel a ts _ _ h; omega
 | succ m ih =>
   intro fuel a ts h hn hm hfu
   obtain ⟨fuel, rfl⟩ : ∃ k, fuel = k + 1 := ⟨fuel - 1, by omega⟩
   simp only [xIs, xBy]
   cases hs : seeS [42] ts
   · rw [xE9 N h hs, jS]
     exact ⟨h, rfl⟩
   · have hl := xEM hs
     rw [xFy N hT.len h hs, jS]
     simp only [jT, Exp.re_eq]
     obtain ⟨fuel, rfl⟩ : ∃ k, fuel = k + 1 := ⟨fuel - 1, by omega⟩
     refine SimP.bind (hq ts.tail (xBW h) (by omega)) (fun b r hbr hr => ?_) (fun b p hp => ⟨.mk 6 3 [] [a, b], by simp only [xBy, xFf N _ hp, jS, jF]⟩)
     have := eat hT hg (xBW h) hbr
     exact ih (fuel + 1) _ r hr (by omega) (by omega) (by omega)
theorem xQ1 (hT : TokT K T) (hN : 1002 < N) {n m : Nat} {g : List Tok → PR Exp} (hg : xBZ K g) (hq : FPs T n g q0) (hb : xFC q0) (hnm : n ≤ m) : FPs T n (xKr g m) (xBD N q0 q1 q2 q3 q4) := by
 intro ts h hn
 have hl := h.length_le
 have := hT.len
 unfold xKr xBD
 obtain ⟨M, rfl⟩ : ∃ k, N = k + 1 := ⟨N - 1, by omega⟩
 refine SimP.bind (hq ts h hn) (fun b r hbr hr => ?_) (fun b p hp => ⟨b, by simp only [xBy, xFf _ _ hp, jS, jF]⟩)
 have := eat hT hg h hbr
 exact xNF hT hg hq hb e0 m (M + 1) b r hr (by omega) (by omega) (by omega)
theorem xLZ (hN : 0 < N) (hb : xFC q0) : xFC (xBD N q0 q1 q2 q3 q4) := by
 intro p hp
 obtain ⟨M, rfl⟩ : ∃ k, N = k + 1 := ⟨N - 1, by omega⟩
 unfold xBD
 simp only [hb p hp, jS, xBy, xFf _ _ hp, jF]
theorem xQ8 (hT : TokT K T) {n : Nat} {g : List Tok → PR Exp} (hg : xBZ K g) (hq : FPs T n g q3) (hb : xFC q3) (b2 : Exp) : ∀ (m fuel : Nat) (a : Exp) (ts : List Tok), ts <:+ T → ts.length ≤ n → ts.length < m → ts.length < fuel →
 SimP T (xIx g m a ts) (xBF N q0 q1 q2 q3 q4 fuel (gp T ts) b2 a) := by
 intro m
 induction m with
 | zero => intro fuel a ts _ _ h; omega
 | succ m ih =>
   intro fuel a ts h hn hm hfu
   obtain ⟨fuel, rfl⟩ : ∃ k, fuel = k + 1 := ⟨fuel - 1, by omega⟩
   have step : ∀ s k, seeS s ts = true → SimP T ((g ts.tail).bind fun b r => xIx g m (.mk 6 k [] [a, b]) r) (Option.bind (q3 (gp T ts.tail)) fun r3 => xBF N q0 q1 q2 q3 q4 fuel r3.2 b2 (Exp.mk 6 k [] [(Exp.re a), (Exp.re r3.1)])) := by
    intro s k hs
    have hl := xEM hs
    simp only [Exp.re_eq]
    obtain ⟨fuel, rfl⟩ : ∃ k, fuel = k + 1 := ⟨fuel - 1, by omega⟩
    refine SimP.bind (hq ts.tail (xBW h) (by omega)) (fun b r hbr hr => ?_) (fun b p hp => ⟨.mk 6 k [] [a, b], by simp only [xBF]; rw [decide_eq_false (by omega), jF]⟩)
    have := eat hT hg (xBW h) hbr
    exact ih (fuel + 1) _ r hr (by omega) (by omega) (by omega)
   simp only [xIx, xBF, xMw, xKH, jT]
   cases hs : seeS [43] ts
   · rw [xE9 N h hs, jS]
     simp only [Bool.not_false, jT, jF]
     cases hs2 : seeS [45] ts
     · rw [xE9 N h hs2, jS]
       exact ⟨h, rfl⟩
     · rw [xFy N hT.len h hs2, jS]
       simp only [Bool.not_true, jF, jT]
       exact step _ 2 hs2
   · rw [xFy N hT.len h hs, jS]
     simp only [Bool.not_true, jF, jT]
     exact step _ 1 hs
theorem xU0 (hT : TokT K T) (hN : 1002 < N) {n m : Nat} {g : List Tok → PR Exp} (hg : xBZ K g) (hq : FPs T n g q3) (hb : xFC q3) (hnm : n ≤ m) : FPs T n (pSum g m) (xCc N q0 q1 q2 q3 q4) := by
 intro ts h hn
 have hl := h.length_le
 have := hT.len
 unfold pSum xCc
 obtain ⟨M, rfl⟩ : ∃ k, N = k + 1 := ⟨N - 1, by omega⟩
 refine SimP.bind (hq ts h hn) (fun b r hbr hr => ?_) (fun b p hp => ⟨b, by simp only [xBF]; rw [decide_eq_false (by omega), jF]⟩)
 have := eat hT hg h hbr
 exact xQ8 hT hg hq hb e0 m (M + 1) b r hr (by omega) (by omega) (by omega)
theorem xNN (hN : 0 < N) (hb : xFC q3) : xFC (xCc N q0 q1 q2 q3 q4) := by
 intro p hp
 obtain ⟨M, rfl⟩ : ∃ k, N = k + 1 := ⟨N - 1, by omega⟩
 unfold xCc
 simp only [hb p hp, jS, xBF]
 rw [decide_eq_false (by omega), jF]
theorem xRh (N : Nat) : xEZ N (List.getD [4, 5] (Int.toNat 0) Ty.int.dflt) = some [60] := rfl
theorem xRi (N : Nat) : xEZ N (List.getD [4, 5] (Int.toNat 1) Ty.int.dflt) = some [61, 61] := rfl
theorem xMt {p : Psr} (hp : 0 ≤ p.bad) (fuel : Nat) (a b2 : Exp) : xCb N q0 q1 q2 q3 q4 (fuel + 3) [4, 5] (List.length [4, 5] : Int) 0 p b2 a = some (a, p) := by
 have e1 : IntKind.i64.wrap (0 + 1) = 1 := rfl
 have e2 : IntKind.i64.wrap (1 + 1) = 2 := rfl
 simp only [xCb, xRh, xRi, jS, xFf N _ hp, jF, e1, e2]
 rfl
theorem xRp (hT : TokT K T) {n : Nat} {g : List Tok → PR Exp} (hg : xBZ K g) (hq : FPs T n g q4) (hb : xFC q4) (fuel : Nat) (a b2 : Exp) {ts : List Tok} (h : ts <:+ T) (hn : ts.length ≤ n) :
 SimP T (xNC g a ts) (xCb N q0 q1 q2 q3 q4 (fuel + 3) [4, 5] (List.length [4, 5] : Int) 0 (gp T ts) b2 a) := by
 have e1 : IntKind.i64.wrap (0 + 1) = 1 := rfl
 have e2 : IntKind.i64.wrap (1 + 1) = 2 := rfl
 have c0 : decide ((0 : Int) < (List.length [4, 5] : Int)) = true := rfl
 have c1 : decide ((1 : Int) < (List.length [4, 5] : Int)) = true := rfl
 have c2 : decide ((2 : Int) < (List.length [4, 5] : Int)) = false := rfl
 have i0 : (0 : Int) ≤ 0 ∧ (0 : Int) < (List.length [4, 5] : Int) := by decide
 have i1 : (0 : Int) ≤ 1 ∧ (1 : Int) < (List.length [4, 5] : Int) := by decide
 have step : ∀ s k, seeS s ts = true → SimP T ((g ts.tail).bind fun b r => PR.ok (.mk 6 k [] [a, b]) r) (Option.bind (q4 (gp T ts.tail)) fun r3 => some ((Exp.mk 6 k [] [(Exp.re a), (Exp.re r3.1)]), r3.2)) := by
  intro s k hs
  have hl := xEM hs
  simp only [Exp.re_eq]
  exact SimP.bind (hq ts.tail (xBW h) (by omega)) (fun b r hbr hr => ⟨hr, rfl⟩) (fun b p hp => ⟨_, rfl⟩)
 unfold xNC
 simp only [xCb, c0, c1, c2, if_pos i0, if_pos i1, jT, jF, xRh, xRi, e1, e2, jS]
 cases hs : seeS [60] ts
 · rw [xE9 N h hs, jS]
   simp only [jF]
   cases hs2 : seeS [61, 61] ts
   · rw [xE9 N h hs2, jS]
     exact ⟨h, rfl⟩
   · rw [xFy N hT.len h hs2, jS]
     exact step _ 5 hs2
 · rw [xFy N hT.len h hs, jS]
   exact step _ 4 hs
theorem xN5 (hN : 3 ≤ N) (hb : xFC q4) : xFC (xB1 N q0 q1 q2 q3 q4) := by
 intro p hp
 obtain ⟨M, rfl⟩ : ∃ k, N = k + 3 := ⟨N - 3, by omega⟩
 unfold xB1
 simp only [xIC _ hp, jS, xJk, hb p hp]
 exact xMt hp M e0 e0
theorem lim1 (x : Exp) : 0 + List.length [x] ≤ Lim := by simp [Lim]
theorem lim2 (x y : Exp) : List.length ([] ++ [x]) + List.length [y] ≤ Lim := by simp [Lim]
theorem lim3 (x y z : Exp) : List.length (([] ++ [x]) ++ [y]) + List.length [z] ≤ Lim := by simp [Lim]
theorem xNS (hT : TokT K T) (hN : K < N) (hK : K ≤ 1048576) {n : Nat} {f : List Tok → PR Exp} (hf : xBZ K f) (hq : FPs T n f q1) (hb : xFC q1) (k : Int) (s1 s2 : Str) {ts : List Tok} (h : ts <:+ T) (hn : ts.length < n) :
 SimP T (pTwo f k s1 s2 ts) (Option.bind (xBB N (gp T ts)) fun r3 => Option.bind (xAw N r3.2 s1) fun r4 => Option.bind (q1 r4) fun r5 =>
  if 0 + List.length [(Exp.re r5.1)] ≤ Lim then Option.bind (xAw N r5.2 s2) fun r6 => Option.bind (q1 r6) fun r7 =>
   if List.length ([] ++ [(Exp.re r5.1)]) + List.length [(Exp.re r7.1)] ≤ Lim then some ((Exp.mk k 0 r3.1 (([] ++ [(Exp.re r5.1)]) ++ [(Exp.re r7.1)])), r7.2) else none else none) := by
 simp only [if_pos (lim1 _), if_pos (lim2 _ _), Exp.re_eq]
 refine SimP.bind (xOc hT hN hK h) (fun x r1 hx hr1 => ?_) (fun x p hp => ⟨.mk k 0 x [e0, e0], by simp only [xFW N _ hp, hb p hp, jS]; rfl⟩)
 have l1 := xKq hx
 refine SimP.need hT.len hr1 (fun r2 h2 hr2 => ?_) (fun p hp => ⟨.mk k 0 x [e0, e0], by simp only [xFW N _ hp, hb p hp, jS]; rfl⟩)
 have l2 := xEn h2
 refine SimP.bind (hq r2 hr2 (by omega)) (fun a r3 h3 hr3 => ?_) (fun a p hp => ⟨.mk k 0 x [a, e0], by simp only [xFW N _ hp, hb p hp, jS]; rfl⟩)
 have l3 := eat hT hf hr2 h3
 refine SimP.need hT.len hr3 (fun r4 h4 hr4 => ?_) (fun p hp => ⟨.mk k 0 x [a, e0], by simp only [hb p hp, jS]; rfl⟩)
 have l4 := xEn h4
 exact SimP.bind (hq r4 hr4 (by omega)) (fun b r5 h5 hr5 => ⟨hr5, rfl⟩) (fun b p hp => ⟨_, rfl⟩)
theorem xVA (hT : TokT K T) {n : Nat} {f : List Tok → PR Exp} (hf : xBZ K f) (hq : FPs T n f q1) (hb : xFC q1) {ts : List Tok} (h : ts <:+ T) (hn : ts.length < n) :
 SimP T (pIf f ts) (Option.bind (q1 (gp T ts)) fun r5 =>
  if 0 + List.length [(Exp.re r5.1)] ≤ Lim then
  Option.bind (xAw N r5.2 [116, 104, 101, 110]) fun r6 =>
  Option.bind (q1 r6) fun r7 =>
  if List.length ([] ++ [(Exp.re r5.1)]) + List.length [(Exp.re r7.1)] ≤ Lim then
  Option.bind (xAw N r7.2 [101, 108, 115, 101]) fun r8 =>
  Option.bind (q1 r8) fun r9 =>
  if List.length (([] ++ [(Exp.re r5.1)]) ++ [(Exp.re r7.1)]) + List.length [(Exp.re r9.1)] ≤ Lim then
  some ((Exp.mk 8 0 [] ((([] ++ [(Exp.re r5.1)]) ++ [(Exp.re r7.1)]) ++ [(Exp.re r9.1)])), r9.2)
  else none
  else none
  else none) := by
 simp only [if_pos (lim1 _), if_pos (lim2 _ _), if_pos (lim3 _ _ _), Exp.re_eq]
 refine SimP.bind (hq ts h hn) (fun a r1 h1 hr1 => ?_) (fun a p hp => ⟨.mk 8 0 [] [a, e0, e0], by simp only [xFW N _ hp, hb p hp, jS]; rfl⟩)
 have l1 := eat hT hf h h1
 refine SimP.need hT.len hr1 (fun r2 h2 hr2 => ?_) (fun p hp => ⟨.mk 8 0 [] [a, e0, e0], by simp only [xFW N _ hp, hb p hp, jS]; rfl⟩)
 have l2 := xEn h2
 refine SimP.bind (hq r2 hr2 (by omega)) (fun b r3 h3 hr3 => ?_) (fun b p hp => ⟨.mk 8 0 [] [a, b, e0], by simp only [xFW N _ hp, hb p hp, jS]; rfl⟩)
 have l3 := eat hT hf hr2 h3
 refine SimP.need hT.len hr3 (fun r4 h4 hr4 => ?_) (fun p hp => ⟨.mk 8 0 [] [a, b, e0], by simp only [hb p hp, jS]; rfl⟩)
 have l4 := xEn h4
 exact SimP.bind (hq r4 hr4 (by omega)) (fun c r5 h5 hr5 => ⟨hr5, rfl⟩) (fun c p hp => ⟨_, rfl⟩)
theorem xMu (hT : TokT K T) (hN : K < N) (hN2 : 1002 < N) (hK : K ≤ 1048576) {n : Nat} {f g : List Tok → PR Exp} (hf : xBZ K f) (hg : xBZ K g) (hq : FPs T n f q1) (hb : xFC q1) (hq4 : FPs T (n + 1) g q4) (hb4 : xFC q4) :
 FPs T (n + 1) (xIX f g) (xB1 N q0 q1 q2 q3 q4) := by
 intro ts h hn
 unfold xIX xB1
 simp only [xFL N h, jS, xJk, xVB]
 cases c1 : seeK [108, 101, 116] ts
 · simp only [jF]
   cases c2 : seeK [105, 102] ts
   · simp only [jF]
     cases c3 : seeK [102, 111, 114] ts
     · simp only [jF]
       obtain ⟨M, rfl⟩ : ∃ k, N = k + 3 := ⟨N - 3, by omega⟩
       unfold pCmp
       refine SimP.bind (hq4 ts h hn) (fun a r ha hr => ?_) (fun a p hp => ⟨a, xMt hp M a e0⟩)
       have := eat hT hg h ha
       exact xRp hT hg hq4 hb4 M a e0 hr (by omega)
     · simp only [jT, xIh hT.len h (xEL c3)]
       have := xEL c3
       exact xNS hT hN hK hf hq hb 9 _ _ (xBW h) (by omega)
   · simp only [jT, xIh hT.len h (xEL c2)]
     have := xEL c2
     exact xVA hT hf hq hb (xBW h) (by omega)
 · simp only [jT, xIh hT.len h (xEL c1)]
   have := xEL c1
   exact xNS hT hN hK hf hq hb 7 _ _ (xBW h) (by omega)
end
theorem xKF {N : Nat} (hN : 3 ≤ N) : ∀ d, 4 ≤ d → xFC (xAb N d).c_impl_parser_expr := by
 intro d hd
 obtain ⟨d, rfl⟩ : ∃ k, d = k + 4 := ⟨d - 4, by omega⟩
 exact xN5 (q0 := (xAb N (d + 3)).c_impl_parser_atom) (q1 := (xAb N (d + 3)).c_impl_parser_expr) (q2 := (xAb N (d + 3)).c_impl_parser_list2) (q3 := (xAb N (d + 3)).c_impl_parser_product) (q4 := (xAb N (d + 3)).c_impl_parser_sum) hN (xNN (q0 := (xAb N (d + 2)).c_impl_parser_atom) (q1 := (xAb N (d + 2)).c_impl_parser_expr) (q2 := (xAb N (d + 2)).c_impl_parser_list2) (q3 := (xAb N (d + 2)).c_impl_parser_product) (q4 := (xAb N (d + 2)).c_impl_parser_sum) (by omega) (xLZ (q0 := (xAb N (d + 1)).c_impl_parser_atom) (q1 := (xAb N (d + 1)).c_impl_parser_expr) (q2 := (xAb N (d + 1)).c_impl_parser_list2) (q3 := (xAb N (d + 1)).c_impl_parser_product) (q4 := (xAb N (d + 1)).c_impl_parser_sum) (by omega) fun p hp => xLs (q0 := (xAb N d).c_impl_parser_atom) (q1 := (xAb N d).c_impl_parser_expr) (q2 := (xAb N d).c_impl_parser_list2) (q3 := (xAb N d).c_impl_parser_product) (q4 := (xAb N d).c_impl_parser_sum) hp))
theorem xVL {K : Nat} {T : List Tok} {N : Nat} (hT : TokT K T) (hN : K < N) (hN2 : 1002 < N) (hK : K ≤ 1048576) : ∀ n d, 5 * n + 9 ≤ d → FPs T n (pE n) (xAb N d).c_impl_parser_expr := by
 intro n
 induction n with
 | zero => intro d _ ts _ h; omega
 | succ n ih =>
   intro d hd
   obtain ⟨d, rfl⟩ : ∃ k, d = k + 5 := ⟨d - 5, by omega⟩
   have f1 := ih d (by omega)
   have f2 := ih (d + 1) (by omega)
   have f4 := ih (d + 4) (by omega)
   have b1 := xKF (N := N) (by omega) d (by omega)
   have b2 := xKF (N := N) (by omega) (d + 1) (by omega)
   have b4 := xKF (N := N) (by omega) (d + 4) (by omega)
   have hl : FPl T n (n + 1) (pE n) (xAb N (d + 1)).c_impl_parser_list2 := fun c ts h hn => xOb (q0 := (xAb N d).c_impl_parser_atom) (q1 := (xAb N d).c_impl_parser_expr) (q2 := (xAb N d).c_impl_parser_list2) (q3 := (xAb N d).c_impl_parser_product) (q4 := (xAb N d).c_impl_parser_sum) hT hN2 (xD6 n) f1 b1 c h hn (by omega)
   have hbl : xMm (xAb N (d + 1)).c_impl_parser_list2 := fun p s hp => xOa (q0 := (xAb N d).c_impl_parser_atom) (q1 := (xAb N d).c_impl_parser_expr) (q2 := (xAb N d).c_impl_parser_list2) (q3 := (xAb N d).c_impl_parser_product) (q4 := (xAb N d).c_impl_parser_sum) (by omega) s hp
   have a : FPs T (n + 1) (xIW (pE n) (n + 1)) (xAb N (d + 2)).c_impl_parser_atom := xN0 (q0 := (xAb N (d + 1)).c_impl_parser_atom) (q1 := (xAb N (d + 1)).c_impl_parser_expr) (q2 := (xAb N (d + 1)).c_impl_parser_list2) (q3 := (xAb N (d + 1)).c_impl_parser_product) (q4 := (xAb N (d + 1)).c_impl_parser_sum) hT hN hK (xD6 n) f2 b2 hl hbl
   have ba : xFC (xAb N (d + 2)).c_impl_parser_atom := fun p hp => xLs (q0 := (xAb N (d + 1)).c_impl_parser_atom) (q1 := (xAb N (d + 1)).c_impl_parser_expr) (q2 := (xAb N (d + 1)).c_impl_parser_list2) (q3 := (xAb N (d + 1)).c_impl_parser_product) (q4 := (xAb N (d + 1)).c_impl_parser_sum) hp
   have p : FPs T (n + 1) (xKr (xIW (pE n) (n + 1)) (n + 1)) (xAb N (d + 3)).c_impl_parser_product := xQ1 (q0 := (xAb N (d + 2)).c_impl_parser_atom) (q1 := (xAb N (d + 2)).c_impl_parser_expr) (q2 := (xAb N (d + 2)).c_impl_parser_list2) (q3 := (xAb N (d + 2)).c_impl_parser_product) (q4 := (xAb N (d + 2)).c_impl_parser_sum) hT hN2 (xFO (xD6 n) _) a ba (Nat.le_refl _)
   have bp : xFC (xAb N (d + 3)).c_impl_parser_product := xLZ (q0 := (xAb N (d + 2)).c_impl_parser_atom) (q1 := (xAb N (d + 2)).c_impl_parser_expr) (q2 := (xAb N (d + 2)).c_impl_parser_list2) (q3 := (xAb N (d + 2)).c_impl_parser_product) (q4 := (xAb N (d + 2)).c_impl_parser_sum) (by omega) ba
   have s : FPs T (n + 1) (xNE (pE n) (n + 1)) (xAb N (d + 4)).c_impl_parser_sum := xU0 (q0 := (xAb N (d + 3)).c_impl_parser_atom) (q1 := (xAb N (d + 3)).c_impl_parser_expr) (q2 := (xAb N (d + 3)).c_impl_parser_list2) (q3 := (xAb N (d + 3)).c_impl_parser_product) (q4 := (xAb N (d + 3)).c_impl_parser_sum) hT hN2 (xHs (xFO (xD6 n) _) _) p bp (Nat.le_refl _)
   have bs : xFC (xAb N (d + 4)).c_impl_parser_sum := xNN (q0 := (xAb N (d + 3)).c_impl_parser_atom) (q1 := (xAb N (d + 3)).c_impl_parser_expr) (q2 := (xAb N (d + 3)).c_impl_parser_list2) (q3 := (xAb N (d + 3)).c_impl_parser_product) (q4 := (xAb N (d + 3)).c_impl_parser_sum) (by omega) bp
   exact xMu (q0 := (xAb N (d + 4)).c_impl_parser_atom) (q1 := (xAb N (d + 4)).c_impl_parser_expr) (q2 := (xAb N (d + 4)).c_impl_parser_list2) (q3 := (xAb N (d + 4)).c_impl_parser_product) (q4 := (xAb N (d + 4)).c_impl_parser_sum) hT hN hN2 hK (xD6 n) (xHt (xD6 n) _) f4 b4 s bs
end Go.Ab
end
section
namespace Go.Ab
def gr (T : List Tok) (L : Int) (ts : List Tok) : Rdr := ⟨T, ((T.length - ts.length : Nat) : Int), L, -1⟩
def offT (L : Int) : List Tok → Int
 | [] => L
 | t :: _ => t.pos
def BadR (T : List Tok) (L : Int) (ts : List Tok) (r : Rdr) : Prop := r.toks = T ∧ r.fin = L ∧ r.bad = offT L ts ∧ ts <:+ T
structure TokW (T : List Tok) (L : Int) : Prop where
 pos : ∀ t ∈ T, 0 ≤ t.pos
 fin : 0 ≤ L
 name : ∀ t ∈ T, t.kind = 1 → ∃ (c : UInt8) (l : Str), t.text = c :: l ∧ 97 ≤ c.toNat
 sym : ∀ t ∈ T, t.kind = 4 → ∃ (c : UInt8) (l : Str), t.text = c :: l ∧ c.toNat < 97
theorem BadR.nn {T ts : List Tok} {L : Int} {r : Rdr} (hW : TokW T L) (h : BadR T L ts r) : 0 ≤ r.bad := by
 rw [h.2.2.1]
 cases ts with
 | nil => exact hW.fin
 | cons t q => exact hW.pos t (h.2.2.2.subset List.mem_cons_self)
def SimR {α : Type} (T : List Tok) (L : Int) (R : PR α) (x : Option (α × Rdr)) : Prop := match R with
 | .ok a ts => ts <:+ T ∧ x = some (a, gr T L ts)
 | .err ts => ∃ a p, x = some (a, p) ∧ BadR T L ts p
theorem SimR.bind {α β : Type} {T : List Tok} {L : Int} (hW : TokW T L) {R : PR α} {x : Option (α × Rdr)} {k : α → List Tok → PR β} {g : α × Rdr → Option (β × Rdr)} (h : SimR T L R x)
 (hk : ∀ a ts, R = .ok a ts → ts <:+ T → SimR T L (k a ts) (g (a, gr T L ts))) (hb : ∀ a p, 0 ≤ p.bad → ∃ b, g (a, p) = some (b, p)) : SimR T L (R.bind k) (Option.bind x g) := by
 cases R with
 | ok a ts =>
   obtain ⟨h1, h2⟩ := h
   rw [h2]
   exact hk a ts rfl h1
 | err ts =>
   obtain ⟨a, p, h1, h2⟩ := h
   obtain ⟨b, h3⟩ := hb a p (h2.nn hW)
   rw [h1]
   exact ⟨b, p, h3, h2⟩
theorem xUV (N : Nat) (t : Tok) (s : Str) : xCG N t s = some (isS t s) := by unfold xCG isS; cases t.kind == 4 <;> rfl
theorem xWY (N : Nat) (t : Tok) (s : Str) : xEH N t s = some (isK t s) := by unfold xEH isK; cases t.kind == 1 <;> rfl
theorem xN7 {T ts : List Tok} {L : Int} {t : Tok} {q : List Tok} (h : t :: q <:+ T) : (decide ((gr T L (t :: q)).i < (List.length (gr T L (t :: q)).toks : Int)) = true ∧ decide ((gr T L (t :: q)).i ≥ (List.length (gr T L (t :: q)).toks : Int)) = false) ∧
 ((0 : Int) ≤ (gr T L (t :: q)).i ∧ (gr T L (t :: q)).i < (List.length (gr T L (t :: q)).toks)) ∧ List.getD (gr T L (t :: q)).toks (Int.toNat (gr T L (t :: q)).i) Ty.tok.dflt = t := by
 obtain ⟨pre, rfl⟩ := h
 have e : (pre ++ t :: q).length - (t :: q).length = pre.length := by rw [jA]; omega
 have e2 : (pre ++ t :: q).length = pre.length + (q.length + 1) := by simp
 simp only [gr, e]
 refine ⟨⟨decide_eq_true (by omega), decide_eq_false (by omega)⟩, by omega, ?_⟩
 simp [List.getD]
theorem xLx (T : List Tok) (L : Int) : decide ((gr T L []).i < (List.length (gr T L []).toks : Int)) = false ∧ decide ((gr T L []).i ≥ (List.length (gr T L []).toks : Int)) = true := by
 simp only [gr, jN, Nat.sub_zero]
 exact ⟨decide_eq_false (by omega), decide_eq_true (by omega)⟩
theorem xHC (T ts : List Tok) (L : Int) : (gr T L ts).bad = -1 := rfl
theorem xLn {T ts : List Tok} {L : Int} (N : Nat) (s : Str) (h : ts <:+ T) : xA9 N (gr T L ts) s = some (seeS s ts || seeK s ts, gr T L ts) := by
 unfold xA9
 rw [xHC, xKH, jT]
 cases ts with
 | nil => rw [(xLx T L).1, jF]; rfl
 | cons t q =>
   obtain ⟨⟨a1, _⟩, a2, a3⟩ := xN7 (ts := t :: q) (L := L) h
   rw [a1, jT, if_pos a2, a3, xUV, jS, xWY]
   show _ = some (isS t s || isK t s, _)
   cases isS t s <;> rfl
def SymS (s : Str) : Prop := ∃ (c : UInt8) (l : Str), s = c :: l ∧ c.toNat < 97
def KeyS (s : Str) : Prop := ∃ (c : UInt8) (l : Str), s = c :: l ∧ 97 ≤ c.toNat
theorem xLm {T ts : List Tok} {L : Int} (hW : TokW T L) (h : ts <:+ T) {s : Str} (hs : SymS s) : seeK s ts = false := by
 cases ts with
 | nil => rfl
 | cons t q =>
   show isK t s = false
   unfold isK
   cases hk : t.kind == 1
   · rfl
   · obtain ⟨c, l, h1, h2⟩ := hW.name t (h.subset List.mem_cons_self) (by simpa using hk)
     obtain ⟨c', l', rfl, h4⟩ := hs
     rw [jT, h1, beq_eq_false_iff_ne]
     intro e
     cases e
     omega
theorem xUW {T ts : List Tok} {L : Int} (hW : TokW T L) (h : ts <:+ T) {s : Str} (hs : KeyS s) : seeS s ts = false := by
 cases ts with
 | nil => rfl
 | cons t q =>
   show isS t s = false
   unfold isS
   cases hk : t.kind == 4
   · rfl
   · obtain ⟨c, l, h1, h2⟩ := hW.sym t (h.subset List.mem_cons_self) (by simpa using hk)
     obtain ⟨c', l', rfl, h4⟩ := hs
     rw [jT, h1, beq_eq_false_iff_ne]
     intro e
     cases e
     omega
theorem xKy {T ts : List Tok} {L : Int} (hW : TokW T L) (N : Nat) {s : Str} (hs : SymS s) (h : ts <:+ T) : xA9 N (gr T L ts) s = some (seeS s ts, gr T L ts) := by
 rw [xLn N s h, xLm hW h hs, Bool.or_false]
theorem xUX {T ts : List Tok} {L : Int} (hW : TokW T L) (N : Nat) {s : Str} (hs : KeyS s) (h : ts <:+ T) : xA9 N (gr T L ts) s = some (seeK s ts, gr T L ts) := by
 rw [xLn N s h, xUW hW h hs, Bool.false_or]
theorem xF9 {T ts : List Tok} {L : Int} (hT : T.length ≤ 1000) (h : ts <:+ T) (hne : ts.tail.length + 1 = ts.length) : Rdr.mk (gr T L ts).toks (IntKind.i64.wrap ((gr T L ts).i + 1)) (gr T L ts).fin (gr T L ts).bad = gr T L ts.tail := by
 have hl := h.length_le
 unfold gr
 have : IntKind.i64.wrap (((T.length - ts.length : Nat) : Int) + 1) = ((T.length - ts.tail.length : Nat) : Int) := by rw [xBY (by omega) (by omega)]; omega
 simp only [this]
theorem xHL {T ts : List Tok} {L : Int} (N : Nat) (h : ts <:+ T) : ∃ p, xBu N (gr T L ts) = some (e0, p) ∧ BadR T L ts p := by
 unfold xBu
 rw [xHC, xKH, jT]
 cases ts with
 | nil =>
   rw [(xLx T L).1, jF]
   exact ⟨_, rfl, rfl, rfl, rfl, h⟩
 | cons t q =>
   obtain ⟨⟨a1, _⟩, a2, a3⟩ := xN7 (ts := t :: q) (L := L) h
   rw [a1, jT, if_pos a2, a3]
   exact ⟨_, rfl, rfl, rfl, rfl, h⟩
theorem xEN {p : Rdr} (N : Nat) (s : Str) (h : 0 ≤ p.bad) : xA9 N p s = some (false, p) := by
 unfold xA9; rw [decide_eq_false (by omega), jF]
theorem xKz {p : Rdr} (N : Nat) (h : 0 ≤ p.bad) : xBu N p = some (e0, p) := by
 unfold xBu; rw [decide_eq_false (by omega), jF]
theorem xFz {p : Rdr} (N : Nat) (s : Str) (h : 0 ≤ p.bad) : xA8 N p s = some p := by
 unfold xA8; simp only [xEN N s h, jS, xKz N h]; rfl
theorem SimR.need {β : Type} {T ts : List Tok} {L : Int} (hW : TokW T L) {s : Str} {N : Nat} {k : Unit → List Tok → PR β} {g : Rdr → Option (β × Rdr)} (hT : T.length ≤ 1000) (h : ts <:+ T)
 (hk : ∀ r, xEX s ts = .ok () r → r <:+ T → SimR T L (k () r) (g (gr T L r))) (hb : ∀ p, 0 ≤ p.bad → ∃ b, g p = some (b, p)) : SimR T L ((xEX s ts).bind k) (Option.bind (xA8 N (gr T L ts) s) g) := by
 unfold xA8
 rw [xLn N s h, jS]
 have bad : ∀ R : PR β, R = .err ts → SimR T L R (Option.bind (Option.bind (xBu N (gr T L ts)) fun r2 => some r2.2) g) := by
  intro R hR
  subst hR
  obtain ⟨p, hp1, hp2⟩ := xHL (L := L) N h
  obtain ⟨b, hb⟩ := hb p (hp2.nn hW)
  refine ⟨b, p, ?_, hp2⟩
  rw [hp1, jS, jS, hb]
 cases ts with
 | nil => exact bad _ rfl
 | cons t r =>
   show SimR T L _ (Option.bind (bif (!(isS t s || isK t s)) then _ else _) g)
   cases h1 : isS t s || isK t s
   · exact bad _ (by simp only [xEX, Bool.or_comm (isK t s), h1, jF, PR.bind])
   · have e : xEX s (t :: r) = .ok () r := by simp only [xEX, Bool.or_comm (isK t s), h1, jT]
     rw [e]
     simp only [Bool.not_true, jF, jS]
     have ha : Rdr.mk (gr T L (t :: r)).toks (IntKind.i64.wrap ((gr T L (t :: r)).i + 1)) (gr T L (t :: r)).fin (gr T L (t :: r)).bad = gr T L r := xF9 hT h rfl
     rw [ha]
     exact hk r e (xBW h)
theorem xNJ {K : Nat} {T ts : List Tok} {L : Int} {N : Nat} (hT : TokT K T) (hN : K < N) (h24 : 24 < N) (hK : K ≤ 1048576) (h : ts <:+ T) : SimR T L (xKp ts) (xCQ N (gr T L ts)) := by
 have bad : xCQ N (gr T L ts) = Option.bind (xBu N (gr T L ts)) (fun r2 => some ([], r2.2)) → SimR T L (.err ts : PR Str) (xCQ N (gr T L ts)) := fun he => by
  obtain ⟨p, h1, h2⟩ := xHL (L := L) N h
  rw [he, h1]
  exact ⟨[], p, rfl, h2⟩
 have c0 : decide ((-1 : Int) ≥ 0) = false := rfl
 cases ts with
 | nil =>
   refine bad ?_
   unfold xCQ
   rw [xHC, c0, jF, (xLx T L).2, jT]
 | cons t r =>
   have hft := hT.fit t (h.subset List.mem_cons_self)
   have hlen : t.text.length ≤ K := hft.2.2.2
   have hv := xES (N := N) (s := t.text) (by omega) (by omega) h24
   obtain ⟨⟨_, a1⟩, a2, a3⟩ := xN7 (ts := t :: r) (L := L) h
   simp only [xKp]
   cases h1 : t.kind == 1
   · refine bad ?_
     unfold xCQ
     rw [xHC, c0, jF, a1, jF, if_pos a2, a3]
     simp only [bne, h1, Bool.not_false, jT]
   · cases h2 : xDe t.text
     · refine bad ?_
       unfold xCQ
       rw [xHC, c0, jF, a1, jF, if_pos a2, a3]
       simp only [bne, h1, hv, h2, jS, Bool.not_true, Bool.not_false, jT, jF]
     · refine ⟨xBW h, ?_⟩
       have hl := h.length_le
       have hT1 := hT.len
       have e1 : IntKind.i64.wrap ((IntKind.i64.wrap ((gr T L (t :: r)).i + 1)) - 1) = (gr T L (t :: r)).i := by
        show IntKind.i64.wrap ((IntKind.i64.wrap (((T.length - (t :: r).length : Nat) : Int) + 1)) - 1) = ((T.length - (t :: r).length : Nat) : Int)
        rw [xBY (x := ((T.length - (t :: r).length : Nat) : Int) + 1) (by omega) (by omega), xBY (by omega) (by omega)]; omega
       have ha : Rdr.mk (gr T L (t :: r)).toks (IntKind.i64.wrap ((gr T L (t :: r)).i + 1)) (gr T L (t :: r)).fin (gr T L (t :: r)).bad = gr T L r := xF9 hT.len h rfl
       unfold xCQ
       rw [e1, ha, xHC, c0, jF, a1, jF, if_pos a2, a3]
       simp only [bne, h1, hv, h2, jS, Bool.not_true, jT, jF, if_pos a2]
def xEB (q : Rdr → Option (Exp × Rdr)) : Prop := ∀ p, 0 ≤ p.bad → q p = some (e0, p)
def xKE (q : Rdr → Str → Option (List Exp × Rdr)) : Prop := ∀ p s, 0 ≤ p.bad → q p s = some ([], p)
def FRs (T : List Tok) (L : Int) (n : Nat) (f : List Tok → PR Exp) (q : Rdr → Option (Exp × Rdr)) : Prop := ∀ ts, ts <:+ T → ts.length < n → SimR T L (f ts) (q (gr T L ts))
theorem sOp (N : Nat) (k : Int) (a b : Exp) : xDx N k a b = some (.mk 6 k [] [a, b]) := by unfold xDx; simp only [Exp.re_eq]
theorem xNH {s s' : Str} {ts : List Tok} (h : seeS s ts = true) (hne : s ≠ s') : seeS s' ts = false := by
 cases ts with
 | nil => cases h
 | cons t q =>
   have h : isS t s = true := h
   show isS t s' = false
   unfold isS at h ⊢
   cases hk : t.kind == 4
   · rfl
   · rw [hk, jT] at h
     rw [jT, beq_eq_false_iff_ne]
     intro e
     exact hne ((beq_iff_eq.1 h).symm.trans e)
section
variable {K : Nat} {T : List Tok} {L : Int} {N : Nat} {q0 : Rdr → Str → Option (List Exp × Rdr)} {q1 q2 q3 q4 q5 : Rdr → Option (Exp × Rdr)}
theorem xMr (hW : TokW T L) (hT : TokT K T) {n : Nat} {f : List Tok → PR Exp} (hf : xBZ K f) (hq : FRs T L n f q3) (c : Str) (hc : SymS c) (hc2 : c ≠ [44]) : ∀ (m fuel : Nat) (acc : List Exp) (ts : List Tok), ts <:+ T → ts.length < n → ts.length < m → ts.length < fuel → acc.length + ts.length ≤ 2000 →
 SimR T L (xIr f c m acc ts) (xD0 N q0 q1 q2 q3 q4 q5 fuel c acc (gr T L ts)) := by
 have hco : SymS [44] := ⟨44, [], rfl, by decide⟩
 intro m
 induction m with
 | zero => intro fuel acc ts _ _ h; omega
 | succ m ih =>
   intro fuel acc ts h hn hm hfu ha
   obtain ⟨fuel, rfl⟩ : ∃ k, fuel = k + 1 := ⟨fuel - 1, by omega⟩
   simp only [xIr, xD0, xHC, xKH, jT]
   refine SimR.bind hW (hq ts h hn) (fun e r he hr => ?_) (fun e p hp => ?_)
   · have hl := eat hT hf h he
     simp only [Exp.re_eq]
     rw [if_pos (by simp only [jC, jN]; unfold Lim; omega)]
     rw [xKy hW N hco hr, jS]
     cases hs : seeS [44] r
     · simp only [Bool.not_false, jT]
       have hk := xLm hW hr hco
       have e1 : xEX [44] r = .err r := by
        cases r with
        | nil => rfl
        | cons t q =>
          have hk : isK t [44] = false := hk
          have hs : isS t [44] = false := hs
          simp only [xEX, hk, hs, Bool.or_false, jF]
       have hkc := xLm hW hr hc
       have e2 : (bif seeS c r then PR.ok (acc ++ [e]) r.tail else (xEX [44] r).bind fun _ q => xIr f c m (acc ++ [e]) q) = (xEX c r).bind fun _ q => .ok (acc ++ [e]) q := by
        rw [e1]
        cases r with
        | nil => rfl
        | cons t q =>
          have hkc : isK t c = false := hkc
          show (bif isS t c then _ else _) = _
          simp only [xEX, hkc, Bool.false_or]
          cases isS t c <;> rfl
       rw [e2]
       exact SimR.need hW hT.len hr (fun q _ hq => ⟨hq, rfl⟩) (fun p hp => ⟨_, rfl⟩)
     · have hs' := xNH hs (Ne.symm hc2)
       obtain ⟨t, q, rfl⟩ : ∃ t q, r = t :: q := by
        obtain ⟨t, h1, _⟩ := xI0 hs
        exact ⟨t, _, h1⟩
       have hs2 : isS t [44] = true := hs
       have e1 : xEX [44] (t :: q) = .ok () q := by simp only [xEX, hs2, Bool.or_true, jT]
       have ha : Rdr.mk (gr T L (t :: q)).toks (IntKind.i64.wrap ((gr T L (t :: q)).i + 1)) (gr T L (t :: q)).fin (gr T L (t :: q)).bad = gr T L q := xF9 hT.len hr rfl
       rw [hs', e1]
       simp only [Bool.not_true, jF, ha, PR.bind]
       exact ih fuel (acc ++ [e]) q (xBW hr) (by simp only [jC] at hl; omega) (by simp only [jC] at hl; omega) (by simp only [jC] at hl; omega) (by simp only [jA, jC, jN] at hl ⊢; omega)
   · simp only [Exp.re_eq]
     rw [if_pos (by simp only [jC, jN]; unfold Lim; omega), xEN N _ hp, jS]
     simp only [Bool.not_false, jT, xFz N _ hp, jS]
     exact ⟨_, rfl⟩
theorem xNW (hN : 0 < N) (s : Str) {p : Rdr} (h : 0 ≤ p.bad) : xC1 N q0 q1 q2 q3 q4 q5 p s = some ([], p) := by
 obtain ⟨M, rfl⟩ : ∃ k, N = k + 1 := ⟨N - 1, by omega⟩
 unfold xC1
 rw [xEN _ s h, jS]
 simp only [jF, xD0]
 rw [decide_eq_false (by omega), jF, xFz _ s h]; rfl
theorem xNX (hW : TokW T L) (hT : TokT K T) (hN : 1002 < N) {n m : Nat} {f : List Tok → PR Exp} (hf : xBZ K f) (hq : FRs T L n f q3) (c : Str) (hc : SymS c) (hc2 : c ≠ [44]) {ts : List Tok} (h : ts <:+ T) (hn : ts.length < n) (hm : ts.length < m) :
 SimR T L (xJc f m c ts) (xC1 N q0 q1 q2 q3 q4 q5 (gr T L ts) c) := by
 have hl := h.length_le
 have := hT.len
 unfold xJc xC1
 rw [xKy hW N hc h, jS]
 cases hs : seeS c ts
 · simp only [jF]
   exact xMr hW hT hf hq c hc hc2 m N [] ts h hn hm (by omega) (by simp; omega)
 · simp only [jT, xF9 hT.len h (xEM hs)]
   exact ⟨xBW h, rfl⟩
def FRl (T : List Tok) (L : Int) (n m : Nat) (f : List Tok → PR Exp) (q : Rdr → Str → Option (List Exp × Rdr)) : Prop := ∀ c ts, SymS c → c ≠ [44] → ts <:+ T → ts.length < n → SimR T L (xJc f m c ts) (q (gr T L ts) c)
theorem xKw {p : Rdr} (h : 0 ≤ p.bad) : xC2 N q0 q1 q2 q3 q4 q5 p = some (e0, p) := by
 unfold xC2
 rw [decide_eq_true (by omega : p.bad ≥ 0), jT, xKz N h]; rfl
theorem xJy (hW : TokW T L) (hT : TokT K T) {n m : Nat} {f : List Tok → PR Exp} (hf : xBZ K f) (hq : FRs T L n f q3) (hb : xEB q3) (hl : FRl T L n m f q0) (hbl : xKE q0) {t : Tok} {r : List Tok} (h : t :: r <:+ T) (hn : r.length < n) :
 SimR T L (xIp f m t r) (Option.bind (xCG N t [91]) fun r1 =>
         bif r1 then (
          Option.bind (q0 (gr T L r) [93]) fun r2 =>
          some ((Exp.mk 4 0 [] r2.1), r2.2)
         ) else (
           Option.bind (xCG N t [40]) fun r2 =>
           bif r2 then (
            Option.bind (q3 (gr T L r)) fun r3 =>
            Option.bind (xA8 N r3.2 [41]) fun r4 =>
            some (r3.1, r4)
           ) else (
             Option.bind (xBu N (gr T L (t :: r))) fun r3 =>
             some (r3.1, r3.2)
           )
         )) := by
 have hr : r <:+ T := xBW h
 unfold xIp
 rw [xUV, jS]
 cases h1 : isS t [91]
 · simp only [jF, xUV, jS]
   cases h2 : isS t [40]
   · simp only [jF]
     obtain ⟨p, hp1, hp2⟩ := xHL (L := L) N h
     rw [hp1]
     exact ⟨_, p, rfl, hp2⟩
   · simp only [jT]
     refine SimR.bind hW (hq r hr hn) (fun e u he hu => ?_) (fun e p hp => ⟨e, by simp only [xFz N _ hp, jS]⟩)
     exact SimR.need hW hT.len hu (fun v _ hv => ⟨hv, rfl⟩) (fun p hp => ⟨e, rfl⟩)
 · simp only [jT]
   exact SimR.bind hW (hl [93] r ⟨93, [], rfl, by decide⟩ (by decide) hr hn) (fun a u _ hu => ⟨hu, rfl⟩) (fun a p hp => ⟨_, rfl⟩)
theorem xNG (hW : TokW T L) (hT : TokT K T) (hN : K < N) (h24 : 24 < N) (hK : K ≤ 1048576) {n m : Nat} {f : List Tok → PR Exp} (hf : xBZ K f) (hq : FRs T L n f q3) (hb : xEB q3) (hl : FRl T L n m f q0) (hbl : xKE q0) :
 FRs T L (n + 1) (xIW f m) (xC2 N q0 q1 q2 q3 q4 q5) := by
 intro ts h hn
 have c0 : decide ((-1 : Int) ≥ 0) = false := rfl
 unfold xC2
 rw [xHC, c0, jF]
 cases ts with
 | nil =>
   rw [(xLx T L).2, jT]
   obtain ⟨p, hp1, hp2⟩ := xHL (L := L) N h
   exact ⟨_, p, by rw [hp1]; rfl, hp2⟩
 | cons t r =>
   have hr : r <:+ T := xBW h
   have hn' : r.length < n := by simp only [jC] at hn; omega
   have hft := hT.fit t (h.subset List.mem_cons_self)
   have hlen : t.text.length ≤ K := hft.2.2.2
   have hv := xES (N := N) (s := t.text) (by omega) (by omega) h24
   obtain ⟨⟨_, a1⟩, a2, a3⟩ := xN7 (ts := t :: r) (L := L) h
   have ha : Rdr.mk (gr T L (t :: r)).toks (IntKind.i64.wrap ((gr T L (t :: r)).i + 1)) (gr T L (t :: r)).fin (gr T L (t :: r)).bad = gr T L r := xF9 hT.len h rfl
   have ha' : Rdr.mk (gr T L (t :: r)).toks (IntKind.i64.wrap ((gr T L (t :: r)).i + 1)) (gr T L (t :: r)).fin (-1) = gr T L r := ha
   rw [a1, jF, if_pos a2, a3]
   simp only [xIW, ha']
   cases h1 : t.kind == 2
   · cases h2 : t.kind == 3
     · cases h3 : t.kind == 1
       · exact xJy hW hT hf hq hb hl hbl h hn'
       · simp only [jT, jF, hv, jS]
         cases h4 : xDe t.text
         · simp only [jF, xEo, jS]
           cases h5 : decide (argc t.text ≥ 0)
           · exact xJy hW hT hf hq hb hl hbl h hn'
           · simp only [jT]
             refine SimR.need hW hT.len hr (fun u hu hus => ?_) (fun p hp => ⟨_, by rw [hbl p _ hp, jS]⟩)
             have := xEn hu
             exact SimR.bind hW (hl [41] u ⟨41, [], rfl, by decide⟩ (by decide) hus (by omega)) (fun a v _ hv => ⟨hv, rfl⟩) (fun a p hp => ⟨_, rfl⟩)
         · exact ⟨hr, rfl⟩
     · exact ⟨hr, rfl⟩
   · exact ⟨hr, rfl⟩
theorem xMi (hW : TokW T L) (hT : TokT K T) {n : Nat} {g : List Tok → PR Exp} (hg : xBZ K g) (hq : FRs T L n g q1) (hb : xEB q1) (b2 : Exp) : ∀ (m fuel : Nat) (a : Exp) (ts : List Tok), ts <:+ T → ts.length ≤ n → ts.length < m → ts.length < fuel →
 SimR T L (xIs g m a ts) (xCi N q0 q1 q2 q3 q4 q5 fuel (gr T L ts) b2 a) := by
 have hs0 : SymS [42] := ⟨42, [], rfl, by decide⟩
 intro m
 induction m with
 | zero => intro fuel a ts _ _ h; omega
 | succ m ih =>
   intro fuel a ts h hn hm hfu
   obtain ⟨fuel, rfl⟩ : ∃ k, fuel = k + 1 := ⟨fuel - 1, by omega⟩
   simp only [xIs, xCi]
   rw [xKy hW N hs0 h, jS]
   cases hs : seeS [42] ts
   · exact ⟨h, rfl⟩
   · have hl := xEM hs
     simp only [jT, sOp, jS, xF9 hT.len h hl]
     obtain ⟨fuel, rfl⟩ : ∃ k, fuel = k + 1 := ⟨fuel - 1, by omega⟩
     refine SimR.bind hW (hq ts.tail (xBW h) (by omega)) (fun b r hbr hr => ?_) (fun b p hp => ⟨.mk 6 3 [] [a, b], by simp only [xCi, xEN N _ hp, jS, jF]⟩)
     have := eat hT hg (xBW h) hbr
     exact ih (fuel + 1) _ r hr (by omega) (by omega) (by omega)
theorem xNL (hW : TokW T L) (hT : TokT K T) (hN : 1002 < N) {n m : Nat} {g : List Tok → PR Exp} (hg : xBZ K g) (hq : FRs T L n g q1) (hb : xEB q1) (hnm : n ≤ m) : FRs T L n (xKr g m) (xCf N q0 q1 q2 q3 q4 q5) := by
 intro ts h hn
 have hl := h.length_le
 have := hT.len
 unfold xKr xCf
 obtain ⟨M, rfl⟩ : ∃ k, N = k + 1 := ⟨N - 1, by omega⟩
 refine SimR.bind hW (hq ts h hn) (fun b r hbr hr => ?_) (fun b p hp => ⟨b, by simp only [xCi, xEN _ _ hp, jS, jF]⟩)
 have := eat hT hg h hbr
 exact xMi hW hT hg hq hb e0 m (M + 1) b r hr (by omega) (by omega) (by omega)
theorem xKC (hN : 0 < N) (hb : xEB q1) : xEB (xCf N q0 q1 q2 q3 q4 q5) := by
 intro p hp
 obtain ⟨M, rfl⟩ : ∃ k, N = k + 1 := ⟨N - 1, by omega⟩
 unfold xCf
 simp only [hb p hp, jS, xCi, xEN _ _ hp, jF]
theorem xNM (hW : TokW T L) (hT : TokT K T) {n : Nat} {g : List Tok → PR Exp} (hg : xBZ K g) (hq : FRs T L n g q4) (hb : xEB q4) (b2 : Exp) : ∀ (m fuel : Nat) (a : Exp) (ts : List Tok), ts <:+ T → ts.length ≤ n → ts.length < m → ts.length < fuel →
 SimR T L (xIx g m a ts) (xB8 N q0 q1 q2 q3 q4 q5 fuel (gr T L ts) b2 a) := by
 have hp0 : SymS [43] := ⟨43, [], rfl, by decide⟩
 have hm0 : SymS [45] := ⟨45, [], rfl, by decide⟩
 intro m
 induction m with
 | zero => intro fuel a ts _ _ h; omega
 | succ m ih =>
   intro fuel a ts h hn hm hfu
   obtain ⟨fuel, rfl⟩ : ∃ k, fuel = k + 1 := ⟨fuel - 1, by omega⟩
   have step : ∀ s k, seeS s ts = true → SimR T L ((g ts.tail).bind fun b r => xIx g m (.mk 6 k [] [a, b]) r) (Option.bind (q4 (gr T L ts.tail)) fun r3 => Option.bind (xDx N k a r3.1) fun r4 => xB8 N q0 q1 q2 q3 q4 q5 fuel r3.2 b2 r4) := by
    intro s k hs
    have hl := xEM hs
    simp only [sOp, jS]
    obtain ⟨fuel, rfl⟩ : ∃ k, fuel = k + 1 := ⟨fuel - 1, by omega⟩
    refine SimR.bind hW (hq ts.tail (xBW h) (by omega)) (fun b r hbr hr => ?_) (fun b p hp => ⟨.mk 6 k [] [a, b], by simp only [xB8, xEN N _ hp, jS, jF]⟩)
    have := eat hT hg (xBW h) hbr
    exact ih (fuel + 1) _ r hr (by omega) (by omega) (by omega)
   simp only [xIx, xB8]
   rw [xKy hW N hp0 h, jS]
   cases hs : seeS [43] ts
   · simp only [jF, xKy hW N hm0 h, jS]
     cases hs2 : seeS [45] ts
     · exact ⟨h, rfl⟩
     · simp only [jT, xF9 hT.len h (xEM hs2)]
       exact step _ 2 hs2
   · simp only [jT, xKy hW N hm0 h, jS, xNH hs (by decide : ([43] : Str) ≠ [45]), jF, xF9 hT.len h (xEM hs)]
     exact step _ 1 hs
theorem xQ6 (hW : TokW T L) (hT : TokT K T) (hN : 1002 < N) {n m : Nat} {g : List Tok → PR Exp} (hg : xBZ K g) (hq : FRs T L n g q4) (hb : xEB q4) (hnm : n ≤ m) : FRs T L n (pSum g m) (xDm N q0 q1 q2 q3 q4 q5) := by
 intro ts h hn
 have hl := h.length_le
 have := hT.len
 unfold pSum xDm
 obtain ⟨M, rfl⟩ : ∃ k, N = k + 1 := ⟨N - 1, by omega⟩
 refine SimR.bind hW (hq ts h hn) (fun b r hbr hr => ?_) (fun b p hp => ⟨b, by simp only [xB8, xEN _ _ hp, jS, jF]⟩)
 have := eat hT hg h hbr
 exact xNM hW hT hg hq hb e0 m (M + 1) b r hr (by omega) (by omega) (by omega)
theorem xL1 (hN : 0 < N) (hb : xEB q4) : xEB (xDm N q0 q1 q2 q3 q4 q5) := by
 intro p hp
 obtain ⟨M, rfl⟩ : ∃ k, N = k + 1 := ⟨N - 1, by omega⟩
 unfold xDm
 simp only [hb p hp, jS, xB8, xEN _ _ hp, jF]
theorem xQ3 (hb : xEB q5) : xEB (xCe N q0 q1 q2 q3 q4 q5) := by
 intro p hp
 unfold xCe
 simp only [hb p hp, jS, xEN _ _ hp, jF]
theorem xQ4 (hW : TokW T L) (hT : TokT K T) {n : Nat} {g : List Tok → PR Exp} (hg : xBZ K g) (hq : FRs T L n g q5) (hb : xEB q5) : FRs T L n (pCmp g) (xCe N q0 q1 q2 q3 q4 q5) := by
 intro ts h hn
 have s1 : SymS [60] := ⟨60, [], rfl, by decide⟩
 have s2 : SymS [61, 61] := ⟨61, [61], rfl, by decide⟩
 unfold pCmp xCe
 refine SimR.bind hW (hq ts h hn) (fun a r ha hr => ?_) (fun a p hp => ⟨a, by simp only [jS, xEN _ _ hp, jF]⟩)
 have hl := eat hT hg h ha
 have step : ∀ s k, seeS s r = true → SimR T L ((g r.tail).bind fun b q => PR.ok (.mk 6 k [] [a, b]) q) (Option.bind (q5 (gr T L r.tail)) fun r3 => Option.bind (xDx N k a r3.1) fun r4 => some (r4, r3.2)) := by
  intro s k hs
  have hl := xEM hs
  simp only [sOp, jS]
  exact SimR.bind hW (hq r.tail (xBW hr) (by omega)) (fun b r hbr hr => ⟨hr, rfl⟩) (fun b p hp => ⟨_, rfl⟩)
 unfold xNC
 simp only [xKy hW N s1 hr, xKy hW N s2 hr, jS]
 cases hs : seeS [60] r
 · simp only [jF]
   cases hs2 : seeS [61, 61] r
   · exact ⟨hr, rfl⟩
   · simp only [jT, xF9 hT.len hr (xEM hs2)]
     exact step _ 5 hs2
 · simp only [jT, xF9 hT.len hr (xEM hs)]
   exact step _ 4 hs
theorem xNI (hb : xEB q2) : xEB (xC3 N q0 q1 q2 q3 q4 q5) := by
 intro p hp
 unfold xC3
 simp only [hb p hp, jS, xEN _ _ hp, jF]
theorem xL2 (hW : TokW T L) (hT : TokT K T) (hN : K < N) (h24 : 24 < N) (hK : K ≤ 1048576) {n : Nat} {f : List Tok → PR Exp} (hf : xBZ K f) (hq : FRs T L n f q3) (hb : xEB q3) (k : Int) (s1 s2 : Str) {ts : List Tok} (h : ts <:+ T) (hn : ts.length < n) :
 SimR T L (pTwo f k s1 s2 ts) (Option.bind (xCQ N (gr T L ts)) fun r2 =>
 Option.bind (xA8 N r2.2 s1) fun r3 =>
 Option.bind (q3 r3) fun r4 =>
 Option.bind (xA8 N r4.2 s2) fun r5 =>
 Option.bind (q3 r5) fun r6 =>
 some ((Exp.mk k 0 r2.1 [(Exp.re r4.1), (Exp.re r6.1)]), r6.2)) := by
 simp only [Exp.re_eq]
 refine SimR.bind hW (xNJ hT hN h24 hK h) (fun x r1 hx hr1 => ?_) (fun x p hp => ⟨.mk k 0 x [e0, e0], by simp only [xFz N _ hp, hb p hp, jS]⟩)
 have l1 := xKq hx
 refine SimR.need hW hT.len hr1 (fun r2 h2 hr2 => ?_) (fun p hp => ⟨.mk k 0 x [e0, e0], by simp only [xFz N _ hp, hb p hp, jS]⟩)
 have l2 := xEn h2
 refine SimR.bind hW (hq r2 hr2 (by omega)) (fun a r3 h3 hr3 => ?_) (fun a p hp => ⟨.mk k 0 x [a, e0], by simp only [xFz N _ hp, hb p hp, jS]⟩)
 have l3 := eat hT hf hr2 h3
 refine SimR.need hW hT.len hr3 (fun r4 h4 hr4 => ?_) (fun p hp => ⟨.mk k 0 x [a, e0], by simp only [hb p hp, jS]⟩)
 have l4 := xEn h4
 exact SimR.bind hW (hq r4 hr4 (by omega)) (fun b r5 h5 hr5 => ⟨hr5, rfl⟩) (fun b p hp => ⟨_, rfl⟩)
theorem xUY (hW : TokW T L) (hT : TokT K T) {n : Nat} {f : List Tok → PR Exp} (hf : xBZ K f) (hq : FRs T L n f q3) (hb : xEB q3) {ts : List Tok} (h : ts <:+ T) (hn : ts.length < n) :
 SimR T L (pIf f ts) (Option.bind (q3 (gr T L ts)) fun r3 =>
  Option.bind (xA8 N r3.2 [116, 104, 101, 110]) fun r4 =>
  Option.bind (q3 r4) fun r5 =>
  Option.bind (xA8 N r5.2 [101, 108, 115, 101]) fun r6 =>
  Option.bind (q3 r6) fun r7 =>
  some ((Exp.mk 8 0 [] [(Exp.re r3.1), (Exp.re r5.1), (Exp.re r7.1)]), r7.2)) := by
 simp only [Exp.re_eq]
 refine SimR.bind hW (hq ts h hn) (fun a r1 h1 hr1 => ?_) (fun a p hp => ⟨.mk 8 0 [] [a, e0, e0], by simp only [xFz N _ hp, hb p hp, jS]⟩)
 have l1 := eat hT hf h h1
 refine SimR.need hW hT.len hr1 (fun r2 h2 hr2 => ?_) (fun p hp => ⟨.mk 8 0 [] [a, e0, e0], by simp only [xFz N _ hp, hb p hp, jS]⟩)
 have l2 := xEn h2
 refine SimR.bind hW (hq r2 hr2 (by omega)) (fun b r3 h3 hr3 => ?_) (fun b p hp => ⟨.mk 8 0 [] [a, b, e0], by simp only [xFz N _ hp, hb p hp, jS]⟩)
 have l3 := eat hT hf hr2 h3
 refine SimR.need hW hT.len hr3 (fun r4 h4 hr4 => ?_) (fun p hp => ⟨.mk 8 0 [] [a, b, e0], by simp only [hb p hp, jS]⟩)
 have l4 := xEn h4
 exact SimR.bind hW (hq r4 hr4 (by omega)) (fun c r5 h5 hr5 => ⟨hr5, rfl⟩) (fun c p hp => ⟨_, rfl⟩)
theorem xMh (hW : TokW T L) (hT : TokT K T) (hN : K < N) (h24 : 24 < N) (hK : K ≤ 1048576) {n : Nat} {f g : List Tok → PR Exp} (hf : xBZ K f) (hq : FRs T L n f q3) (hb : xEB q3) (hq2 : FRs T L (n + 1) (pCmp g) q2) :
 FRs T L (n + 1) (xIX f g) (xC3 N q0 q1 q2 q3 q4 q5) := by
 intro ts h hn
 have k1 : KeyS [108, 101, 116] := ⟨108, [101, 116], rfl, by decide⟩
 have k2 : KeyS [105, 102] := ⟨105, [102], rfl, by decide⟩
 have k3 : KeyS [102, 111, 114] := ⟨102, [111, 114], rfl, by decide⟩
 unfold xIX xC3
 simp only [xUX hW N k1 h, xUX hW N k2 h, xUX hW N k3 h, jS]
 cases c1 : seeK [108, 101, 116] ts
 · simp only [jF]
   cases c2 : seeK [105, 102] ts
   · simp only [jF]
     cases c3 : seeK [102, 111, 114] ts
     · simp only [jF]
       have := hq2 ts h hn
       have e : (Option.bind (q2 (gr T L ts)) fun r4 => some (r4.1, r4.2)) = q2 (gr T L ts) := by cases q2 (gr T L ts) <;> rfl
       rw [e]
       exact this
     · simp only [jT, xF9 hT.len h (xEL c3)]
       have := xEL c3
       exact xL2 hW hT hN h24 hK hf hq hb 9 _ _ (xBW h) (by omega)
   · simp only [jT, xF9 hT.len h (xEL c2)]
     have := xEL c2
     exact xUY hW hT hf hq hb (xBW h) (by omega)
 · simp only [jT, xF9 hT.len h (xEL c1)]
   have := xEL c1
   exact xL2 hW hT hN h24 hK hf hq hb 7 _ _ (xBW h) (by omega)
end
theorem xL0 {N : Nat} (hN : 0 < N) : ∀ d, 5 ≤ d → xEB (xAa N d).c_spec_l11Expr := by
 intro d hd
 obtain ⟨d, rfl⟩ : ∃ k, d = k + 5 := ⟨d - 5, by omega⟩
 exact xNI (q0 := (xAa N (d + 4)).c_spec_l11Args) (q1 := (xAa N (d + 4)).c_spec_l11Atom) (q2 := (xAa N (d + 4)).c_spec_l11Compare) (q3 := (xAa N (d + 4)).c_spec_l11Expr) (q4 := (xAa N (d + 4)).c_spec_l11Product) (q5 := (xAa N (d + 4)).c_spec_l11Sum) (xQ3 (q0 := (xAa N (d + 3)).c_spec_l11Args) (q1 := (xAa N (d + 3)).c_spec_l11Atom) (q2 := (xAa N (d + 3)).c_spec_l11Compare) (q3 := (xAa N (d + 3)).c_spec_l11Expr) (q4 := (xAa N (d + 3)).c_spec_l11Product) (q5 := (xAa N (d + 3)).c_spec_l11Sum) (xL1 (q0 := (xAa N (d + 2)).c_spec_l11Args) (q1 := (xAa N (d + 2)).c_spec_l11Atom) (q2 := (xAa N (d + 2)).c_spec_l11Compare) (q3 := (xAa N (d + 2)).c_spec_l11Expr) (q4 := (xAa N (d + 2)).c_spec_l11Product) (q5 := (xAa N (d + 2)).c_spec_l11Sum) hN (xKC (q0 := (xAa N (d + 1)).c_spec_l11Args) (q1 := (xAa N (d + 1)).c_spec_l11Atom) (q2 := (xAa N (d + 1)).c_spec_l11Compare) (q3 := (xAa N (d + 1)).c_spec_l11Expr) (q4 := (xAa N (d + 1)).c_spec_l11Product) (q5 := (xAa N (d + 1)).c_spec_l11Sum) hN fun p hp => xKw (q0 := (xAa N d).c_spec_l11Args) (q1 := (xAa N d).c_spec_l11Atom) (q2 := (xAa N d).c_spec_l11Compare) (q3 := (xAa N d).c_spec_l11Expr) (q4 := (xAa N d).c_spec_l11Product) (q5 := (xAa N d).c_spec_l11Sum) hp)))
theorem xUU {K : Nat} {T : List Tok} {L : Int} {N : Nat} (hW : TokW T L) (hT : TokT K T) (hN : K < N) (hN2 : 1002 < N) (hK : K ≤ 1048576) : ∀ n d, 6 * n + 11 ≤ d → FRs T L n (pE n) (xAa N d).c_spec_l11Expr := by
 intro n
 induction n with
 | zero => intro d _ ts _ h; omega
 | succ n ih =>
   intro d hd
   obtain ⟨d, rfl⟩ : ∃ k, d = k + 6 := ⟨d - 6, by omega⟩
   have f1 := ih d (by omega)
   have f2 := ih (d + 1) (by omega)
   have f5 := ih (d + 5) (by omega)
   have b2 := xL0 (N := N) (by omega) (d + 1) (by omega)
   have b5 := xL0 (N := N) (by omega) (d + 5) (by omega)
   have hl : FRl T L n (n + 1) (pE n) (xAa N (d + 1)).c_spec_l11Args := fun c ts hc hc2 h hn => xNX (q0 := (xAa N d).c_spec_l11Args) (q1 := (xAa N d).c_spec_l11Atom) (q2 := (xAa N d).c_spec_l11Compare) (q3 := (xAa N d).c_spec_l11Expr) (q4 := (xAa N d).c_spec_l11Product) (q5 := (xAa N d).c_spec_l11Sum) hW hT hN2 (xD6 n) f1 c hc hc2 h hn (by omega)
   have hbl : xKE (xAa N (d + 1)).c_spec_l11Args := fun p s hp => xNW (q0 := (xAa N d).c_spec_l11Args) (q1 := (xAa N d).c_spec_l11Atom) (q2 := (xAa N d).c_spec_l11Compare) (q3 := (xAa N d).c_spec_l11Expr) (q4 := (xAa N d).c_spec_l11Product) (q5 := (xAa N d).c_spec_l11Sum) (by omega) s hp
   have a : FRs T L (n + 1) (xIW (pE n) (n + 1)) (xAa N (d + 2)).c_spec_l11Atom := xNG (q0 := (xAa N (d + 1)).c_spec_l11Args) (q1 := (xAa N (d + 1)).c_spec_l11Atom) (q2 := (xAa N (d + 1)).c_spec_l11Compare) (q3 := (xAa N (d + 1)).c_spec_l11Expr) (q4 := (xAa N (d + 1)).c_spec_l11Product) (q5 := (xAa N (d + 1)).c_spec_l11Sum) hW hT hN (by omega) hK (xD6 n) f2 b2 hl hbl
   have ba : xEB (xAa N (d + 2)).c_spec_l11Atom := fun p hp => xKw (q0 := (xAa N (d + 1)).c_spec_l11Args) (q1 := (xAa N (d + 1)).c_spec_l11Atom) (q2 := (xAa N (d + 1)).c_spec_l11Compare) (q3 := (xAa N (d + 1)).c_spec_l11Expr) (q4 := (xAa N (d + 1)).c_spec_l11Product) (q5 := (xAa N (d + 1)).c_spec_l11Sum) hp
   have p : FRs T L (n + 1) (xKr (xIW (pE n) (n + 1)) (n + 1)) (xAa N (d + 3)).c_spec_l11Product := xNL (q0 := (xAa N (d + 2)).c_spec_l11Args) (q1 := (xAa N (d + 2)).c_spec_l11Atom) (q2 := (xAa N (d + 2)).c_spec_l11Compare) (q3 := (xAa N (d + 2)).c_spec_l11Expr) (q4 := (xAa N (d + 2)).c_spec_l11Product) (q5 := (xAa N (d + 2)).c_spec_l11Sum) hW hT hN2 (xFO (xD6 n) _) a ba (Nat.le_refl _)
   have bp : xEB (xAa N (d + 3)).c_spec_l11Product := xKC (q0 := (xAa N (d + 2)).c_spec_l11Args) (q1 := (xAa N (d + 2)).c_spec_l11Atom) (q2 := (xAa N (d + 2)).c_spec_l11Compare) (q3 := (xAa N (d + 2)).c_spec_l11Expr) (q4 := (xAa N (d + 2)).c_spec_l11Product) (q5 := (xAa N (d + 2)).c_spec_l11Sum) (by omega) ba
   have s : FRs T L (n + 1) (xNE (pE n) (n + 1)) (xAa N (d + 4)).c_spec_l11Sum := xQ6 (q0 := (xAa N (d + 3)).c_spec_l11Args) (q1 := (xAa N (d + 3)).c_spec_l11Atom) (q2 := (xAa N (d + 3)).c_spec_l11Compare) (q3 := (xAa N (d + 3)).c_spec_l11Expr) (q4 := (xAa N (d + 3)).c_spec_l11Product) (q5 := (xAa N (d + 3)).c_spec_l11Sum) hW hT hN2 (xHs (xFO (xD6 n) _) _) p bp (Nat.le_refl _)
   have bs : xEB (xAa N (d + 4)).c_spec_l11Sum := xL1 (q0 := (xAa N (d + 3)).c_spec_l11Args) (q1 := (xAa N (d + 3)).c_spec_l11Atom) (q2 := (xAa N (d + 3)).c_spec_l11Compare) (q3 := (xAa N (d + 3)).c_spec_l11Expr) (q4 := (xAa N (d + 3)).c_spec_l11Product) (q5 := (xAa N (d + 3)).c_spec_l11Sum) (by omega) bp
   have c : FRs T L (n + 1) (pCmp (xNE (pE n) (n + 1))) (xAa N (d + 5)).c_spec_l11Compare := xQ4 (q0 := (xAa N (d + 4)).c_spec_l11Args) (q1 := (xAa N (d + 4)).c_spec_l11Atom) (q2 := (xAa N (d + 4)).c_spec_l11Compare) (q3 := (xAa N (d + 4)).c_spec_l11Expr) (q4 := (xAa N (d + 4)).c_spec_l11Product) (q5 := (xAa N (d + 4)).c_spec_l11Sum) hW hT (xHt (xD6 n) _) s bs
   exact xMh (q0 := (xAa N (d + 5)).c_spec_l11Args) (q1 := (xAa N (d + 5)).c_spec_l11Atom) (q2 := (xAa N (d + 5)).c_spec_l11Compare) (q3 := (xAa N (d + 5)).c_spec_l11Expr) (q4 := (xAa N (d + 5)).c_spec_l11Product) (q5 := (xAa N (d + 5)).c_spec_l11Sum) hW hT hN (by omega) hK (xD6 n) f5 b5 c
end Go.Ab
end
section
namespace Go.Ab
def xGd (c : UInt8) : Bool := decide (97 ≤ c.toNat) && decide (c.toNat ≤ 122)
def xCd (c : UInt8) : Bool := decide (48 ≤ c.toNat) && decide (c.toNat ≤ 57)
def isWd (c : UInt8) : Bool := xGd c || xCd c
def notQ (c : UInt8) : Bool := !(c.toNat == 34)
def xIf (c : UInt8) : Bool := decide (Lib.indexByte [40, 41, 91, 93, 44, 43, 45, 42, 60, 61] c ≥ 0)
def xGN (p : Int) : Str → Option (Tok × Str)
 | [] => none
 | c :: l =>
   bif xGd c then (bif decide ((c :: l).length - ((c :: l).dropWhile isWd).length ≤ 8) then some (⟨1, 0, p, (c :: l).take ((c :: l).length - ((c :: l).dropWhile isWd).length)⟩, (c :: l).dropWhile isWd) else none)
   else bif xCd c then (bif (zHG ((c :: l).take ((c :: l).length - ((c :: l).dropWhile xCd).length)) 0 1000000000).2 then some (⟨2, (zHG ((c :: l).take ((c :: l).length - ((c :: l).dropWhile xCd).length)) 0 1000000000).1, p, []⟩, (c :: l).dropWhile xCd) else none)
   else bif c.toNat == 34 then (match l.dropWhile notQ with
    | [] => none
    | q :: r => bif xHl (l.take (l.length - (q :: r).length)) then some (⟨3, 0, p, l.take (l.length - (q :: r).length)⟩, r) else none)
   else bif Lib.hasPrefix (c :: l) [61, 61] then some (⟨4, 0, p, [61, 61]⟩, l.tail)
   else bif xIf c then some (⟨4, 0, p, [c]⟩, l) else none
theorem xDJ (p : Int) (c : UInt8) (l : Str) : xGN p (c :: l) =
 bif xGd c then (bif decide ((c :: l).length - ((c :: l).dropWhile isWd).length ≤ 8) then some (⟨1, 0, p, (c :: l).take ((c :: l).length - ((c :: l).dropWhile isWd).length)⟩, (c :: l).dropWhile isWd) else none)
 else bif xCd c then (bif (zHG ((c :: l).take ((c :: l).length - ((c :: l).dropWhile xCd).length)) 0 1000000000).2 then some (⟨2, (zHG ((c :: l).take ((c :: l).length - ((c :: l).dropWhile xCd).length)) 0 1000000000).1, p, []⟩, (c :: l).dropWhile xCd) else none)
 else bif c.toNat == 34 then (match l.dropWhile notQ with
  | [] => none
  | q :: r => bif xHl (l.take (l.length - (q :: r).length)) then some (⟨3, 0, p, l.take (l.length - (q :: r).length)⟩, r) else none)
 else bif Lib.hasPrefix (c :: l) [61, 61] then some (⟨4, 0, p, [61, 61]⟩, l.tail)
 else bif xIf c then some (⟨4, 0, p, [c]⟩, l) else none := rfl
def lexL : Nat → Int → List Tok → Str → List Tok × Int
 | 0, p, _, _ => ([], p)
 | _ + 1, _, acc, [] => (acc, -1)
 | n + 1, p, acc, c :: l => bif c.toNat == 32 then lexL n (p + 1) acc l else match xGN p (c :: l) with
   | none => ([], p)
   | some (t, r) => bif acc.length == 60 then ([], p) else lexL n (p + ((c :: l).length - r.length : Nat)) (acc ++ [t]) r
def lex (s : Str) : List Tok × Int := bif decide (s.length > 120) then ([], 120) else lexL (s.length + 1) 0 [] s
theorem xN3 (x : UInt8) : decide (((x.toNat : Int) : Int) ≥ 97) = decide (97 ≤ x.toNat) := decide_eq_decide.2 (by omega)
theorem xLu (x : UInt8) : decide (((x.toNat : Int) : Int) ≤ 122) = decide (x.toNat ≤ 122) := decide_eq_decide.2 (by omega)
theorem xL6 (x : UInt8) : decide (((x.toNat : Int) : Int) ≥ 48) = decide (48 ≤ x.toNat) := decide_eq_decide.2 (by omega)
theorem xL7 (x : UInt8) : decide (((x.toNat : Int) : Int) ≤ 57) = decide (x.toNat ≤ 57) := decide_eq_decide.2 (by omega)
theorem beqI (x k : Nat) : ((x : Int) == (k : Int)) = (x == k) := by
 by_cases h : x = k
 · rw [h]; simp
 · rw [beq_eq_false_iff_ne.2 h, beq_eq_false_iff_ne.2 (by omega)]
theorem xRn (x : UInt8) : (((x.toNat : Int) : Int) == 34) = (x.toNat == 34) := beqI x.toNat 34
theorem xU4 (x : UInt8) : (((x.toNat : Int) : Int) == 32) = (x.toNat == 32) := beqI x.toNat 32
theorem xDW {p : UInt8 → Bool} (l : Str) : (l.dropWhile p).length ≤ l.length := (List.dropWhile_suffix p).length_le
theorem xEf {S : Str} {i : Nat} {x : UInt8} {l : Str} (h : S.drop i = x :: l) : S.length - (x :: l).length = i ∧ i + (x :: l).length = S.length := by
 have := congrArg List.length h
 obtain ⟨h1, _⟩ := xC9 h
 rw [List.length_drop] at this
 omega
theorem xG6 {S s : Str} {i : Nat} (h : S.drop i = s) (hi : i ≤ S.length) {k : Nat} (hk : k ≤ s.length) : List.drop i (List.take (S.length - k) S) = s.take (s.length - k) := by
 subst h
 rw [List.drop_take, List.length_drop, show S.length - k - i = S.length - i - k from by omega]
section
variable {N : Nat} {S : Str}
theorem xNV (hS : S.length ≤ 1000) {i : Nat} (b4 : Tok) : ∀ n j, i ≤ j → j ≤ S.length → S.length < n + j → xB3 N n S i (j : Nat) b4 =
 some (Tok.mk 1 0 i (List.drop i (List.take (S.length - ((S.drop j).dropWhile isWd).length) S)), ((S.length - ((S.drop j).dropWhile isWd).length : Nat) : Int), decide (S.length - ((S.drop j).dropWhile isWd).length - i ≤ 8)) := by
 intro n j hij hj hn
 refine xFo (σ := Unit) (L := fun n j _ => xB3 N n S i j b4) S (fun l _ => (Tok.mk 1 0 i (List.drop i (List.take (S.length - (l.dropWhile isWd).length) S)), ((S.length - (l.dropWhile isWd).length : Nat) : Int), decide (S.length - (l.dropWhile isWd).length - i ≤ 8)))
  (fun j _ => i ≤ j) (fun n _ hi => ?_) (fun j x l _ hd hj hx hi => ?_) n j () hij hj hn
 · have hi : i ≤ S.length := hi
   simp only [xB3, Int.lt_irrefl, decide_false, jF]
   rw [if_pos (by omega)]
   have e1 : IntKind.i64.wrap ((S.length : Int) - (i : Int)) = (S.length : Int) - i := xBY (by omega) (by omega)
   simp only [e1, List.dropWhile_nil, jN, Nat.sub_zero, Int.toNat_natCast]
   rw [decide_eq_decide.2 (by omega : (S.length : Int) - i ≤ 8 ↔ S.length - i ≤ 8)]
   rfl
 · have hi : i ≤ j := hi
   have hj' : (j : Int) < (S.length : Int) := by omega
   have hj2 : (0 : Int) ≤ (j : Int) ∧ (j : Int) < (S.length : Int) := ⟨by omega, hj'⟩
   have hj3 : (0 : Int) ≤ (i : Int) ∧ (i : Int) ≤ (j : Int) ∧ (j : Int) ≤ (S.length : Int) := by omega
   have e1 : IntKind.i64.wrap ((j : Int) - (i : Int)) = (j : Int) - i := xBY (by omega) (by omega)
   cases hw : isWd x
   · refine .inr fun n => ?_
     have e2 : (x :: l).dropWhile isWd = x :: l := by rw [List.dropWhile_cons]; simp [hw]
     have e3 := (xEf hd).1
     have e4 : decide ((j : Int) - i ≤ 8) = decide (j - i ≤ 8) := decide_eq_decide.2 (by omega)
     simp only [xB3, decide_eq_true hj', jT, if_pos hj2, if_pos hj3, Int.toNat_natCast, xCj hx, xN3, xLu, xL6, xL7, e1, e2, e3, e4]
     unfold isWd xGd xCd at hw
     revert hw
     cases decide (97 ≤ x.toNat) <;> cases decide (x.toNat ≤ 122) <;> cases decide (48 ≤ x.toNat) <;> cases decide (x.toNat ≤ 57) <;> intro hw <;> first | rfl | (simp at hw; done)
   · refine .inl ⟨(), by omega, ?_, fun n => ?_⟩
     · have e2 : (x :: l).dropWhile isWd = l.dropWhile isWd := by rw [List.dropWhile_cons]; simp [hw]
       rw [e2]
     · simp only [xB3, decide_eq_true hj', jT, if_pos hj2, if_pos hj3, Int.toNat_natCast, xCj hx, xN3, xLu, xL6, xL7, xBO hj (by omega : S.length ≤ _)]
       unfold isWd xGd xCd at hw
       revert hw
       cases decide (97 ≤ x.toNat) <;> cases decide (x.toNat ≤ 122) <;> cases decide (48 ≤ x.toNat) <;> cases decide (x.toNat ≤ 57) <;> intro hw <;> first | rfl | (simp at hw; done)
theorem xKu {w : Str} (h : w.length ≤ 1000) : xFB N w 0 1000000000 = some (zHG w 0 1000000000) := by
 unfold xFB zEp
 rw [if_pos (by omega)]
def numG (S : Str) (i : Nat) (l : Str) : Int × Bool := zHG (List.drop i (List.take (S.length - (l.dropWhile xCd).length) S)) 0 1000000000
theorem xOd (hS : S.length ≤ 1000) {i : Nat} (b4 : Tok) : ∀ n j, i ≤ j → j ≤ S.length → S.length < n + j → xCk N n S i (j : Nat) b4 =
 some (Tok.mk 2 (numG S i (S.drop j)).1 i [], ((S.length - ((S.drop j).dropWhile xCd).length : Nat) : Int), (numG S i (S.drop j)).2) := by
 intro n j hij hj hn
 refine xFo (σ := Unit) (L := fun n j _ => xCk N n S i j b4) S (fun l _ => (Tok.mk 2 (numG S i l).1 i [], ((S.length - (l.dropWhile xCd).length : Nat) : Int), (numG S i l).2))
  (fun j _ => i ≤ j) (fun n _ hi => ?_) (fun j x l _ hd hj hx hi => ?_) n j () hij hj hn
 · have hi : i ≤ S.length := hi
   simp only [xCk, Int.lt_irrefl, decide_false, jF]
   rw [if_pos (by omega)]
   simp only [Int.toNat_natCast]
   rw [xKu (by rw [List.length_drop, List.length_take]; omega)]
   simp only [jS, numG, List.dropWhile_nil, jN, Nat.sub_zero]
 · have hi : i ≤ j := hi
   have hj' : (j : Int) < (S.length : Int) := by omega
   have hj2 : (0 : Int) ≤ (j : Int) ∧ (j : Int) < (S.length : Int) := ⟨by omega, hj'⟩
   have hj3 : (0 : Int) ≤ (i : Int) ∧ (i : Int) ≤ (j : Int) ∧ (j : Int) ≤ (S.length : Int) := by omega
   cases hw : xCd x
   · refine .inr fun n => ?_
     have e2 : (x :: l).dropWhile xCd = x :: l := by rw [List.dropWhile_cons]; simp [hw]
     have e3 := (xEf hd).1
     simp only [xCk, decide_eq_true hj', jT, if_pos hj2, if_pos hj3, Int.toNat_natCast, xCj hx, xL6, xL7, numG, e2, e3]
     rw [xKu (by rw [List.length_drop, List.length_take]; omega)]
     simp only [jS]
     unfold xCd at hw
     revert hw
     cases decide (48 ≤ x.toNat) <;> cases decide (x.toNat ≤ 57) <;> intro hw <;> first | rfl | (simp at hw; done)
   · refine .inl ⟨(), by omega, ?_, fun n => ?_⟩
     · have e2 : (x :: l).dropWhile xCd = l.dropWhile xCd := by rw [List.dropWhile_cons]; simp [hw]
       simp only [numG, e2]
     · simp only [xCk, decide_eq_true hj', jT, if_pos hj2, if_pos hj3, Int.toNat_natCast, xCj hx, xL6, xL7, xBO hj (by omega : S.length ≤ _)]
       unfold xCd at hw
       revert hw
       cases decide (48 ≤ x.toNat) <;> cases decide (x.toNat ≤ 57) <;> intro hw <;> first | rfl | (simp at hw; done)
theorem xJ8 (c : UInt8) (k : UInt8) : (c == k) = (c.toNat == k.toNat) := by
 by_cases h : c = k
 · subst h; simp
 · rw [beq_eq_false_iff_ne.2 h, beq_eq_false_iff_ne.2 (fun e => h (UInt8.toNat_inj.1 e))]
theorem xMx : ∀ l : Str, Lib.indexByte l 34 = (match l.dropWhile notQ with
 | [] => -1
 | q :: r => ((l.length - (q :: r).length : Nat) : Int))
 | [] => rfl
 | x :: l => by
   have ih := xMx l
   unfold Lib.indexByte
   rw [xJ8 x 34, List.dropWhile_cons]
   unfold notQ at ih ⊢
   show (if (x.toNat == 34) = true then _ else _) = _
   cases h : x.toNat == 34
   · simp only [Bool.not_false, if_true]
     have hd := xDW (p := fun c => !(c.toNat == 34)) l
     cases he : List.dropWhile (fun c => !(c.toNat == 34)) l with
     | nil => rw [he] at ih; simp only at ih; rw [ih]; rfl
     | cons q r =>
       rw [he] at ih hd
       simp only at ih
       simp only [jC] at hd ih ⊢
       rw [ih]
       have e : (((l.length - (r.length + 1) : Nat) : Int) == -1) = false := beq_eq_false_iff_ne.2 (by omega)
       rw [e]
       simp only [Bool.false_eq_true, if_false]
       omega
   · simp
def LxP (S : Str) (o : Option (Tok × Str)) (x : Tok × Int × Bool) : Prop := match o with
 | some (t, r) => x = (t, ((S.length - r.length : Nat) : Int), true)
 | none => x.2.2 = false
theorem xQ2 (hS : S.length ≤ 1000) (hN : 1000 < N) {i : Nat} {c : UInt8} {l : Str} (hd : S.drop i = c :: l) (h34 : (c.toNat == 34) = true) (hL : xGd c = false) (hD : xCd c = false) : ∃ x, (
         if (0 : Int) ≤ (IntKind.i64.wrap ((i : Int) + 1)) ∧ (IntKind.i64.wrap ((i : Int) + 1)) ≤ (List.length S) then
         Option.bind (strings_IndexByte N (List.drop (Int.toNat (IntKind.i64.wrap ((i : Int) + 1))) S) 34) fun r1 =>
         bif (decide ((r1 : Int) < 0)) then (
          some ((Tok.mk 0 0 0 []), 0, false)
         ) else (
           if (0 : Int) ≤ (IntKind.i64.wrap ((i : Int) + 1)) ∧ (IntKind.i64.wrap ((i : Int) + 1)) ≤ (IntKind.i64.wrap ((IntKind.i64.wrap ((i : Int) + 1)) + r1)) ∧ (IntKind.i64.wrap ((IntKind.i64.wrap ((i : Int) + 1)) + r1)) ≤ (List.length S) then
           Option.bind (xCu N (List.drop (Int.toNat (IntKind.i64.wrap ((i : Int) + 1))) (List.take (Int.toNat (IntKind.i64.wrap ((IntKind.i64.wrap ((i : Int) + 1)) + r1))) S))) fun r2 =>
           some ((Tok.mk 3 0 i (List.drop (Int.toNat (IntKind.i64.wrap ((i : Int) + 1))) (List.take (Int.toNat (IntKind.i64.wrap ((IntKind.i64.wrap ((i : Int) + 1)) + r1))) S))), (IntKind.i64.wrap ((IntKind.i64.wrap ((i : Int) + r1)) + 2)), r2)
           else none
         )
         else none) = some x ∧ LxP S (xGN i (c :: l)) x := by
 obtain ⟨e1, e2⟩ := xEf hd
 obtain ⟨hi, _, hd1⟩ := xC9 hd
 simp only [jC] at e2
 have w1 : IntKind.i64.wrap ((i : Int) + 1) = ((i + 1 : Nat) : Int) := xBO hi (by omega)
 simp only [w1, Int.toNat_natCast, hd1]
 rw [if_pos (by omega)]
 unfold strings_IndexByte zFI
 rw [show ((34 : Int).toNat.toUInt8) = 34 from rfl, xMx, jS]
 rw [xDJ, hL, hD, h34]
 simp only [jF, jT]
 have hq := xDW (p := notQ) l
 cases he : l.dropWhile notQ with
 | nil => exact ⟨_, rfl, rfl⟩
 | cons q r =>
   rw [he] at hq
   simp only [jC] at hq ⊢
   have w2 : IntKind.i64.wrap (((i + 1 : Nat) : Int) + ((l.length - (r.length + 1) : Nat) : Int)) = ((i + 1 + (l.length - (r.length + 1)) : Nat) : Int) := by rw [xBY (by omega) (by omega)]; omega
   have w3 : IntKind.i64.wrap ((i : Int) + ((l.length - (r.length + 1) : Nat) : Int)) = ((i + (l.length - (r.length + 1)) : Nat) : Int) := by rw [xBY (by omega) (by omega)]; omega
   have w4 : IntKind.i64.wrap (((i + (l.length - (r.length + 1)) : Nat) : Int) + 2) = ((S.length - r.length : Nat) : Int) := by rw [xBY (by omega) (by omega)]; omega
   have w5 : List.drop (i + 1) (List.take (i + 1 + (l.length - (r.length + 1))) S) = l.take (l.length - (r.length + 1)) := by
    rw [List.drop_take, hd1, show i + 1 + (l.length - (r.length + 1)) - (i + 1) = l.length - (r.length + 1) from by omega]
   rw [decide_eq_false (by omega), jF]
   simp only [w2, w3, w4, Int.toNat_natCast, w5]
   rw [if_pos (by omega)]
   have ht : (l.take (l.length - (r.length + 1))).length ≤ 1000 := by rw [List.length_take]; omega
   rw [xFE (N := N) (s := l.take (l.length - (r.length + 1))) (by omega) (by omega), jS]
   refine ⟨_, rfl, ?_⟩
   cases xHl (l.take (l.length - (r.length + 1)))
   · rfl
   · rfl
theorem xVM (hS : S.length ≤ 1000) (hN : 1000 < N) {i : Nat} {c : UInt8} {l : Str} (hd : S.drop i = c :: l) (h34 : (c.toNat == 34) = false) (hL : xGd c = false) (hD : xCd c = false) : ∃ x, (
         if (0 : Int) ≤ (i : Int) ∧ (i : Int) ≤ (List.length S) then
         Option.bind (strings_HasPrefix N (List.drop (Int.toNat (i : Int)) S) [61, 61]) fun r1 =>
         bif r1 then (
          some ((Tok.mk 4 0 i [61, 61]), (IntKind.i64.wrap ((i : Int) + 2)), true)
         ) else (
           if (0 : Int) ≤ (i : Int) ∧ (i : Int) ≤ (IntKind.i64.wrap ((i : Int) + 1)) ∧ (IntKind.i64.wrap ((i : Int) + 1)) ≤ (List.length S) then
           Option.bind (strings_IndexByte N [40, 41, 91, 93, 44, 43, 45, 42, 60, 61] ((List.getD S (Int.toNat (i : Int)) 0).toNat : Int)) fun r2 =>
           some ((Tok.mk 4 0 i (List.drop (Int.toNat (i : Int)) (List.take (Int.toNat (IntKind.i64.wrap ((i : Int) + 1))) S))), (IntKind.i64.wrap ((i : Int) + 1)), (decide ((r2 : Int) ≥ 0)))
           else none
         )
         else none) = some x ∧ LxP S (xGN i (c :: l)) x := by
 obtain ⟨e1, e2⟩ := xEf hd
 obtain ⟨hi, hx, hd1⟩ := xC9 hd
 simp only [jC] at e2
 have w1 : IntKind.i64.wrap ((i : Int) + 1) = ((i + 1 : Nat) : Int) := xBO hi (by omega)
 simp only [w1, Int.toNat_natCast, hd, xCj hx]
 rw [if_pos (by omega)]
 unfold strings_HasPrefix zFH
 rw [jS, xDJ, hL, hD, h34]
 simp only [jF]
 cases hp : Lib.hasPrefix (c :: l) [61, 61]
 · simp only [jF]
   rw [if_pos (by omega)]
   unfold strings_IndexByte zFI
   rw [jS]
   have ec : ((c.toNat : Int)).toNat.toUInt8 = c := by simp
   have w5 : List.drop i (List.take (i + 1) S) = [c] := by
    rw [List.drop_take, hd, show i + 1 - i = 1 from by omega]; rfl
   rw [ec, w5]
   refine ⟨_, rfl, ?_⟩
   unfold xIf
   cases decide (Lib.indexByte [40, 41, 91, 93, 44, 43, 45, 42, 60, 61] c ≥ 0)
   · rfl
   · show (_, _, _) = (_, _, _)
     rw [show i + 1 = S.length - l.length from by omega]
 · simp only [jT]
   refine ⟨_, rfl, ?_⟩
   have h2 : l.tail.length + 1 = l.length := by
    cases l with
    | nil => simp [Lib.hasPrefix, List.isPrefixOf] at hp
    | cons a b => rfl
   have w2 : IntKind.i64.wrap ((i : Int) + 2) = ((S.length - l.tail.length : Nat) : Int) := by rw [xBY (by omega) (by omega)]; omega
   show (_, _, _) = (_, _, _)
   rw [w2]
theorem xMk (hS : S.length ≤ 1000) (hN : 1000 < N) {i : Nat} {c : UInt8} {l : Str} (hd : S.drop i = c :: l) : ∃ x, xFk N S i = some x ∧ LxP S (xGN i (c :: l)) x := by
 obtain ⟨e1, e2⟩ := xEf hd
 obtain ⟨hi, hx, hd1⟩ := xC9 hd
 have hQ := fun a b e => xQ2 (N := N) hS hN hd a b e
 have hY := fun a b e => xVM (N := N) hS hN hd a b e
 have word : xGd c = true → ∃ x, xB3 N N S i i (Tok.mk 0 0 0 []) = some x ∧ LxP S (xGN i (c :: l)) x := fun hl => by
  refine ⟨_, xNV hS _ N i (Nat.le_refl _) (by omega) (by omega), ?_⟩
  rw [hd]
  rw [xDJ, hl, jT]
  have hq := xDW (p := isWd) (c :: l)
  rw [xG6 hd (by omega) hq, show S.length - ((c :: l).dropWhile isWd).length - i = (c :: l).length - ((c :: l).dropWhile isWd).length from by omega]
  cases decide ((c :: l).length - ((c :: l).dropWhile isWd).length ≤ 8) <;> rfl
 have numb : xGd c = false → xCd c = true → ∃ x, xCk N N S i i (Tok.mk 0 0 0 []) = some x ∧ LxP S (xGN i (c :: l)) x := fun hl hg => by
  refine ⟨_, xOd hS _ N i (Nat.le_refl _) (by omega) (by omega), ?_⟩
  have hq := xDW (p := xCd) (c :: l)
  rw [hd]
  unfold numG
  rw [xDJ, hl, hg, jT, jF, xG6 hd (by omega) hq]
  cases hb : (zHG ((c :: l).take ((c :: l).length - ((c :: l).dropWhile xCd).length)) 0 1000000000).2 <;> rfl
 unfold xFk
 rw [if_pos (by omega)]
 simp only [Int.toNat_natCast, xCj hx, xN3, xLu, xL6, xL7, xRn] at hQ hY ⊢
 simp only [xGd, xCd] at hQ hY word numb
 generalize decide (97 ≤ c.toNat) = A at *
 generalize decide (c.toNat ≤ 122) = B at *
 generalize decide (48 ≤ c.toNat) = C at *
 generalize decide (c.toNat ≤ 57) = D at *
 generalize (c.toNat == 34) = E at *
 cases A <;> cases B <;> cases C <;> cases D <;>
  first
  | exact word rfl
  | exact numb rfl rfl
  | (cases E
     · exact hY rfl rfl rfl
     · exact hQ rfl rfl rfl)
theorem xHf {α : Type} {b : Bool} {x y : α} (h : (bif b then some x else none) = some y) : b = true ∧ x = y := by cases b <;> cases h; exact ⟨rfl, rfl⟩
theorem xIJ {p : Int} {s r : Str} {t : Tok} (h : xGN p s = some (t, r)) : r.length < s.length := by
 cases s with
 | nil => cases h
 | cons c l =>
   have d1 := xDW (p := isWd) l
   have d2 := xDW (p := xCd) l
   have d3 := xDW (p := notQ) l
   rw [xDJ] at h
   cases h1 : xGd c <;> rw [h1] at h
   · cases h2 : xCd c <;> rw [h2] at h
     · cases h3 : c.toNat == 34 <;> rw [h3] at h
       · cases h4 : Lib.hasPrefix (c :: l) [61, 61] <;> rw [h4] at h
         · cases h5 : xIf c <;> rw [h5] at h
           · cases h
           · cases h; simp
         · cases h; simp; omega
       · simp only [jT, jF] at h
         split at h
         · cases h
         · rename_i q r' he
           rw [he] at d3
           simp only [jC] at d3 ⊢
           obtain ⟨hb, hx⟩ := xHf h
           cases hx; omega
     · simp only [jT, jF] at h
       obtain ⟨hb, hx⟩ := xHf h
       cases hx
       rw [List.dropWhile_cons]; simp only [h2, if_true, jC]; omega
   · simp only [jT] at h
     obtain ⟨hb, hx⟩ := xHf h
     · cases hx
       have : isWd c = true := by unfold isWd; rw [h1]; rfl
       rw [List.dropWhile_cons]; simp only [this, if_true, jC]; omega
theorem xKh {p : Int} {s r : Str} {t : Tok} (h : xGN p s = some (t, r)) : r <:+ s := by
 cases s with
 | nil => cases h
 | cons c l =>
   rw [xDJ] at h
   cases h1 : xGd c <;> rw [h1] at h
   · cases h2 : xCd c <;> rw [h2] at h
     · cases h3 : c.toNat == 34 <;> rw [h3] at h
       · cases h4 : Lib.hasPrefix (c :: l) [61, 61] <;> rw [h4] at h
         · cases h5 : xIf c <;> rw [h5] at h
           · cases h
           · cases h; exact List.suffix_cons _ _
         · cases h; exact (List.tail_suffix _).trans (List.suffix_cons _ _)
       · simp only [jT, jF] at h
         split at h
         · cases h
         · rename_i q r' he
           have hs : q :: r' <:+ l := by rw [← he]; exact List.dropWhile_suffix _
           obtain ⟨hb, hx⟩ := xHf h
           cases hx; exact ((List.suffix_cons _ _).trans hs).trans (List.suffix_cons _ _)
     · simp only [jT, jF] at h
       obtain ⟨hb, hx⟩ := xHf h
       cases hx
       exact List.dropWhile_suffix _
   · simp only [jT] at h
     obtain ⟨hb, hx⟩ := xHf h
     cases hx
     exact List.dropWhile_suffix _
theorem xLv {r : Str} (h : r <:+ S) : S.drop (S.length - r.length) = r := by
 obtain ⟨a, rfl⟩ := h
 rw [jA, show a.length + r.length - r.length = a.length from by omega, List.drop_left]
theorem xU2 (hS : S.length ≤ 120) (hN : 1000 < N) : ∀ (m n i : Nat) (acc : List Tok), i ≤ S.length → S.length - i < m → S.length - i < n → acc.length ≤ 60 → xDj N n S acc (i : Nat) = some (lexL m (i : Nat) acc (S.drop i)) := by
 intro m
 induction m with
 | zero => intro n i acc _ h; omega
 | succ m ih =>
   intro n i acc hi hm hn ha
   obtain ⟨n, rfl⟩ : ∃ k, n = k + 1 := ⟨n - 1, by omega⟩
   cases hd : S.drop i with
   | nil =>
     have := xGl hd
     obtain rfl : i = S.length := by omega
     simp only [xDj, Int.lt_irrefl, decide_false, jF, lexL]
   | cons c l =>
     obtain ⟨h1, hx, hd1⟩ := xC9 hd
     have hi' : (i : Int) < (S.length : Int) := by omega
     simp only [xDj, decide_eq_true hi', jT, Int.toNat_natCast, xCj hx, xU4, lexL, xBO h1 (by omega : S.length ≤ _)]
     rw [if_pos (by omega)]
     cases h32 : c.toNat == 32
     · simp only [jF]
       obtain ⟨x, hx1, hx2⟩ := xMk (N := N) (S := S) (by omega) hN hd
       rw [hx1, jS]
       cases ho : xGN i (c :: l) with
       | none =>
         rw [ho] at hx2
         have hx2 : x.2.2 = false := hx2
         simp only [hx2, Bool.not_false, jT]
       | some z =>
         obtain ⟨t, r⟩ := z
         rw [ho] at hx2
         have hx2 : x = (t, ((S.length - r.length : Nat) : Int), true) := hx2
         subst hx2
         have hl := xIJ ho
         have hs : r <:+ S := by
          have : c :: l <:+ S := by rw [← hd]; exact List.drop_suffix _ _
          exact (xKh ho).trans this
         have hrl := hs.length_le
         obtain ⟨g1, g2⟩ := xEf hd
         simp only [Bool.not_true, jF]
         have e60 : (((acc.length : Int) : Int) == 60) = (acc.length == 60) := beqI acc.length 60
         rw [e60]
         cases h60 : acc.length == 60
         · have h60 : acc.length ≠ 60 := beq_eq_false_iff_ne.1 h60
           simp only [jF]
           rw [if_pos (by simp only [jC, jN]; unfold Lim; omega)]
           rw [ih n (S.length - r.length) (acc ++ [t]) (by omega) (by omega) (by omega) (by simp only [jA, jC, jN]; omega), xLv hs]
           rw [show ((S.length - r.length : Nat) : Int) = (i : Int) + ((c :: l).length - r.length : Nat) from by omega]
         · rfl
     · simp only [jT]
       rw [ih n (i + 1) acc (by omega) (by omega) (by omega) ha, hd1]
       rfl
theorem xIv (hN : 1000 < N) (s : Str) : xEw N s = some (lex s) := by
 unfold xEw lex
 have e : decide (((s.length : Int) : Int) > 120) = decide (s.length > 120) := decide_eq_decide.2 (by omega)
 rw [e]
 cases h : decide (s.length > 120)
 · have h := of_decide_eq_false h
   simp only [jF]
   exact xU2 (S := s) (by omega) hN (s.length + 1) N 0 [] (by omega) (by omega) (by omega) (by simp)
 · rfl
end
end Go.Ab
end
section
namespace Go.Ab
def valD (acc : Nat) : Str → Nat
 | [] => acc
 | c :: r => valD (acc * 10 + (c.toNat - 48)) r
theorem xLp : ∀ (l : Str) (acc : Nat), acc ≤ valD acc l
 | [], acc => Nat.le_refl _
 | c :: r, acc => Nat.le_trans (by omega) (xLp r _)
theorem xI7 : ∀ (a b : Str) (acc : Nat), valD acc (a ++ b) = valD (valD acc a) b
 | [], b, acc => rfl
 | c :: r, b, acc => xI7 r b _
theorem xFJ {c : UInt8} : xCd c = true ↔ 48 ≤ c.toNat ∧ c.toNat ≤ 57 := by unfold xCd; rw [Bool.and_eq_true, decide_eq_true_eq, decide_eq_true_eq]
theorem xLY : ∀ (l : Str) (acc : Nat), l.all xCd = true → valD acc l < 1844674407370955162 → Lib.parseUint10 acc l = .ok (valD acc l)
 | [], acc, _, _ => rfl
 | c :: r, acc, hl, hv => by
   rw [List.all_cons, Bool.and_eq_true] at hl
   have hc := xFJ.1 hl.1
   have h1 := xLp r (acc * 10 + (c.toNat - 48))
   have hv' : valD (acc * 10 + (c.toNat - 48)) r < 1844674407370955162 := hv
   show (if 48 ≤ c.toNat ∧ c.toNat ≤ 57 then _ else _) = _
   rw [if_pos hc, if_neg (by omega), if_neg (by omega)]
   exact xLY r _ hl.2 hv'
theorem xN4 (k : Nat) (h : k < 10) : (UInt8.ofNat (48 + k)).toNat = 48 + k := by
 rw [UInt8.toNat_ofNat']; omega
theorem xN2 : ∀ n : Nat, (dd n).all xCd = true ∧ valD 0 (dd n) = n := by
 intro n
 induction n using Nat.strongRecOn with
 | _ n ih =>
   by_cases h : n = 0
   · subst h; exact ⟨rfl, rfl⟩
   · obtain ⟨h1, h2⟩ := ih (n / 10) (by omega)
     have hd := xN4 (n % 10) (by omega)
     rw [xKG h, List.all_append, h1, xI7, h2]
     refine ⟨?_, ?_⟩
     · simp only [List.all_cons, List.all_nil, Bool.and_true, Bool.true_and]
       exact xFJ.2 (by omega)
     · show n / 10 * 10 + ((UInt8.ofNat (48 + n % 10)).toNat - 48) = n
       rw [hd]; omega
theorem xJm {v : Nat} (h : v ≤ 1000000000) : (Lib.itoa v).all xCd = true ∧ valD 0 (Lib.itoa v) = v ∧ (Lib.itoa v).length ≤ 10 ∧ Lib.itoa v ≠ [] := by
 by_cases h0 : v = 0
 · subst h0
   have e : Lib.itoa ((0 : Nat) : Int) = [48] := by
    show Lib.decDigits 0 = [48]
    rw [Lib.decDigits, dif_pos (by omega)]; rfl
   rw [e]; exact ⟨rfl, rfl, by decide, by decide⟩
 · have e : Lib.itoa (v : Int) = dd v := by
    rw [xMy (by omega), decide_eq_false (by omega)]; rfl
   obtain ⟨h1, h2⟩ := xN2 v
   rw [e]
   refine ⟨h1, h2, xVw 10 v (by omega), fun he => ?_⟩
   rw [he] at h2
   exact h0 h2.symm
theorem xNZ {w : Str} (h1 : w.all xCd = true) (h2 : w ≠ []) (h3 : valD 0 w < 1844674407370955162) : Lib.atoiAll w = .ok (valD 0 w) := by
 cases w with
 | nil => exact absurd rfl h2
 | cons c r =>
   have hc := h1
   rw [List.all_cons, Bool.and_eq_true] at hc
   have hc := xFJ.1 hc.1
   unfold Lib.atoiAll
   have e1 : ¬ (c.toNat = 43 ∨ c.toNat = 45) := by omega
   have e2 : ¬ c.toNat = 45 := by omega
   simp only [if_neg e1]
   unfold Lib.parseMag
   rw [if_neg h2, xLY _ 0 h1 h3]
   simp only [e2, not_false_eq_true, true_and, false_and, if_false]
   rw [if_neg (by omega)]
theorem xHT {v : Nat} (h : v ≤ 1000000000) : zHG (Lib.itoa v) 0 1000000000 = ((v : Int), true) := by
 obtain ⟨h1, h2, h3, h4⟩ := xJm h
 unfold zHG
 rw [xNZ h1 h4 (by rw [h2]; omega), h2]
 simp only
 rw [if_neg (by omega), if_neg (by omega)]
 first
 | exact if_pos rfl
 | exact if_pos trivial
theorem xKj {w : Str} (h : (zHG w 0 1000000000).2 = true) : ∃ v : Nat, v ≤ 1000000000 ∧ w = Lib.itoa v := by
 unfold zHG at h
 split at h
 · rename_i v hv
   split at h
   · cases h
   · split at h
     · cases h
     · split at h
       · rename_i h1 h2 h3
         exact ⟨v.toNat, by omega, by rw [show ((v.toNat : Nat) : Int) = v from by omega, h3]⟩
       · cases h
 · cases h
section
variable {N : Nat}
theorem u8d {c : UInt8} (h : xCd c = true) : IntKind.i64.wrap (IntKind.u8.wrap ((c.toNat : Int) - 48)) = ((c.toNat - 48 : Nat) : Int) := by
 have := xFJ.1 h
 rw [xLq (by omega) (by omega), xBY (by omega) (by omega)]; omega
theorem xKv (w : Str) (hw : w.all xCd = true) (hl : w.length ≤ 12) (hN : 100 < N) : ∀ n, w.length < n → xCE N n w false w 0 0 =
 (bif !(Lib.itoa ((valD 0 w : Nat) : Int) == w) then some (0, false) else some (((valD 0 w : Nat) : Int), true)) := by
 intro n hn
 have big : ∀ (l : Str) (acc k : Nat), l.all xCd = true → acc < 10 ^ k → valD acc l < 10 ^ (k + l.length) := by
  intro l
  induction l with
  | nil => intro acc k _ h; exact h
  | cons c r ih =>
    intro acc k hl h
    rw [List.all_cons, Bool.and_eq_true] at hl
    have hc := xFJ.1 hl.1
    have := ih (acc * 10 + (c.toNat - 48)) (k + 1) hl.2 (by rw [Nat.pow_succ]; omega)
    show valD (acc * 10 + (c.toNat - 48)) r < _
    rw [jC, show k + (r.length + 1) = k + 1 + r.length from by omega]
    exact this
 have hb := big w 0 0 hw (by decide)
 have hb2 : valD 0 w < 10 ^ 12 := Nat.lt_of_lt_of_le hb (Nat.pow_le_pow_right (by omega) (by omega))
 have e12 : (10 : Nat) ^ 12 = 1000000000000 := by decide
 have key : ∀ n j (acc : Nat), j ≤ w.length → w.length < n + j → valD acc (w.drop j) = valD 0 w → xCE N n w false w (acc : Int) (j : Nat) =
  (bif !(Lib.itoa ((valD 0 w : Nat) : Int) == w) then some (0, false) else some (((valD 0 w : Nat) : Int), true)) := by
  intro n
  induction n with
  | zero => intro j acc h1 h2; omega
  | succ n ih =>
    intro j acc h1 h2 h3
    cases hd : w.drop j with
    | nil =>
      have := xGl hd
      obtain rfl : j = w.length := by omega
      rw [hd] at h3
      have h3 : acc = valD 0 w := h3
      simp only [xCE, Int.lt_irrefl, decide_false, jF]
      rw [xIc hN (by omega), jS, h3]
    | cons c r =>
      obtain ⟨g1, g2, g3⟩ := xC9 hd
      have hc : xCd c = true := List.all_eq_true.1 hw c (List.mem_of_getElem? g2)
      have hc' := xFJ.1 hc
      rw [hd] at h3
      have h3 : valD (acc * 10 + (c.toNat - 48)) r = valD 0 w := h3
      have h4 := xLp r (acc * 10 + (c.toNat - 48))
      have hj' : (j : Int) < (w.length : Int) := by omega
      have e1 : IntKind.i64.wrap (10 * (acc : Int)) = 10 * (acc : Int) := xBY (by omega) (by omega)
      have e2 : IntKind.i64.wrap (10 * (acc : Int) + ((c.toNat - 48 : Nat) : Int)) = ((acc * 10 + (c.toNat - 48) : Nat) : Int) := by rw [xBY (by omega) (by omega)]; omega
      simp only [xCE, decide_eq_true hj', jT, Int.toNat_natCast, xCj g2, u8d hc, e1, e2, xBO g1 (by omega : w.length ≤ _)]
      rw [if_pos (by omega), decide_eq_false (by omega), jF, decide_eq_false (by omega), jF]
      exact ih (j + 1) _ (by omega) (by omega) (by rw [g3]; exact h3)
 exact key n 0 0 (by omega) (by omega) rfl
theorem xIy {w : Str} (hw : w.all xCd = true) (hne : w ≠ []) (hl : w.length ≤ 1000) (hN : 1000 < N) : ∃ n ok, xD7 N w = some (n, ok) ∧
 (ok && !decide (n > 1000000000)) = (zHG w 0 1000000000).2 ∧ ((zHG w 0 1000000000).2 = true → n = (zHG w 0 1000000000).1) := by
 obtain ⟨c, r, rfl⟩ : ∃ c r, w = c :: r := by
  cases w with
  | nil => exact absurd rfl hne
  | cons c r => exact ⟨c, r, rfl⟩
 have hc := hw
 rw [List.all_cons, Bool.and_eq_true] at hc
 have hc' := xFJ.1 hc.1
 have hlen : (c :: r).length = r.length + 1 := rfl
 have e45 : (((c.toNat : Int) : Int) == 45) = false := beq_eq_false_iff_ne.2 (by omega)
 have hr : xFR N (c :: r) 12 = (bif decide ((((c :: r).length : Int) : Int) > 12) then some (0, false) else xCE N N (c :: r) false (c :: r) 0 0) := by
  unfold xFR
  rw [decide_eq_true (by omega : (((c :: r).length : Int) : Int) > 0), jT, if_pos (by omega)]
  simp only [Int.toNat_zero, List.getD_cons_zero, e45, jF]
  rw [decide_eq_false (by omega : ¬ (((c :: r).length : Int) : Int) < 1), jF]
 unfold xD7
 rw [hr]
 by_cases hcan : (zHG (c :: r) 0 1000000000).2 = true
 · obtain ⟨v, hv, he⟩ := xKj hcan
   obtain ⟨p1, p2, p3, p4⟩ := xJm hv
   rw [← he] at p2 p3
   rw [decide_eq_false (by omega), jF, xKv _ hw (by omega) (by omega) N (by omega), p2, ← he]
   simp only [beq_self_eq_true, Bool.not_true, jF, jS]
   have hn : zHG (c :: r) 0 1000000000 = ((v : Int), true) := by rw [he]; exact xHT hv
   refine ⟨(v : Int), true, rfl, ?_, fun _ => by rw [hn]⟩
   rw [hn, decide_eq_false (by omega)]; rfl
 · have hcan : (zHG (c :: r) 0 1000000000).2 = false := by simpa using hcan
   rw [hcan]
   cases h12 : decide ((((c :: r).length : Int) : Int) > 12)
   · have h12 := of_decide_eq_false h12
     rw [jF, xKv _ hw (by omega) (by omega) N (by omega)]
     cases hi : Lib.itoa ((valD 0 (c :: r) : Nat) : Int) == c :: r
     · exact ⟨0, false, rfl, rfl, fun h => by cases h⟩
     · have hi := beq_iff_eq.1 hi
       have hbig : ¬ valD 0 (c :: r) ≤ 1000000000 := fun h => by
        have := xHT h
        rw [hi] at this
        rw [this] at hcan
        cases hcan
       exact ⟨_, true, rfl, by rw [decide_eq_true (by omega)]; rfl, fun h => by cases h⟩
   · exact ⟨0, false, rfl, rfl, fun h => by cases h⟩
theorem xII (c : UInt8) : xEA N (c.toNat : Int) = some (xGd c) := by
 unfold xEA xGd
 rw [xN3, xLu]
 cases decide (97 ≤ c.toNat) <;> rfl
theorem xHB (c : UInt8) : xEt N (c.toNat : Int) = some (xCd c) := by
 unfold xEt xCd
 rw [xL6, xL7]
 cases decide (48 ≤ c.toNat) <;> rfl
variable {S : Str}
def xMl (S : Str) (i : Nat) (n6 p6 : Int) (l : Str) (p : UInt8 → Bool) : Tok × Int :=
 bif decide (S.length - (l.dropWhile p).length - i > 8) then (Tok.mk 1 n6 p6 (List.drop i (List.take (S.length - (l.dropWhile p).length) S)), 0) else (Tok.mk 1 n6 p6 (List.drop i (List.take (S.length - (l.dropWhile p).length) S)), ((S.length - (l.dropWhile p).length - i : Nat) : Int))
theorem xMj (hS : S.length ≤ 1000) {i : Nat} (b4 b6 : Tok) : ∀ n j, i ≤ j → j ≤ S.length → S.length < n + j → xC8 N n S i (j : Nat) b4 b6 = some (xMl S i b6.n b6.pos (S.drop j) isWd) := by
 intro n j hij hj hn
 have fin : ∀ j : Nat, i ≤ j → j ≤ S.length → (bif (decide (((IntKind.i64.wrap ((j : Int) - (i : Int))) : Int) > 8)) then (
       some ((Tok.mk 1 (Tok.n b6) (Tok.pos b6) (List.drop i (List.take j S))), (0 : Int))
  ) else (
    some ((Tok.mk 1 (Tok.n b6) (Tok.pos b6) (List.drop i (List.take j S))), (IntKind.i64.wrap ((j : Int) - (i : Int))))
  )) = some (bif decide (j - i > 8) then (Tok.mk 1 b6.n b6.pos (List.drop i (List.take j S)), 0) else (Tok.mk 1 b6.n b6.pos (List.drop i (List.take j S)), ((j - i : Nat) : Int))) := by
  intro j h1 h2
  have e1 : IntKind.i64.wrap ((j : Int) - (i : Int)) = ((j - i : Nat) : Int) := by rw [xBY (by omega) (by omega)]; omega
  rw [e1, decide_eq_decide.2 (by omega : ((j - i : Nat) : Int) > 8 ↔ j - i > 8)]
  cases decide (j - i > 8) <;> rfl
 refine xFo (σ := Unit) (L := fun n j _ => xC8 N n S i j b4 b6) S (fun l _ => xMl S i b6.n b6.pos l isWd)
  (fun j _ => i ≤ j) (fun n _ hi => ?_) (fun j x l _ hd hj hx hi => ?_) n j () hij hj hn
 · have hi : i ≤ S.length := hi
   simp only [xC8, Int.lt_irrefl, decide_false, jF]
   rw [if_pos (by omega)]
   simp only [Int.toNat_natCast, fin _ hi (Nat.le_refl _), xMl, List.dropWhile_nil, jN, Nat.sub_zero]
   rfl
 · have hi : i ≤ j := hi
   have hj' : (j : Int) < (S.length : Int) := by omega
   have hj2 : (0 : Int) ≤ (j : Int) ∧ (j : Int) < (S.length : Int) := ⟨by omega, hj'⟩
   have hj3 : (0 : Int) ≤ (i : Int) ∧ (i : Int) ≤ (j : Int) ∧ (j : Int) ≤ (S.length : Int) := by omega
   cases hw : isWd x
   · refine .inr fun n => ?_
     have e2 : (x :: l).dropWhile isWd = x :: l := by rw [List.dropWhile_cons]; simp [hw]
     have e3 := (xEf hd).1
     unfold isWd at hw
     rw [Bool.or_eq_false_iff] at hw
     simp only [xC8, decide_eq_true hj', jT, jF, if_pos hj2, if_pos hj3, Int.toNat_natCast, xCj hx, xII, xHB, hw.1, hw.2, jS, fin _ hi (by omega : j ≤ S.length), xMl, e2, e3]
   · refine .inl ⟨(), by omega, ?_, fun n => ?_⟩
     · have e2 : (x :: l).dropWhile isWd = l.dropWhile isWd := by rw [List.dropWhile_cons]; simp [hw]
       simp only [xMl, e2]
     · unfold isWd at hw
       simp only [xC8, decide_eq_true hj', jT, if_pos hj2, Int.toNat_natCast, xCj hx, xII, xHB, jS, xBO hj (by omega : S.length ≤ _)]
       cases h1 : xGd x
       · rw [h1, Bool.false_or] at hw
         rw [hw]; rfl
       · rfl
def LxS (s : Str) (o : Option (Tok × Str)) (x : Tok × Int) : Prop := match o with
 | some (t, r) => x = (t, ((s.length - r.length : Nat) : Int))
 | none => x.2 = 0
theorem xFA {p : UInt8 → Bool} {c : UInt8} (l : Str) (h : p c = true) : (c :: l).dropWhile p = l.dropWhile p := by rw [List.dropWhile_cons]; simp [h]
theorem xNK (hS : S.length ≤ 1000) (hN : 1000 < N) {i : Nat} {c : UInt8} {l0 : Str} (hd0 : S.drop i = c :: l0) (hc : xCd c = true) (hL : xGd c = false) (b4 : Tok) (p6 : Int) (hp : p6 = i) : ∀ n j, i < j → j ≤ S.length → S.length < n + j → (c :: l0).dropWhile xCd = (S.drop j).dropWhile xCd →
 ∃ x, xCL N n S i (j : Nat) b4 (Tok.mk 0 0 p6 []) = some x ∧ LxS (c :: l0) (xGN i (c :: l0)) x := by
 obtain ⟨g1, g2⟩ := xEf hd0
 obtain ⟨gi, gx, gd⟩ := xC9 hd0
 have hq := xDW (p := xCd) l0
 have hsame := xFA (p := xCd) l0 hc
 have fin : ∀ j : Nat, i < j → j ≤ S.length → S.length - j = ((c :: l0).dropWhile xCd).length → ∃ x, (Option.bind (xD7 N (List.drop i (List.take j S))) fun r2 =>
       bif (!r2.2) then (
        some ((Tok.mk 2 r2.1 p6 []), 0)
       ) else (
         bif (decide ((r2.1 : Int) > 1000000000)) then (
          some ((Tok.mk 2 r2.1 p6 []), 0)
         ) else (
           some ((Tok.mk 2 r2.1 p6 []), (IntKind.i64.wrap ((j : Int) - (i : Int))))
         )
       )) = some x ∧ LxS (c :: l0) (xGN i (c :: l0)) x := by
  intro j h1 h2 h3
  have ew : List.drop i (List.take j S) = (c :: l0).take ((c :: l0).length - ((c :: l0).dropWhile xCd).length) := by
   have := xG6 (S := S) (s := c :: l0) hd0 (by omega) (k := ((c :: l0).dropWhile xCd).length) (xDW _)
   rw [← this, show S.length - ((c :: l0).dropWhile xCd).length = j from by omega]
  have hall : ((c :: l0).take ((c :: l0).length - ((c :: l0).dropWhile xCd).length)).all xCd = true := by
   have : (c :: l0).take ((c :: l0).length - ((c :: l0).dropWhile xCd).length) = (c :: l0).takeWhile xCd := by
    have e := List.takeWhile_append_dropWhile (p := xCd) (l := c :: l0)
    have hl := congrArg List.length e
    rw [jA] at hl
    conv => lhs; arg 2; rw [← e]
    rw [show (c :: l0).length - ((c :: l0).dropWhile xCd).length = ((c :: l0).takeWhile xCd).length from by omega, List.take_left']
    rfl
   rw [this]
   exact List.all_takeWhile
  have hne : (c :: l0).take ((c :: l0).length - ((c :: l0).dropWhile xCd).length) ≠ [] := by
   intro he
   have := congrArg List.length he
   rw [List.length_take, hsame, jN] at this
   simp only [jC] at this
   omega
  obtain ⟨n, ok, e1, e2, e3⟩ := xIy (N := N) hall hne (by rw [List.length_take]; simp only [jC] at g2 ⊢; omega) hN
  rw [ew, e1, jS, xDJ, hL, hc]
  simp only [jT, jF]
  rw [← e2] at e3 ⊢
  have e4 : IntKind.i64.wrap ((j : Int) - (i : Int)) = (((c :: l0).length - ((c :: l0).dropWhile xCd).length : Nat) : Int) := by rw [xBY (by omega) (by omega)]; omega
  cases ok
  · exact ⟨_, rfl, rfl⟩
  · cases hb : decide (n > 1000000000)
    · rw [hb] at e3
      have e3 := e3 rfl
      refine ⟨_, rfl, ?_⟩
      show (_, _) = (_, _)
      rw [e4, ← e3, hp]
    · exact ⟨_, rfl, rfl⟩
 intro n
 induction n with
 | zero => intro j h1 h2 h3; omega
 | succ n ih =>
   intro j h1 h2 h3 h4
   cases hd : S.drop j with
   | nil =>
     have := xGl hd
     obtain rfl : j = S.length := by omega
     rw [hd] at h4
     simp only [xCL, Int.lt_irrefl, decide_false, jF]
     rw [if_pos (by omega)]
     simp only [Int.toNat_natCast]
     exact fin _ h1 h2 (by rw [h4]; simp)
   | cons x l =>
     obtain ⟨k1, k2, k3⟩ := xC9 hd
     have hj' : (j : Int) < (S.length : Int) := by omega
     have hj2 : (0 : Int) ≤ (j : Int) ∧ (j : Int) < (S.length : Int) := ⟨by omega, hj'⟩
     have hj3 : (0 : Int) ≤ (i : Int) ∧ (i : Int) ≤ (j : Int) ∧ (j : Int) ≤ (S.length : Int) := by omega
     simp only [xCL, decide_eq_true hj', jT, if_pos hj2, if_pos hj3, Int.toNat_natCast, xCj k2, xHB, jS, xBO k1 (by omega : S.length ≤ _)]
     cases hw : xCd x
     · have e2 : (x :: l).dropWhile xCd = x :: l := by rw [List.dropWhile_cons]; simp [hw]
       rw [hd, e2] at h4
       exact fin j h1 h2 (by rw [h4]; have := (xEf hd).2; omega)
     · have e2 : (x :: l).dropWhile xCd = l.dropWhile xCd := xFA l hw
       exact ih (j + 1) (by omega) (by omega) (by omega) (by rw [h4, hd, e2, k3])
theorem xUZ (hS : S.length ≤ 1000) (hN : 1000 < N) {i : Nat} {c : UInt8} {l0 : Str} (hd0 : S.drop i = c :: l0) (h34 : (c.toNat == 34) = true) (hD : xCd c = false) (hL : xGd c = false) (b4 : Tok) (p6 : Int) (hp : p6 = i) : ∀ n j, i < j → j ≤ S.length → S.length < n + j → l0.dropWhile notQ = (S.drop j).dropWhile notQ →
 ∃ x, xD2 N n S i (j : Nat) b4 (Tok.mk 0 0 p6 []) = some x ∧ LxS (c :: l0) (xGN i (c :: l0)) x := by
 obtain ⟨g1, g2⟩ := xEf hd0
 obtain ⟨gi, gx, gd⟩ := xC9 hd0
 have hq := xDW (p := notQ) l0
 simp only [jC] at g1 g2
 have w1 : IntKind.i64.wrap ((i : Int) + 1) = ((i + 1 : Nat) : Int) := xBO gi (by omega)
 intro n
 induction n with
 | zero => intro j h1 h2 h3; omega
 | succ n ih =>
   intro j h1 h2 h3 h4
   cases hd : S.drop j with
   | nil =>
     have := xGl hd
     obtain rfl : j = S.length := by omega
     rw [hd] at h4
     simp only [xD2, Int.lt_irrefl, decide_false, jF, w1]
     rw [if_pos (by omega)]
     simp only [beq_self_eq_true, jT]
     refine ⟨_, rfl, ?_⟩
     rw [xDJ, hL, hD, h34, h4]
     rfl
   | cons x l =>
     obtain ⟨k1, k2, k3⟩ := xC9 hd
     have hj' : (j : Int) < (S.length : Int) := by omega
     have hj2 : (0 : Int) ≤ (j : Int) ∧ (j : Int) < (S.length : Int) := ⟨by omega, hj'⟩
     have hj3 : (0 : Int) ≤ ((i + 1 : Nat) : Int) ∧ ((i + 1 : Nat) : Int) ≤ (j : Int) ∧ (j : Int) ≤ (S.length : Int) := by omega
     simp only [xD2, decide_eq_true hj', jT, if_pos hj2, w1, if_pos hj3, Int.toNat_natCast, xCj k2, bne, xRn, xBO k1 (by omega : S.length ≤ _)]
     cases hw : x.toNat == 34
     · have e2 : (x :: l).dropWhile notQ = l.dropWhile notQ := xFA l (by unfold notQ; rw [hw]; rfl)
       exact ih (j + 1) (by omega) (by omega) (by omega) (by rw [h4, hd, e2, k3])
     · have e2 : (x :: l).dropWhile notQ = x :: l := by rw [List.dropWhile_cons]; simp [notQ, hw]
       rw [hd, e2] at h4
       rw [h4] at hq
       simp only [jC] at hq
       have hjl := (xEf hd).2
       simp only [jC] at hjl
       have ew : List.drop (i + 1) (List.take j S) = l0.take (l0.length - (x :: l).length) := by
        have := xG6 (S := S) (s := l0) gd (by omega) (k := (x :: l).length) (by simp only [jC]; omega)
        rw [← this, show S.length - (x :: l).length = j from by simp only [jC]; omega]
       have ht : (l0.take (l0.length - (x :: l).length)).length ≤ 1000 := by rw [List.length_take]; omega
       have ne : ((j : Int) == (S.length : Int)) = false := beq_eq_false_iff_ne.2 (by omega)
       have e4 : IntKind.i64.wrap (((j + 1 : Nat) : Int) - (i : Int)) = (((c :: l0).length - l.length : Nat) : Int) := by rw [xBY (by omega) (by omega)]; simp only [jC]; omega
       simp only [Bool.not_true, jF, ne, ew]
       rw [xET (N := N) (by omega) (by omega), jS, xDJ, hL, hD, h34, h4]
       simp only [jT, jF]
       cases xHl (l0.take (l0.length - (x :: l).length))
       · exact ⟨_, rfl, rfl⟩
       · refine ⟨_, rfl, ?_⟩
         show (_, _) = (_, _)
         rw [e4, hp]
theorem xKK (c : UInt8) : ∀ l : Str, decide (Lib.indexByte l c ≥ 0) = l.any fun b => b.toNat == c.toNat
 | [] => rfl
 | b :: l => by
   have ih := xKK c l
   have h1 := Lib.indexByte_ge l c
   have e : Lib.indexByte (b :: l) c = if b == c then 0 else if Lib.indexByte l c == -1 then -1 else Lib.indexByte l c + 1 := rfl
   rw [List.any_cons, ← ih, e, xJ8 b c]
   cases b.toNat == c.toNat
   · simp only [Bool.false_eq_true, if_false, Bool.false_or]
     by_cases h : Lib.indexByte l c = -1
     · rw [h]; rfl
     · rw [show (Lib.indexByte l c == -1) = false from beq_eq_false_iff_ne.2 h]
       simp only [Bool.false_eq_true, if_false]
       rw [decide_eq_true (by omega), decide_eq_true (by omega)]
   · rfl
theorem beqc (c : UInt8) (k : Nat) : (((c.toNat : Int) : Int) == (k : Int)) = (c.toNat == k) := beqI c.toNat k
def xKg : Str → Bool
 | [] => false
 | d :: _ => 61 == d.toNat
def symN (c : UInt8) (l : Str) : Nat := bif Lib.hasPrefix (c :: l) [61, 61] then 2 else bif xIf c then 1 else 0
theorem xNP (hS : S.length ≤ 1000) {i : Nat} {c : UInt8} {l : Str} (hd : S.drop i = c :: l) : xE8 N S i = some ((symN c l : Nat) : Int) := by
 obtain ⟨g1, g2⟩ := xEf hd
 obtain ⟨gi, gx, gd⟩ := xC9 hd
 have w1 : IntKind.i64.wrap ((i : Int) + 1) = ((i + 1 : Nat) : Int) := xBO gi (by omega)
 have hok : xIf c = (40 == c.toNat || (41 == c.toNat || (91 == c.toNat || (93 == c.toNat || (44 == c.toNat || (43 == c.toNat || (45 == c.toNat || (42 == c.toNat || (60 == c.toNat || (61 == c.toNat || false)))))))))) := by
  unfold xIf; rw [xKK]; rfl
 have hpre : Lib.hasPrefix (c :: l) [61, 61] = (61 == c.toNat && xKg l) := by
  unfold Lib.hasPrefix
  cases l with
  | nil => simp [List.isPrefixOf, xKg]
  | cons d r =>
    simp only [List.isPrefixOf, xJ8, Bool.and_true, xKg]; rfl
 have b (k : Nat) : (c.toNat == k) = (k == c.toNat) := by
  by_cases h : c.toNat = k
  · rw [h]
  · rw [beq_eq_false_iff_ne.2 h, beq_eq_false_iff_ne.2 (fun e => h e.symm)]
 unfold xE8
 rw [if_pos (by omega)]
 have k40 := (beqc c 40).trans (b 40); have k41 := (beqc c 41).trans (b 41); have k91 := (beqc c 91).trans (b 91); have k93 := (beqc c 93).trans (b 93); have k44 := (beqc c 44).trans (b 44)
 have k43 := (beqc c 43).trans (b 43); have k45 := (beqc c 45).trans (b 45); have k42 := (beqc c 42).trans (b 42); have k60 := (beqc c 60).trans (b 60); have k61 := (beqc c 61).trans (b 61)
 simp only [Int.toNat_natCast, xCj gx, w1]
 unfold symN
 rw [hok, hpre]
 have no61 : ∀ k : Nat, k ≠ 61 → (k == c.toNat) = true → (61 == c.toNat) = false := fun k hk h => beq_eq_false_iff_ne.2 fun e => hk ((beq_iff_eq.1 h).trans e.symm)
 have fin : (bif (decide (((i + 1 : Nat) : Int) < (List.length S : Int))) then (
                   if (0 : Int) ≤ ((i + 1 : Nat) : Int) ∧ ((i + 1 : Nat) : Int) < (List.length S) then
                   bif ((((List.getD S (i + 1) 0).toNat : Int) : Int) == 61) then (
                    some (2 : Int)
                   ) else (
                     some 1
                   )
                   else none
                   ) else (
                     some 1
                   )) = some (((bif xKg l then 2 else 1 : Nat)) : Int) := by
  cases l with
  | nil =>
    simp only [jC, jN] at g2
    rw [decide_eq_false (by omega)]; rfl
  | cons d r =>
    simp only [jC] at g2
    obtain ⟨ji, jx, jd⟩ := xC9 gd
    rw [decide_eq_true (by omega), jT, if_pos (by omega), xCj jx]
    have bd : (((d.toNat : Int) : Int) == 61) = (61 == d.toNat) := (beqI d.toNat 61).trans (by
     by_cases h : d.toNat = 61
     · rw [h]
     · rw [beq_eq_false_iff_ne.2 h, beq_eq_false_iff_ne.2 (fun e => h e.symm)])
    rw [bd, show xKg (d :: r) = (61 == d.toNat) from rfl]
    cases (61 == d.toNat) <;> rfl
 rw [fin]
 have k40 : (((c.toNat : Int) : Int) == 40) = (40 == c.toNat) := k40
 have k41 : (((c.toNat : Int) : Int) == 41) = (41 == c.toNat) := k41
 have k91 : (((c.toNat : Int) : Int) == 91) = (91 == c.toNat) := k91
 have k93 : (((c.toNat : Int) : Int) == 93) = (93 == c.toNat) := k93
 have k44 : (((c.toNat : Int) : Int) == 44) = (44 == c.toNat) := k44
 have k43 : (((c.toNat : Int) : Int) == 43) = (43 == c.toNat) := k43
 have k45 : (((c.toNat : Int) : Int) == 45) = (45 == c.toNat) := k45
 have k42 : (((c.toNat : Int) : Int) == 42) = (42 == c.toNat) := k42
 have k60 : (((c.toNat : Int) : Int) == 60) = (60 == c.toNat) := k60
 have k61 : (((c.toNat : Int) : Int) == 61) = (61 == c.toNat) := k61
 rw [k40, k41, k91, k93, k44, k43, k45, k42, k60, k61]
 cases h1 : (40 == c.toNat)
 · cases h2 : (41 == c.toNat)
   · cases h3 : (91 == c.toNat)
     · cases h4 : (93 == c.toNat)
       · cases h5 : (44 == c.toNat)
         · cases h6 : (43 == c.toNat)
           · cases h7 : (45 == c.toNat)
             · cases h8 : (42 == c.toNat)
               · cases h9 : (60 == c.toNat)
                 · cases h10 : (61 == c.toNat)
                   · rfl
                   · simp only [jF, jT, Bool.true_and, Bool.or_true, Bool.false_or, Bool.true_or]
                 · rw [no61 60 (by decide) h9]; rfl
               · rw [no61 42 (by decide) h8]; rfl
             · rw [no61 45 (by decide) h7]; rfl
           · rw [no61 43 (by decide) h6]; rfl
         · rw [no61 44 (by decide) h5]; rfl
       · rw [no61 93 (by decide) h4]; rfl
     · rw [no61 91 (by decide) h3]; rfl
   · rw [no61 41 (by decide) h2]; rfl
 · rw [no61 40 (by decide) h1]; rfl
theorem xRu (hS : S.length ≤ 1000) (hN : 1000 < N) {i : Nat} {c : UInt8} {l : Str} (hd : S.drop i = c :: l) : ∃ x, xFT N S i = some x ∧ LxS (c :: l) (xGN i (c :: l)) x := by
 obtain ⟨e1, e2⟩ := xEf hd
 obtain ⟨hi, hx, hd1⟩ := xC9 hd
 simp only [jC] at e1 e2
 have w1 : IntKind.i64.wrap ((i : Int) + 1) = ((i + 1 : Nat) : Int) := xBO hi (by omega)
 unfold xFT
 rw [if_pos (by omega)]
 simp only [Int.toNat_natCast, xCj hx, xII, xHB, jS, xRn, w1]
 cases hL : xGd c
 · cases hD : xCd c
   · cases h34 : c.toNat == 34
     · simp only [jF]
       rw [xNP hS hd, jS]
       have hle : symN c l ≤ (c :: l).length := by
        unfold symN
        cases hp : Lib.hasPrefix (c :: l) [61, 61]
        · cases xIf c <;> simp
        · have : 2 ≤ (c :: l).length := by
           cases l with
           | nil => simp [Lib.hasPrefix, List.isPrefixOf] at hp
           | cons a b => simp
          simpa using this
       simp only [jC] at hle
       have s2 : symN c l ≤ 2 := by
        unfold symN
        cases Lib.hasPrefix (c :: l) [61, 61] <;> cases xIf c <;> simp
       have v1 : IntKind.i64.wrap ((i : Int) + ((symN c l : Nat) : Int)) = ((i + symN c l : Nat) : Int) := by rw [xBY (by omega) (by omega)]; omega
       have v2 : IntKind.i64.wrap (((i + symN c l : Nat) : Int) - (i : Int)) = ((symN c l : Nat) : Int) := by rw [xBY (by omega) (by omega)]; omega
       have v3 : List.drop i (List.take (i + symN c l) S) = (c :: l).take (symN c l) := by rw [List.drop_take, hd, show i + symN c l - i = symN c l from by omega]
       simp only [v1, v2, Int.toNat_natCast, v3]
       rw [if_pos (by omega), xDJ, hL, hD, h34]
       refine ⟨_, rfl, ?_⟩
       simp only [jF]
       unfold symN at s2 ⊢
       cases hp : Lib.hasPrefix (c :: l) [61, 61]
       · cases xIf c
         · rfl
         · show (_, _) = (_, _)
           simp
       · have h2 : l.tail.length + 1 = l.length := by
          cases l with
          | nil => simp [Lib.hasPrefix, List.isPrefixOf] at hp
          | cons a b => rfl
         have h3 : (c :: l).take 2 = [61, 61] := by
          cases l with
          | nil => simp [Lib.hasPrefix, List.isPrefixOf] at hp
          | cons a b =>
            simp only [Lib.hasPrefix, List.isPrefixOf, Bool.and_eq_true, beq_iff_eq] at hp
            obtain ⟨rfl, rfl, _⟩ := hp
            rfl
         show (_, _) = (_, _)
         simp only [jT, h3, jC]
         rw [show l.length + 1 - l.tail.length = 2 from by omega]
     · exact xUZ hS hN hd h34 hD hL _ _ rfl N (i + 1) (by omega) (by omega) (by omega) (by rw [hd1])
   · simp only [jT, jF]
     obtain ⟨n, rfl⟩ : ∃ n, N = n + 1 := ⟨N - 1, by omega⟩
     have hj' : (i : Int) < (S.length : Int) := by omega
     have hj2 : (0 : Int) ≤ (i : Int) ∧ (i : Int) < (S.length : Int) := ⟨by omega, hj'⟩
     have step : xCL (n + 1) (n + 1) S i i (Tok.mk 0 0 0 []) (Tok.mk 0 0 i []) = xCL (n + 1) n S i ((i + 1 : Nat) : Int) (Tok.mk 0 0 0 []) (Tok.mk 0 0 i []) := by
      simp only [xCL, decide_eq_true hj', jT, if_pos hj2, Int.toNat_natCast, xCj hx, xHB, jS, hD, w1]
     rw [step]
     exact xNK hS hN hd hD hL _ _ rfl n (i + 1) (by omega) (by omega) (by omega) (by rw [hd1, xFA l hD])
 · simp only [jT]
   have hw : isWd c = true := by unfold isWd; rw [hL]; rfl
   have hq := xDW (p := isWd) (c :: l)
   have hq2 := xDW (p := isWd) l
   refine ⟨_, xMj hS _ _ N i (Nat.le_refl _) (by omega) (by omega), ?_⟩
   rw [hd, xDJ, hL, jT]
   unfold xMl
   have h0 := xFA l hw
   simp only [jC] at hq
   rw [xG6 hd (by omega) (by simp only [jC]; omega), show S.length - ((c :: l).dropWhile isWd).length - i = (c :: l).length - ((c :: l).dropWhile isWd).length from by simp only [jC]; omega]
   by_cases h8 : (c :: l).length - ((c :: l).dropWhile isWd).length ≤ 8
   · rw [decide_eq_true h8, decide_eq_false (by omega)]; rfl
   · rw [decide_eq_false h8, decide_eq_true (by omega)]; rfl
theorem xQ7 (hS : S.length ≤ 120) (hN : 1000 < N) : ∀ (m n i : Nat) (acc : List Tok), i ≤ S.length → S.length - i < m → S.length - i < n → acc.length ≤ 60 → xDl N n S acc (i : Nat) = some (lexL m (i : Nat) acc (S.drop i)) := by
 intro m
 induction m with
 | zero => intro n i acc _ h; omega
 | succ m ih =>
   intro n i acc hi hm hn ha
   obtain ⟨n, rfl⟩ : ∃ k, n = k + 1 := ⟨n - 1, by omega⟩
   cases hd : S.drop i with
   | nil =>
     have := xGl hd
     obtain rfl : i = S.length := by omega
     simp only [xDl, Int.lt_irrefl, decide_false, jF, lexL]
   | cons c l =>
     obtain ⟨h1, hx, hd1⟩ := xC9 hd
     have hi' : (i : Int) < (S.length : Int) := by omega
     simp only [xDl, decide_eq_true hi', jT, Int.toNat_natCast, xCj hx, xU4, lexL, xBO h1 (by omega : S.length ≤ _)]
     rw [if_pos (by omega)]
     cases h32 : c.toNat == 32
     · simp only [jF]
       obtain ⟨x, hx1, hx2⟩ := xRu (N := N) (S := S) (by omega) hN hd
       rw [hx1, jS]
       cases ho : xGN i (c :: l) with
       | none =>
         rw [ho] at hx2
         have hx2 : x.2 = 0 := hx2
         simp only [hx2, beq_self_eq_true, jT]
       | some z =>
         obtain ⟨t, r⟩ := z
         rw [ho] at hx2
         have hx2 : x = (t, (((c :: l).length - r.length : Nat) : Int)) := hx2
         subst hx2
         have hl := xIJ ho
         have hs : r <:+ S := by
          have : c :: l <:+ S := by rw [← hd]; exact List.drop_suffix _ _
          exact (xKh ho).trans this
         have hrl := hs.length_le
         obtain ⟨g1, g2⟩ := xEf hd
         have ne0 : ((((c :: l).length - r.length : Nat) : Int) == 0) = false := beq_eq_false_iff_ne.2 (by omega)
         have v1 : IntKind.i64.wrap ((i : Int) + (((c :: l).length - r.length : Nat) : Int)) = ((S.length - r.length : Nat) : Int) := by rw [xBY (by omega) (by omega)]; omega
         have e60 : (((acc.length : Int) : Int) == 60) = (acc.length == 60) := beqI acc.length 60
         simp only [ne0, jF, e60, v1]
         cases h60 : acc.length == 60
         · have h60 : acc.length ≠ 60 := beq_eq_false_iff_ne.1 h60
           simp only [jF]
           rw [if_pos (by simp only [jC, jN]; unfold Lim; omega)]
           rw [ih n (S.length - r.length) (acc ++ [t]) (by omega) (by omega) (by omega) (by simp only [jA, jC, jN]; omega), xLv hs]
           rw [show ((S.length - r.length : Nat) : Int) = (i : Int) + ((c :: l).length - r.length : Nat) from by omega]
         · rfl
     · simp only [jT]
       rw [ih n (i + 1) acc (by omega) (by omega) (by omega) ha, hd1]
       rfl
theorem xIz (hN : 1000 < N) (s : Str) : xEy N s = some (lex s) := by
 unfold xEy lex
 have e : decide (((s.length : Int) : Int) > 120) = decide (s.length > 120) := decide_eq_decide.2 (by omega)
 rw [e]
 cases h : decide (s.length > 120)
 · have h := of_decide_eq_false h
   simp only [jF]
   exact xQ7 (S := s) (by omega) hN (s.length + 1) N 0 [] (by omega) (by omega) (by omega) (by simp)
 · rfl
end
end Go.Ab
end
section
namespace Go.Ab
structure TokG (t : Tok) : Prop where
 kind : I64 t.kind
 n : I64 t.n
 pos : 0 ≤ t.pos ∧ t.pos ≤ 120
 len : t.text.length ≤ 120
 name : t.kind = 1 → ∃ (c : UInt8) (l : Str), t.text = c :: l ∧ 97 ≤ c.toNat
 sym : t.kind = 4 → ∃ (c : UInt8) (l : Str), t.text = c :: l ∧ c.toNat < 97
theorem xQ9 {c : UInt8} (h : xIf c = true) : c.toNat < 97 := by
 unfold xIf at h
 rw [xKK] at h
 simp only [List.any_cons, List.any_nil, Bool.or_eq_true, beq_iff_eq, Bool.or_false] at h
 have e : ∀ k : UInt8, k.toNat < 97 → k.toNat = c.toNat → c.toNat < 97 := fun k h1 h2 => by omega
 rcases h with h | h | h | h | h | h | h | h | h | h <;> exact e _ (by decide) h
theorem xNR {c : UInt8} {l : Str} {k : Nat} (h : 0 < k) : ∃ r, (c :: l).take k = c :: r := by
 obtain ⟨k, rfl⟩ : ∃ m, k = m + 1 := ⟨k - 1, by omega⟩
 exact ⟨l.take k, rfl⟩
theorem xMb {p : Int} {s r : Str} {t : Tok} (hp : 0 ≤ p ∧ p ≤ 120) (hs : s.length ≤ 120) (h : xGN p s = some (t, r)) : TokG t := by
 cases s with
 | nil => cases h
 | cons c l =>
   have d1 := xDW (p := isWd) l
   rw [xDJ] at h
   cases h1 : xGd c <;> rw [h1] at h
   · cases h2 : xCd c <;> rw [h2] at h
     · cases h3 : c.toNat == 34 <;> rw [h3] at h
       · cases h4 : Lib.hasPrefix (c :: l) [61, 61] <;> rw [h4] at h
         · obtain ⟨hb, hx⟩ := xHf h
           cases hx
           exact ⟨xDy (x := 4) (by decide), xDy (x := 0) (by decide), hp, by simp, (fun h => by have h : (4 : Int) = 1 := h; omega), fun _ => ⟨c, [], rfl, xQ9 hb⟩⟩
         · cases h
           exact ⟨xDy (x := 4) (by decide), xDy (x := 0) (by decide), hp, by simp, (fun h => by have h : (4 : Int) = 1 := h; omega), fun _ => ⟨61, [61], rfl, by decide⟩⟩
       · simp only [jT, jF] at h
         split at h
         · cases h
         · rename_i q r' he
           obtain ⟨hb, hx⟩ := xHf h
           cases hx
           simp only [jC] at hs
           refine ⟨xDy (by show (0 : Int) ≤ 3 ∧ (3 : Int) ≤ 1000; decide), xDy (by show (0 : Int) ≤ 0 ∧ (0 : Int) ≤ 1000; decide), hp, ?_, fun h => ?_, fun h => ?_⟩
           · show (l.take _).length ≤ 120
             rw [List.length_take]; omega
           · have h : (3 : Int) = 1 := h
             omega
           · have h : (3 : Int) = 4 := h
             omega
     · simp only [jT, jF] at h
       obtain ⟨hb, hx⟩ := xHf h
       cases hx
       obtain ⟨v, hv, he⟩ := xKj hb
       have hn := xHT hv
       rw [← he] at hn
       refine ⟨xDy (by show (0 : Int) ≤ 2 ∧ (2 : Int) ≤ 1000; decide), ?_, hp, by simp, fun h => ?_, fun h => ?_⟩
       · show I64 (zHG _ 0 1000000000).1
         rw [hn]; unfold I64; omega
       · have h : (2 : Int) = 1 := h
         omega
       · have h : (2 : Int) = 4 := h
         omega
   · simp only [jT] at h
     obtain ⟨hb, hx⟩ := xHf h
     cases hx
     have hw : isWd c = true := by unfold isWd; rw [h1]; rfl
     rw [xFA l hw]
     simp only [jC] at hs
     obtain ⟨r, hr⟩ := xNR (c := c) (l := l) (k := (c :: l).length - (l.dropWhile isWd).length) (by simp only [jC]; omega)
     refine ⟨xDy (by show (0 : Int) ≤ 1 ∧ (1 : Int) ≤ 1000; decide), xDy (by show (0 : Int) ≤ 0 ∧ (0 : Int) ≤ 1000; decide), hp, ?_, fun _ => ⟨c, r, hr, ?_⟩, fun h => ?_⟩
     · show ((c :: l).take _).length ≤ 120
       rw [List.length_take]; simp only [jC]; omega
     · unfold xGd at h1
       simp only [Bool.and_eq_true, decide_eq_true_eq] at h1
       exact h1.1
     · have h : (1 : Int) = 4 := h
       omega
theorem xMA : ∀ (n : Nat) (p : Int) (acc : List Tok) (s : Str), 0 ≤ p → p + s.length ≤ 120 → acc.length ≤ 60 → (∀ t ∈ acc, TokG t) → (∀ t ∈ (lexL n p acc s).1, TokG t) ∧ (lexL n p acc s).1.length ≤ 60 ∧ ((lexL n p acc s).2 = -1 ∨ (0 ≤ (lexL n p acc s).2 ∧ (lexL n p acc s).2 ≤ p + s.length)) := by
 intro n
 induction n with
 | zero => intro p acc s h1 h2 _ _; exact ⟨(fun t ht => by cases ht), by simp [lexL], .inr (by simp only [lexL]; omega)⟩
 | succ n ih =>
   intro p acc s h1 h2 h3 h4
   cases s with
   | nil => exact ⟨h4, h3, .inl rfl⟩
   | cons c l =>
     simp only [lexL]
     cases c.toNat == 32
     · simp only [jF]
       have hl : (c :: l).length ≤ 120 := by simp only [jC] at h2 ⊢; omega
       cases ho : xGN p (c :: l) with
       | none => exact ⟨(fun t ht => by cases ht), by simp, .inr (by simp only; omega)⟩
       | some z =>
         obtain ⟨t, r⟩ := z
         have hg := xMb (by omega) hl ho
         have hr := xIJ ho
         simp only
         cases h60 : acc.length == 60
         · have h60 : acc.length ≠ 60 := beq_eq_false_iff_ne.1 h60
           simp only [jF]
           have := ih (p + ((c :: l).length - r.length : Nat)) (acc ++ [t]) r (by omega) (by omega) (by simp only [jA, jC, jN]; omega) (fun x hx => by
            rcases List.mem_append.1 hx with hx | hx
            · exact h4 x hx
            · rw [List.mem_singleton.1 hx]; exact hg)
           refine ⟨this.1, this.2.1, ?_⟩
           rcases this.2.2 with h | ⟨ha, hb⟩
           · exact .inl h
           · exact .inr ⟨ha, by omega⟩
         · exact ⟨(fun t ht => by cases ht), by simp, .inr (by simp only [jT]; omega)⟩
     · simp only [jT]
       simp only [jC] at h2
       have := ih (p + 1) acc l (by omega) (by omega) h3 h4
       refine ⟨this.1, this.2.1, ?_⟩
       rcases this.2.2 with h | ⟨ha, hb⟩
       · exact .inl h
       · exact .inr ⟨ha, by simp only [jC]; omega⟩
theorem xN9 (s : Str) : (∀ t ∈ (lex s).1, TokG t) ∧ (lex s).1.length ≤ 60 ∧ ((lex s).2 = -1 ∨ (0 ≤ (lex s).2 ∧ (lex s).2 ≤ s.length)) := by
 unfold lex
 cases h : decide (s.length > 120)
 · have h := of_decide_eq_false h
   have := xMA (s.length + 1) 0 [] s (by omega) (by omega) (by simp) (fun t ht => by cases ht)
   refine ⟨this.1, this.2.1, ?_⟩
   rcases this.2.2 with h | ⟨ha, hb⟩
   · exact .inl h
   · exact .inr ⟨ha, by simp only [jF]; omega⟩
 · have h := of_decide_eq_true h
   exact ⟨(fun t ht => by cases ht), by simp, .inr (by simp only [jT]; omega)⟩
theorem xVQ : ∀ ts : List Tok, (∀ t ∈ ts, TokG t) → tw ts ≤ 123 * ts.length
 | [], _ => Nat.le_refl _
 | t :: r, h => by
   have h1 := (h t List.mem_cons_self).len
   have h2 := xVQ r fun x hx => h x (List.mem_cons_of_mem _ hx)
   rw [xIg, jC]; omega
theorem xVO {T : List Tok} (h : ∀ t ∈ T, TokG t) (hl : T.length ≤ 60) : TokT 10000 T where
 len := by omega
 fit := fun t ht => ⟨(h t ht).kind, (h t ht).n, by have := (h t ht).pos; unfold I64; omega, Nat.le_trans (h t ht).len (by omega)⟩
 tw := by have := xVQ T h; omega
theorem xVP {T : List Tok} (h : ∀ t ∈ T, TokG t) {L : Int} (hL : 0 ≤ L) : TokW T L where
 pos := fun t ht => (h t ht).pos.1
 fin := hL
 name := fun t ht => (h t ht).name
 sym := fun t ht => (h t ht).sym
def xKt (L : Int) (T : List Tok) : Exp × Int := match pE (T.length + 1) T with
 | .err ts => (e0, offT L ts)
 | .ok e [] => bif xGk e then (e, -1) else (e0, 0)
 | .ok e (t :: _) => (e0, t.pos)
def xIZ (s : Str) : Exp × Int := bif decide ((lex s).2 ≥ 0) then (e0, (lex s).2) else xKt s.length (lex s).1
theorem xLk {T : List Tok} (hT : TokT 10000 T) {e : Exp} {r : List Tok} (h : pE (T.length + 1) T = .ok e r) : e.Fit 10000 ∧ e.size ≤ 10000 := by
 obtain ⟨⟨h1, h2⟩, _⟩ := xD6 (K := 10000) (T.length + 1) T e r hT.fit hT.tw h
 have := hT.tw
 exact ⟨h2, by omega⟩
theorem xRs {T : List Tok} {t : Tok} {q : List Tok} (h : t :: q <:+ T) : T.length - (t :: q).length < T.length ∧ List.getD T (T.length - (t :: q).length) Ty.tok.dflt = t := by
 obtain ⟨pre, rfl⟩ := h
 have e : (pre ++ t :: q).length - (t :: q).length = pre.length := by rw [jA]; omega
 rw [e]
 exact ⟨by simp, by simp [List.getD]⟩
theorem xKL {N : Nat} {T : List Tok} {s : Str} (hT : TokT 10000 T) (hl : T.length ≤ 60) (hN : 20000 < N) (hv : ∀ e r, pE (T.length + 1) T = .ok e r → xCs N e = some (xGk e)) (ht : xEw N s = some (T, -1)) :
 xDp N s = some (xKt s.length T) := by
 have hs := xVL (N := N) hT (by omega) (by omega) (by omega) (T.length + 1) N (by omega) T (List.suffix_refl T) (by omega)
 have hx : xEK N (Psr.mk T 0 (-1)) = (xAb N N).c_impl_parser_expr (gp T T) := by
  unfold xEK gp
  rw [Nat.sub_self]; rfl
 unfold xDp xKt
 rw [ht, jS]
 simp only [show decide ((-1 : Int) ≥ 0) = false from rfl, jF, hx]
 cases hp : pE (T.length + 1) T with
 | err ts =>
   rw [hp] at hs
   obtain ⟨a, p, h1, h2, h3, h4⟩ := hs
   rw [h1, jS]
   have hnn : 0 ≤ p.bad := by rw [h3]; omega
   rw [decide_eq_false (by omega : ¬ p.bad < 0), jF]
   have hle := h4.length_le
   cases ts with
   | nil => rw [decide_eq_true (by rw [h3]; simp : p.bad ≥ (T.length : Int)), jT]; rfl
   | cons t q =>
     obtain ⟨g1, g2⟩ := xRs h4
     rw [decide_eq_false (by rw [h3]; omega), jF, decide_eq_true (by omega : p.bad ≥ 0), jT, if_pos (by rw [h3]; omega), h3, Int.toNat_natCast, g2]; rfl
 | ok e ts =>
   rw [hp] at hs
   obtain ⟨h1, h2⟩ := hs
   rw [h2, jS]
   rw [xMw, xKH, jT]
   cases ts with
   | nil =>
     have e1 : decide ((gp T []).pos < (T.length : Int)) = false := decide_eq_false (by simp [gp])
     rw [e1, jF, decide_eq_false (by omega : ¬ (-1 : Int) ≥ (T.length : Int)), jF]
     rw [show decide ((-1 : Int) ≥ 0) = false from rfl, jF, hv e [] hp, jS]
     show _ = some (bif xGk e then (e, -1) else (e0, 0))
     cases xGk e <;> rfl
   | cons t q =>
     obtain ⟨g1, g2⟩ := xRs h1
     have e1 : (gp T (t :: q)).pos = ((T.length - (t :: q).length : Nat) : Int) := rfl
     rw [e1, decide_eq_true (by omega), jT, decide_eq_false (by omega), jF, decide_eq_true (by omega), jT, if_pos (by omega), Int.toNat_natCast, g2]
theorem xLo {N : Nat} {T : List Tok} {s : Str} (hT : TokT 10000 T) (hW : TokW T s.length) (hl : T.length ≤ 60) (hN : 20000 < N) (hv : ∀ e r, pE (T.length + 1) T = .ok e r → xCv N e = some (xGk e)) (ht : xEy N s = some (T, -1)) :
 xDr N s = some (xKt s.length T) := by
 have hs := xUU (N := N) hW hT (by omega) (by omega) (by omega) (T.length + 1) N (by omega) T (List.suffix_refl T) (by omega)
 have hx : xF1 N (Rdr.mk T 0 (s.length : Int) (-1)) = (xAa N N).c_spec_l11Expr (gr T s.length T) := by
  unfold xF1 gr
  rw [Nat.sub_self]; rfl
 unfold xDr xKt
 rw [ht, jS]
 simp only [show decide ((-1 : Int) ≥ 0) = false from rfl, jF, hx]
 cases hp : pE (T.length + 1) T with
 | err ts =>
   rw [hp] at hs
   obtain ⟨a, p, h1, h2⟩ := hs
   rw [h1, jS]
   have hnn := h2.nn hW
   rw [decide_eq_false (by omega : ¬ p.bad < 0), jF, decide_eq_true (by omega : p.bad ≥ 0), jT, h2.2.2.1]
 | ok e ts =>
   rw [hp] at hs
   obtain ⟨h1, h2⟩ := hs
   rw [h2, jS]
   rw [xHC, xKH, jT]
   cases ts with
   | nil =>
     have e1 : decide ((gr T s.length []).i < (T.length : Int)) = false := decide_eq_false (by simp [gr])
     rw [e1, jF]
     rw [show decide ((-1 : Int) ≥ 0) = false from rfl, jF, hv e [] hp, jS]
     show _ = some (bif xGk e then (e, -1) else (e0, 0))
     cases xGk e <;> rfl
   | cons t q =>
     obtain ⟨g1, g2⟩ := xRs h1
     have e1 : (gr T s.length (t :: q)).i = ((T.length - (t :: q).length : Nat) : Int) := rfl
     obtain ⟨p, f1, f2⟩ := xHL (L := s.length) N h1
     have hnn := f2.nn hW
     rw [e1, decide_eq_true (by omega), jT, f1, jS, decide_eq_true (by omega : p.bad ≥ 0), jT, f2.2.2.1]; rfl
theorem xQ0 (s : Str) : Big fun N => xDp N s = some (xIZ s) ∧ xDr N s = some (xIZ s) := by
 obtain ⟨g1, g2, g3⟩ := xN9 s
 have hT := xVO g1 g2
 have hW := xVP g1 (L := s.length) (by omega)
 have hv : Big fun N => ∀ e r, pE ((lex s).1.length + 1) (lex s).1 = .ok e r → xCs N e = some (xGk e) ∧ xCv N e = some (xGk e) := by
  cases hp : pE ((lex s).1.length + 1) (lex s).1 with
  | err ts => exact Big.of fun N e r h => by cases h
  | ok e ts =>
    obtain ⟨h1, h2⟩ := xLk hT hp
    refine (xNT (K := 10000) (by omega) h1 (by omega)).imp fun N h e' r' he => ?_
    cases he
    exact h
 refine (hv.and (xLt 20000)).imp fun N ⟨h, hN⟩ => ?_
 have t1 := xIv (N := N) (by omega) s
 have t2 := xIz (N := N) (by omega) s
 unfold xIZ
 rcases g3 with g3 | ⟨g3, g4⟩
 · have e : lex s = ((lex s).1, -1) := by rw [← g3]
   rw [e] at t1 t2
   rw [g3]
   simp only [show decide ((-1 : Int) ≥ 0) = false from rfl, jF]
   exact ⟨xKL hT g2 hN (fun e r he => (h e r he).1) t1, xLo hT hW g2 hN (fun e r he => (h e r he).2) t2⟩
 · unfold xDp xDr
   rw [t1, t2]
   simp only [jS, decide_eq_true g3, jT]
   exact ⟨trivial, trivial⟩
theorem xHF {N : Nat} {s : Str} (h : xDp N s = some (xIZ s)) : xEk N s = some (decide ((xIZ s).2 ≥ 0)) := by
 unfold xEk; rw [h]; rfl
theorem xHO {N : Nat} {s : Str} (h : xDr N s = some (xIZ s)) : xEq N s = some (decide ((xIZ s).2 ≥ 0)) := by
 unfold xEq; rw [h]; rfl
theorem xFK (a0 : Str) (f0 : ∀ z ∈ [CV.str a0], DFit z.toD) : ∃ N, xDE N a0 = some true := by
 refine (xQ0 a0).imp (fun N ⟨h1, h2⟩ => ?_) |>.get
 simp only [xDE, xHF h1, xHO h2, jS, beq_self_eq_true, Bool.not_true, jF]
 cases decide (((a0.length : Int) : Int) > 1048576) <;> rfl
end Go.Ab
end
section
namespace Go.Proofs.YthbobcapimmnhaaGreatDoor
open Go.Ab Go.ChangeShapes Go.WideShapes Go.ChangeAt Go.RowKit
theorem own : ownKnob Tryz.prog.godebug = none := by kernel_rfl
theorem xRt : laidOutB Tryz.prog = true := by kernel_rfl
theorem xGJ : zGk Tryz.prog [] = true := by kernel_rfl
theorem fnExactParseError_tab {W : World} (h : laidMetH Tryz.prog Rows.fnExactParseErrorRow.laid W) : Go.Lib.TabIs Tryz.prog W Go.Ab.T.p10 .u64 Go.Lib.pow10Tab := by
 rw [MakeChecks.laidMetH_plain _ _ _ (by kernel_rfl)] at h
 exact Go.Lib.tabIs_of_head (g := 3) (t := 137) (e := 123) (n := 20) (by kernel_rfl) (by kernel_rfl) Tryz.underlying137 Tryz.underlying123 (by kernel_rfl) (by kernel_rfl) h.tail.tail
theorem fnExactParseError_ev {W : World} (h : laidMetH Tryz.prog Rows.fnExactParseErrorRow.laid W) : (∃ t1 p1, W.var? Tryz.prog "strconv.ErrSyntax" = some #[.iface t1 p1]) ∧ ∃ t2 p2, W.var? Tryz.prog "strconv.ErrRange" = some #[.iface t2 p2] := by
 rw [MakeChecks.laidMetH_plain _ _ _ (by kernel_rfl)] at h
 have star : "*" ++ "errors.errorString" = "*errors.errorString" := by decide
 have row : ∀ u, Tryz.prog.typeName? 3 u = some "*errors.errorString" → u = 146 := fun u hu => typeName_ptr_named (nm := "errors.errorString") (by rw [star]; kernel_rfl) (by kernel_rfl) (by decide) u (by rw [star]; exact hu)
 obtain ⟨a_hs, _, hs, _⟩ := laid_sentinel (g := 1) (ti := 99) (tp := 146) (te := 148) (ts := 9) h.tail.tail.tail.tail (by kernel_rfl) (by kernel_rfl) Tryz.underlying99 row Tryz.underlying146 Tryz.underlying148 rfl rfl Tryz.underlying9 (by kernel_rfl) (by kernel_rfl)
 obtain ⟨a_hr, _, hr, _⟩ := laid_sentinel (g := 2) (ti := 99) (tp := 146) (te := 148) (ts := 9) h.tail.tail.tail (by kernel_rfl) (by kernel_rfl) Tryz.underlying99 row Tryz.underlying146 Tryz.underlying148 rfl rfl Tryz.underlying9 (by kernel_rfl) (by kernel_rfl)
 exact ⟨⟨_, _, hs⟩, _, _, hr⟩
set_option maxRecDepth 100000 in
theorem fnExactParseError_lifted (os : Os) (started : os.Started) (H : Type) (enc : TypeId × Value → H) :
 ReturnsInHanded {} Tryz.checked os 3 .any (fun w args => (Rows.fnExactParseErrorSpec.pre enc Tryz.prog Tryz.f3 Rows.fnExactParseErrorRow.domain false w args ∧ laidMetH Tryz.prog Rows.fnExactParseErrorRow.laid w) ∧ sizedMet enc Tryz.prog Tryz.f3 (OpenSpec.ofChange Rows.fnExactParseErrorSpec) false w args)
  (Rows.fnExactParseErrorSpec.post enc Tryz.prog Tryz.f3 false true false false) := by
 refine returnsInHanded_of_change_and (C := Tryz.checked) (X := fun w _ => laidMetH Tryz.prog Rows.fnExactParseErrorRow.laid w) (fun _ _ _ hh h => h.of_heap hh) own started (by kernel_rfl) Tryz.func3
  (ChangeSpec.witness_shaped (enc := enc) (C := Tryz.checked) (os := os) (X := fun w _ => laidMetH Tryz.prog Rows.fnExactParseErrorRow.laid w) false (World.laidAll Tryz.prog os Rows.fnExactParseErrorRow.laid) #[.string ByteArray.empty] 8 (World.laidAll_os _ _ _)
    (World.shaped_of_ZipB (by kernel_rfl) (by kernel_rfl)) (by kernel_rfl) (by kernel_rfl) (by kernel_rfl)
    (by rw [MakeChecks.laidMetH_plain _ _ _ (by kernel_rfl)]; exact laidMet_laidAll _ (by kernel_rfl) (by kernel_rfl))) ?_
 intro W base args ds gs before hval0 hW hcnd _ hL _
 obtain ⟨g0, o0, hgo, hall⟩ := xU1 (fnExactParseError_tab hL)
 obtain ⟨⟨u1, u2, hv1⟩, u3, u4, hv2⟩ := fnExactParseError_ev hL
 obtain ⟨g3, o3, hgo3, hall3⟩ := xNU hv1
 obtain ⟨g4, o4, hgo4, hall4⟩ := xNU hv2
 letI : Inhabited Lb := ⟨⟨[(g0, o0), (g3, o3), (g4, o4)]⟩⟩
 haveI : Nonempty T.Tab10 := ⟨fun w hw => hall w (hw (g0, o0) List.mem_cons_self)⟩
 haveI : Nonempty T.ErrVars := ⟨fun w hw => ⟨⟨u1, u2, hall3 w (hw (g3, o3) (List.mem_cons_of_mem _ List.mem_cons_self))⟩, u3, u4, hall4 w (hw (g4, o4) (List.mem_cons_of_mem _ (List.mem_cons_of_mem _ List.mem_cons_self)))⟩⟩
 have hlb : ∀ x ∈ zDP, W.heap[x.1]? = some x.2 := fun x hx => by
  have hx : x ∈ [(g0, o0), (g3, o3), (g4, o4)] := hx
  simp only [List.mem_cons, List.not_mem_nil, or_false] at hx
  rcases hx with rfl | rfl | rfl <;> first | exact hgo | exact hgo3 | exact hgo4
 have hval : ∀ (j : Nat) t v, Tryz.f3.params[j]? = some t → args[j]? = some v → Value.okWide Tryz.prog W .any base t v := hval0
 have hW' := hW
 obtain ⟨p, q, hA0, hV, rfl, hfz, hnd⟩ := hW
 have hA : DataW.TrodAll enc Tryz.prog W 0 (fun _ => true) true Tryz.f3.params.toList args.toList ds p := hA0
 rw [Tryz.params3] at hA hval
 obtain ⟨v0, vs0, d0, ds0, p0, q0, hargs, rfl, rfl, h0, r0⟩ := trodAll_cons hA
 obtain ⟨rfl, rfl, rfl⟩ := trodAll_nil r0
 obtain rfl : args = #[v0] := by cases args; simp_all
 obtain ⟨rfl, rfl⟩ := trodVars_none hV
 have lt0 : ∀ x ∈ p0, x.block < W.heap.size := by obtain ⟨m, hm⟩ := h0; exact DataW.trod_lt m _ _ _ hm
 obtain ⟨z0, e0, f0, vr0⟩ := vr_of xGJ (g := false) (t := 9) (ns := [.inl .str]) (by kernel_rfl) (hval 0 9 v0 rfl rfl) h0
 obtain ⟨x0_0, _, rfl, e0_0⟩ := AreOf.str_inv e0
 obtain rfl := e0_0.nil_inv
 obtain ⟨N, hF⟩ := xFK x0_0 f0
 clear hA0 hval0
 refine (zIb T.fk3 (T.laws_FnExactParseError_ok hF) (W := W) (args := #[v0]) ⟨vr0 _, trivial⟩ hlb).mono fun e W' ⟨he, bel⟩ => ?_
 subst he
 exact ⟨_, rfl, _, _, _, [], _, [], hW', trodAll_mk1 (shut_bool Tryz.underlying4 _), (trodAll_cons_mk (Below.trod xRt (by kernel_rfl) (of_decide_eq_true (by kernel_rfl)) h0 bel lt0) trodAll_mk0), rfl, bel.frame _, fun h => by cases h⟩
theorem fnExactParseError_proved : Rows.FnExactParseErrorSaid :=
 OpenClaim.holds_of_wide 3 Tryz.f3 rfl rfl rfl rfl rfl rfl rfl ⟨rfl, rfl, rfl, rfl, rfl⟩ rfl rfl rfl rfl rfl (by kernel_rfl) Tryz.func3 (by kernel_rfl)
  (of_decide_eq_true (by kernel_rfl)) (by unfold Func.isWrapper; first | (rw [if_pos (by decide +kernel)]; kernel_rfl) | (rw [if_neg (by decide +kernel)]; exact ⟨rfl, rfl⟩))
  (fun os started H enc _ => fnExactParseError_lifted os started H enc)
theorem fnExactParseError_card : Rows.FnExactParseErrorCardSaid :=
 Claim7.holds_tied_plain_at .later [] Rows.fnExactParseErrorCard.laidKinds true Rows.fnExactParseErrorCard.stood.harness Rows.fnExactParseErrorCard.stood.looks fnExactParseError_proved (fun _ h => by cases h) (by kernel_rfl) (fun _ h => by cases h) fnExactParseError_row_tie rfl ⟨rfl, rfl⟩ (by kernel_rfl) rfl
  (fun f fn hf hfn => by
    obtain rfl : f = 3 := Option.some.inj ((show Tryz.prog.funcNamed Rows.fnExactParseErrorRow.func = some 3 by kernel_rfl).symm.trans hf) |>.symm
    obtain rfl : fn = Tryz.f3 := (Option.some.inj (Tryz.func3.symm.trans hfn)).symm
    exact ⟨by kernel_rfl, fun j t ht => by
     rw [Tryz.params3] at ht
     have hm : t ∈ [9] := by simpa using Array.mem_of_getElem? ht
     have hall : ([9].all fun u => !Tryz.prog.wantsStandIn u) = true := by kernel_rfl
     exact (show Tryz.prog.wantsStandIn t = false by simpa using List.all_eq_true.1 hall t hm)⟩)
  (by kernel_rfl)
end Go.Proofs.YthbobcapimmnhaaGreatDoor
end
