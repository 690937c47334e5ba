/- The statement FnFree holds: plain functions, certificates, laws. Conditions: none. -/
import Derived.Test.YtkfoneofdidhkaaL2
import Derived.Test.YtkfoneofdidhkaaFnFreeP0
set_option linter.all false
section
open Go.Proofs
namespace Go.Ab.T
set_option maxRecDepth 100000
variable [Inhabited Lb]
noncomputable def I76 : Info := { body := (Try.f76.body).getD .skip, nt := 120, results := [.tmp 2], keep := [0, 2, 4, 6, 16, 18, 46, 74, 102, 130, 154, 182, 212, 3], live := [], modes := [(4, [(3, .take, false), (8, .take, false)]), (6, [(3, .take, false), (8, .take, false)]), (8, [(3, .take, false), (8, .take, false)]), (10, [(3, .take, false), (8, .take, false)]), (12, [(3, .take, false)]), (14, [(3, .take, false), (8, .take, false)]), (17, [(3, .take, false), (8, .take, false)]), (19, [(3, .take, false), (8, .take, false)])] }
theorem fk76 : FnOk Try.prog 76 Try.f76 I76 := ⟨Try.func76, by kernel_rfl, by kernel_rfl, by kernel_rfl, by kernel_rfl⟩
abbrev xMT (v0 : Exp) (v1 : Bool) : Prop := AbC 77 (xCZ (Exp.n v0) 0 1000000000) (xBv v1)
abbrev xLB (v0 : Exp) := xAV ((Ln (Exp.args v0) : Int) == 0)
def xRF (a0 : Exp) (r1 : Bool) : rE I76 (xAL a0) [Y, Y, Y] [xBv r1] = dn (xLB a0) [xJO a0, xMT a0 r1, iY r1, xII a0] := by kernel_rfl
def xRG (a0 : Exp) (r1 : Bool) : rE I76 (xAL a0) [Y, Y, F] [xBv r1] = dn (xAV false) [xJO a0, xMT a0 r1, iY r1, xI2 a0] := by kernel_rfl
def xRH (a0 : Exp) (r1 : Bool) : rE I76 (xAL a0) [Y, F, F] [xBv r1] = dn (xAV false) [xJO a0, xMT a0 r1, iN r1, iN false] := by kernel_rfl
def xRI (a0 : Exp) (r1 : Bool) : rE I76 (xAL a0) [F, Y, Y, Y] [xBs r1] = dn (xLB a0) [xB4 a0, xJQ a0, xEU a0, AbC 89 (xDK (Exp.text a0)) (xBs r1), iY r1] := by kernel_rfl
def xRJ (a0 : Exp) (r1 : Bool) : rE I76 (xAL a0) [F, Y, Y, F] [xBs r1] = dn (xAV false) [xB4 a0, xJQ a0, xEU a0, AbC 89 (xDK (Exp.text a0)) (xBs r1), iN r1] := by kernel_rfl
def xRK (a0 : Exp) : rE I76 (xAL a0) [F, Y, F, F] [] = dn (xAV false) [xB4 a0, xJQ a0, xG0 a0, iN false] := by kernel_rfl
abbrev xJV (v0 : Exp) (v1 : Bool) : Prop := AbC 41 (xCP (Exp.text v0)) (xAR v1)
def xRL (a0 : Exp) (r1 : Bool) : rE I76 (xAL a0) [F, F, Y, Y, Y] [xAR r1] = dn (xLB a0) [xB4 a0, xCs a0, xFv a0, xEU a0, xJV a0 r1, iY r1] := by kernel_rfl
def xRM (a0 : Exp) (r1 : Bool) : rE I76 (xAL a0) [F, F, Y, Y, F] [xAR r1] = dn (xAV false) [xB4 a0, xCs a0, xFv a0, xEU a0, xJV a0 r1, iN r1] := by kernel_rfl
def xRN (a0 : Exp) : rE I76 (xAL a0) [F, F, Y, F, F] [] = dn (xAV false) [xB4 a0, xCs a0, xFv a0, xG0 a0, iN false] := by kernel_rfl
def xRO (a0 : Exp) : rE I76 (xAL a0) [F, F, F, Y, Y, Y] [] = dn (xAV (dc ((xEe a0) ≤ 8))) [xB4 a0, xCs a0, xBV a0, xJR a0, xEU a0, xII a0] := by kernel_rfl
def xNK (a0 : Exp) : rE I76 (xAL a0) [F, F, F, Y, Y, F] [] = dn (xAV false) [xB4 a0, xCs a0, xBV a0, xJR a0, xEU a0, xI2 a0] := by kernel_rfl
def xNL (a0 : Exp) : rE I76 (xAL a0) [F, F, F, Y, F, F] [] = dn (xAV false) [xB4 a0, xCs a0, xBV a0, xJR a0, xG0 a0, iN false] := by kernel_rfl
def xNM (a0 : Exp) (r1 : Int) : rE I76 (xAL a0) [F, F, F, F, Y, Y] [xAv r1] = dn (xAV ((xEe a0) == r1)) [xB4 a0, xCs a0, xBV a0, xDY a0, xLZ a0, xEU a0, AbC 78 (xAD (Exp.text a0)) (xAv r1)] := by kernel_rfl
def xNN (a0 : Exp) : rE I76 (xAL a0) [F, F, F, F, Y, F] [] = dn (xAV false) [xB4 a0, xCs a0, xBV a0, xDY a0, xLZ a0, xG0 a0] := by kernel_rfl
abbrev xLC (v0 : Exp) := xAV ((Ln (Exp.args v0) : Int) == 2)
def xNO (a0 : Exp) (r1 : Bool) : rE I76 (xAL a0) [F, F, F, F, F, Y, Y, Y] [xBv r1] = dn (xLC a0) [xB4 a0, xCs a0, xBV a0, xDY a0, xEB a0, xJS a0, AbC 77 (xCZ (Exp.n a0) 1 5) (xBv r1), iY r1, xII a0] := by kernel_rfl
def xNP (a0 : Exp) (r1 : Bool) : rE I76 (xAL a0) [F, F, F, F, F, Y, Y, F] [xBv r1] = dn (xAV false) [xB4 a0, xCs a0, xBV a0, xDY a0, xEB a0, xJS a0, AbC 77 (xCZ (Exp.n a0) 1 5) (xBv r1), iY r1, xI2 a0] := by kernel_rfl
def xNQ (a0 : Exp) (r1 : Bool) : rE I76 (xAL a0) [F, F, F, F, F, Y, F, F] [xBv r1] = dn (xAV false) [xB4 a0, xCs a0, xBV a0, xDY a0, xEB a0, xJS a0, AbC 77 (xCZ (Exp.n a0) 1 5) (xBv r1), iN r1, iN false] := by kernel_rfl
def xNR (a0 : Exp) (r1 : Bool) : rE I76 (xAL a0) [F, F, F, F, F, F, Y, Y, Y, Y] [xAR r1] = dn (xLC a0) [xB4 a0, xCs a0, xBV a0, xDY a0, xEB a0, xFK a0, xGA a0, xGA a0, xEU a0, xJV a0 r1, iY r1] := by kernel_rfl
def xNS (a0 : Exp) (r1 : Bool) : rE I76 (xAL a0) [F, F, F, F, F, F, Y, Y, Y, F] [xAR r1] = dn (xAV false) [xB4 a0, xCs a0, xBV a0, xDY a0, xEB a0, xFK a0, xGA a0, xGA a0, xEU a0, xJV a0 r1, iN r1] := by kernel_rfl
def xNT (a0 : Exp) : rE I76 (xAL a0) [F, F, F, F, F, F, Y, Y, F, F] [] = dn (xAV false) [xB4 a0, xCs a0, xBV a0, xDY a0, xEB a0, xFK a0, xGA a0, xGA a0, xG0 a0, iN false] := by kernel_rfl
def xNU (a0 : Exp) (r1 : Bool) : rE I76 (xAL a0) [F, F, F, F, F, F, F, Y, Y, Y] [xAR r1] = dn (xLC a0) [xB4 a0, xCs a0, xBV a0, xDY a0, xEB a0, xFK a0, xCz a0, xFW a0, xEU a0, xJV a0 r1, iY r1] := by kernel_rfl
def xNV (a0 : Exp) (r1 : Bool) : rE I76 (xAL a0) [F, F, F, F, F, F, F, Y, Y, F] [xAR r1] = dn (xAV false) [xB4 a0, xCs a0, xBV a0, xDY a0, xEB a0, xFK a0, xCz a0, xFW a0, xEU a0, xJV a0 r1, iN r1] := by kernel_rfl
def xNW (a0 : Exp) : rE I76 (xAL a0) [F, F, F, F, F, F, F, Y, F, F] [] = dn (xAV false) [xB4 a0, xCs a0, xBV a0, xDY a0, xEB a0, xFK a0, xCz a0, xFW a0, xG0 a0, iN false] := by kernel_rfl
def xNX (a0 : Exp) : rE I76 (xAL a0) [F, F, F, F, F, F, F, F, Y, Y, Y] [] = dn (xAV ((xEe a0) == 3)) [xB4 a0, xCs a0, xBV a0, xDY a0, xEB a0, xFK a0, xCz a0, xFn a0, xJT a0, xEU a0, xII a0] := by kernel_rfl
def xNY (a0 : Exp) : rE I76 (xAL a0) [F, F, F, F, F, F, F, F, Y, Y, F] [] = dn (xAV false) [xB4 a0, xCs a0, xBV a0, xDY a0, xEB a0, xFK a0, xCz a0, xFn a0, xJT a0, xEU a0, xI2 a0] := by kernel_rfl
def xNZ (a0 : Exp) : rE I76 (xAL a0) [F, F, F, F, F, F, F, F, Y, F, F] [] = dn (xAV false) [xB4 a0, xCs a0, xBV a0, xDY a0, xEB a0, xFK a0, xCz a0, xFn a0, xJT a0, xG0 a0, iN false] := by kernel_rfl
def xN0 (a0 : Exp) : rE I76 (xAL a0) [F, F, F, F, F, F, F, F, F] [] = dn (xAV false) [xB4 a0, xCs a0, xBV a0, xDY a0, xEB a0, xFK a0, xCz a0, xFn a0, iN ((Exp.kind a0) == 8)] := by kernel_rfl
theorem xUZ {N : Nat} : ∀ a0 r, xGL N a0 = some r → RE Try.f76 I76 (xAL a0) (xAV r) := fun a0 r h =>
 cE h (fun h0 h => bE h fun r1 h1 h => cE h (fun h2 h => cE h (fun h3 h => dE h fk76 (xRF a0 r1) (oc4 h0 (xEd h1) h2 h3 on)) fun h3 h =>
 dE h fk76 (xRG a0 r1) (oc4 h0 (xEd h1) h2 h3 on)) fun h2 h =>
 dE h fk76 (xRH a0 r1) (oc4 h0 (xEd h1) h2 rfl on)) fun h0 h =>
 cE h (fun h1 h => cE h (fun h2 h => bE h fun r1 h3 h => cE h (fun h4 h => dE h fk76 (xRI a0 r1) (oc5 h0 h1 h2 (xGK h3) h4 on)) fun h4 h =>
 dE h fk76 (xRJ a0 r1) (oc5 h0 h1 h2 (xGK h3) h4 on)) fun h2 h =>
 dE h fk76 (xRK a0) (oc4 h0 h1 h2 rfl on)) fun h1 h =>
 cE h (fun h2 h => cE h (fun h3 h => bE h fun r1 h4 h => cE h (fun h5 h => dE h fk76 (xRL a0 r1) (oc6 h0 h1 h2 h3 (xBc h4) h5 on)) fun h5 h =>
 dE h fk76 (xRM a0 r1) (oc6 h0 h1 h2 h3 (xBc h4) h5 on)) fun h3 h =>
 dE h fk76 (xRN a0) (oc5 h0 h1 h2 h3 rfl on)) fun h2 h =>
 cE h (fun h3 h => cE h (fun h4 h => cE h (fun h5 h => dE h fk76 (xRO a0) (oc6 h0 h1 h2 h3 h4 h5 on)) fun h5 h =>
 dE h fk76 (xNK a0) (oc6 h0 h1 h2 h3 h4 h5 on)) fun h4 h =>
 dE h fk76 (xNL a0) (oc6 h0 h1 h2 h3 h4 rfl on)) fun h3 h =>
 cE h (fun h4 h => cE h (fun h5 h => bE h fun r1 h6 h => dE h fk76 (xNM a0 r1) (oc7 h0 h1 h2 h3 h4 h5 (xGk h6) on)) fun h5 h =>
 dE h fk76 (xNN a0) (oc6 h0 h1 h2 h3 h4 h5 on)) fun h4 h =>
 cE h (fun h5 h => bE h fun r1 h6 h => cE h (fun h7 h => cE h (fun h8 h => dE h fk76 (xNO a0 r1) (oc9 h0 h1 h2 h3 h4 h5 (xEd h6) h7 h8 on)) fun h8 h =>
 dE h fk76 (xNP a0 r1) (oc9 h0 h1 h2 h3 h4 h5 (xEd h6) h7 h8 on)) fun h7 h =>
 dE h fk76 (xNQ a0 r1) (oc9 h0 h1 h2 h3 h4 h5 (xEd h6) h7 rfl on)) fun h5 h =>
 cE h (fun h6 h => cE h (fun h8 h => bE h fun r1 h9 h => cE h (fun h10 h => dE h fk76 (xNR a0 r1) (oc11 h0 h1 h2 h3 h4 h5 h6 h6 h8 (xBc h9) h10 on)) fun h10 h =>
 dE h fk76 (xNS a0 r1) (oc11 h0 h1 h2 h3 h4 h5 h6 h6 h8 (xBc h9) h10 on)) fun h8 h =>
 dE h fk76 (xNT a0) (oc10 h0 h1 h2 h3 h4 h5 h6 h6 h8 rfl on)) fun h6 h =>
 cE h (fun h7 h => cE h (fun h8 h => bE h fun r1 h9 h => cE h (fun h10 h => dE h fk76 (xNU a0 r1) (oc11 h0 h1 h2 h3 h4 h5 h6 h7 h8 (xBc h9) h10 on)) fun h10 h =>
 dE h fk76 (xNV a0 r1) (oc11 h0 h1 h2 h3 h4 h5 h6 h7 h8 (xBc h9) h10 on)) fun h8 h =>
 dE h fk76 (xNW a0) (oc10 h0 h1 h2 h3 h4 h5 h6 h7 h8 rfl on)) fun h7 h =>
 cE h (fun h8 h => cE h (fun h9 h => cE h (fun h10 h => dE h fk76 (xNX a0) (oc11 h0 h1 h2 h3 h4 h5 h6 h7 h8 h9 h10 on)) fun h10 h =>
 dE h fk76 (xNY a0) (oc11 h0 h1 h2 h3 h4 h5 h6 h7 h8 h9 h10 on)) fun h9 h =>
 dE h fk76 (xNZ a0) (oc11 h0 h1 h2 h3 h4 h5 h6 h7 h8 h9 rfl on)) fun h8 h =>
 dE h fk76 (xN0 a0) (oc9 h0 h1 h2 h3 h4 h5 h6 h7 h8 on)
theorem xJF {N : Nat} {a0 : Exp} {r : Bool} (h : xGL N  a0 = some r) : AbC 76 (xAL a0) (xAV r) :=
 AbsCalls.of_reach fk76 rfl rfl rfl (Nat.le_of_ble_eq_true rfl) (xUZ a0 r h)
def G63 (q : Exp → Option (Bool)) : Prop := ∀ a0 r, q a0 = some r → AbC 63 (xCM a0) (xBy r)
noncomputable def I63 : Info := { body := (Try.f63.body).getD .skip, nt := 18, results := [.tmp 2], keep := [0, 2, 4, 8, 12, 14, 16, 18, 28, 3, 9], live := [(2, [2, 12, 14, 16, 3])], modes := [(6, [(1, .take, false)])] }
theorem fk63 : FnOk Try.prog 63 Try.f63 I63 := ⟨Try.func63, by kernel_rfl, by kernel_rfl, by kernel_rfl, by kernel_rfl⟩
def xMd (x6 : List Exp) (x7 x8 : Int) (b1 : Exp) : St := [(2, .v false [.ptr 1 0]), (12, .v false [.sl .ro .exp x6]), (14, .v false [.int .i64 x7]), (16, .v false [.int .i64 x8]), (3, .v true [.int .i64 (Exp.kind b1), .int .i64 (Exp.n b1), .str (Exp.text b1), .sl .ro .exp (Exp.args b1)])]
def xQP (x6 : List Exp) (x7 x8 : Int) (b1 : Exp) (r1 : Bool) : rS 2 I63 (xMd x6 x7 x8 b1) [Y, Y] [xBy r1] = dn (xBy false) [xES x8 x7, xGo x8 x6, AbC 63 (xCM (xE3 x6 x8)) (xBy r1), iY (!r1)] := by kernel_rfl
def xQQ (x6 : List Exp) (x7 x8 : Int) (b1 : Exp) (r1 : Bool) : rS 2 I63 (xMd x6 x7 x8 b1) [Y, F] [xBy r1] = st 2 I63 (xMd x6 x7 (W (x8 + 1)) b1) [xES x8 x7, xGo x8 x6, AbC 63 (xCM (xE3 x6 x8)) (xBy r1), xAW r1] := by kernel_rfl
def xQR (x6 : List Exp) (x7 x8 : Int) (b1 : Exp) (r1 : Bool) : rS 2 I63 (xMd x6 x7 x8 b1) [F] [xAV r1] = dn (xBy r1) [xHy x8 x7, AbC 76 (xAL b1) (xAV r1)] := by kernel_rfl
def xQS (a0 : Exp) : rE I63 (xCM a0) [] [] = st 2 I63 (xMd (Exp.args a0) (xEe a0) 0 a0) [] := by kernel_rfl
theorem xUJ {N q0} (g0 : G63 q0) : ∀ n x6 x7 x8 b1 r, xDi N q0 n x6 x7 x8 b1 = some r → RS Try.f63 I63 2 (xMd x6 x7 x8 b1) (xBy r) := by
 intro n
 induction n with
 | zero => exact fun _ _ _ _ _ h => nE h
 | succ n ih =>
  exact fun x6 x7 x8 b1 r h =>
   cE h (fun h0 h => iE h fun h1 h => bE h fun r1 h2 h => cE h (fun h3 h => dS h fk63 (xQP x6 x7 x8 b1 r1) (oc4 h0 h1 (g0 _ _ h2) h3 on)) fun h3 h =>
   tS fk63 (xQQ x6 x7 x8 b1 r1) (oc4 h0 h1 (g0 _ _ h2) h3 on) (ih _ _ _ _ _ h)) fun h0 h =>
   bE h fun r1 h1 h => dS h fk63 (xQR x6 x7 x8 b1 r1) (oc2 h0 (xJF h1) on)
theorem xUK {N q0} (g0 : G63 q0) : ∀ a0 r, xFS N q0 a0 = some r → RE Try.f63 I63 (xCM a0) (xBy r) := fun a0 r h =>
 tE fk63 (xQS a0) on (xUJ g0 _ _ _ _ _ _ h)
theorem xHM {N q0} (g0 : G63 q0) {a0} {r} (h : xFS N q0 a0 = some r) : AbC 63 (xCM a0) (xBy r) :=
 AbsCalls.of_reach fk63 rfl rfl rfl (Nat.le_of_ble_eq_true rfl) (xUK g0 a0 r h)
theorem xGE {N : Nat} : ∀ d, G63 (xEl N d)
 | 0 => fun _ _ h => nE h
 | d + 1 => fun _ _ h => xHM (N := N) (xGE d) h
theorem xI4 {N : Nat} {a0 : Exp} {r : Bool} (h : xHs N a0 = some r) : AbC 63 (xCM a0) (xBy r) := xGE N _ r h
noncomputable def I40 : Info := { body := (Try.f40.body).getD .skip, nt := 15, results := [.tmp 2], keep := [0, 2, 4, 3], live := [], modes := [(1, [(3, .take, false), (8, .take, false)])] }
theorem fk40 : FnOk Try.prog 40 Try.f40 I40 := ⟨Try.func40, by kernel_rfl, by kernel_rfl, by kernel_rfl, by kernel_rfl⟩
def xPC (a0 : Exp) (r1 r2 : Int) (r3 : Bool) : rE I40 (xBD a0) [Y, Y] [xBi r1, xBx r2, xBy r3] = dn (xA3 r3) [AbC 61 (xCc a0) (xBi r1), iY (dc (r1 ≤ 40)), AbC 62 (xCv a0) (xBx r2), iY (dc (r2 ≤ 8)), AbC 63 (xCM a0) (xBy r3)] := by kernel_rfl
def xPD (a0 : Exp) (r1 r2 : Int) : rE I40 (xBD a0) [Y, F] [xBi r1, xBx r2] = dn (xA3 false) [AbC 61 (xCc a0) (xBi r1), iY (dc (r1 ≤ 40)), AbC 62 (xCv a0) (xBx r2), iN (dc (r2 ≤ 8))] := by kernel_rfl
def xPE (a0 : Exp) (r1 : Int) : rE I40 (xBD a0) [F, F] [xBi r1] = dn (xA3 false) [AbC 61 (xCc a0) (xBi r1), iN (dc (r1 ≤ 40)), iN false] := by kernel_rfl
theorem xUg {N : Nat} : ∀ a0 r, xEJ N a0 = some r → RE Try.f40 I40 (xBD a0) (xA3 r) := fun a0 r h =>
 bE h fun r1 h0 h => cE h (fun h1 h => bE h fun r2 h2 h => cE h (fun h3 h => bE h fun r3 h4 h => dE h fk40 (xPC a0 r1 r2 r3) (oc5 (xF9 h0) h1 (xHg h2) h3 (xI4 h4) on)) fun h3 h =>
 dE h fk40 (xPD a0 r1 r2) (oc4 (xF9 h0) h1 (xHg h2) h3 on)) fun h1 h =>
 dE h fk40 (xPE a0 r1) (oc3 (xF9 h0) h1 rfl on)
theorem xDJ {N : Nat} {a0 : Exp} {r : Bool} (h : xEJ N  a0 = some r) : AbC 40 (xBD a0) (xA3 r) :=
 AbsCalls.of_reach fk40 rfl rfl rfl (Nat.le_of_ble_eq_true rfl) (xUg a0 r h)
def G66 (q : Exp → Option (Exp)) : Prop := ∀ a0 r, q a0 = some r → AbC 66 (xDj a0) (xB9 r)
noncomputable def I66 : Info := { body := (Try.f66.body).getD .skip, nt := 29, results := [.cell 2 29], keep := [0, 2, 4, 6, 10, 28, 30, 32, 34, 3, 5, 7, 11], live := [(3, [4, 6, 28, 30, 32, 5, 7])], modes := [(5, [(1, .take, false), (5, .take, false)]), (6, [(1, .take, false)]), (7, [(0, .take, false)])] }
theorem fk66 : FnOk Try.prog 66 Try.f66 I66 := ⟨Try.func66, by kernel_rfl, by kernel_rfl, by kernel_rfl, by kernel_rfl⟩
def xMs (x14 : List Exp) (x15 x16 : Int) (b2 b3 : Exp) : St := [(4, .v false [.ptr 2 0]), (6, .v false [.ptr 3 0]), (28, .v false [.sl .ro .exp x14]), (30, .v false [.int .i64 x15]), (32, .v false [.int .i64 x16]), (5, .v true [.int .i64 (Exp.kind b2), .int .i64 (Exp.n b2), .str (Exp.text b2), .sl .own .exp (Exp.args b2)]), (7, .v true [.int .i64 (Exp.kind b3), .int .i64 (Exp.n b3), .str (Exp.text b3), .sl .own .exp (Exp.args b3)])]
def xRb (x14 : List Exp) (x15 x16 : Int) (b2 b3 r1 : Exp) : rS 3 I66 (xMs x14 x15 x16 b2 b3) [Y] [xB9 r1] = st 3 I66 (xMs x14 x15 (W (x16 + 1)) b2 (Exp.mk (Exp.kind b3) (Exp.n b3) (Exp.text b3) ((Exp.args b3) ++ [(Exp.re r1)]))) [xES x16 x15, xGo x16 x14, AbC 66 (xDj (xE3 x14 x16)) (xB9 r1), xG1 b3 r1] := by kernel_rfl
def xRc (x14 : List Exp) (x15 x16 : Int) (b2 b3 : Exp) : rS 3 I66 (xMs x14 x15 x16 b2 b3) [F] [] = dn (xB9 b3) [xHy x16 x15] := by kernel_rfl
def xRd (a0 : Exp) : rE I66 (xDj a0) [] [] = st 3 I66 (xMs (Exp.args a0) (xEe a0) 0 (Exp.mk 0 0 [] []) (xKa a0)) [] := by kernel_rfl
theorem xUO {N q0} (g0 : G66 q0) : ∀ n x14 x15 x16 b2 b3 r, xDZ N q0 n x14 x15 x16 b2 b3 = some r → RS Try.f66 I66 3 (xMs x14 x15 x16 b2 b3) (xB9 r) := by
 intro n
 induction n with
 | zero => exact fun _ _ _ _ _ _ h => nE h
 | succ n ih =>
  exact fun x14 x15 x16 b2 b3 r h =>
   cE h (fun h0 h => iE h fun h1 h => bE h fun r1 h2 h => iE h fun h3 h => tS fk66 (xRb x14 x15 x16 b2 b3 r1) (oc4 h0 h1 (g0 _ _ h2) h3 on) (ih _ _ _ _ _ _ h)) fun h0 h =>
   dS h fk66 (xRc x14 x15 x16 b2 b3) (oc h0 on)
theorem xUP {N q0} (g0 : G66 q0) : ∀ a0 r, xFT N q0 a0 = some r → RE Try.f66 I66 (xDj a0) (xB9 r) := fun a0 r h =>
 tE fk66 (xRd a0) on (xUO g0 _ _ _ _ _ _ _ h)
theorem xHN {N q0} (g0 : G66 q0) {a0} {r} (h : xFT N q0 a0 = some r) : AbC 66 (xDj a0) (xB9 r) :=
 AbsCalls.of_reach fk66 rfl rfl rfl (Nat.le_of_ble_eq_true rfl) (xUP g0 a0 r h)
theorem xGF {N : Nat} : ∀ d, G66 (xEm N d)
 | 0 => fun _ _ h => nE h
 | d + 1 => fun _ _ h => xHN (N := N) (xGF d) h
theorem xI5 {N : Nat} {a0 : Exp} {r : Exp} (h : xGH N a0 = some r) : AbC 66 (xDj a0) (xB9 r) := xGF N _ r h
def G42 (q : Exp → Str → Str → Option (Exp)) : Prop := ∀ a0 a1 a2 r, q a0 a1 a2 = some r → AbC 42 (xBT a0 a1 a2) (xBU r)
noncomputable def I42 : Info := { body := (Try.f42.body).getD .skip, nt := 74, results := [.cell 6 29], keep := [0, 2, 4, 6, 12, 14, 16, 18, 20, 52, 88, 90, 92, 94, 110, 7, 13, 15, 21], live := [(6, [2, 4, 12, 14, 16, 88, 90, 92, 13, 15])], modes := [(2, [(3, .take, false)]), (4, [(3, .take, false), (8, .take, false)]), (8, [(0, .take, false), (1, .take, false), (2, .take, false)]), (9, [(1, .take, false), (5, .take, false)]), (10, [(1, .take, false), (7, .take, false)]), (11, [(1, .take, false)]), (12, [(0, .take, false)])] }
theorem fk42 : FnOk Try.prog 42 Try.f42 I42 := ⟨Try.func42, by kernel_rfl, by kernel_rfl, by kernel_rfl, by kernel_rfl⟩
def xJg (x1 x2 : Str) (x8 : Bool) (x44 : List Exp) (x45 x46 : Int) (b6 b7 : Exp) : St := [(2, .v false [.str x1]), (4, .v false [.str x2]), (12, .v false [.ptr 6 0]), (14, .v false [.ptr 7 0]), (16, .v false [.bool x8]), (88, .v false [.sl .ro .exp x44]), (90, .v false [.int .i64 x45]), (92, .v false [.int .i64 x46]), (13, .v true [.int .i64 (Exp.kind b6), .int .i64 (Exp.n b6), .str (Exp.text b6), .sl .own .exp (Exp.args b6)]), (15, .v true [.int .i64 (Exp.kind b7), .int .i64 (Exp.n b7), .str (Exp.text b7), .sl .own .exp (Exp.args b7)])]
def xPH (x1 x2 : Str) (x8 : Bool) (x44 : List Exp) (x45 x46 : Int) (b6 b7 r1 : Exp) : rS 6 I42 (xJg x1 x2 x8 x44 x45 x46 b6 b7) [Y, Y, Y] [xB9 r1] = st 6 I42 (xJg x1 x2 x8 x44 x45 (W (x46 + 1)) b6 (Exp.mk (Exp.kind b7) (Exp.n b7) (Exp.text b7) ((Exp.args b7) ++ [(Exp.re r1)]))) [xES x46 x45, xGo x46 x44, iY x8, xJH x46, AbC 66 (xDj (xE3 x44 x46)) (xB9 r1), xG1 b7 r1] := by kernel_rfl
def xPI (x1 x2 : Str) (x8 : Bool) (x44 : List Exp) (x45 x46 : Int) (b6 b7 r1 : Exp) : rS 6 I42 (xJg x1 x2 x8 x44 x45 x46 b6 b7) [Y, Y, F] [xBU r1] = st 6 I42 (xJg x1 x2 x8 x44 x45 (W (x46 + 1)) b6 (Exp.mk (Exp.kind b7) (Exp.n b7) (Exp.text b7) ((Exp.args b7) ++ [(Exp.re r1)]))) [xES x46 x45, xGo x46 x44, iY x8, xIk x46, AbC 42 (xBT (xE3 x44 x46) x1 x2) (xBU r1), xG1 b7 r1] := by kernel_rfl
def xPJ (x1 x2 : Str) (x8 : Bool) (x44 : List Exp) (x45 x46 : Int) (b6 b7 r1 : Exp) : rS 6 I42 (xJg x1 x2 x8 x44 x45 x46 b6 b7) [Y, F, F] [xBU r1] = st 6 I42 (xJg x1 x2 x8 x44 x45 (W (x46 + 1)) b6 (Exp.mk (Exp.kind b7) (Exp.n b7) (Exp.text b7) ((Exp.args b7) ++ [(Exp.re r1)]))) [xES x46 x45, xGo x46 x44, iN x8, iN false, AbC 42 (xBT (xE3 x44 x46) x1 x2) (xBU r1), xG1 b7 r1] := by kernel_rfl
def xPK (x1 x2 : Str) (x8 : Bool) (x44 : List Exp) (x45 x46 : Int) (b6 b7 : Exp) : rS 6 I42 (xJg x1 x2 x8 x44 x45 x46 b6 b7) [F] [] = dn (xBU b7) [xHy x46 x45] := by kernel_rfl
def xPL (a0 : Exp) (a1 a2 : Str) : rE I42 (xBT a0 a1 a2) [Y, Y, F, F] [] = st 6 I42 (xJg a1 a2 false (Exp.args a0) (xEe a0) 0 (Exp.mk 0 0 [] []) (Exp.mk (Exp.kind a0) (Exp.n a0) a2 [])) [xFv a0, xKx a0 a1, xCz a0, xFn a0] := by kernel_rfl
abbrev xMJ (v0 v1 : Str) (v2 : Exp) := xJg v0 v1 false (Exp.args v2) (Ln (Exp.args v2) : Int) 0 (Exp.mk 0 0 [] []) (Exp.mk (Exp.kind v2) (Exp.n v2) (Exp.text v2) [])
def xPM (a0 : Exp) (a1 a2 : Str) : rE I42 (xBT a0 a1 a2) [Y, F, F, F] [] = st 6 I42 (xMJ a1 a2 a0) [xFv a0, xKy a0 a1, xCz a0, xFn a0] := by kernel_rfl
abbrev xMK (v0 v1 : Str) (v2 : Exp) := xJg v0 v1 (((Exp.text v2) : Str) == v0) (Exp.args v2) (Ln (Exp.args v2) : Int) 0 (Exp.mk 0 0 [] []) (Exp.mk (Exp.kind v2) (Exp.n v2) (Exp.text v2) [])
def xPN (a0 : Exp) (a1 a2 : Str) : rE I42 (xBT a0 a1 a2) [F, F, Y, Y] [] = st 6 I42 (xMK a1 a2 a0) [xBV a0, iN false, xGA a0, iY true] := by kernel_rfl
def xPO (a0 : Exp) (a1 a2 : Str) : rE I42 (xBT a0 a1 a2) [F, F, F, Y] [] = st 6 I42 (xMK a1 a2 a0) [xBV a0, iN false, xCz a0, xFW a0] := by kernel_rfl
def xPP (a0 : Exp) (a1 a2 : Str) : rE I42 (xBT a0 a1 a2) [F, F, F, F] [] = st 6 I42 (xMJ a1 a2 a0) [xBV a0, iN false, xCz a0, xFn a0] := by kernel_rfl
theorem xMz {N q0} (g0 : G42 q0) : ∀ n x1 x2 x8 x44 x45 x46 b6 b7 r, xBB N q0 n x1 x2 x8 x44 x45 x46 b6 b7 = some r → RS Try.f42 I42 6 (xJg x1 x2 x8 x44 x45 x46 b6 b7) (xBU r) := by
 intro n
 induction n with
 | zero => exact fun _ _ _ _ _ _ _ _ _ h => nE h
 | succ n ih =>
  exact fun x1 x2 x8 x44 x45 x46 b6 b7 r h =>
   cE h (fun h0 h => iE h fun h1 h => cE h (fun h2 h => cE h (fun h3 h => bE h fun r1 h4 h => iE h fun h5 h => tS fk42 (xPH x1 x2 x8 x44 x45 x46 b6 b7 r1) (oc6 h0 h1 h2 h3 (xI5 h4) h5 on) (ih _ _ _ _ _ _ _ _ _ h)) fun h3 h =>
   bE h fun r1 h4 h => iE h fun h5 h => tS fk42 (xPI x1 x2 x8 x44 x45 x46 b6 b7 r1) (oc6 h0 h1 h2 h3 (g0 _ _ _ _ h4) h5 on) (ih _ _ _ _ _ _ _ _ _ h)) fun h2 h =>
   bE h fun r1 h4 h => iE h fun h5 h => tS fk42 (xPJ x1 x2 x8 x44 x45 x46 b6 b7 r1) (oc6 h0 h1 h2 rfl (g0 _ _ _ _ h4) h5 on) (ih _ _ _ _ _ _ _ _ _ h)) fun h0 h =>
   dS h fk42 (xPK x1 x2 x8 x44 x45 x46 b6 b7) (oc h0 on)
theorem xUi {N q0} (g0 : G42 q0) : ∀ a0 a1 a2 r, xEn N q0 a0 a1 a2 = some r → RE Try.f42 I42 (xBT a0 a1 a2) (xBU r) := fun a0 a1 a2 r h =>
 cE h (fun h0 h => cE h (fun h1 h => tE fk42 (xPL a0 a1 a2) (oc4 h0 h1 (eq_ne h0 rfl) (eq_ne h0 rfl) on) (xMz g0 _ _ _ _ _ _ _ _ _ _ h)) fun h1 h =>
 tE fk42 (xPM a0 a1 a2) (oc4 h0 h1 (eq_ne h0 rfl) (eq_ne h0 rfl) on) (xMz g0 _ _ _ _ _ _ _ _ _ _ h)) fun h0 h =>
 cE h (fun h2 h => tE fk42 (xPN a0 a1 a2) (oc4 h0 rfl h2 rfl on) (xMz g0 _ _ _ _ _ _ _ _ _ _ h)) fun h2 h =>
 cE h (fun h3 h => tE fk42 (xPO a0 a1 a2) (oc4 h0 rfl h2 h3 on) (xMz g0 _ _ _ _ _ _ _ _ _ _ h)) fun h3 h =>
 tE fk42 (xPP a0 a1 a2) (oc4 h0 rfl h2 h3 on) (xMz g0 _ _ _ _ _ _ _ _ _ _ h)
theorem xIc {N q0} (g0 : G42 q0) {a0} {a1} {a2} {r} (h : xEn N q0 a0 a1 a2 = some r) : AbC 42 (xBT a0 a1 a2) (xBU r) :=
 AbsCalls.of_reach fk42 rfl rfl rfl (Nat.le_of_ble_eq_true rfl) (xUi g0 a0 a1 a2 r h)
theorem xGM {N : Nat} : ∀ d, G42 (xD0 N d)
 | 0 => fun _ _ _ _ h => nE h
 | d + 1 => fun _ _ _ _ h => xIc (N := N) (xGM d) h
theorem xJl {N : Nat} {a0 : Exp} {a1 : Str} {a2 : Str} {r : Exp} (h : xHO N a0 a1 a2 = some r) : AbC 42 (xBT a0 a1 a2) (xBU r) := xGM N _ _ _ r h
noncomputable def I14 : Info := { body := (Try.f14.body).getD .skip, nt := 32, results := [.cell 6 29, .tmp 7], keep := [0, 2, 4, 6, 12, 14, 52, 7, 13], live := [], modes := [(1, [(3, .take, false), (8, .take, false), (13, .take, false)])] }
theorem fk14 : FnOk Try.prog 14 Try.f14 I14 := ⟨Try.func14, by kernel_rfl, by kernel_rfl, by kernel_rfl, by kernel_rfl⟩
def xOG (a0 : Exp) (a1 a2 : Str) (r1 : Bool) : rE I14 (xB1 a0 a1 a2) [Y, Y, Y, Y] [xA3 r1] = dn (xAj ((Exp.mk 0 0 [] []), false)) [AbC 40 (xBD a0) (xA3 r1), iY (!r1), iY true, iY true, iY true] := by kernel_rfl
abbrev xJp (v0 : Str) (v1 : Bool) : Prop := AbC 41 (xCP v0) (xAR v1)
def xOH (a0 : Exp) (a1 a2 : Str) (r1 r2 : Bool) : rE I14 (xB1 a0 a1 a2) [F, Y, Y, Y] [xA3 r1, xAR r2] = dn (xAj ((Exp.mk 0 0 [] []), false)) [AbC 40 (xBD a0) (xA3 r1), xAW r1, xJp a1 r2, iY (!r2), iY true, iY true] := by kernel_rfl
def xOI (a0 : Exp) (a1 a2 : Str) (r1 r2 r3 : Bool) : rE I14 (xB1 a0 a1 a2) [F, F, Y, Y] [xA3 r1, xAR r2, xAR r3] = dn (xAj ((Exp.mk 0 0 [] []), false)) [AbC 40 (xBD a0) (xA3 r1), xAW r1, xJp a1 r2, xAW r2, xJp a2 r3, iY (!r3), iY true] := by kernel_rfl
def xOJ (a0 : Exp) (a1 a2 : Str) (r1 r2 r3 r4 : Bool) : rE I14 (xB1 a0 a1 a2) [F, F, F, Y] [xA3 r1, xAR r2, xAR r3, xAU r4] = dn (xAj ((Exp.mk 0 0 [] []), false)) [AbC 40 (xBD a0) (xA3 r1), xAW r1, xJp a1 r2, xAW r2, xJp a2 r3, xAW r3, AbC 11 (xC9 a0 a1 a2) (xAU r4), iY r4] := by kernel_rfl
def xOK (a0 : Exp) (a1 a2 : Str) (r1 r2 r3 r4 : Bool) (r5 : Exp) : rE I14 (xB1 a0 a1 a2) [F, F, F, F] [xA3 r1, xAR r2, xAR r3, xAU r4, xBU r5] = dn (xAj (r5, true)) [AbC 40 (xBD a0) (xA3 r1), xAW r1, xJp a1 r2, xAW r2, xJp a2 r3, xAW r3, AbC 11 (xC9 a0 a1 a2) (xAU r4), iN r4, AbC 42 (xBT a0 a1 a2) (xBU r5)] := by kernel_rfl
theorem xTX {N : Nat} : ∀ a0 a1 a2 r, xCj N a0 a1 a2 = some r → RE Try.f14 I14 (xB1 a0 a1 a2) (xAj r) := fun a0 a1 a2 r h =>
 bE h fun r1 h0 h => cE h (fun h1 h => dE h fk14 (xOG a0 a1 a2 r1) (oc5 (xDJ h0) h1 rfl rfl rfl on)) fun h1 h =>
 bE h fun r2 h2 h => cE h (fun h3 h => dE h fk14 (xOH a0 a1 a2 r1 r2) (oc6 (xDJ h0) h1 (xBc h2) h3 rfl rfl on)) fun h3 h =>
 bE h fun r3 h4 h => cE h (fun h5 h => dE h fk14 (xOI a0 a1 a2 r1 r2 r3) (oc7 (xDJ h0) h1 (xBc h2) h3 (xBc h4) h5 rfl on)) fun h5 h =>
 bE h fun r4 h6 h => cE h (fun h7 h => dE h fk14 (xOJ a0 a1 a2 r1 r2 r3 r4) (oc8 (xDJ h0) h1 (xBc h2) h3 (xBc h4) h5 (xBb h6) h7 on)) fun h7 h =>
 bE h fun r5 h8 h => dE h fk14 (xOK a0 a1 a2 r1 r2 r3 r4 r5) (oc9 (xDJ h0) h1 (xBc h2) h3 (xBc h4) h5 (xBb h6) h7 (xJl h8) on)
theorem xAm {N : Nat} {a0 : Exp} {a1 : Str} {a2 : Str} {r : Exp × Bool} (h : xCj N  a0 a1 a2 = some r) : AbC 14 (xB1 a0 a1 a2) (xAj r) :=
 AbsCalls.of_reach fk14 rfl rfl rfl (Nat.le_of_ble_eq_true rfl) (xTX a0 a1 a2 r h)
noncomputable def I24 : Info := { body := (Try.f24.body).getD .skip, nt := 6, results := [.tmp 2], keep := [0, 4], live := [], modes := [] }
theorem fk24 : FnOk Try.prog 24 Try.f24 I24 := ⟨Try.func24, by kernel_rfl, by kernel_rfl, by kernel_rfl, by kernel_rfl⟩
def xOO (a0 : List Int) : rE I24 (xHu a0) [] [] = dn (xA2 (dc ((Ln a0 : Int) > 1048576))) [] := by kernel_rfl
theorem xT1 {N : Nat} : ∀ a0 r, xH9 N a0 = some r → RE Try.f24 I24 (xHu a0) (xA2 r) := fun a0 r h =>
 dE h fk24 (xOO a0) on
theorem xA8 {N : Nat} {a0 : List Int} {r : Bool} (h : xH9 N  a0 = some r) : AbC 24 (xHu a0) (xA2 r) :=
 AbsCalls.of_reach fk24 rfl rfl rfl (Nat.le_of_ble_eq_true rfl) (xT1 a0 r h)
noncomputable def I68 : Info := { body := (Try.f68.body).getD .skip, nt := 32, results := [.tmp 2], keep := [0, 4, 6, 8, 30, 63], live := [(3, [0, 6, 8])], modes := [(3, [(4, .take, false)])] }
theorem fk68 : FnOk Try.prog 68 Try.f68 I68 := ⟨Try.func68, by kernel_rfl, by kernel_rfl, by kernel_rfl, by kernel_rfl⟩
def xMe (x0 : List Int) (x3 x4 : Int) : St := [(0, .v false [.sl .ro .byte x0]), (6, .v false [.int .i64 x3]), (8, .v false [.int .i64 x4])]
def xRe (x0 : List Int) (x3 x4 : Int) : rS 3 I68 (xMe x0 x3 x4) [Y, Y] [] = st 3 I68 (xMe x0 (andI .i64 (W ((W ((W (x3 * 131)) + (W ((gD x0 (tN x4) Ty.byte.dflt))))) + 7)) 1073741823) (W (x4 + 1))) [iY (dc (x4 < (Ln x0 : Int))), iY (dc (x4 < 4000)), (0 : Int) ≤ x4 ∧ x4 < (Ln x0)] := by kernel_rfl
def xRf (x0 : List Int) (x3 x4 : Int) : rS 3 I68 (xMe x0 x3 x4) [Y, F] [] = dn (xDt (Cur.mk x0 0 x3)) [iY (dc (x4 < (Ln x0 : Int))), iN (dc (x4 < 4000))] := by kernel_rfl
def xRg (x0 : List Int) (x3 x4 : Int) : rS 3 I68 (xMe x0 x3 x4) [F, F] [] = dn (xDt (Cur.mk x0 0 x3)) [iN (dc (x4 < (Ln x0 : Int))), iN false] := by kernel_rfl
def xRh (a0 : List Int) : rE I68 (xF3 a0) [] [] = st 3 I68 (xMe a0 (W (26583 + (Ln a0 : Int))) 0) [] := by kernel_rfl
theorem xUQ {N : Nat} : ∀ n x0 x3 x4 r, xFl N n x0 x3 x4 = some r → RS Try.f68 I68 3 (xMe x0 x3 x4) (xDt r) := by
 intro n
 induction n with
 | zero => exact fun _ _ _ _ h => nE h
 | succ n ih =>
  exact fun x0 x3 x4 r h =>
   cE h (fun h0 h => cE h (fun h1 h => iE h fun h2 h => tS fk68 (xRe x0 x3 x4) (oc3 h0 h1 h2 on) (ih _ _ _ _ h)) fun h1 h =>
   dS h fk68 (xRf x0 x3 x4) (oc2 h0 h1 on)) fun h0 h =>
   dS h fk68 (xRg x0 x3 x4) (oc2 h0 rfl on)
theorem xUR {N : Nat} : ∀ a0 r, xGg N a0 = some r → RE Try.f68 I68 (xF3 a0) (xDt r) := fun a0 r h =>
 tE fk68 (xRh a0) on (xUQ _ _ _ _ _ h)
theorem xIO {N : Nat} {a0 : List Int} {r : Cur} (h : xGg N  a0 = some r) : AbC 68 (xF3 a0) (xDt r) :=
 AbsCalls.of_reach fk68 rfl rfl rfl (Nat.le_of_ble_eq_true rfl) (xUR a0 r h)
noncomputable def I97 : Info := { body := (Try.f97.body).getD .skip, nt := 58, results := [.tmp 2], keep := [0, 4, 6, 68, 1], live := [], modes := [], ext := [0] }
theorem fk97 : FnOk Try.prog 97 Try.f97 I97 := ⟨Try.func97, by kernel_rfl, by kernel_rfl, by kernel_rfl, by kernel_rfl⟩
abbrev xMM (v0 : Cur) := andI .i64 (xorI .i64 (Int.fdiv (W ((W ((Cur.h v0) * 6364136223846793005)) + 1442695040888963407)) ((2 : Int) ^ (tN 33))) (Int.fdiv (W ((W ((Cur.h v0) * 6364136223846793005)) + 1442695040888963407)) ((2 : Int) ^ (tN 45)))) 255
abbrev xML (v0 : Cur) := W ((W ((Cur.h v0) * 6364136223846793005)) + 1442695040888963407)
def xTc (a0 : Cur) : rE I97 (xC1 a0) [Y] [] = dn (xBM ((andI .i64 (W ((xMM a0) + (W ((gD (Cur.b a0) (tN (Cur.i a0)) Ty.byte.dflt))))) 255), (Cur.mk (Cur.b a0) (W ((Cur.i a0) + 1)) (xML a0)))) [(0 : Int) ≤ 33 ∧ (33 : Int) < 64, (0 : Int) ≤ 45 ∧ (45 : Int) < 64, iY (dc ((Cur.i a0) < (Ln (Cur.b a0) : Int))), (0 : Int) ≤ (Cur.i a0) ∧ (Cur.i a0) < (Ln (Cur.b a0))] := by kernel_rfl
def xTd (a0 : Cur) : rE I97 (xC1 a0) [F] [] = dn (xBM ((xMM a0), (Cur.mk (Cur.b a0) (Cur.i a0) (xML a0)))) [(0 : Int) ≤ 33 ∧ (33 : Int) < 64, (0 : Int) ≤ 45 ∧ (45 : Int) < 64, iN (dc ((Cur.i a0) < (Ln (Cur.b a0) : Int)))] := by kernel_rfl
theorem xVl {N : Nat} : ∀ a0 r, xEF N a0 = some r → RE Try.f97 I97 (xC1 a0) (xBM r) := fun a0 r h =>
 cE h (fun h2 h => iE h fun h3 h => dE h fk97 (xTc a0) (oc4 (by decide) (by decide) h2 h3 on)) fun h2 h =>
 dE h fk97 (xTd a0) (oc3 (by decide) (by decide) h2 on)
theorem xFy {N : Nat} {a0 : Cur} {r : Int × Cur} (h : xEF N  a0 = some r) : AbC 97 (xC1 a0) (xBM r) :=
 AbsCalls.of_reach fk97 rfl rfl rfl (Nat.le_of_ble_eq_true rfl) (xVl a0 r h)
noncomputable def I81 : Info := { body := (Try.f81.body).getD .skip, nt := 37, results := [.tmp 4], keep := [0, 2, 8, 10, 12, 14, 16, 20, 24, 1], live := [], modes := [(9, [(0, .take, false), (2, .take, false), (5, .take, false), (8, .take, false)])], ext := [0] }
theorem fk81 : FnOk Try.prog 81 Try.f81 I81 := ⟨Try.func81, by kernel_rfl, by kernel_rfl, by kernel_rfl, by kernel_rfl⟩
def xSt (a0 : Cur) (a1 : Int) : rE I81 (xAP a0 a1) [Y] [] = dn (xAd (0, a0)) [iY (dc (a1 ≤ 0))] := by kernel_rfl
def xSu (a0 : Cur) (a1 : Int) (r1 : Int × Cur) : rE I81 (xAP a0 a1) [F, Y] [xBM r1] = dn (xAd ((Int.tmod r1.1 a1), r1.2)) [iN (dc (a1 ≤ 0)), iY (dc (a1 ≤ 256)), AbC 97 (xC1 a0) (xBM r1), a1 ≠ (0 : Int)] := by kernel_rfl
def xSv (a0 : Cur) (a1 : Int) (r1 : Int × Cur) (r2 : Int × Cur) (r3 : Int × Cur) (r4 : Int × Cur) : rE I81 (xAP a0 a1) [F, F] [xBM r1, xBM r2, xBM r3, xBM r4] = dn (xAd ((Int.tmod (W ((W ((W ((W (r1.1 * 16777216)) + (W (r2.1 * 65536)))) + (W (r3.1 * 256)))) + r4.1)) a1), r4.2)) [iN (dc (a1 ≤ 0)), iN (dc (a1 ≤ 256)), AbC 97 (xC1 a0) (xBM r1), AbC 97 (xC1 r1.2) (xBM r2), AbC 97 (xC1 r2.2) (xBM r3), AbC 97 (xC1 r3.2) (xBM r4), a1 ≠ (0 : Int)] := by kernel_rfl
theorem xU3 {N : Nat} : ∀ a0 a1 r, xAZ N a0 a1 = some r → RE Try.f81 I81 (xAP a0 a1) (xAd r) := fun a0 a1 r h =>
 cE h (fun h0 h => dE h fk81 (xSt a0 a1) (oc h0 on)) fun h0 h =>
 cE h (fun h1 h => bE h fun r1 h2 h => iE h fun h3 h => dE h fk81 (xSu a0 a1 r1) (oc4 h0 h1 (xFy h2) h3 on)) fun h1 h =>
 bE h fun r1 h2 h => bE h fun r2 h3 h => bE h fun r3 h4 h => bE h fun r4 h5 h => iE h fun h6 h => dE h fk81 (xSv a0 a1 r1 r2 r3 r4) (oc7 h0 h1 (xFy h2) (xFy h3) (xFy h4) (xFy h5) h6 on)
theorem xAo {N : Nat} {a0 : Cur} {a1 : Int} {r : Int × Cur} (h : xAZ N  a0 a1 = some r) : AbC 81 (xAP a0 a1) (xAd r) :=
 AbsCalls.of_reach fk81 rfl rfl rfl (Nat.le_of_ble_eq_true rfl) (xU3 a0 a1 r h)
noncomputable def I72 : Info := { body := (Try.f72.body).getD .skip, nt := 12, results := [.tmp 4], keep := [0, 2, 8, 1], live := [], modes := [], ext := [0] }
theorem fk72 : FnOk Try.prog 72 Try.f72 I72 := ⟨Try.func72, by kernel_rfl, by kernel_rfl, by kernel_rfl, by kernel_rfl⟩
def xRr (a0 : Cur) (a1 : List Str) (r1 : Int × Cur) : rE I72 (xBw a0 a1) [] [xAd r1] = dn (xAQ ((gD a1 (tN r1.1) Ty.str.dflt), r1.2)) [AbC 81 (xAP a0 (Ln a1 : Int)) (xAd r1), (0 : Int) ≤ r1.1 ∧ r1.1 < (Ln a1)] := by kernel_rfl
theorem xUV {N : Nat} : ∀ a0 a1 r, xBG N a0 a1 = some r → RE Try.f72 I72 (xBw a0 a1) (xAQ r) := fun a0 a1 r h =>
 bE h fun r1 h0 h => iE h fun h1 h => dE h fk72 (xRr a0 a1 r1) (oc2 (xAo h0) h1 on)
theorem xBZ {N : Nat} {a0 : Cur} {a1 : List Str} {r : Str × Cur} (h : xBG N  a0 a1 = some r) : AbC 72 (xBw a0 a1) (xAQ r) :=
 AbsCalls.of_reach fk72 rfl rfl rfl (Nat.le_of_ble_eq_true rfl) (xUV a0 a1 r h)
noncomputable def I85 : Info := { body := (Try.f85.body).getD .skip, nt := 5, results := [.cell 2 29], keep := [0, 4, 5], live := [], modes := [] }
theorem fk85 : FnOk Try.prog 85 Try.f85 I85 := ⟨Try.func85, by kernel_rfl, by kernel_rfl, by kernel_rfl, by kernel_rfl⟩
def xSC (a0 : Int) : rE I85 (xEP a0) [] [] = dn (xBl (Exp.mk 1 a0 [] [])) [] := by kernel_rfl
theorem xU7 {N : Nat} : ∀ a0 r, xB0 N a0 = some r → RE Try.f85 I85 (xEP a0) (xBl r) := fun a0 r h =>
 dE h fk85 (xSC a0) on
theorem xCa {N : Nat} {a0 : Int} {r : Exp} (h : xB0 N  a0 = some r) : AbC 85 (xEP a0) (xBl r) :=
 AbsCalls.of_reach fk85 rfl rfl rfl (Nat.le_of_ble_eq_true rfl) (xU7 a0 r h)
noncomputable def I98 : Info := { body := (Try.f98.body).getD .skip, nt := 5, results := [.cell 2 29], keep := [0, 4, 5], live := [], modes := [] }
theorem fk98 : FnOk Try.prog 98 Try.f98 I98 := ⟨Try.func98, by kernel_rfl, by kernel_rfl, by kernel_rfl, by kernel_rfl⟩
def xTe (a0 : Str) : rE I98 (xF0 a0) [] [] = dn (xFa (Exp.mk 3 0 a0 [])) [] := by kernel_rfl
theorem xVm {N : Nat} : ∀ a0 r, xH1 N a0 = some r → RE Try.f98 I98 (xF0 a0) (xFa r) := fun a0 r h =>
 dE h fk98 (xTe a0) on
theorem xJw {N : Nat} {a0 : Str} {r : Exp} (h : xH1 N  a0 = some r) : AbC 98 (xF0 a0) (xFa r) :=
 AbsCalls.of_reach fk98 rfl rfl rfl (Nat.le_of_ble_eq_true rfl) (xVm a0 r h)
noncomputable def I82 : Info := { body := (Try.f82.body).getD .skip, nt := 23, results := [.cell 4 29], keep := [0, 2, 8, 12, 14, 26, 1, 9], live := [], modes := [(3, [(1, .cp, true)])], ext := [0] }
theorem fk82 : FnOk Try.prog 82 Try.f82 I82 := ⟨Try.func82, by kernel_rfl, by kernel_rfl, by kernel_rfl, by kernel_rfl⟩
abbrev xJW (v0 : Cur) (v1 : Int × Cur) : Prop := AbC 81 (xAP v0 5) (xAd v1)
def xSw (a0 : Cur) (a1 : List Str) (r1 : Int × Cur) (r2 : Str × Cur) : rE I82 (xCm a0 a1) [Y] [xAd r1, xAQ r2] = dn (xBC ((Exp.mk 2 0 r2.1 []), r2.2)) [xJW a0 r1, iY (r1.1 == 0), AbC 72 (xBw r1.2 [[97], [97, 98], [], [98]]) (xAQ r2)] := by kernel_rfl
abbrev xFL (v0 : Int × Cur) : Prop := iN (v0.1 == 0)
abbrev xIm (v0 : Int × Cur) (v1 : Exp) : Prop := AbC 85 (xEP v0.1) (xBl v1)
def xSx (a0 : Cur) (a1 : List Str) (r1 : Int × Cur) (r2 : Int × Cur) (r3 : Exp) : rE I82 (xCm a0 a1) [F, Y, Y] [xAd r1, xAd r2, xBl r3] = dn (xBC (r3, r2.2)) [xJW a0 r1, xFL r1, iY (r1.1 == 1), iY (r1.1 == 1), AbC 81 (xAP r1.2 6) (xAd r2), xIm r2 r3] := by kernel_rfl
abbrev xE1 (v0 : Int × Cur) : Prop := iN (v0.1 == 1)
def xSy (a0 : Cur) (a1 : List Str) (r1 : Int × Cur) (r2 : Int × Cur) (r3 : Exp) : rE I82 (xCm a0 a1) [F, F, Y] [xAd r1, xAd r2, xBl r3] = dn (xBC (r3, r2.2)) [xJW a0 r1, xFL r1, xE1 r1, iY (r1.1 == 2), AbC 81 (xAP r1.2 6) (xAd r2), xIm r2 r3] := by kernel_rfl
abbrev xFV (v0 : Int × Cur) : Prop := iN (v0.1 == 2)
def xSz (a0 : Cur) (a1 : List Str) (r1 : Int × Cur) (r2 : Str × Cur) (r3 : Exp) : rE I82 (xCm a0 a1) [F, F, F] [xAd r1, xAQ r2, xFa r3] = dn (xBC (r3, r2.2)) [xJW a0 r1, xFL r1, xE1 r1, xFV r1, AbC 72 (xBw r1.2 a1) (xAQ r2), AbC 98 (xF0 r2.1) (xFa r3)] := by kernel_rfl
theorem xU4 {N : Nat} : ∀ a0 a1 r, xE8 N a0 a1 = some r → RE Try.f82 I82 (xCm a0 a1) (xBC r) := fun a0 a1 r h =>
 bE h fun r1 h0 h => cE h (fun h1 h => bE h fun r2 h2 h => dE h fk82 (xSw a0 a1 r1 r2) (oc3 (xAo h0) h1 (xBZ h2) on)) fun h1 h =>
 cE h (fun h2 h => bE h fun r2 h4 h => bE h fun r3 h5 h => dE h fk82 (xSx a0 a1 r1 r2 r3) (oc6 (xAo h0) h1 h2 h2 (xAo h4) (xCa h5) on)) fun h2 h =>
 cE h (fun h3 h => bE h fun r2 h4 h => bE h fun r3 h5 h => dE h fk82 (xSy a0 a1 r1 r2 r3) (oc6 (xAo h0) h1 h2 h3 (xAo h4) (xCa h5) on)) fun h3 h =>
 bE h fun r2 h4 h => bE h fun r3 h5 h => dE h fk82 (xSz a0 a1 r1 r2 r3) (oc6 (xAo h0) h1 h2 h3 (xBZ h4) (xJw h5) on)
theorem xFY {N : Nat} {a0 : Cur} {a1 : List Str} {r : Exp × Cur} (h : xE8 N  a0 a1 = some r) : AbC 82 (xCm a0 a1) (xBC r) :=
 AbsCalls.of_reach fk82 rfl rfl rfl (Nat.le_of_ble_eq_true rfl) (xU4 a0 a1 r h)
noncomputable def I84 : Info := { body := (Try.f84.body).getD .skip, nt := 12, results := [.cell 6 29], keep := [0, 2, 4, 8, 10, 12, 9, 11, 13], live := [], modes := [(1, [(1, .take, false), (2, .take, false)])] }
theorem fk84 : FnOk Try.prog 84 Try.f84 I84 := ⟨Try.func84, by kernel_rfl, by kernel_rfl, by kernel_rfl, by kernel_rfl⟩
def xSB (a0 : Int) (a1 a2 : Exp) : rE I84 (xFg a0 a1 a2) [] [] = dn (xDs (Exp.mk 6 a0 [] [(Exp.re a1), (Exp.re a2)])) [] := by kernel_rfl
theorem xU6 {N : Nat} : ∀ a0 a1 a2 r, xFM N a0 a1 a2 = some r → RE Try.f84 I84 (xFg a0 a1 a2) (xDs r) := fun a0 a1 a2 r h =>
 dE h fk84 (xSB a0 a1 a2) on
theorem xHw {N : Nat} {a0 : Int} {a1 : Exp} {a2 : Exp} {r : Exp} (h : xFM N  a0 a1 a2 = some r) : AbC 84 (xFg a0 a1 a2) (xDs r) :=
 AbsCalls.of_reach fk84 rfl rfl rfl (Nat.le_of_ble_eq_true rfl) (xU6 a0 a1 a2 r h)
noncomputable def I70 : Info := { body := (Try.f70.body).getD .skip, nt := 9, results := [.tmp 4], keep := [0, 2, 8, 1], live := [], modes := [], ext := [0] }
theorem fk70 : FnOk Try.prog 70 Try.f70 I70 := ⟨Try.func70, by kernel_rfl, by kernel_rfl, by kernel_rfl, by kernel_rfl⟩
def xRk (a0 : Cur) (a1 : Int) (r1 : Int × Cur) : rE I70 (xC2 a0 a1) [] [xAd r1] = dn (xBF ((r1.1 == 0), r1.2)) [AbC 81 (xAP a0 a1) (xAd r1)] := by kernel_rfl
theorem xUT {N : Nat} : ∀ a0 a1 r, xEI N a0 a1 = some r → RE Try.f70 I70 (xC2 a0 a1) (xBF r) := fun a0 a1 r h =>
 bE h fun r1 h0 h => dE h fk70 (xRk a0 a1 r1) (oc (xAo h0) on)
theorem xEQ {N : Nat} {a0 : Cur} {a1 : Int} {r : Bool × Cur} (h : xEI N  a0 a1 = some r) : AbC 70 (xC2 a0 a1) (xBF r) :=
 AbsCalls.of_reach fk70 rfl rfl rfl (Nat.le_of_ble_eq_true rfl) (xUT a0 a1 r h)
noncomputable def I92 : Info := { body := (Try.f92.body).getD .skip, nt := 34, results := [.cell 4 29], keep := [0, 2, 8, 10, 12, 14, 26, 50, 1, 9, 11], live := [(4, [0, 2, 8, 10, 12, 14, 1, 9, 11])], modes := [(4, [(1, .take, false)]), (6, [(1, .take, false), (6, .take, false)]), (8, [(1, .ref, false)]), (9, [(0, .take, false)])], ext := [0] }
theorem fk92 : FnOk Try.prog 92 Try.f92 I92 := ⟨Try.func92, by kernel_rfl, by kernel_rfl, by kernel_rfl, by kernel_rfl⟩
def xLg (x1 : List Str) (x6 x7 : Int) (b0 : Cur) (b4 b5 : Exp) : St := [(0, .v false [.ptr 0 0]), (2, .v false [.sl .ro .str x1]), (8, .v false [.ptr 4 0]), (10, .v false [.ptr 5 0]), (12, .v false [.int .i64 x6]), (14, .v false [.int .i64 x7]), (1, .v true [.sl .ro .byte (Cur.b b0), .int .i64 (Cur.i b0), .int .i64 (Cur.h b0)]), (9, .v true [.int .i64 (Exp.kind b4), .int .i64 (Exp.n b4), .str (Exp.text b4), .sl .own .exp (Exp.args b4)]), (11, .v true [.int .i64 (Exp.kind b5), .int .i64 (Exp.n b5), .str (Exp.text b5), .sl .own .exp (Exp.args b5)])]
def xS1 (x1 : List Str) (x6 x7 : Int) (b0 : Cur) (b4 b5 : Exp) (r1 : Int × Cur) (r2 : Exp) (r3 : Bool × Cur) (r4 : Exp × Cur) : rS 4 I92 (xLg x1 x6 x7 b0 b4 b5) [Y, Y] [xAd r1, xBl r2, xBF r3, xBC r4] = st 4 I92 (xLg x1 x6 (W (x7 + 1)) r4.2 b4 (Exp.mk (Exp.kind b5) (Exp.n b5) (Exp.text b5) ((fun (z2 : List Exp) => List.set z2 (tN x7) (Exp.re r4.1)) ((Exp.args b5) ++ [(Exp.re r2)])))) [xES x7 x6, xJW b0 r1, xIm r1 r2, xG1 b5 r2, AbC 70 (xC2 r1.2 4) (xBF r3), iY r3.1, AbC 82 (xCm r3.2 x1) (xBC r4), (0 : Int) ≤ x7 ∧ x7 < (Ln ((Exp.args b5) ++ [(Exp.re r2)]))] := by kernel_rfl
def xS2 (x1 : List Str) (x6 x7 : Int) (b0 : Cur) (b4 b5 : Exp) (r1 : Int × Cur) (r2 : Exp) (r3 : Bool × Cur) : rS 4 I92 (xLg x1 x6 x7 b0 b4 b5) [Y, F] [xAd r1, xBl r2, xBF r3] = st 4 I92 (xLg x1 x6 (W (x7 + 1)) r3.2 b4 (Exp.mk (Exp.kind b5) (Exp.n b5) (Exp.text b5) ((Exp.args b5) ++ [(Exp.re r2)]))) [xES x7 x6, xJW b0 r1, xIm r1 r2, xG1 b5 r2, AbC 70 (xC2 r1.2 4) (xBF r3), iN r3.1] := by kernel_rfl
def xS3 (x1 : List Str) (x6 x7 : Int) (b0 : Cur) (b4 b5 : Exp) : rS 4 I92 (xLg x1 x6 x7 b0 b4 b5) [F] [] = dn (xBW (b5, b0)) [xHy x7 x6] := by kernel_rfl
def xS4 (a0 : Cur) (a1 : List Str) (r1 : Int × Cur) : rE I92 (xDR a0 a1) [] [xAd r1] = st 4 I92 (xLg a1 r1.1 0 r1.2 (Exp.mk 0 0 [] []) (Exp.mk 4 0 [] [])) [AbC 81 (xAP a0 4) (xAd r1)] := by kernel_rfl
theorem xVe {N : Nat} : ∀ n x1 x6 x7 b0 b4 b5 r, xDS N n x1 x6 x7 b0 b4 b5 = some r → RS Try.f92 I92 4 (xLg x1 x6 x7 b0 b4 b5) (xBW r) := by
 intro n
 induction n with
 | zero => exact fun _ _ _ _ _ _ _ h => nE h
 | succ n ih =>
  exact fun x1 x6 x7 b0 b4 b5 r h =>
   cE h (fun h0 h => bE h fun r1 h1 h => bE h fun r2 h2 h => iE h fun h3 h => bE h fun r3 h4 h => cE h (fun h5 h => bE h fun r4 h6 h => iE h fun h7 h => tS fk92 (xS1 x1 x6 x7 b0 b4 b5 r1 r2 r3 r4) (oc8 h0 (xAo h1) (xCa h2) h3 (xEQ h4) h5 (xFY h6) h7 on) (ih _ _ _ _ _ _ _ h)) fun h5 h =>
   tS fk92 (xS2 x1 x6 x7 b0 b4 b5 r1 r2 r3) (oc6 h0 (xAo h1) (xCa h2) h3 (xEQ h4) h5 on) (ih _ _ _ _ _ _ _ h)) fun h0 h =>
   dS h fk92 (xS3 x1 x6 x7 b0 b4 b5) (oc h0 on)
theorem xVf {N : Nat} : ∀ a0 a1 r, xE9 N a0 a1 = some r → RE Try.f92 I92 (xDR a0 a1) (xBW r) := fun a0 a1 r h =>
 bE h fun r1 h0 h => tE fk92 (xS4 a0 a1 r1) (oc (xAo h0) on) (xVe _ _ _ _ _ _ _ _ h)
theorem xFZ {N : Nat} {a0 : Cur} {a1 : List Str} {r : Exp × Cur} (h : xE9 N  a0 a1 = some r) : AbC 92 (xDR a0 a1) (xBW r) :=
 AbsCalls.of_reach fk92 rfl rfl rfl (Nat.le_of_ble_eq_true rfl) (xVf a0 a1 r h)
noncomputable def I94 : Info := { body := (Try.f94.body).getD .skip, nt := 11, results := [.cell 6 29], keep := [0, 2, 4, 8, 10, 12, 16, 1, 9, 11, 13], live := [], modes := [(2, [(0, .take, false)]), (3, [(0, .take, false)])], ext := [0] }
theorem fk94 : FnOk Try.prog 94 Try.f94 I94 := ⟨Try.func94, by kernel_rfl, by kernel_rfl, by kernel_rfl, by kernel_rfl⟩
def xS6 (a0 : Cur) (a1 a2 : Exp) (r1 : Bool × Cur) : rE I94 (xBN a0 a1 a2) [Y] [xBF r1] = dn (xA4 (a1, r1.2)) [AbC 70 (xC2 a0 2) (xBF r1), iY r1.1] := by kernel_rfl
def xS7 (a0 : Cur) (a1 a2 : Exp) (r1 : Bool × Cur) : rE I94 (xBN a0 a1 a2) [F] [xBF r1] = dn (xA4 (a2, r1.2)) [AbC 70 (xC2 a0 2) (xBF r1), iN r1.1] := by kernel_rfl
theorem xVh {N : Nat} : ∀ a0 a1 a2 r, xCJ N a0 a1 a2 = some r → RE Try.f94 I94 (xBN a0 a1 a2) (xA4 r) := fun a0 a1 a2 r h =>
 bE h fun r1 h0 h => cE h (fun h1 h => dE h fk94 (xS6 a0 a1 a2 r1) (oc2 (xEQ h0) h1 on)) fun h1 h =>
 dE h fk94 (xS7 a0 a1 a2 r1) (oc2 (xEQ h0) h1 on)
theorem xDh {N : Nat} {a0 : Cur} {a1 : Exp} {a2 : Exp} {r : Exp × Cur} (h : xCJ N  a0 a1 a2 = some r) : AbC 94 (xBN a0 a1 a2) (xA4 r) :=
 AbsCalls.of_reach fk94 rfl rfl rfl (Nat.le_of_ble_eq_true rfl) (xVh a0 a1 a2 r h)
noncomputable def I93 : Info := { body := (Try.f93.body).getD .skip, nt := 8, results := [.cell 4 29], keep := [0, 2, 8, 9], live := [], modes := [(1, [(1, .take, false)])] }
theorem fk93 : FnOk Try.prog 93 Try.f93 I93 := ⟨Try.func93, by kernel_rfl, by kernel_rfl, by kernel_rfl, by kernel_rfl⟩
def xS5 (a0 : Str) (a1 : List Exp) : rE I93 (xBH a0 a1) [] [] = dn (xAY (Exp.mk 5 0 a0 a1)) [] := by kernel_rfl
theorem xVg {N : Nat} : ∀ a0 a1 r, xCi N a0 a1 = some r → RE Try.f93 I93 (xBH a0 a1) (xAY r) := fun a0 a1 r h =>
 dE h fk93 (xS5 a0 a1) on
theorem xCk {N : Nat} {a0 : Str} {a1 : List Exp} {r : Exp} (h : xCi N  a0 a1 = some r) : AbC 93 (xBH a0 a1) (xAY r) :=
 AbsCalls.of_reach fk93 rfl rfl rfl (Nat.le_of_ble_eq_true rfl) (xVg a0 a1 r h)
noncomputable def I95 : Info := { body := (Try.f95.body).getD .skip, nt := 7, results := [.cell 2 29], keep := [0, 4, 1, 5], live := [], modes := [(1, [(1, .cp, true)])], ext := [0] }
theorem fk95 : FnOk Try.prog 95 Try.f95 I95 := ⟨Try.func95, by kernel_rfl, by kernel_rfl, by kernel_rfl, by kernel_rfl⟩
def xS8 (a0 : Cur) (r1 : Str × Cur) : rE I95 (xDF a0) [] [xAQ r1] = dn (xCd ((Exp.mk 2 0 r1.1 []), r1.2)) [AbC 72 (xBw a0 [[97], [97], [98], [99], [120]]) (xAQ r1)] := by kernel_rfl
theorem xVi {N : Nat} : ∀ a0 r, xEO N a0 = some r → RE Try.f95 I95 (xDF a0) (xCd r) := fun a0 r h =>
 bE h fun r1 h0 h => dE h fk95 (xS8 a0 r1) (oc (xBZ h0) on)
theorem xGd {N : Nat} {a0 : Cur} {r : Exp × Cur} (h : xEO N  a0 = some r) : AbC 95 (xDF a0) (xCd r) :=
 AbsCalls.of_reach fk95 rfl rfl rfl (Nat.le_of_ble_eq_true rfl) (xVi a0 r h)
noncomputable def I96 : Info := { body := (Try.f96.body).getD .skip, nt := 31, results := [.cell 2 29], keep := [0, 4, 6, 8, 10, 22, 1, 5, 7], live := [(4, [0, 4, 6, 8, 10, 1, 5, 7])], modes := [(4, [(1, .take, false)]), (6, [(1, .take, false), (11, .take, false)]), (7, [(1, .take, false), (3, .take, false)])], ext := [0] }
theorem fk96 : FnOk Try.prog 96 Try.f96 I96 := ⟨Try.func96, by kernel_rfl, by kernel_rfl, by kernel_rfl, by kernel_rfl⟩
def xMt (x4 x5 : Int) (b0 : Cur) (b2 b3 : Exp) : St := [(0, .v false [.ptr 0 0]), (4, .v false [.ptr 2 0]), (6, .v false [.ptr 3 0]), (8, .v false [.int .i64 x4]), (10, .v false [.int .i64 x5]), (1, .v true [.sl .ro .byte (Cur.b b0), .int .i64 (Cur.i b0), .int .i64 (Cur.h b0)]), (5, .v true [.int .i64 (Exp.kind b2), .int .i64 (Exp.n b2), .str (Exp.text b2), .sl .own .exp (Exp.args b2)]), (7, .v true [.int .i64 (Exp.kind b3), .int .i64 (Exp.n b3), .str (Exp.text b3), .sl .own .exp (Exp.args b3)])]
def xS9 (x4 x5 : Int) (b0 : Cur) (b2 b3 : Exp) (r1 : Int × Cur) (r2 : Exp) (r3 : Int × Cur) (r4 : Exp) : rS 4 I96 (xMt x4 x5 b0 b2 b3) [Y] [xAd r1, xBl r2, xAd r3, xBl r4] = st 4 I96 (xMt x4 (W (x5 + 1)) r3.2 b2 (Exp.mk (Exp.kind b3) (Exp.n b3) (Exp.text b3) ((Exp.args b3) ++ [(Exp.mk 4 0 [] [(Exp.re r2), (Exp.re r4)])]))) [xES x5 x4, AbC 81 (xAP b0 3) (xAd r1), xIm r1 r2, AbC 81 (xAP r1.2 4) (xAd r3), xIm r3 r4, Ln (Exp.args b3) + Ln [(Exp.mk 4 0 [] [(Exp.re r2), (Exp.re r4)])] ≤ Lim] := by kernel_rfl
def xTa (x4 x5 : Int) (b0 : Cur) (b2 b3 r1 : Exp) : rS 4 I96 (xMt x4 x5 b0 b2 b3) [F] [xAY r1] = dn (xCb (r1, b0)) [xHy x5 x4, AbC 93 (xBH [116, 97, 98, 108, 101] [(Exp.mk 2 0 [97, 32, 98] []), (Exp.re b3)]) (xAY r1)] := by kernel_rfl
def xTb (a0 : Cur) (r1 : Int × Cur) : rE I96 (xD3 a0) [] [xAd r1] = st 4 I96 (xMt r1.1 0 r1.2 (Exp.mk 0 0 [] []) (Exp.mk 4 0 [] [])) [AbC 81 (xAP a0 4) (xAd r1)] := by kernel_rfl
theorem xVj {N : Nat} : ∀ n x4 x5 b0 b2 b3 r, xD4 N n x4 x5 b0 b2 b3 = some r → RS Try.f96 I96 4 (xMt x4 x5 b0 b2 b3) (xCb r) := by
 intro n
 induction n with
 | zero => exact fun _ _ _ _ _ _ h => nE h
 | succ n ih =>
  exact fun x4 x5 b0 b2 b3 r h =>
   cE h (fun h0 h => bE h fun r1 h1 h => bE h fun r2 h2 h => bE h fun r3 h3 h => bE h fun r4 h4 h => iE h fun h5 h => tS fk96 (xS9 x4 x5 b0 b2 b3 r1 r2 r3 r4) (oc6 h0 (xAo h1) (xCa h2) (xAo h3) (xCa h4) h5 on) (ih _ _ _ _ _ _ h)) fun h0 h =>
   bE h fun r1 h1 h => dS h fk96 (xTa x4 x5 b0 b2 b3 r1) (oc2 h0 (xCk h1) on)
theorem xVk {N : Nat} : ∀ a0 r, xFh N a0 = some r → RE Try.f96 I96 (xD3 a0) (xCb r) := fun a0 r h =>
 bE h fun r1 h0 h => tE fk96 (xTb a0 r1) (oc (xAo h0) on) (xVj _ _ _ _ _ _ _ h)
theorem xGC {N : Nat} {a0 : Cur} {r : Exp × Cur} (h : xFh N  a0 = some r) : AbC 96 (xD3 a0) (xCb r) :=
 AbsCalls.of_reach fk96 rfl rfl rfl (Nat.le_of_ble_eq_true rfl) (xVk a0 r h)
def G80 (q : Cur → (List Str) → Int → Option (Exp × Cur)) : Prop := ∀ a0 a1 a2 r, q a0 a1 a2 = some r → AbC 80 (xAO a0 a1 a2) (xAq r)
noncomputable def I80 : Info := { body := (Try.f80.body).getD .skip, nt := 209, results := [.cell 6 29], keep := [0, 2, 4, 12, 14, 16, 20, 30, 32, 66, 114, 152, 198, 208, 242, 288, 324, 358, 384, 1, 13], live := [], modes := [(6, [(13, .take, false)]), (8, [(4, .cp, true)]), (9, [(10, .cp, true)]), (13, [(4, .cp, true)]), (14, [(9, .cp, true)]), (18, [(1, .cp, true), (12, .take, false), (14, .take, false)]), (20, [(1, .cp, true), (17, .take, false), (18, .take, false), (20, .take, false)]), (22, [(13, .take, false), (15, .take, false)]), (24, [(12, .take, false), (14, .take, false)]), (26, [(8, .take, false), (10, .take, false)]), (28, [(5, .take, false)]), (29, [(1, .take, false), (3, .cp, true), (7, .take, false), (8, .take, false)])], ext := [0], fcast := [(13, 3, false)] }
theorem fk80 : FnOk Try.prog 80 Try.f80 I80 := ⟨Try.func80, by kernel_rfl, by kernel_rfl, by kernel_rfl, by kernel_rfl⟩
def xSj (a0 : Cur) (a1 : List Str) (a2 : Int) (r1 : Exp × Cur) : rE I80 (xAO a0 a1 a2) [Y] [xBC r1] = dn (xAq (r1.1, r1.2)) [iY (dc (a2 < 2)), AbC 82 (xCm a0 a1) (xBC r1)] := by kernel_rfl
abbrev xGb (v0 : Int) : Prop := iN (dc (v0 < 2))
abbrev xGc (v0 : Cur) (v1 : Int × Cur) : Prop := AbC 81 (xAP v0 13) (xAd v1)
abbrev xHQ (v0 : Exp × Cur) (v1 : List Str) (v2 : Int) (v3 : Exp × Cur) : Prop := AbC 80 (xAO v0.2 v1 (W (v2 - 1))) (xAq v3)
def xSk (a0 : Cur) (a1 : List Str) (a2 : Int) (r1 : Int × Cur) (r2 : Int × Cur) (r3 : Exp × Cur) (r4 : Exp × Cur) (r5 : Exp) : rE I80 (xAO a0 a1 a2) [F, Y, Y] [xAd r1, xAd r2, xAq r3, xAq r4, xDs r5] = dn (xAq (r5, r4.2)) [xGb a2, xGc a0 r1, iY (r1.1 == 0), iY (r1.1 == 0), AbC 81 (xAP r1.2 5) (xAd r2), AbC 80 (xAO r2.2 a1 (W (a2 - 1))) (xAq r3), xHQ r3 a1 a2 r4, AbC 84 (xFg (W (1 + r2.1)) r3.1 r4.1) (xDs r5)] := by kernel_rfl
def xSl (a0 : Cur) (a1 : List Str) (a2 : Int) (r1 : Int × Cur) (r2 : Int × Cur) (r3 : Exp × Cur) (r4 : Exp × Cur) (r5 : Exp) : rE I80 (xAO a0 a1 a2) [F, F, Y] [xAd r1, xAd r2, xAq r3, xAq r4, xDs r5] = dn (xAq (r5, r4.2)) [xGb a2, xGc a0 r1, xFL r1, iY (r1.1 == 1), AbC 81 (xAP r1.2 5) (xAd r2), AbC 80 (xAO r2.2 a1 (W (a2 - 1))) (xAq r3), xHQ r3 a1 a2 r4, AbC 84 (xFg (W (1 + r2.1)) r3.1 r4.1) (xDs r5)] := by kernel_rfl
def xSm (a0 : Cur) (a1 : List Str) (a2 : Int) (r1 : Int × Cur) (r2 : Str × Cur) (r3 : Exp × Cur) (r4 : Exp × Cur) : rE I80 (xAO a0 a1 a2) [F, F, F, Y] [xAd r1, xAQ r2, xAq r3, xAq r4] = dn (xAq ((Exp.mk 7 0 r2.1 [(Exp.re r3.1), (Exp.re r4.1)]), r4.2)) [xGb a2, xGc a0 r1, xFL r1, xE1 r1, iY (r1.1 == 2), (0 : Int) ≤ 0 ∧ (0 : Int) < (Ln a1), AbC 72 (xBw r1.2 [[117], [118], (gD a1 (tN 0) Ty.str.dflt)]) (xAQ r2), AbC 80 (xAO r2.2 a1 (W (a2 - 1))) (xAq r3), Ln [r2.1] + Ln a1 ≤ Lim, AbC 80 (xAO r3.2 ([r2.1] ++ a1) (W (a2 - 1))) (xAq r4)] := by kernel_rfl
def xSn (a0 : Cur) (a1 : List Str) (a2 : Int) (r1 : Int × Cur) (r2 : Exp × Cur) (r3 : Exp × Cur) (r4 : Exp × Cur) : rE I80 (xAO a0 a1 a2) [F, F, F, F, Y] [xAd r1, xAq r2, xAq r3, xAq r4] = dn (xAq ((Exp.mk 8 0 [] [(Exp.re r2.1), (Exp.re r3.1), (Exp.re r4.1)]), r4.2)) [xGb a2, xGc a0 r1, xFL r1, xE1 r1, xFV r1, iY (r1.1 == 3), AbC 80 (xAO r1.2 a1 (W (a2 - 1))) (xAq r2), xHQ r2 a1 a2 r3, xHQ r3 a1 a2 r4] := by kernel_rfl
abbrev xGO (v0 : Int × Cur) : Prop := iN (v0.1 == 3)
def xSo (a0 : Cur) (a1 : List Str) (a2 : Int) (r1 : Int × Cur) (r2 : Str × Cur) (r3 : Exp × Cur) (r4 : Exp × Cur) : rE I80 (xAO a0 a1 a2) [F, F, F, F, F, Y] [xAd r1, xAQ r2, xBW r3, xAq r4] = dn (xAq ((Exp.mk 9 0 r2.1 [(Exp.re r3.1), (Exp.re r4.1)]), r4.2)) [xGb a2, xGc a0 r1, xFL r1, xE1 r1, xFV r1, xGO r1, iY (r1.1 == 4), (0 : Int) ≤ 0 ∧ (0 : Int) < (Ln a1), AbC 72 (xBw r1.2 [[117], [118], (gD a1 (tN 0) Ty.str.dflt)]) (xAQ r2), AbC 92 (xDR r2.2 a1) (xBW r3), Ln [r2.1, r2.1] + Ln a1 ≤ Lim, AbC 80 (xAO r3.2 ([r2.1, r2.1] ++ a1) (W (a2 - 1))) (xAq r4)] := by kernel_rfl
abbrev xHv (v0 : Int × Cur) : Prop := iN (v0.1 == 4)
def xSp (a0 : Cur) (a1 : List Str) (a2 : Int) (r1 : Int × Cur) (r2 : Exp × Cur) : rE I80 (xAO a0 a1 a2) [F, F, F, F, F, F, Y] [xAd r1, xBW r2] = dn (xAq (r2.1, r2.2)) [xGb a2, xGc a0 r1, xFL r1, xE1 r1, xFV r1, xGO r1, xHv r1, iY (r1.1 == 5), AbC 92 (xDR r1.2 a1) (xBW r2)] := by kernel_rfl
def xSq (a0 : Cur) (a1 : List Str) (a2 : Int) (r1 : Int × Cur) (r2 : Str × Cur) (r3 : Exp × Cur) (r4 : Exp × Cur) (r5 : Exp × Cur) (r6 : Exp) : rE I80 (xAO a0 a1 a2) [F, F, F, F, F, F, F, Y] [xAd r1, xAQ r2, xBW r3, xAq r4, xA4 r5, xAY r6] = dn (xAq (r6, r5.2)) [xGb a2, xGc a0 r1, xFL r1, xE1 r1, xFV r1, xGO r1, xHv r1, iN (r1.1 == 5), iY (r1.1 == 6), AbC 72 (xBw r1.2 [[108, 101, 110], [115, 117, 109]]) (xAQ r2), AbC 92 (xDR r2.2 a1) (xBW r3), xHQ r3 a1 a2 r4, AbC 94 (xBN r4.2 r3.1 r4.1) (xA4 r5), AbC 93 (xBH r2.1 [(Exp.re r5.1)]) (xAY r6)] := by kernel_rfl
def xSr (a0 : Cur) (a1 : List Str) (a2 : Int) (r1 : Int × Cur) (r2 : Str × Cur) (r3 : Int × Cur) (r4 : Exp) (r5 : Exp × Cur) (r6 : Int × Cur) (r7 : Exp) (r8 : Int × Cur) (r9 r10 : Exp) (r11 : Exp × Cur) (r12 : Exp) : rE I80 (xAO a0 a1 a2) [F, F, F, F, F, F, F, F, Y] [xAd r1, xAQ r2, xAd r3, xBl r4, xBW r5, xAd r6, xBl r7, xAd r8, xBl r9, xAY r10, xA4 r11, xAY r12] = dn (xAq (r12, r11.2)) [xGb a2, xGc a0 r1, xFL r1, xE1 r1, xFV r1, xGO r1, xHv r1, iN (r1.1 == 5), iN (r1.1 == 6), iY (r1.1 == 7), AbC 72 (xBw r1.2 [[116, 97, 107, 101], [115, 107, 105, 112], [110, 116, 104], [116, 97, 107, 101]]) (xAQ r2), AbC 81 (xAP r2.2 4) (xAd r3), xIm r3 r4, AbC 92 (xDR r3.2 a1) (xBW r5), AbC 81 (xAP r5.2 9) (xAd r6), xIm r6 r7, AbC 81 (xAP r6.2 4) (xAd r8), xIm r8 r9, AbC 93 (xBH [114, 97, 110, 103, 101] [(Exp.re r7), (Exp.re r9)]) (xAY r10), AbC 94 (xBN r8.2 r5.1 r10) (xA4 r11), AbC 93 (xBH r2.1 [(Exp.re r4), (Exp.re r11.1)]) (xAY r12)] := by kernel_rfl
def xSs (a0 : Cur) (a1 : List Str) (a2 : Int) (r1 : Int × Cur) (r2 : Exp × Cur) (r3 : Int × Cur) (r4 : Exp) (r5 : Exp × Cur) (r6 : Exp × Cur) (r7 : Exp × Cur) (r8 : Exp) : rE I80 (xAO a0 a1 a2) [F, F, F, F, F, F, F, F, F, Y] [xAd r1, xCd r2, xAd r3, xBl r4, xCb r5, xAq r6, xA4 r7, xAY r8] = dn (xAq (r8, r7.2)) [xGb a2, xGc a0 r1, xFL r1, xE1 r1, xFV r1, xGO r1, xHv r1, iN (r1.1 == 5), iN (r1.1 == 6), iN (r1.1 == 7), iY (r1.1 == 8), AbC 95 (xDF r1.2) (xCd r2), AbC 81 (xAP r2.2 3) (xAd r3), xIm r3 r4, AbC 96 (xD3 r3.2) (xCb r5), xHQ r5 a1 a2 r6, AbC 94 (xBN r6.2 r5.1 r6.1) (xA4 r7), AbC 93 (xBH [119, 104, 101, 114, 101] [(Exp.re r2.1), (Exp.re r4), (Exp.re r7.1)]) (xAY r8)] := by kernel_rfl
def xN9 (a0 : Cur) (a1 : List Str) (a2 : Int) (r1 : Int × Cur) (r2 : Exp × Cur) (r3 : Exp × Cur) (r4 : Exp × Cur) (r5 : Exp × Cur) (r6 : Exp × Cur) (r7 : Exp) : rE I80 (xAO a0 a1 a2) [F, F, F, F, F, F, F, F, F, F, Y] [xAd r1, xCd r2, xCd r3, xCb r4, xAq r5, xA4 r6, xAY r7] = dn (xAq (r7, r6.2)) [xGb a2, xGc a0 r1, xFL r1, xE1 r1, xFV r1, xGO r1, xHv r1, iN (r1.1 == 5), iN (r1.1 == 6), iN (r1.1 == 7), iN (r1.1 == 8), iY (r1.1 == 9), AbC 95 (xDF r1.2) (xCd r2), AbC 95 (xDF r2.2) (xCd r3), AbC 96 (xD3 r3.2) (xCb r4), xHQ r4 a1 a2 r5, AbC 94 (xBN r5.2 r4.1 r5.1) (xA4 r6), AbC 93 (xBH [103, 114, 111, 117, 112] [(Exp.re r2.1), (Exp.re r3.1), (Exp.re r6.1)]) (xAY r7)] := by kernel_rfl
def xOa (a0 : Cur) (a1 : List Str) (a2 : Int) (r1 : Int × Cur) (r2 : Exp × Cur) (r3 : Exp × Cur) (r4 : Exp × Cur) (r5 : Exp) : rE I80 (xAO a0 a1 a2) [F, F, F, F, F, F, F, F, F, F, F, Y] [xAd r1, xCb r2, xAq r3, xA4 r4, xAY r5] = dn (xAq (r5, r4.2)) [xGb a2, xGc a0 r1, xFL r1, xE1 r1, xFV r1, xGO r1, xHv r1, iN (r1.1 == 5), iN (r1.1 == 6), iN (r1.1 == 7), iN (r1.1 == 8), iN (r1.1 == 9), iY (r1.1 == 10), AbC 96 (xD3 r1.2) (xCb r2), xHQ r2 a1 a2 r3, AbC 94 (xBN r3.2 r2.1 r3.1) (xA4 r4), AbC 93 (xBH [114, 111, 119, 115] [(Exp.re r4.1)]) (xAY r5)] := by kernel_rfl
def xOb (a0 : Cur) (a1 : List Str) (a2 : Int) (r1 : Int × Cur) (r2 : Int × Cur) (r3 r4 : Exp) : rE I80 (xAO a0 a1 a2) [F, F, F, F, F, F, F, F, F, F, F, F, Y] [xAd r1, xAd r2, xBl r3, xAY r4] = dn (xAq (r4, r2.2)) [xGb a2, xGc a0 r1, xFL r1, xE1 r1, xFV r1, xGO r1, xHv r1, iN (r1.1 == 5), iN (r1.1 == 6), iN (r1.1 == 7), iN (r1.1 == 8), iN (r1.1 == 9), iN (r1.1 == 10), iY (r1.1 == 11), AbC 81 (xAP r1.2 6) (xAd r2), AbC 85 (xEP (W (1 + r2.1))) (xBl r3), AbC 93 (xBH [99, 104, 97, 110, 99, 101] [(Exp.re r3)]) (xAY r4)] := by kernel_rfl
def xOc (a0 : Cur) (a1 : List Str) (a2 : Int) (r1 : Int × Cur) (r2 : Exp) (r3 : Str × Cur) (r4 : Exp) (r5 : Exp × Cur) : rE I80 (xAO a0 a1 a2) [F, F, F, F, F, F, F, F, F, F, F, F, F] [xAd r1, xAY r2, xAQ r3, xAY r4, xA4 r5] = dn (xAq (r5.1, r5.2)) [xGb a2, xGc a0 r1, xFL r1, xE1 r1, xFV r1, xGO r1, xHv r1, iN (r1.1 == 5), iN (r1.1 == 6), iN (r1.1 == 7), iN (r1.1 == 8), iN (r1.1 == 9), iN (r1.1 == 10), iN (r1.1 == 11), AbC 93 (xBH [99, 108, 111, 99, 107] []) (xAY r2), AbC 72 (xBw r1.2 [[102], [103], [104]]) (xAQ r3), AbC 93 (xBH [102, 105, 108, 101] [(Exp.mk 2 0 r3.1 [])]) (xAY r4), AbC 94 (xBN r3.2 r2 r4) (xA4 r5)] := by kernel_rfl
theorem xU2 {N q0} (g0 : G80 q0) : ∀ a0 a1 a2 r, xCX N q0 a0 a1 a2 = some r → RE Try.f80 I80 (xAO a0 a1 a2) (xAq r) := fun a0 a1 a2 r h =>
 cE h (fun h0 h => bE h fun r1 h1 h => dE h fk80 (xSj a0 a1 a2 r1) (oc2 h0 (xFY h1) on)) fun h0 h =>
 bE h fun r1 h1 h => cE h (fun h2 h => bE h fun r2 h4 h => bE h fun r3 h5 h => bE h fun r4 h6 h => bE h fun r5 h7 h => dE h fk80 (xSk a0 a1 a2 r1 r2 r3 r4 r5) (oc8 h0 (xAo h1) h2 h2 (xAo h4) (g0 _ _ _ _ h5) (g0 _ _ _ _ h6) (xHw h7) on)) fun h2 h =>
 cE h (fun h3 h => bE h fun r2 h4 h => bE h fun r3 h5 h => bE h fun r4 h6 h => bE h fun r5 h7 h => dE h fk80 (xSl a0 a1 a2 r1 r2 r3 r4 r5) (oc8 h0 (xAo h1) h2 h3 (xAo h4) (g0 _ _ _ _ h5) (g0 _ _ _ _ h6) (xHw h7) on)) fun h3 h =>
 cE h (fun h4 h => iE h fun h5 h => bE h fun r2 h6 h => bE h fun r3 h7 h => iE h fun h8 h => bE h fun r4 h9 h => dE h fk80 (xSm a0 a1 a2 r1 r2 r3 r4) (oc10 h0 (xAo h1) h2 h3 h4 h5 (xBZ h6) (g0 _ _ _ _ h7) h8 (g0 _ _ _ _ h9) on)) fun h4 h =>
 cE h (fun h5 h => bE h fun r2 h6 h => bE h fun r3 h7 h => bE h fun r4 h8 h => dE h fk80 (xSn a0 a1 a2 r1 r2 r3 r4) (oc9 h0 (xAo h1) h2 h3 h4 h5 (g0 _ _ _ _ h6) (g0 _ _ _ _ h7) (g0 _ _ _ _ h8) on)) fun h5 h =>
 cE h (fun h6 h => iE h fun h7 h => bE h fun r2 h8 h => bE h fun r3 h9 h => iE h fun h10 h => bE h fun r4 h11 h => dE h fk80 (xSo a0 a1 a2 r1 r2 r3 r4) (oc12 h0 (xAo h1) h2 h3 h4 h5 h6 h7 (xBZ h8) (xFZ h9) h10 (g0 _ _ _ _ h11) on)) fun h6 h =>
 cE h (fun h7 h => bE h fun r2 h8 h => dE h fk80 (xSp a0 a1 a2 r1 r2) (oc9 h0 (xAo h1) h2 h3 h4 h5 h6 h7 (xFZ h8) on)) fun h7 h =>
 cE h (fun h8 h => bE h fun r2 h9 h => bE h fun r3 h10 h => bE h fun r4 h11 h => bE h fun r5 h12 h => bE h fun r6 h13 h => dE h fk80 (xSq a0 a1 a2 r1 r2 r3 r4 r5 r6) (oc12 h0 (xAo h1) h2 h3 h4 h5 h6 h7 h8 (xBZ h9) (xFZ h10) (g0 _ _ _ _ h11) (oc2 (xDh h12) (xCk h13) on))) fun h8 h =>
 cE h (fun h9 h => bE h fun r2 h10 h => bE h fun r3 h11 h => bE h fun r4 h12 h => bE h fun r5 h13 h => bE h fun r6 h14 h => bE h fun r7 h15 h => bE h fun r8 h16 h => bE h fun r9 h17 h => bE h fun r10 h18 h => bE h fun r11 h19 h => bE h fun r12 h20 h => dE h fk80 (xSr a0 a1 a2 r1 r2 r3 r4 r5 r6 r7 r8 r9 r10 r11 r12) (oc12 h0 (xAo h1) h2 h3 h4 h5 h6 h7 h8 h9 (xBZ h10) (xAo h11) (oc9 (xCa h12) (xFZ h13) (xAo h14) (xCa h15) (xAo h16) (xCa h17) (xCk h18) (xDh h19) (xCk h20) on))) fun h9 h =>
 cE h (fun h10 h => bE h fun r2 h11 h => bE h fun r3 h12 h => bE h fun r4 h13 h => bE h fun r5 h14 h => bE h fun r6 h15 h => bE h fun r7 h16 h => bE h fun r8 h17 h => dE h fk80 (xSs a0 a1 a2 r1 r2 r3 r4 r5 r6 r7 r8) (oc12 h0 (xAo h1) h2 h3 h4 h5 h6 h7 h8 h9 h10 (xGd h11) (oc6 (xAo h12) (xCa h13) (xGC h14) (g0 _ _ _ _ h15) (xDh h16) (xCk h17) on))) fun h10 h =>
 cE h (fun h11 h => bE h fun r2 h12 h => bE h fun r3 h13 h => bE h fun r4 h14 h => bE h fun r5 h15 h => bE h fun r6 h16 h => bE h fun r7 h17 h => dE h fk80 (xN9 a0 a1 a2 r1 r2 r3 r4 r5 r6 r7) (oc12 h0 (xAo h1) h2 h3 h4 h5 h6 h7 h8 h9 h10 h11 (oc6 (xGd h12) (xGd h13) (xGC h14) (g0 _ _ _ _ h15) (xDh h16) (xCk h17) on))) fun h11 h =>
 cE h (fun h12 h => bE h fun r2 h13 h => bE h fun r3 h14 h => bE h fun r4 h15 h => bE h fun r5 h16 h => dE h fk80 (xOa a0 a1 a2 r1 r2 r3 r4 r5) (oc12 h0 (xAo h1) h2 h3 h4 h5 h6 h7 h8 h9 h10 h11 (oc5 h12 (xGC h13) (g0 _ _ _ _ h14) (xDh h15) (xCk h16) on))) fun h12 h =>
 cE h (fun h13 h => bE h fun r2 h14 h => bE h fun r3 h15 h => bE h fun r4 h16 h => dE h fk80 (xOb a0 a1 a2 r1 r2 r3 r4) (oc12 h0 (xAo h1) h2 h3 h4 h5 h6 h7 h8 h9 h10 h11 (oc5 h12 h13 (xAo h14) (xCa h15) (xCk h16) on))) fun h13 h =>
 bE h fun r2 h14 h => bE h fun r3 h15 h => bE h fun r4 h16 h => bE h fun r5 h17 h => dE h fk80 (xOc a0 a1 a2 r1 r2 r3 r4 r5) (oc12 h0 (xAo h1) h2 h3 h4 h5 h6 h7 h8 h9 h10 h11 (oc6 h12 h13 (xCk h14) (xBZ h15) (xCk h16) (xDh h17) on))
theorem xIf {N q0} (g0 : G80 q0) {a0} {a1} {a2} {r} (h : xCX N q0 a0 a1 a2 = some r) : AbC 80 (xAO a0 a1 a2) (xAq r) :=
 AbsCalls.of_reach fk80 rfl rfl rfl (Nat.le_of_ble_eq_true rfl) (xU2 g0 a0 a1 a2 r h)
theorem xGV {N : Nat} : ∀ d, G80 (xCq N d)
 | 0 => fun _ _ _ _ h => nE h
 | d + 1 => fun _ _ _ _ h => xIf (N := N) (xGV d) h
theorem xH0 {N : Nat} {a0 : Cur} {a1 : List Str} {a2 : Int} {r : Exp × Cur} (h : xHZ N a0 a1 a2 = some r) : AbC 80 (xAO a0 a1 a2) (xAq r) := xGV N _ _ _ r h
noncomputable def I69 : Info := { body := (Try.f69.body).getD .skip, nt := 17, results := [.cell 2 29], keep := [0, 4, 6, 24, 1, 5, 7], live := [], modes := [(1, [(1, .cp, true)]), (3, [(1, .cp, true)]), (4, [(0, .take, false)])], ext := [0], fcast := [(5, 3, false)] }
theorem fk69 : FnOk Try.prog 69 Try.f69 I69 := ⟨Try.func69, by kernel_rfl, by kernel_rfl, by kernel_rfl, by kernel_rfl⟩
def xRi (a0 : Cur) (r1 : Int × Cur) (r2 : Exp × Cur) (r3 : Bool) (r4 : Exp × Cur) : rE I69 (xE7 a0) [Y] [xAd r1, xAq r2, xAS r3, xBC r4] = dn (xBI (r4.1, r4.2)) [AbC 81 (xAP a0 4) (xAd r1), AbC 80 (xAO r1.2 [[97], [98], [99]] (W (1 + r1.1))) (xAq r2), AbC 37 (xBo r2.1) (xAS r3), iY (!r3), AbC 82 (xCm r2.2 [[97], [98], [99]]) (xBC r4)] := by kernel_rfl
def xRj (a0 : Cur) (r1 : Int × Cur) (r2 : Exp × Cur) (r3 : Bool) : rE I69 (xE7 a0) [F] [xAd r1, xAq r2, xAS r3] = dn (xBI (r2.1, r2.2)) [AbC 81 (xAP a0 4) (xAd r1), AbC 80 (xAO r1.2 [[97], [98], [99]] (W (1 + r1.1))) (xAq r2), AbC 37 (xBo r2.1) (xAS r3), xAW r3] := by kernel_rfl
theorem xUS {N : Nat} : ∀ a0 r, xGt N a0 = some r → RE Try.f69 I69 (xE7 a0) (xBI r) := fun a0 r h =>
 bE h fun r1 h0 h => bE h fun r2 h1 h => bE h fun r3 h2 h => cE h (fun h3 h => bE h fun r4 h4 h => dE h fk69 (xRi a0 r1 r2 r3 r4) (oc5 (xAo h0) (xH0 h1) (xCu h2) h3 (xFY h4) on)) fun h3 h =>
 dE h fk69 (xRj a0 r1 r2 r3) (oc4 (xAo h0) (xH0 h1) (xCu h2) h3 on)
theorem xC6 {N : Nat} {a0 : Cur} {r : Exp × Cur} (h : xGt N  a0 = some r) : AbC 69 (xE7 a0) (xBI r) :=
 AbsCalls.of_reach fk69 rfl rfl rfl (Nat.le_of_ble_eq_true rfl) (xUS a0 r h)
noncomputable def I83 : Info := { body := (Try.f83.body).getD .skip, nt := 12, results := [.tmp 4], keep := [0, 2, 8, 1], live := [], modes := [], ext := [0] }
theorem fk83 : FnOk Try.prog 83 Try.f83 I83 := ⟨Try.func83, by kernel_rfl, by kernel_rfl, by kernel_rfl, by kernel_rfl⟩
def xSA (a0 : Cur) (a1 : List Int) (r1 : Int × Cur) : rE I83 (xFm a0 a1) [] [xAd r1] = dn (xEy ((gD a1 (tN r1.1) Ty.int.dflt), r1.2)) [AbC 81 (xAP a0 (Ln a1 : Int)) (xAd r1), (0 : Int) ≤ r1.1 ∧ r1.1 < (Ln a1)] := by kernel_rfl
theorem xU5 {N : Nat} : ∀ a0 a1 r, xGj N a0 a1 = some r → RE Try.f83 I83 (xFm a0 a1) (xEy r) := fun a0 a1 r h =>
 bE h fun r1 h0 h => iE h fun h1 h => dE h fk83 (xSA a0 a1 r1) (oc2 (xAo h0) h1 on)
theorem xIX {N : Nat} {a0 : Cur} {a1 : List Int} {r : Int × Cur} (h : xGj N  a0 a1 = some r) : AbC 83 (xFm a0 a1) (xEy r) :=
 AbsCalls.of_reach fk83 rfl rfl rfl (Nat.le_of_ble_eq_true rfl) (xU5 a0 a1 r h)
noncomputable def I71 : Info := { body := (Try.f71.body).getD .skip, nt := 47, results := [.cell 2 29], keep := [0, 4, 6, 8, 16, 18, 28, 48, 60, 72, 78, 1, 5, 7], live := [(13, [0, 4, 6, 8, 1, 5, 7])], modes := [(6, [(1, .take, false), (3, .cp, true), (6, .take, false)]), (8, [(1, .cp, true)]), (10, [(1, .cp, true)]), (15, [(0, .take, false), (3, .take, false)]), (16, [(0, .take, false)])], ext := [0] }
theorem fk71 : FnOk Try.prog 71 Try.f71 I71 := ⟨Try.func71, by kernel_rfl, by kernel_rfl, by kernel_rfl, by kernel_rfl⟩
def xKl (x4 : Int) (b0 : Cur) (b2 b3 : Exp) : St := [(0, .v false [.ptr 0 0]), (4, .v false [.ptr 2 0]), (6, .v false [.ptr 3 0]), (8, .v false [.int .i64 x4]), (1, .v true [.sl .ro .byte (Cur.b b0), .int .i64 (Cur.i b0), .int .i64 (Cur.h b0)]), (5, .v true [.int .i64 (Exp.kind b2), .int .i64 (Exp.n b2), .str (Exp.text b2), .sl .own .exp (Exp.args b2)]), (7, .v true [.int .i64 (Exp.kind b3), .int .i64 (Exp.n b3), .str (Exp.text b3), .sl .tip .exp (Exp.args b3)])]
def xNr (x4 : Int) (b0 : Cur) (b2 b3 r1 r2 : Exp) : rS 13 I71 (xKl x4 b0 b2 b3) [Y] [xBl r1, xDs r2] = st 13 I71 (xKl (W (x4 + 1)) b0 b2 r2) [iY (dc (x4 < 7)), AbC 85 (xEP x4) (xBl r1), AbC 84 (xFg 1 b3 r1) (xDs r2)] := by kernel_rfl
def xNs (x4 : Int) (b0 : Cur) (b2 b3 : Exp) : rS 13 I71 (xKl x4 b0 b2 b3) [F] [] = dn (xB8 (b3, b0)) [iN (dc (x4 < 7))] := by kernel_rfl
abbrev xHR (v0 : Cur) (v1 : Exp × Cur) : Prop := AbC 69 (xE7 v0) (xBI v1)
abbrev xIR (v0 : Exp × Cur) (v1 : Int × Cur) : Prop := AbC 81 (xAP v0.2 12) (xAd v1)
def xRl (a0 : Cur) (r1 : Exp × Cur) (r2 : Int × Cur) (r3 : Int × Cur) : rE I71 (xCH a0) [Y] [xBI r1, xAd r2, xAd r3] = dn (xB8 ((Exp.mk r3.1 (Exp.n r1.1) (Exp.text r1.1) (Exp.args r1.1)), r3.2)) [xHR a0 r1, xIR r1 r2, iY (r2.1 == 0), AbC 81 (xAP r2.2 11) (xAd r3)] := by kernel_rfl
def xRm (a0 : Cur) (r1 : Exp × Cur) (r2 : Int × Cur) (r3 : Exp × Cur) : rE I71 (xCH a0) [F, Y] [xBI r1, xAd r2, xBC r3] = dn (xB8 ((Exp.mk (Exp.kind r1.1) (Exp.n r1.1) (Exp.text r1.1) ((Exp.args r1.1) ++ [(Exp.re r3.1)])), r3.2)) [xHR a0 r1, xIR r1 r2, xFL r2, iY (r2.1 == 1), AbC 82 (xCm r2.2 [[97]]) (xBC r3), Ln (Exp.args r1.1) + Ln [(Exp.re r3.1)] ≤ Lim] := by kernel_rfl
def xRn (a0 : Cur) (r1 : Exp × Cur) (r2 : Int × Cur) (r3 : Str × Cur) : rE I71 (xCH a0) [F, F, Y] [xBI r1, xAd r2, xAQ r3] = dn (xB8 ((Exp.mk (Exp.kind r1.1) (Exp.n r1.1) r3.1 (Exp.args r1.1)), r3.2)) [xHR a0 r1, xIR r1 r2, xFL r2, xE1 r2, iY (r2.1 == 2), AbC 72 (xBw r2.2 [[108, 101, 116], [115, 117, 109], [], [120]]) (xAQ r3)] := by kernel_rfl
def xRo (a0 : Cur) (r1 : Exp × Cur) (r2 : Int × Cur) (r3 : Int × Cur) : rE I71 (xCH a0) [F, F, F, Y] [xBI r1, xAd r2, xEy r3] = dn (xB8 ((Exp.mk (Exp.kind r1.1) r3.1 (Exp.text r1.1) (Exp.args r1.1)), r3.2)) [xHR a0 r1, xIR r1 r2, xFL r2, xE1 r2, xFV r2, iY (r2.1 == 3), AbC 83 (xFm r2.2 [(-1), 7, 1000000001]) (xEy r3)] := by kernel_rfl
def xRp (a0 : Cur) (r1 : Exp × Cur) (r2 : Int × Cur) : rE I71 (xCH a0) [F, F, F, F, Y] [xBI r1, xAd r2] = st 13 I71 (xKl 0 r2.2 (Exp.mk 0 0 [] []) r1.1) [xHR a0 r1, xIR r1 r2, xFL r2, xE1 r2, xFV r2, xGO r2, iY (r2.1 == 4)] := by kernel_rfl
def xRq (a0 : Cur) (r1 : Exp × Cur) (r2 : Int × Cur) : rE I71 (xCH a0) [F, F, F, F, F] [xBI r1, xAd r2] = dn (xB8 (r1.1, r2.2)) [xHR a0 r1, xIR r1 r2, xFL r2, xE1 r2, xFV r2, xGO r2, xHv r2] := by kernel_rfl
theorem xTv {N : Nat} : ∀ n x4 b0 b2 b3 r, xDm N n x4 b0 b2 b3 = some r → RS Try.f71 I71 13 (xKl x4 b0 b2 b3) (xB8 r) := by
 intro n
 induction n with
 | zero => exact fun _ _ _ _ _ h => nE h
 | succ n ih =>
  exact fun x4 b0 b2 b3 r h =>
   cE h (fun h0 h => bE h fun r1 h1 h => bE h fun r2 h2 h => tS fk71 (xNr x4 b0 b2 b3 r1 r2) (oc3 h0 (xCa h1) (xHw h2) on) (ih _ _ _ _ _ h)) fun h0 h =>
   dS h fk71 (xNs x4 b0 b2 b3) (oc h0 on)
theorem xUU {N : Nat} : ∀ a0 r, xG6 N a0 = some r → RE Try.f71 I71 (xCH a0) (xB8 r) := fun a0 r h =>
 bE h fun r1 h0 h => bE h fun r2 h1 h => cE h (fun h2 h => bE h fun r3 h3 h => dE h fk71 (xRl a0 r1 r2 r3) (oc4 (xC6 h0) (xAo h1) h2 (xAo h3) on)) fun h2 h =>
 cE h (fun h3 h => bE h fun r3 h4 h => iE h fun h5 h => dE h fk71 (xRm a0 r1 r2 r3) (oc6 (xC6 h0) (xAo h1) h2 h3 (xFY h4) h5 on)) fun h3 h =>
 cE h (fun h4 h => bE h fun r3 h5 h => dE h fk71 (xRn a0 r1 r2 r3) (oc6 (xC6 h0) (xAo h1) h2 h3 h4 (xBZ h5) on)) fun h4 h =>
 cE h (fun h5 h => bE h fun r3 h6 h => dE h fk71 (xRo a0 r1 r2 r3) (oc7 (xC6 h0) (xAo h1) h2 h3 h4 h5 (xIX h6) on)) fun h5 h =>
 cE h (fun h6 h => tE fk71 (xRp a0 r1 r2) (oc7 (xC6 h0) (xAo h1) h2 h3 h4 h5 h6 on) (xTv _ _ _ _ _ _ h)) fun h6 h =>
 dE h fk71 (xRq a0 r1 r2) (oc7 (xC6 h0) (xAo h1) h2 h3 h4 h5 h6 on)
theorem xJv {N : Nat} {a0 : Cur} {r : Exp × Cur} (h : xG6 N  a0 = some r) : AbC 71 (xCH a0) (xB8 r) :=
 AbsCalls.of_reach fk71 rfl rfl rfl (Nat.le_of_ble_eq_true rfl) (xUU a0 r h)
noncomputable def I52 : Info := { body := (Try.f52.body).getD .skip, nt := 22, results := [.cell 2 29, .tmp 3, .tmp 4], keep := [0, 4, 6, 8, 10, 12, 24, 5, 13, 17], live := [], modes := [(5, [(0, .take, false)])] }
theorem fk52 : FnOk Try.prog 52 Try.f52 I52 := ⟨Try.func52, by kernel_rfl, by kernel_rfl, by kernel_rfl, by kernel_rfl⟩
def xQa (a0 : List Int) (r1 : Cur) (r2 : Exp × Cur) (r3 : Bool × Cur) (r4 : Exp × Cur) (r5 : Str × Cur) (r6 : Str × Cur) : rE I52 (xFb a0) [Y] [xDt r1, xBI r2, xBF r3, xB8 r4, xAQ r5, xAQ r6] = dn (xEv (r4.1, r5.1, r6.1)) [AbC 68 (xF3 a0) (xDt r1), xHR r1 r2, AbC 70 (xC2 r2.2 10) (xBF r3), iY r3.1, AbC 71 (xCH r3.2) (xB8 r4), AbC 72 (xBw r4.2 [[97], [98], [99], [117]]) (xAQ r5), AbC 72 (xBw r5.2 [[97], [117], [118], [122], [108, 101, 116]]) (xAQ r6)] := by kernel_rfl
def xQb (a0 : List Int) (r1 : Cur) (r2 : Exp × Cur) (r3 : Bool × Cur) (r4 : Str × Cur) (r5 : Str × Cur) : rE I52 (xFb a0) [F] [xDt r1, xBI r2, xBF r3, xAQ r4, xAQ r5] = dn (xEv (r2.1, r4.1, r5.1)) [AbC 68 (xF3 a0) (xDt r1), xHR r1 r2, AbC 70 (xC2 r2.2 10) (xBF r3), iN r3.1, AbC 72 (xBw r3.2 [[97], [98], [99], [117]]) (xAQ r4), AbC 72 (xBw r4.2 [[97], [117], [118], [122], [108, 101, 116]]) (xAQ r5)] := by kernel_rfl
theorem xUp {N : Nat} : ∀ a0 r, xH2 N a0 = some r → RE Try.f52 I52 (xFb a0) (xEv r) := fun a0 r h =>
 bE h fun r1 h0 h => bE h fun r2 h1 h => bE h fun r3 h2 h => cE h (fun h3 h => bE h fun r4 h4 h => bE h fun r5 h5 h => bE h fun r6 h6 h => dE h fk52 (xQa a0 r1 r2 r3 r4 r5 r6) (oc7 (xIO h0) (xC6 h1) (xEQ h2) h3 (xJv h4) (xBZ h5) (xBZ h6) on)) fun h3 h =>
 bE h fun r4 h4 h => bE h fun r5 h5 h => dE h fk52 (xQb a0 r1 r2 r3 r4 r5) (oc6 (xIO h0) (xC6 h1) (xEQ h2) h3 (xBZ h4) (xBZ h5) on)
theorem xJz {N : Nat} {a0 : List Int} {r : Exp × Str × Str} (h : xH2 N  a0 = some r) : AbC 52 (xFb a0) (xEv r) :=
 AbsCalls.of_reach fk52 rfl rfl rfl (Nat.le_of_ble_eq_true rfl) (xUp a0 r h)
noncomputable def I25 : Info := { body := (Try.f25.body).getD .skip, nt := 10, results := [.cell 2 29, .tmp 3, .tmp 4], keep := [0, 4, 6, 8, 5], live := [], modes := [] }
theorem fk25 : FnOk Try.prog 25 Try.f25 I25 := ⟨Try.func25, by kernel_rfl, by kernel_rfl, by kernel_rfl, by kernel_rfl⟩
def xOP (a0 : List Int) (r1 : Exp × Str × Str) : rE I25 (xDW a0) [] [xEv r1] = dn (xAl (r1.1, r1.2.1, r1.2.2)) [AbC 52 (xFb a0) (xEv r1)] := by kernel_rfl
theorem xT2 {N : Nat} : ∀ a0 r, xDN N a0 = some r → RE Try.f25 I25 (xDW a0) (xAl r) := fun a0 r h =>
 bE h fun r1 h0 h => dE h fk25 (xOP a0 r1) (oc (xJz h0) on)
theorem xAp {N : Nat} {a0 : List Int} {r : Exp × Str × Str} (h : xDN N  a0 = some r) : AbC 25 (xDW a0) (xAl r) :=
 AbsCalls.of_reach fk25 rfl rfl rfl (Nat.le_of_ble_eq_true rfl) (xT2 a0 r h)
def G26 (q : Exp → Exp → Option (Bool)) : Prop := ∀ a0 a1 r, q a0 a1 = some r → AbC 26 (xA7 a0 a1) (xAh r)
noncomputable def I26 : Info := { body := (Try.f26.body).getD .skip, nt := 53, results := [.tmp 4], keep := [0, 2, 4, 6, 8, 10, 66, 76, 104, 5, 7], live := [(4, [4, 6, 10, 5, 7])], modes := [(1, [(5, .take, false), (12, .take, false), (19, .take, false)])] }
theorem fk26 : FnOk Try.prog 26 Try.f26 I26 := ⟨Try.func26, by kernel_rfl, by kernel_rfl, by kernel_rfl, by kernel_rfl⟩
def xL5 (x5 : Int) (b2 b3 : Exp) : St := [(4, .v false [.ptr 2 0]), (6, .v false [.ptr 3 0]), (10, .v false [.int .i64 x5]), (5, .v true [.int .i64 (Exp.kind b2), .int .i64 (Exp.n b2), .str (Exp.text b2), .sl .ro .exp (Exp.args b2)]), (7, .v true [.int .i64 (Exp.kind b3), .int .i64 (Exp.n b3), .str (Exp.text b3), .sl .ro .exp (Exp.args b3)])]
def xOQ (x5 : Int) (b2 b3 : Exp) (r1 : Bool) : rS 4 I26 (xL5 x5 b2 b3) [Y, Y] [xAh r1] = dn (xAh false) [xFQ x5 b2, xFG x5 b2, xFG x5 b3, AbC 26 (xA7 (xE2 b2 x5) (xE2 b3 x5)) (xAh r1), iY (!r1)] := by kernel_rfl
def xOR (x5 : Int) (b2 b3 : Exp) (r1 : Bool) : rS 4 I26 (xL5 x5 b2 b3) [Y, F] [xAh r1] = st 4 I26 (xL5 (W (x5 + 1)) b2 b3) [xFQ x5 b2, xFG x5 b2, xFG x5 b3, AbC 26 (xA7 (xE2 b2 x5) (xE2 b3 x5)) (xAh r1), xAW r1] := by kernel_rfl
def xOS (x5 : Int) (b2 b3 : Exp) : rS 4 I26 (xL5 x5 b2 b3) [F] [] = dn (xAh true) [xI0 x5 b2] := by kernel_rfl
def xOT (a0 a1 : Exp) : rE I26 (xA7 a0 a1) [Y, Y, Y, Y] [] = dn (xAh false) [iY ((Exp.kind a0) != (Exp.kind a1)), iY true, iY true, iY true] := by kernel_rfl
abbrev xJ5 (v0 v1 : Exp) : Prop := iN ((Exp.kind v0) != (Exp.kind v1))
def xOU (a0 a1 : Exp) : rE I26 (xA7 a0 a1) [F, Y, Y, Y] [] = dn (xAh false) [xJ5 a0 a1, iY ((Exp.n a0) != (Exp.n a1)), iY true, iY true] := by kernel_rfl
def xOV (a0 a1 : Exp) : rE I26 (xA7 a0 a1) [F, F, Y, Y] [] = dn (xAh false) [xJ5 a0 a1, iN ((Exp.n a0) != (Exp.n a1)), iY (!((xIt a0) == (Exp.text a1))), iY true] := by kernel_rfl
def xOW (a0 a1 : Exp) : rE I26 (xA7 a0 a1) [F, F, F, Y] [] = dn (xAh false) [xJ5 a0 a1, iN ((Exp.n a0) != (Exp.n a1)), iN (!((xIt a0) == (Exp.text a1))), iY ((xEe a0) != (xEe a1))] := by kernel_rfl
def xOX (a0 a1 : Exp) : rE I26 (xA7 a0 a1) [F, F, F, F] [] = st 4 I26 (xL5 0 a0 a1) [xJ5 a0 a1, iN ((Exp.n a0) != (Exp.n a1)), iN (!((xIt a0) == (Exp.text a1))), iN ((xEe a0) != (xEe a1))] := by kernel_rfl
theorem xT3 {N q0} (g0 : G26 q0) : ∀ n x5 b2 b3 r, xDC N q0 n x5 b2 b3 = some r → RS Try.f26 I26 4 (xL5 x5 b2 b3) (xAh r) := by
 intro n
 induction n with
 | zero => exact fun _ _ _ _ h => nE h
 | succ n ih =>
  exact fun x5 b2 b3 r h =>
   cE h (fun h0 h => iE h fun h1 h => iE h fun h2 h => bE h fun r1 h3 h => cE h (fun h4 h => dS h fk26 (xOQ x5 b2 b3 r1) (oc5 h0 h1 h2 (g0 _ _ _ h3) h4 on)) fun h4 h =>
   tS fk26 (xOR x5 b2 b3 r1) (oc5 h0 h1 h2 (g0 _ _ _ h3) h4 on) (ih _ _ _ _ h)) fun h0 h =>
   dS h fk26 (xOS x5 b2 b3) (oc h0 on)
theorem xT4 {N q0} (g0 : G26 q0) : ∀ a0 a1 r, xDO N q0 a0 a1 = some r → RE Try.f26 I26 (xA7 a0 a1) (xAh r) := fun a0 a1 r h =>
 cE h (fun h0 h => dE h fk26 (xOT a0 a1) (oc4 h0 rfl rfl rfl on)) fun h0 h =>
 cE h (fun h1 h => dE h fk26 (xOU a0 a1) (oc4 h0 h1 rfl rfl on)) fun h1 h =>
 cE h (fun h2 h => dE h fk26 (xOV a0 a1) (oc4 h0 h1 h2 rfl on)) fun h2 h =>
 cE h (fun h3 h => dE h fk26 (xOW a0 a1) (oc4 h0 h1 h2 h3 on)) fun h3 h =>
 tE fk26 (xOX a0 a1) (oc4 h0 h1 h2 h3 on) (xT3 g0 _ _ _ _ _ h)
theorem xHF {N q0} (g0 : G26 q0) {a0} {a1} {r} (h : xDO N q0 a0 a1 = some r) : AbC 26 (xA7 a0 a1) (xAh r) :=
 AbsCalls.of_reach fk26 rfl rfl rfl (Nat.le_of_ble_eq_true rfl) (xT4 g0 a0 a1 r h)
theorem xGq {N : Nat} : ∀ d, G26 (xDe N d)
 | 0 => fun _ _ _ h => nE h
 | d + 1 => fun _ _ _ h => xHF (N := N) (xGq d) h
theorem xAz {N : Nat} {a0 : Exp} {a1 : Exp} {r : Bool} (h : xC0 N a0 a1 = some r) : AbC 26 (xA7 a0 a1) (xAh r) := xGq N _ _ r h
end Go.Ab.T
end
section
open Go.Proofs
namespace Go.Ab.T
set_option maxRecDepth 100000
variable [Inhabited Lb]
noncomputable def I27 : Info := { body := (Try.f27.body).getD .skip, nt := 20, results := [.tmp 2], keep := [0, 4, 6, 14, 38], live := [(2, [0, 6])], modes := [] }
theorem fk27 : FnOk Try.prog 27 Try.f27 I27 := ⟨Try.func27, by kernel_rfl, by kernel_rfl, by kernel_rfl, by kernel_rfl⟩
def xL6 (x0 : List Str) (x3 : Int) : St := [(0, .v false [.sl .ro .str x0]), (6, .v false [.int .i64 x3])]
def xOY (x0 : List Str) (x3 : Int) : rS 2 I27 (xL6 x0 x3) [Y, Y] [] = dn (xAK false) [xIF x3 x0, (0 : Int) ≤ (W (x3 - 1)) ∧ (W (x3 - 1)) < (Ln x0), xGn x3 x0, iY (!(Op.bytesLess (gD x0 (tN (W (x3 - 1))) Ty.str.dflt) (xFp x0 x3)))] := by kernel_rfl
def xOZ (x0 : List Str) (x3 : Int) : rS 2 I27 (xL6 x0 x3) [Y, F] [] = st 2 I27 (xL6 x0 (W (x3 + 1))) [xIF x3 x0, (0 : Int) ≤ (W (x3 - 1)) ∧ (W (x3 - 1)) < (Ln x0), xGn x3 x0, iN (!(Op.bytesLess (gD x0 (tN (W (x3 - 1))) Ty.str.dflt) (xFp x0 x3)))] := by kernel_rfl
def xO0 (x0 : List Str) (x3 : Int) : rS 2 I27 (xL6 x0 x3) [F] [] = dn (xAK true) [xLD x3 x0] := by kernel_rfl
def xO1 (a0 : List Str) : rE I27 (xGi a0) [] [] = st 2 I27 (xL6 a0 1) [] := by kernel_rfl
theorem xT5 {N : Nat} : ∀ n x0 x3 r, xEN N n x0 x3 = some r → RS Try.f27 I27 2 (xL6 x0 x3) (xAK r) := by
 intro n
 induction n with
 | zero => exact fun _ _ _ h => nE h
 | succ n ih =>
  exact fun x0 x3 r h =>
   cE h (fun h0 h => iE h fun h1 h => iE h fun h2 h => cE h (fun h3 h => dS h fk27 (xOY x0 x3) (oc4 h0 h1 h2 h3 on)) fun h3 h =>
   tS fk27 (xOZ x0 x3) (oc4 h0 h1 h2 h3 on) (ih _ _ _ h)) fun h0 h =>
   dS h fk27 (xO0 x0 x3) (oc h0 on)
theorem xT6 {N : Nat} : ∀ a0 r, xGN N a0 = some r → RE Try.f27 I27 (xGi a0) (xAK r) := fun a0 r h =>
 tE fk27 (xO1 a0) on (xT5 _ _ _ _ h)
theorem xA0 {N : Nat} {a0 : List Str} {r : Bool} (h : xGN N  a0 = some r) : AbC 27 (xGi a0) (xAK r) :=
 AbsCalls.of_reach fk27 rfl rfl rfl (Nat.le_of_ble_eq_true rfl) (xT6 a0 r h)
noncomputable def I53 : Info := { body := (Try.f53.body).getD .skip, nt := 19, results := [.tmp 4], keep := [0, 2, 8, 10, 18, 34], live := [(2, [0, 2, 10])], modes := [] }
theorem fk53 : FnOk Try.prog 53 Try.f53 I53 := ⟨Try.func53, by kernel_rfl, by kernel_rfl, by kernel_rfl, by kernel_rfl⟩
def xL9 (x0 : List Str) (x1 : Str) (x5 : Int) : St := [(0, .v false [.sl .ro .str x0]), (2, .v false [.str x1]), (10, .v false [.int .i64 x5])]
def xQc (x0 : List Str) (x1 : Str) (x5 : Int) : rS 2 I53 (xL9 x0 x1 x5) [Y, Y] [] = dn (xDQ x5) [xIF x5 x0, xGn x5 x0, iY (xIS x0 x5 x1)] := by kernel_rfl
def xQd (x0 : List Str) (x1 : Str) (x5 : Int) : rS 2 I53 (xL9 x0 x1 x5) [Y, F] [] = st 2 I53 (xL9 x0 x1 (W (x5 + 1))) [xIF x5 x0, xGn x5 x0, iN (xIS x0 x5 x1)] := by kernel_rfl
def xQe (x0 : List Str) (x1 : Str) (x5 : Int) : rS 2 I53 (xL9 x0 x1 x5) [F] [] = dn (xDQ (-1)) [xLD x5 x0] := by kernel_rfl
def xQf (a0 : List Str) (a1 : Str) : rE I53 (xFX a0 a1) [] [] = st 2 I53 (xL9 a0 a1 0) [] := by kernel_rfl
theorem xUq {N : Nat} : ∀ n x0 x1 x5 r, xDP N n x0 x1 x5 = some r → RS Try.f53 I53 2 (xL9 x0 x1 x5) (xDQ r) := by
 intro n
 induction n with
 | zero => exact fun _ _ _ _ h => nE h
 | succ n ih =>
  exact fun x0 x1 x5 r h =>
   cE h (fun h0 h => iE h fun h1 h => cE h (fun h2 h => dS h fk53 (xQc x0 x1 x5) (oc3 h0 h1 h2 on)) fun h2 h =>
   tS fk53 (xQd x0 x1 x5) (oc3 h0 h1 h2 on) (ih _ _ _ _ h)) fun h0 h =>
   dS h fk53 (xQe x0 x1 x5) (oc h0 on)
theorem xUr {N : Nat} : ∀ a0 a1 r, xG3 N a0 a1 = some r → RE Try.f53 I53 (xFX a0 a1) (xDQ r) := fun a0 a1 r h =>
 tE fk53 (xQf a0 a1) on (xUq _ _ _ _ _ h)
theorem xJu {N : Nat} {a0 : List Str} {a1 : Str} {r : Int} (h : xG3 N  a0 a1 = some r) : AbC 53 (xFX a0 a1) (xDQ r) :=
 AbsCalls.of_reach fk53 rfl rfl rfl (Nat.le_of_ble_eq_true rfl) (xUr a0 a1 r h)
noncomputable def I28 : Info := { body := (Try.f28.body).getD .skip, nt := 9, results := [.tmp 4], keep := [0, 2, 8], live := [], modes := [] }
theorem fk28 : FnOk Try.prog 28 Try.f28 I28 := ⟨Try.func28, by kernel_rfl, by kernel_rfl, by kernel_rfl, by kernel_rfl⟩
def xO2 (a0 : List Str) (a1 : Str) (r1 : Int) : rE I28 (xE0 a0 a1) [] [xDQ r1] = dn (xAa (dc (r1 ≥ 0))) [AbC 53 (xFX a0 a1) (xDQ r1)] := by kernel_rfl
theorem xT7 {N : Nat} : ∀ a0 a1 r, xCy N a0 a1 = some r → RE Try.f28 I28 (xE0 a0 a1) (xAa r) := fun a0 a1 r h =>
 bE h fun r1 h0 h => dE h fk28 (xO2 a0 a1 r1) (oc (xJu h0) on)
theorem xAb {N : Nat} {a0 : List Str} {a1 : Str} {r : Bool} (h : xCy N  a0 a1 = some r) : AbC 28 (xE0 a0 a1) (xAa r) :=
 AbsCalls.of_reach fk28 rfl rfl rfl (Nat.le_of_ble_eq_true rfl) (xT7 a0 a1 r h)
noncomputable def I29 : Info := { body := (Try.f29.body).getD .skip, nt := 26, results := [.tmp 4], keep := [0, 2, 8, 10, 20, 28, 50], live := [(4, [0, 2, 10])], modes := [] }
theorem fk29 : FnOk Try.prog 29 Try.f29 I29 := ⟨Try.func29, by kernel_rfl, by kernel_rfl, by kernel_rfl, by kernel_rfl⟩
def xL7 (x0 x1 : List Str) (x5 : Int) : St := [(0, .v false [.sl .ro .str x0]), (2, .v false [.sl .ro .str x1]), (10, .v false [.int .i64 x5])]
def xO3 (x0 x1 : List Str) (x5 : Int) : rS 4 I29 (xL7 x0 x1 x5) [Y, Y] [] = dn (xAG false) [xIF x5 x0, xGn x5 x0, xGn x5 x1, iY (!((xJ6 x0 x5) == (xFp x1 x5)))] := by kernel_rfl
def xO4 (x0 x1 : List Str) (x5 : Int) : rS 4 I29 (xL7 x0 x1 x5) [Y, F] [] = st 4 I29 (xL7 x0 x1 (W (x5 + 1))) [xIF x5 x0, xGn x5 x0, xGn x5 x1, iN (!((xJ6 x0 x5) == (xFp x1 x5)))] := by kernel_rfl
def xO5 (x0 x1 : List Str) (x5 : Int) : rS 4 I29 (xL7 x0 x1 x5) [F] [] = dn (xAG true) [xLD x5 x0] := by kernel_rfl
def xO6 (a0 a1 : List Str) : rE I29 (xEo a0 a1) [Y] [] = dn (xAG false) [iY ((Ln a0 : Int) != (Ln a1 : Int))] := by kernel_rfl
def xO7 (a0 a1 : List Str) : rE I29 (xEo a0 a1) [F] [] = st 4 I29 (xL7 a0 a1 0) [iN ((Ln a0 : Int) != (Ln a1 : Int))] := by kernel_rfl
theorem xT8 {N : Nat} : ∀ n x0 x1 x5 r, xDB N n x0 x1 x5 = some r → RS Try.f29 I29 4 (xL7 x0 x1 x5) (xAG r) := by
 intro n
 induction n with
 | zero => exact fun _ _ _ _ h => nE h
 | succ n ih =>
  exact fun x0 x1 x5 r h =>
   cE h (fun h0 h => iE h fun h1 h => iE h fun h2 h => cE h (fun h3 h => dS h fk29 (xO3 x0 x1 x5) (oc4 h0 h1 h2 h3 on)) fun h3 h =>
   tS fk29 (xO4 x0 x1 x5) (oc4 h0 h1 h2 h3 on) (ih _ _ _ _ h)) fun h0 h =>
   dS h fk29 (xO5 x0 x1 x5) (oc h0 on)
theorem xT9 {N : Nat} : ∀ a0 a1 r, xDw N a0 a1 = some r → RE Try.f29 I29 (xEo a0 a1) (xAG r) := fun a0 a1 r h =>
 cE h (fun h0 h => dE h fk29 (xO6 a0 a1) (oc h0 on)) fun h0 h =>
 tE fk29 (xO7 a0 a1) (oc h0 on) (xT8 _ _ _ _ _ h)
theorem xAX {N : Nat} {a0 : List Str} {a1 : List Str} {r : Bool} (h : xDw N  a0 a1 = some r) : AbC 29 (xEo a0 a1) (xAG r) :=
 AbsCalls.of_reach fk29 rfl rfl rfl (Nat.le_of_ble_eq_true rfl) (xT9 a0 a1 r h)
noncomputable def I7 : Info := { body := (Try.f7.body).getD .skip, nt := 107, results := [.tmp 2], keep := [0, 4, 6, 8, 10, 12, 14, 16, 18, 20, 22, 26, 96, 100, 154, 166, 186, 7, 13, 17, 21], live := [], modes := [(3, [(2, .take, false)]), (4, [(4, .take, false)]), (5, [(4, .take, false)]), (6, [(1, .take, false), (3, .take, false), (9, .take, false)]), (10, [(9, .take, false), (16, .take, false), (20, .take, false)]), (14, [(4, .take, false)]), (16, [(4, .take, false)]), (17, [(0, .take, false), (1, .take, false)])] }
theorem fk7 : FnOk Try.prog 7 Try.f7 I7 := ⟨Try.func7, by kernel_rfl, by kernel_rfl, by kernel_rfl, by kernel_rfl⟩
abbrev xCN (v0 : List Int) (v1 : Bool) : Prop := AbC 24 (xHu v0) (xA2 v1)
def xTE (a0 : List Int) (r1 : Bool) : rE I7 (xAM a0) [Y] [xA2 r1] = dn (xAN true) [xCN a0 r1, iY r1] := by kernel_rfl
abbrev xCT (v0 : List Int) (v1 : Exp × Str × Str) : Prop := AbC 25 (xDW v0) (xAl v1)
abbrev xCU (v0 : Exp × Str × Str) (v1 : Exp × Bool) : Prop := AbC 14 (xB1 v0.1 v0.2.1 v0.2.2) (xAj v1)
abbrev xCV (v0 : Exp × Str × Str) (v1 : Exp × Bool) : Prop := AbC 13 (xCh v0.1 v0.2.1 v0.2.2) (xAn v1)
def xTF (a0 : List Int) (r1 : Bool) (r2 : Exp × Str × Str) (r3 : Exp × Bool) (r4 : Exp × Bool) : rE I7 (xAM a0) [F, Y, Y, Y] [xA2 r1, xAl r2, xAj r3, xAn r4] = dn (xAN false) [xCN a0 r1, iN r1, xCT a0 r2, xCU r2 r3, xCV r2 r4, iY (!((r3.2 : Bool) == r4.2)), iY true, iY true] := by kernel_rfl
abbrev xC4 (v0 v1 : Exp × Bool) : Prop := iN (!((v0.2 : Bool) == v1.2))
abbrev xC5 (v0 v1 : Exp × Bool) (v2 : Bool) : Prop := AbC 26 (xA7 v0.1 v1.1) (xAh v2)
def xTG (a0 : List Int) (r1 : Bool) (r2 : Exp × Str × Str) (r3 : Exp × Bool) (r4 : Exp × Bool) (r5 : Bool) : rE I7 (xAM a0) [F, F, Y, Y] [xA2 r1, xAl r2, xAj r3, xAn r4, xAh r5] = dn (xAN false) [xCN a0 r1, iN r1, xCT a0 r2, xCU r2 r3, xCV r2 r4, xC4 r3 r4, xC5 r3 r4 r5, iY (!r5), iY true] := by kernel_rfl
abbrev xDk (v0 : Exp × Str × Str) (v1 : (List Str)) : Prop := AbC 23 (xEj v0.1) (xAc v1)
abbrev xDl (v0 : (List Str)) (v1 : Bool) : Prop := AbC 27 (xGi v0) (xAK v1)
def xTH (a0 : List Int) (r1 : Bool) (r2 : Exp × Str × Str) (r3 : Exp × Bool) (r4 : Exp × Bool) (r5 : Bool) (r6 : (List Str)) (r7 : Bool) : rE I7 (xAM a0) [F, F, F, Y] [xA2 r1, xAl r2, xAj r3, xAn r4, xAh r5, xAc r6, xAK r7] = dn (xAN false) [xCN a0 r1, iN r1, xCT a0 r2, xCU r2 r3, xCV r2 r4, xC4 r3 r4, xC5 r3 r4 r5, xAW r5, xDk r2 r6, xDl r6 r7, iY (!r7)] := by kernel_rfl
def xTI (a0 : List Int) (r1 : Bool) (r2 : Exp × Str × Str) (r3 : Exp × Bool) (r4 : Exp × Bool) (r5 : Bool) (r6 : (List Str)) (r7 : Bool) : rE I7 (xAM a0) [F, F, F, F, Y] [xA2 r1, xAl r2, xAj r3, xAn r4, xAh r5, xAc r6, xAK r7] = dn (xAN true) [xCN a0 r1, iN r1, xCT a0 r2, xCU r2 r3, xCV r2 r4, xC4 r3 r4, xC5 r3 r4 r5, xAW r5, xDk r2 r6, xDl r6 r7, xAW r7, iY (!r3.2)] := by kernel_rfl
abbrev xDM (v0 : Exp × Bool) : Prop := iN (!v0.2)
abbrev xBm (v0 : Exp × Str × Str) (v1 : (List Str)) : Prop := AbC 22 (xFe v0.1) (xAf v1)
abbrev xB5 (v0 : (List Str)) (v1 : Exp × Str × Str) (v2 : Bool) : Prop := AbC 28 (xE0 v0 v1.2.1) (xAa v2)
abbrev xB6 (v0 : Exp × Bool) (v1 : (List Str)) : Prop := AbC 23 (xEj v0.1) (xAc v1)
abbrev xBn (v0 : (List Str)) (v1 : Exp × Str × Str) (v2 : Bool) : Prop := AbC 28 (xE0 v0 v1.2.2) (xAa v2)
abbrev xGx (v0 v1 : Bool) : Prop := iY (!((v0 : Bool) == v1))
def xTJ (a0 : List Int) (r1 : Bool) (r2 : Exp × Str × Str) (r3 : Exp × Bool) (r4 : Exp × Bool) (r5 : Bool) (r6 : (List Str)) (r7 : Bool) (r8 : (List Str)) (r9 : Bool) (r10 : (List Str)) (r11 : Bool) (r12 : (List Str)) (r13 : Bool) : rE I7 (xAM a0) [F, F, F, F, F, Y, Y, Y] [xA2 r1, xAl r2, xAj r3, xAn r4, xAh r5, xAc r6, xAK r7, xAf r8, xAa r9, xAc r10, xAa r11, xAf r12, xAa r13] = dn (xAN false) [xCN a0 r1, iN r1, xCT a0 r2, xCU r2 r3, xCV r2 r4, xC4 r3 r4, xC5 r3 r4 r5, xAW r5, xDk r2 r6, xDl r6 r7, xAW r7, xDM r3, xBm r2 r8, xB5 r8 r2 r9, xB6 r3 r10, xBn r10 r2 r11, xGx r9 r11, xBm r2 r12, xBn r12 r2 r13, iY (!r13), iY true] := by kernel_rfl
abbrev xGy (v0 : Exp × Str × Str) : Prop := iY (!((v0.2.1 : Str) == v0.2.2))
def xTK (a0 : List Int) (r1 : Bool) (r2 : Exp × Str × Str) (r3 : Exp × Bool) (r4 : Exp × Bool) (r5 : Bool) (r6 : (List Str)) (r7 : Bool) (r8 : (List Str)) (r9 : Bool) (r10 : (List Str)) (r11 : Bool) (r12 : (List Str)) (r13 : Bool) (r14 : (List Str)) (r15 : Bool) : rE I7 (xAM a0) [F, F, F, F, F, Y, F, Y, Y] [xA2 r1, xAl r2, xAj r3, xAn r4, xAh r5, xAc r6, xAK r7, xAf r8, xAa r9, xAc r10, xAa r11, xAf r12, xAa r13, xAc r14, xAa r15] = dn (xAN false) [xCN a0 r1, iN r1, xCT a0 r2, xCU r2 r3, xCV r2 r4, xC4 r3 r4, xC5 r3 r4 r5, xAW r5, xDk r2 r6, xDl r6 r7, xAW r7, xDM r3, xBm r2 r8, xB5 r8 r2 r9, xB6 r3 r10, xBn r10 r2 r11, xGx r9 r11, xBm r2 r12, xBn r12 r2 r13, xAW r13, xGy r2, xB6 r3 r14, xB5 r14 r2 r15, iY r15] := by kernel_rfl
abbrev xEp (v0 : Exp × Bool) (v1 : (List Str)) : Prop := AbC 18 (xD6 v0.1) (xAi v1)
abbrev xEq (v0 : Exp × Str × Str) (v1 : (List Str)) : Prop := AbC 18 (xD6 v0.1) (xAi v1)
abbrev xEr (v0 v1 : (List Str)) (v2 : Bool) : Prop := AbC 29 (xEo v0 v1) (xAG v2)
def xTL (a0 : List Int) (r1 : Bool) (r2 : Exp × Str × Str) (r3 : Exp × Bool) (r4 : Exp × Bool) (r5 : Bool) (r6 : (List Str)) (r7 : Bool) (r8 : (List Str)) (r9 : Bool) (r10 : (List Str)) (r11 : Bool) (r12 : (List Str)) (r13 : Bool) (r14 : (List Str)) (r15 : Bool) (r16 : (List Str)) (r17 : (List Str)) (r18 : Bool) : rE I7 (xAM a0) [F, F, F, F, F, Y, F, Y, F, Y] [xA2 r1, xAl r2, xAj r3, xAn r4, xAh r5, xAc r6, xAK r7, xAf r8, xAa r9, xAc r10, xAa r11, xAf r12, xAa r13, xAc r14, xAa r15, xAi r16, xAi r17, xAG r18] = dn (xAN false) [xCN a0 r1, iN r1, xCT a0 r2, xCU r2 r3, xCV r2 r4, xC4 r3 r4, xC5 r3 r4 r5, xAW r5, xDk r2 r6, xDl r6 r7, xAW r7, xDM r3, xBm r2 r8, xB5 r8 r2 r9, xB6 r3 r10, xBn r10 r2 r11, xGx r9 r11, xBm r2 r12, xBn r12 r2 r13, xAW r13, xGy r2, xB6 r3 r14, xB5 r14 r2 r15, iN r15, xEp r3 r16, xEq r2 r17, xEr r16 r17 r18, iY (!r18)] := by kernel_rfl
def xTM (a0 : List Int) (r1 : Bool) (r2 : Exp × Str × Str) (r3 : Exp × Bool) (r4 : Exp × Bool) (r5 : Bool) (r6 : (List Str)) (r7 : Bool) (r8 : (List Str)) (r9 : Bool) (r10 : (List Str)) (r11 : Bool) (r12 : (List Str)) (r13 : Bool) (r14 : (List Str)) (r15 : Bool) (r16 : (List Str)) (r17 : (List Str)) (r18 : Bool) (r19 : (List Str)) (r20 : Bool) : rE I7 (xAM a0) [F, F, F, F, F, Y, F, Y, F, F, Y, Y] [xA2 r1, xAl r2, xAj r3, xAn r4, xAh r5, xAc r6, xAK r7, xAf r8, xAa r9, xAc r10, xAa r11, xAf r12, xAa r13, xAc r14, xAa r15, xAi r16, xAi r17, xAG r18, xAf r19, xAa r20] = dn (xAN true) [xCN a0 r1, iN r1, xCT a0 r2, xCU r2 r3, xCV r2 r4, xC4 r3 r4, xC5 r3 r4 r5, xAW r5, xDk r2 r6, xDl r6 r7, xAW r7, xDM r3, xBm r2 r8, xB5 r8 r2 r9, xB6 r3 r10, xBn r10 r2 r11, xGx r9 r11, xBm r2 r12, xBn r12 r2 r13, xAW r13, xGy r2, xB6 r3 r14, xB5 r14 r2 r15, iN r15, xEp r3 r16, xEq r2 r17, xEr r16 r17 r18, xAW r18, xBm r2 r19, xBn r19 r2 r20, iY r20, iY true] := by kernel_rfl
abbrev xGz (v0 : Exp × Bool) (v1 : Exp × Str × Str) (v2 : Bool) : Prop := AbC 11 (xC9 v0.1 v1.2.2 v1.2.1) (xAU v2)
def xTN (a0 : List Int) (r1 : Bool) (r2 : Exp × Str × Str) (r3 : Exp × Bool) (r4 : Exp × Bool) (r5 : Bool) (r6 : (List Str)) (r7 : Bool) (r8 : (List Str)) (r9 : Bool) (r10 : (List Str)) (r11 : Bool) (r12 : (List Str)) (r13 : Bool) (r14 : (List Str)) (r15 : Bool) (r16 : (List Str)) (r17 : (List Str)) (r18 : Bool) (r19 : (List Str)) (r20 r21 : Bool) : rE I7 (xAM a0) [F, F, F, F, F, Y, F, Y, F, F, F, Y] [xA2 r1, xAl r2, xAj r3, xAn r4, xAh r5, xAc r6, xAK r7, xAf r8, xAa r9, xAc r10, xAa r11, xAf r12, xAa r13, xAc r14, xAa r15, xAi r16, xAi r17, xAG r18, xAf r19, xAa r20, xAU r21] = dn (xAN true) [xCN a0 r1, iN r1, xCT a0 r2, xCU r2 r3, xCV r2 r4, xC4 r3 r4, xC5 r3 r4 r5, xAW r5, xDk r2 r6, xDl r6 r7, xAW r7, xDM r3, xBm r2 r8, xB5 r8 r2 r9, xB6 r3 r10, xBn r10 r2 r11, xGx r9 r11, xBm r2 r12, xBn r12 r2 r13, xAW r13, xGy r2, xB6 r3 r14, xB5 r14 r2 r15, iN r15, xEp r3 r16, xEq r2 r17, xEr r16 r17 r18, xAW r18, xBm r2 r19, xBn r19 r2 r20, iN r20, xGz r3 r2 r21, iY r21] := by kernel_rfl
abbrev xHS (v0 : Exp × Bool) (v1 : Exp × Str × Str) (v2 : Exp × Bool) : Prop := AbC 14 (xB1 v0.1 v1.2.2 v1.2.1) (xAj v2)
def xR1 (a0 : List Int) (r1 : Bool) (r2 : Exp × Str × Str) (r3 : Exp × Bool) (r4 : Exp × Bool) (r5 : Bool) (r6 : (List Str)) (r7 : Bool) (r8 : (List Str)) (r9 : Bool) (r10 : (List Str)) (r11 : Bool) (r12 : (List Str)) (r13 : Bool) (r14 : (List Str)) (r15 : Bool) (r16 : (List Str)) (r17 : (List Str)) (r18 : Bool) (r19 : (List Str)) (r20 r21 : Bool) (r22 : Exp × Bool) (r23 : Bool) : rE I7 (xAM a0) [F, F, F, F, F, Y, F, Y, F, F, F, F, Y] [xA2 r1, xAl r2, xAj r3, xAn r4, xAh r5, xAc r6, xAK r7, xAf r8, xAa r9, xAc r10, xAa r11, xAf r12, xAa r13, xAc r14, xAa r15, xAi r16, xAi r17, xAG r18, xAf r19, xAa r20, xAU r21, xAj r22, xAh r23] = dn (xAN r23) [xCN a0 r1, iN r1, xCT a0 r2, xCU r2 r3, xCV r2 r4, xC4 r3 r4, xC5 r3 r4 r5, xAW r5, xDk r2 r6, xDl r6 r7, xAW r7, xDM r3, xBm r2 r8, xB5 r8 r2 r9, xB6 r3 r10, xBn r10 r2 r11, xGx r9 r11, xBm r2 r12, xBn r12 r2 r13, xAW r13, xGy r2, xB6 r3 r14, xB5 r14 r2 r15, iN r15, xEp r3 r16, xEq r2 r17, xEr r16 r17 r18, xAW r18, xBm r2 r19, xBn r19 r2 r20, iN r20, xGz r3 r2 r21, iN r21, xHS r3 r2 r22, iY r22.2, AbC 26 (xA7 r22.1 r2.1) (xAh r23)] := by kernel_rfl
def xR2 (a0 : List Int) (r1 : Bool) (r2 : Exp × Str × Str) (r3 : Exp × Bool) (r4 : Exp × Bool) (r5 : Bool) (r6 : (List Str)) (r7 : Bool) (r8 : (List Str)) (r9 : Bool) (r10 : (List Str)) (r11 : Bool) (r12 : (List Str)) (r13 : Bool) (r14 : (List Str)) (r15 : Bool) (r16 : (List Str)) (r17 : (List Str)) (r18 : Bool) (r19 : (List Str)) (r20 r21 : Bool) (r22 : Exp × Bool) : rE I7 (xAM a0) [F, F, F, F, F, Y, F, Y, F, F, F, F, F] [xA2 r1, xAl r2, xAj r3, xAn r4, xAh r5, xAc r6, xAK r7, xAf r8, xAa r9, xAc r10, xAa r11, xAf r12, xAa r13, xAc r14, xAa r15, xAi r16, xAi r17, xAG r18, xAf r19, xAa r20, xAU r21, xAj r22] = dn (xAN false) [xCN a0 r1, iN r1, xCT a0 r2, xCU r2 r3, xCV r2 r4, xC4 r3 r4, xC5 r3 r4 r5, xAW r5, xDk r2 r6, xDl r6 r7, xAW r7, xDM r3, xBm r2 r8, xB5 r8 r2 r9, xB6 r3 r10, xBn r10 r2 r11, xGx r9 r11, xBm r2 r12, xBn r12 r2 r13, xAW r13, xGy r2, xB6 r3 r14, xB5 r14 r2 r15, iN r15, xEp r3 r16, xEq r2 r17, xEr r16 r17 r18, xAW r18, xBm r2 r19, xBn r19 r2 r20, iN r20, xGz r3 r2 r21, iN r21, xHS r3 r2 r22, iN r22.2] := by kernel_rfl
abbrev xHb (v0 : Exp × Str × Str) : Prop := iN (!((v0.2.1 : Str) == v0.2.2))
def xR3 (a0 : List Int) (r1 : Bool) (r2 : Exp × Str × Str) (r3 : Exp × Bool) (r4 : Exp × Bool) (r5 : Bool) (r6 : (List Str)) (r7 : Bool) (r8 : (List Str)) (r9 : Bool) (r10 : (List Str)) (r11 : Bool) (r12 : (List Str)) (r13 : Bool) (r14 : (List Str)) (r15 : (List Str)) (r16 : Bool) : rE I7 (xAM a0) [F, F, F, F, F, Y, F, F, F, Y] [xA2 r1, xAl r2, xAj r3, xAn r4, xAh r5, xAc r6, xAK r7, xAf r8, xAa r9, xAc r10, xAa r11, xAf r12, xAa r13, xAi r14, xAi r15, xAG r16] = dn (xAN false) [xCN a0 r1, iN r1, xCT a0 r2, xCU r2 r3, xCV r2 r4, xC4 r3 r4, xC5 r3 r4 r5, xAW r5, xDk r2 r6, xDl r6 r7, xAW r7, xDM r3, xBm r2 r8, xB5 r8 r2 r9, xB6 r3 r10, xBn r10 r2 r11, xGx r9 r11, xBm r2 r12, xBn r12 r2 r13, xAW r13, xHb r2, iN false, xEp r3 r14, xEq r2 r15, xEr r14 r15 r16, iY (!r16)] := by kernel_rfl
def xR4 (a0 : List Int) (r1 : Bool) (r2 : Exp × Str × Str) (r3 : Exp × Bool) (r4 : Exp × Bool) (r5 : Bool) (r6 : (List Str)) (r7 : Bool) (r8 : (List Str)) (r9 : Bool) (r10 : (List Str)) (r11 : Bool) (r12 : (List Str)) (r13 : Bool) (r14 : (List Str)) (r15 : (List Str)) (r16 : Bool) (r17 : (List Str)) (r18 : Bool) : rE I7 (xAM a0) [F, F, F, F, F, Y, F, F, F, F, Y, Y] [xA2 r1, xAl r2, xAj r3, xAn r4, xAh r5, xAc r6, xAK r7, xAf r8, xAa r9, xAc r10, xAa r11, xAf r12, xAa r13, xAi r14, xAi r15, xAG r16, xAf r17, xAa r18] = dn (xAN true) [xCN a0 r1, iN r1, xCT a0 r2, xCU r2 r3, xCV r2 r4, xC4 r3 r4, xC5 r3 r4 r5, xAW r5, xDk r2 r6, xDl r6 r7, xAW r7, xDM r3, xBm r2 r8, xB5 r8 r2 r9, xB6 r3 r10, xBn r10 r2 r11, xGx r9 r11, xBm r2 r12, xBn r12 r2 r13, xAW r13, xHb r2, iN false, xEp r3 r14, xEq r2 r15, xEr r14 r15 r16, xAW r16, xBm r2 r17, xBn r17 r2 r18, iY r18, iY true] := by kernel_rfl
def xR5 (a0 : List Int) (r1 : Bool) (r2 : Exp × Str × Str) (r3 : Exp × Bool) (r4 : Exp × Bool) (r5 : Bool) (r6 : (List Str)) (r7 : Bool) (r8 : (List Str)) (r9 : Bool) (r10 : (List Str)) (r11 : Bool) (r12 : (List Str)) (r13 : Bool) (r14 : (List Str)) (r15 : (List Str)) (r16 : Bool) (r17 : (List Str)) (r18 r19 : Bool) : rE I7 (xAM a0) [F, F, F, F, F, Y, F, F, F, F, F, Y] [xA2 r1, xAl r2, xAj r3, xAn r4, xAh r5, xAc r6, xAK r7, xAf r8, xAa r9, xAc r10, xAa r11, xAf r12, xAa r13, xAi r14, xAi r15, xAG r16, xAf r17, xAa r18, xAU r19] = dn (xAN true) [xCN a0 r1, iN r1, xCT a0 r2, xCU r2 r3, xCV r2 r4, xC4 r3 r4, xC5 r3 r4 r5, xAW r5, xDk r2 r6, xDl r6 r7, xAW r7, xDM r3, xBm r2 r8, xB5 r8 r2 r9, xB6 r3 r10, xBn r10 r2 r11, xGx r9 r11, xBm r2 r12, xBn r12 r2 r13, xAW r13, xHb r2, iN false, xEp r3 r14, xEq r2 r15, xEr r14 r15 r16, xAW r16, xBm r2 r17, xBn r17 r2 r18, iN r18, xGz r3 r2 r19, iY r19] := by kernel_rfl
def xR6 (a0 : List Int) (r1 : Bool) (r2 : Exp × Str × Str) (r3 : Exp × Bool) (r4 : Exp × Bool) (r5 : Bool) (r6 : (List Str)) (r7 : Bool) (r8 : (List Str)) (r9 : Bool) (r10 : (List Str)) (r11 : Bool) (r12 : (List Str)) (r13 : Bool) (r14 : (List Str)) (r15 : (List Str)) (r16 : Bool) (r17 : (List Str)) (r18 r19 : Bool) (r20 : Exp × Bool) (r21 : Bool) : rE I7 (xAM a0) [F, F, F, F, F, Y, F, F, F, F, F, F, Y] [xA2 r1, xAl r2, xAj r3, xAn r4, xAh r5, xAc r6, xAK r7, xAf r8, xAa r9, xAc r10, xAa r11, xAf r12, xAa r13, xAi r14, xAi r15, xAG r16, xAf r17, xAa r18, xAU r19, xAj r20, xAh r21] = dn (xAN r21) [xCN a0 r1, iN r1, xCT a0 r2, xCU r2 r3, xCV r2 r4, xC4 r3 r4, xC5 r3 r4 r5, xAW r5, xDk r2 r6, xDl r6 r7, xAW r7, xDM r3, xBm r2 r8, xB5 r8 r2 r9, xB6 r3 r10, xBn r10 r2 r11, xGx r9 r11, xBm r2 r12, xBn r12 r2 r13, xAW r13, xHb r2, iN false, xEp r3 r14, xEq r2 r15, xEr r14 r15 r16, xAW r16, xBm r2 r17, xBn r17 r2 r18, iN r18, xGz r3 r2 r19, iN r19, xHS r3 r2 r20, iY r20.2, AbC 26 (xA7 r20.1 r2.1) (xAh r21)] := by kernel_rfl
def xR7 (a0 : List Int) (r1 : Bool) (r2 : Exp × Str × Str) (r3 : Exp × Bool) (r4 : Exp × Bool) (r5 : Bool) (r6 : (List Str)) (r7 : Bool) (r8 : (List Str)) (r9 : Bool) (r10 : (List Str)) (r11 : Bool) (r12 : (List Str)) (r13 : Bool) (r14 : (List Str)) (r15 : (List Str)) (r16 : Bool) (r17 : (List Str)) (r18 r19 : Bool) (r20 : Exp × Bool) : rE I7 (xAM a0) [F, F, F, F, F, Y, F, F, F, F, F, F, F] [xA2 r1, xAl r2, xAj r3, xAn r4, xAh r5, xAc r6, xAK r7, xAf r8, xAa r9, xAc r10, xAa r11, xAf r12, xAa r13, xAi r14, xAi r15, xAG r16, xAf r17, xAa r18, xAU r19, xAj r20] = dn (xAN false) [xCN a0 r1, iN r1, xCT a0 r2, xCU r2 r3, xCV r2 r4, xC4 r3 r4, xC5 r3 r4 r5, xAW r5, xDk r2 r6, xDl r6 r7, xAW r7, xDM r3, xBm r2 r8, xB5 r8 r2 r9, xB6 r3 r10, xBn r10 r2 r11, xGx r9 r11, xBm r2 r12, xBn r12 r2 r13, xAW r13, xHb r2, iN false, xEp r3 r14, xEq r2 r15, xEr r14 r15 r16, xAW r16, xBm r2 r17, xBn r17 r2 r18, iN r18, xGz r3 r2 r19, iN r19, xHS r3 r2 r20, iN r20.2] := by kernel_rfl
abbrev xGP (v0 v1 : Bool) : Prop := iN (!((v0 : Bool) == v1))
def xR8 (a0 : List Int) (r1 : Bool) (r2 : Exp × Str × Str) (r3 : Exp × Bool) (r4 : Exp × Bool) (r5 : Bool) (r6 : (List Str)) (r7 : Bool) (r8 : (List Str)) (r9 : Bool) (r10 : (List Str)) (r11 : Bool) (r12 : (List Str)) (r13 : Bool) : rE I7 (xAM a0) [F, F, F, F, F, F, F, Y, Y] [xA2 r1, xAl r2, xAj r3, xAn r4, xAh r5, xAc r6, xAK r7, xAf r8, xAa r9, xAc r10, xAa r11, xAc r12, xAa r13] = dn (xAN false) [xCN a0 r1, iN r1, xCT a0 r2, xCU r2 r3, xCV r2 r4, xC4 r3 r4, xC5 r3 r4 r5, xAW r5, xDk r2 r6, xDl r6 r7, xAW r7, xDM r3, xBm r2 r8, xB5 r8 r2 r9, xB6 r3 r10, xBn r10 r2 r11, xGP r9 r11, iN false, xGy r2, xB6 r3 r12, xB5 r12 r2 r13, iY r13] := by kernel_rfl
def xR9 (a0 : List Int) (r1 : Bool) (r2 : Exp × Str × Str) (r3 : Exp × Bool) (r4 : Exp × Bool) (r5 : Bool) (r6 : (List Str)) (r7 : Bool) (r8 : (List Str)) (r9 : Bool) (r10 : (List Str)) (r11 : Bool) (r12 : (List Str)) (r13 : Bool) (r14 : (List Str)) (r15 : (List Str)) (r16 : Bool) : rE I7 (xAM a0) [F, F, F, F, F, F, F, Y, F, Y] [xA2 r1, xAl r2, xAj r3, xAn r4, xAh r5, xAc r6, xAK r7, xAf r8, xAa r9, xAc r10, xAa r11, xAc r12, xAa r13, xAi r14, xAi r15, xAG r16] = dn (xAN false) [xCN a0 r1, iN r1, xCT a0 r2, xCU r2 r3, xCV r2 r4, xC4 r3 r4, xC5 r3 r4 r5, xAW r5, xDk r2 r6, xDl r6 r7, xAW r7, xDM r3, xBm r2 r8, xB5 r8 r2 r9, xB6 r3 r10, xBn r10 r2 r11, xGP r9 r11, iN false, xGy r2, xB6 r3 r12, xB5 r12 r2 r13, iN r13, xEp r3 r14, xEq r2 r15, xEr r14 r15 r16, iY (!r16)] := by kernel_rfl
def xSa (a0 : List Int) (r1 : Bool) (r2 : Exp × Str × Str) (r3 : Exp × Bool) (r4 : Exp × Bool) (r5 : Bool) (r6 : (List Str)) (r7 : Bool) (r8 : (List Str)) (r9 : Bool) (r10 : (List Str)) (r11 : Bool) (r12 : (List Str)) (r13 : Bool) (r14 : (List Str)) (r15 : (List Str)) (r16 : Bool) (r17 : (List Str)) (r18 : Bool) : rE I7 (xAM a0) [F, F, F, F, F, F, F, Y, F, F, Y, Y] [xA2 r1, xAl r2, xAj r3, xAn r4, xAh r5, xAc r6, xAK r7, xAf r8, xAa r9, xAc r10, xAa r11, xAc r12, xAa r13, xAi r14, xAi r15, xAG r16, xAf r17, xAa r18] = dn (xAN true) [xCN a0 r1, iN r1, xCT a0 r2, xCU r2 r3, xCV r2 r4, xC4 r3 r4, xC5 r3 r4 r5, xAW r5, xDk r2 r6, xDl r6 r7, xAW r7, xDM r3, xBm r2 r8, xB5 r8 r2 r9, xB6 r3 r10, xBn r10 r2 r11, xGP r9 r11, iN false, xGy r2, xB6 r3 r12, xB5 r12 r2 r13, iN r13, xEp r3 r14, xEq r2 r15, xEr r14 r15 r16, xAW r16, xBm r2 r17, xBn r17 r2 r18, iY r18, iY true] := by kernel_rfl
def xSb (a0 : List Int) (r1 : Bool) (r2 : Exp × Str × Str) (r3 : Exp × Bool) (r4 : Exp × Bool) (r5 : Bool) (r6 : (List Str)) (r7 : Bool) (r8 : (List Str)) (r9 : Bool) (r10 : (List Str)) (r11 : Bool) (r12 : (List Str)) (r13 : Bool) (r14 : (List Str)) (r15 : (List Str)) (r16 : Bool) (r17 : (List Str)) (r18 r19 : Bool) : rE I7 (xAM a0) [F, F, F, F, F, F, F, Y, F, F, F, Y] [xA2 r1, xAl r2, xAj r3, xAn r4, xAh r5, xAc r6, xAK r7, xAf r8, xAa r9, xAc r10, xAa r11, xAc r12, xAa r13, xAi r14, xAi r15, xAG r16, xAf r17, xAa r18, xAU r19] = dn (xAN true) [xCN a0 r1, iN r1, xCT a0 r2, xCU r2 r3, xCV r2 r4, xC4 r3 r4, xC5 r3 r4 r5, xAW r5, xDk r2 r6, xDl r6 r7, xAW r7, xDM r3, xBm r2 r8, xB5 r8 r2 r9, xB6 r3 r10, xBn r10 r2 r11, xGP r9 r11, iN false, xGy r2, xB6 r3 r12, xB5 r12 r2 r13, iN r13, xEp r3 r14, xEq r2 r15, xEr r14 r15 r16, xAW r16, xBm r2 r17, xBn r17 r2 r18, iN r18, xGz r3 r2 r19, iY r19] := by kernel_rfl
def xSc (a0 : List Int) (r1 : Bool) (r2 : Exp × Str × Str) (r3 : Exp × Bool) (r4 : Exp × Bool) (r5 : Bool) (r6 : (List Str)) (r7 : Bool) (r8 : (List Str)) (r9 : Bool) (r10 : (List Str)) (r11 : Bool) (r12 : (List Str)) (r13 : Bool) (r14 : (List Str)) (r15 : (List Str)) (r16 : Bool) (r17 : (List Str)) (r18 r19 : Bool) (r20 : Exp × Bool) (r21 : Bool) : rE I7 (xAM a0) [F, F, F, F, F, F, F, Y, F, F, F, F, Y] [xA2 r1, xAl r2, xAj r3, xAn r4, xAh r5, xAc r6, xAK r7, xAf r8, xAa r9, xAc r10, xAa r11, xAc r12, xAa r13, xAi r14, xAi r15, xAG r16, xAf r17, xAa r18, xAU r19, xAj r20, xAh r21] = dn (xAN r21) [xCN a0 r1, iN r1, xCT a0 r2, xCU r2 r3, xCV r2 r4, xC4 r3 r4, xC5 r3 r4 r5, xAW r5, xDk r2 r6, xDl r6 r7, xAW r7, xDM r3, xBm r2 r8, xB5 r8 r2 r9, xB6 r3 r10, xBn r10 r2 r11, xGP r9 r11, iN false, xGy r2, xB6 r3 r12, xB5 r12 r2 r13, iN r13, xEp r3 r14, xEq r2 r15, xEr r14 r15 r16, xAW r16, xBm r2 r17, xBn r17 r2 r18, iN r18, xGz r3 r2 r19, iN r19, xHS r3 r2 r20, iY r20.2, AbC 26 (xA7 r20.1 r2.1) (xAh r21)] := by kernel_rfl
def xSd (a0 : List Int) (r1 : Bool) (r2 : Exp × Str × Str) (r3 : Exp × Bool) (r4 : Exp × Bool) (r5 : Bool) (r6 : (List Str)) (r7 : Bool) (r8 : (List Str)) (r9 : Bool) (r10 : (List Str)) (r11 : Bool) (r12 : (List Str)) (r13 : Bool) (r14 : (List Str)) (r15 : (List Str)) (r16 : Bool) (r17 : (List Str)) (r18 r19 : Bool) (r20 : Exp × Bool) : rE I7 (xAM a0) [F, F, F, F, F, F, F, Y, F, F, F, F, F] [xA2 r1, xAl r2, xAj r3, xAn r4, xAh r5, xAc r6, xAK r7, xAf r8, xAa r9, xAc r10, xAa r11, xAc r12, xAa r13, xAi r14, xAi r15, xAG r16, xAf r17, xAa r18, xAU r19, xAj r20] = dn (xAN false) [xCN a0 r1, iN r1, xCT a0 r2, xCU r2 r3, xCV r2 r4, xC4 r3 r4, xC5 r3 r4 r5, xAW r5, xDk r2 r6, xDl r6 r7, xAW r7, xDM r3, xBm r2 r8, xB5 r8 r2 r9, xB6 r3 r10, xBn r10 r2 r11, xGP r9 r11, iN false, xGy r2, xB6 r3 r12, xB5 r12 r2 r13, iN r13, xEp r3 r14, xEq r2 r15, xEr r14 r15 r16, xAW r16, xBm r2 r17, xBn r17 r2 r18, iN r18, xGz r3 r2 r19, iN r19, xHS r3 r2 r20, iN r20.2] := by kernel_rfl
def xSe (a0 : List Int) (r1 : Bool) (r2 : Exp × Str × Str) (r3 : Exp × Bool) (r4 : Exp × Bool) (r5 : Bool) (r6 : (List Str)) (r7 : Bool) (r8 : (List Str)) (r9 : Bool) (r10 : (List Str)) (r11 : Bool) (r12 : (List Str)) (r13 : (List Str)) (r14 : Bool) : rE I7 (xAM a0) [F, F, F, F, F, F, F, F, F, Y] [xA2 r1, xAl r2, xAj r3, xAn r4, xAh r5, xAc r6, xAK r7, xAf r8, xAa r9, xAc r10, xAa r11, xAi r12, xAi r13, xAG r14] = dn (xAN false) [xCN a0 r1, iN r1, xCT a0 r2, xCU r2 r3, xCV r2 r4, xC4 r3 r4, xC5 r3 r4 r5, xAW r5, xDk r2 r6, xDl r6 r7, xAW r7, xDM r3, xBm r2 r8, xB5 r8 r2 r9, xB6 r3 r10, xBn r10 r2 r11, xGP r9 r11, iN false, xHb r2, iN false, xEp r3 r12, xEq r2 r13, xEr r12 r13 r14, iY (!r14)] := by kernel_rfl
def xSf (a0 : List Int) (r1 : Bool) (r2 : Exp × Str × Str) (r3 : Exp × Bool) (r4 : Exp × Bool) (r5 : Bool) (r6 : (List Str)) (r7 : Bool) (r8 : (List Str)) (r9 : Bool) (r10 : (List Str)) (r11 : Bool) (r12 : (List Str)) (r13 : (List Str)) (r14 : Bool) (r15 : (List Str)) (r16 : Bool) : rE I7 (xAM a0) [F, F, F, F, F, F, F, F, F, F, Y, Y] [xA2 r1, xAl r2, xAj r3, xAn r4, xAh r5, xAc r6, xAK r7, xAf r8, xAa r9, xAc r10, xAa r11, xAi r12, xAi r13, xAG r14, xAf r15, xAa r16] = dn (xAN true) [xCN a0 r1, iN r1, xCT a0 r2, xCU r2 r3, xCV r2 r4, xC4 r3 r4, xC5 r3 r4 r5, xAW r5, xDk r2 r6, xDl r6 r7, xAW r7, xDM r3, xBm r2 r8, xB5 r8 r2 r9, xB6 r3 r10, xBn r10 r2 r11, xGP r9 r11, iN false, xHb r2, iN false, xEp r3 r12, xEq r2 r13, xEr r12 r13 r14, xAW r14, xBm r2 r15, xBn r15 r2 r16, iY r16, iY true] := by kernel_rfl
def xSg (a0 : List Int) (r1 : Bool) (r2 : Exp × Str × Str) (r3 : Exp × Bool) (r4 : Exp × Bool) (r5 : Bool) (r6 : (List Str)) (r7 : Bool) (r8 : (List Str)) (r9 : Bool) (r10 : (List Str)) (r11 : Bool) (r12 : (List Str)) (r13 : (List Str)) (r14 : Bool) (r15 : (List Str)) (r16 r17 : Bool) : rE I7 (xAM a0) [F, F, F, F, F, F, F, F, F, F, F, Y] [xA2 r1, xAl r2, xAj r3, xAn r4, xAh r5, xAc r6, xAK r7, xAf r8, xAa r9, xAc r10, xAa r11, xAi r12, xAi r13, xAG r14, xAf r15, xAa r16, xAU r17] = dn (xAN true) [xCN a0 r1, iN r1, xCT a0 r2, xCU r2 r3, xCV r2 r4, xC4 r3 r4, xC5 r3 r4 r5, xAW r5, xDk r2 r6, xDl r6 r7, xAW r7, xDM r3, xBm r2 r8, xB5 r8 r2 r9, xB6 r3 r10, xBn r10 r2 r11, xGP r9 r11, iN false, xHb r2, iN false, xEp r3 r12, xEq r2 r13, xEr r12 r13 r14, xAW r14, xBm r2 r15, xBn r15 r2 r16, iN r16, xGz r3 r2 r17, iY r17] := by kernel_rfl
def xSh (a0 : List Int) (r1 : Bool) (r2 : Exp × Str × Str) (r3 : Exp × Bool) (r4 : Exp × Bool) (r5 : Bool) (r6 : (List Str)) (r7 : Bool) (r8 : (List Str)) (r9 : Bool) (r10 : (List Str)) (r11 : Bool) (r12 : (List Str)) (r13 : (List Str)) (r14 : Bool) (r15 : (List Str)) (r16 r17 : Bool) (r18 : Exp × Bool) (r19 : Bool) : rE I7 (xAM a0) [F, F, F, F, F, F, F, F, F, F, F, F, Y] [xA2 r1, xAl r2, xAj r3, xAn r4, xAh r5, xAc r6, xAK r7, xAf r8, xAa r9, xAc r10, xAa r11, xAi r12, xAi r13, xAG r14, xAf r15, xAa r16, xAU r17, xAj r18, xAh r19] = dn (xAN r19) [xCN a0 r1, iN r1, xCT a0 r2, xCU r2 r3, xCV r2 r4, xC4 r3 r4, xC5 r3 r4 r5, xAW r5, xDk r2 r6, xDl r6 r7, xAW r7, xDM r3, xBm r2 r8, xB5 r8 r2 r9, xB6 r3 r10, xBn r10 r2 r11, xGP r9 r11, iN false, xHb r2, iN false, xEp r3 r12, xEq r2 r13, xEr r12 r13 r14, xAW r14, xBm r2 r15, xBn r15 r2 r16, iN r16, xGz r3 r2 r17, iN r17, xHS r3 r2 r18, iY r18.2, AbC 26 (xA7 r18.1 r2.1) (xAh r19)] := by kernel_rfl
def xSi (a0 : List Int) (r1 : Bool) (r2 : Exp × Str × Str) (r3 : Exp × Bool) (r4 : Exp × Bool) (r5 : Bool) (r6 : (List Str)) (r7 : Bool) (r8 : (List Str)) (r9 : Bool) (r10 : (List Str)) (r11 : Bool) (r12 : (List Str)) (r13 : (List Str)) (r14 : Bool) (r15 : (List Str)) (r16 r17 : Bool) (r18 : Exp × Bool) : rE I7 (xAM a0) [F, F, F, F, F, F, F, F, F, F, F, F, F] [xA2 r1, xAl r2, xAj r3, xAn r4, xAh r5, xAc r6, xAK r7, xAf r8, xAa r9, xAc r10, xAa r11, xAi r12, xAi r13, xAG r14, xAf r15, xAa r16, xAU r17, xAj r18] = dn (xAN false) [xCN a0 r1, iN r1, xCT a0 r2, xCU r2 r3, xCV r2 r4, xC4 r3 r4, xC5 r3 r4 r5, xAW r5, xDk r2 r6, xDl r6 r7, xAW r7, xDM r3, xBm r2 r8, xB5 r8 r2 r9, xB6 r3 r10, xBn r10 r2 r11, xGP r9 r11, iN false, xHb r2, iN false, xEp r3 r12, xEq r2 r13, xEr r12 r13 r14, xAW r14, xBm r2 r15, xBn r15 r2 r16, iN r16, xGz r3 r2 r17, iN r17, xHS r3 r2 r18, iN r18.2] := by kernel_rfl
theorem c7_e {N : Nat} : ∀ a0 r, xGa N a0 = some r → RE Try.f7 I7 (xAM a0) (xAN r) := fun a0 r h =>
 bE h fun r1 h0 h => cE h (fun h1 h => dE h fk7 (xTE a0 r1) (oc2 (xA8 h0) h1 on)) fun h1 h =>
 bE h fun r2 h2 h => bE h fun r3 h3 h => bE h fun r4 h4 h => cE h (fun h5 h => dE h fk7 (xTF a0 r1 r2 r3 r4) (oc8 (xA8 h0) h1 (xAp h2) (xAm h3) (xAC h4) h5 rfl rfl on)) fun h5 h =>
 bE h fun r5 h6 h => cE h (fun h7 h => dE h fk7 (xTG a0 r1 r2 r3 r4 r5) (oc9 (xA8 h0) h1 (xAp h2) (xAm h3) (xAC h4) h5 (xAz h6) h7 rfl on)) fun h7 h =>
 bE h fun r6 h8 h => bE h fun r7 h9 h => cE h (fun h10 h => dE h fk7 (xTH a0 r1 r2 r3 r4 r5 r6 r7) (oc11 (xA8 h0) h1 (xAp h2) (xAm h3) (xAC h4) h5 (xAz h6) h7 (xAe h8) (xA0 h9) h10 on)) fun h10 h =>
 cE h (fun h11 h => dE h fk7 (xTI a0 r1 r2 r3 r4 r5 r6 r7) (oc12 (xA8 h0) h1 (xAp h2) (xAm h3) (xAC h4) h5 (xAz h6) h7 (xAe h8) (xA0 h9) h10 h11 on)) fun h11 h =>
 bE h fun r8 h12 h => bE h fun r9 h13 h => bE h fun r10 h14 h => bE h fun r11 h15 h => cE h (fun h16 h => bE h fun r12 h17 h => bE h fun r13 h18 h => cE h (fun h19 h => dE h fk7 (xTJ a0 r1 r2 r3 r4 r5 r6 r7 r8 r9 r10 r11 r12 r13) (oc12 (xA8 h0) h1 (xAp h2) (xAm h3) (xAC h4) h5 (xAz h6) h7 (xAe h8) (xA0 h9) h10 h11 (oc9 (xAg h12) (xAb h13) (xAe h14) (xAb h15) h16 (xAg h17) (xAb h18) h19 rfl on))) fun h19 h =>
 cE h (fun h20 h => bE h fun r14 h21 h => bE h fun r15 h22 h => cE h (fun h23 h => dE h fk7 (xTK a0 r1 r2 r3 r4 r5 r6 r7 r8 r9 r10 r11 r12 r13 r14 r15) (oc12 (xA8 h0) h1 (xAp h2) (xAm h3) (xAC h4) h5 (xAz h6) h7 (xAe h8) (xA0 h9) h10 h11 (oc12 (xAg h12) (xAb h13) (xAe h14) (xAb h15) h16 (xAg h17) (xAb h18) h19 h20 (xAe h21) (xAb h22) h23 on))) fun h23 h =>
 bE h fun r16 h24 h => bE h fun r17 h25 h => bE h fun r18 h26 h => cE h (fun h27 h => dE h fk7 (xTL a0 r1 r2 r3 r4 r5 r6 r7 r8 r9 r10 r11 r12 r13 r14 r15 r16 r17 r18) (oc12 (xA8 h0) h1 (xAp h2) (xAm h3) (xAC h4) h5 (xAz h6) h7 (xAe h8) (xA0 h9) h10 h11 (oc12 (xAg h12) (xAb h13) (xAe h14) (xAb h15) h16 (xAg h17) (xAb h18) h19 h20 (xAe h21) (xAb h22) h23 (oc4 (xAk h24) (xAk h25) (xAX h26) h27 on)))) fun h27 h =>
 bE h fun r19 h28 h => bE h fun r20 h29 h => cE h (fun h30 h => dE h fk7 (xTM a0 r1 r2 r3 r4 r5 r6 r7 r8 r9 r10 r11 r12 r13 r14 r15 r16 r17 r18 r19 r20) (oc12 (xA8 h0) h1 (xAp h2) (xAm h3) (xAC h4) h5 (xAz h6) h7 (xAe h8) (xA0 h9) h10 h11 (oc12 (xAg h12) (xAb h13) (xAe h14) (xAb h15) h16 (xAg h17) (xAb h18) h19 h20 (xAe h21) (xAb h22) h23 (oc8 (xAk h24) (xAk h25) (xAX h26) h27 (xAg h28) (xAb h29) h30 rfl on)))) fun h30 h =>
 bE h fun r21 h31 h => cE h (fun h32 h => dE h fk7 (xTN a0 r1 r2 r3 r4 r5 r6 r7 r8 r9 r10 r11 r12 r13 r14 r15 r16 r17 r18 r19 r20 r21) (oc12 (xA8 h0) h1 (xAp h2) (xAm h3) (xAC h4) h5 (xAz h6) h7 (xAe h8) (xA0 h9) h10 h11 (oc12 (xAg h12) (xAb h13) (xAe h14) (xAb h15) h16 (xAg h17) (xAb h18) h19 h20 (xAe h21) (xAb h22) h23 (oc9 (xAk h24) (xAk h25) (xAX h26) h27 (xAg h28) (xAb h29) h30 (xBb h31) h32 on)))) fun h32 h =>
 bE h fun r22 h33 h => cE h (fun h34 h => bE h fun r23 h35 h => dE h fk7 (xR1 a0 r1 r2 r3 r4 r5 r6 r7 r8 r9 r10 r11 r12 r13 r14 r15 r16 r17 r18 r19 r20 r21 r22 r23) (oc12 (xA8 h0) h1 (xAp h2) (xAm h3) (xAC h4) h5 (xAz h6) h7 (xAe h8) (xA0 h9) h10 h11 (oc12 (xAg h12) (xAb h13) (xAe h14) (xAb h15) h16 (xAg h17) (xAb h18) h19 h20 (xAe h21) (xAb h22) h23 (oc12 (xAk h24) (xAk h25) (xAX h26) h27 (xAg h28) (xAb h29) h30 (xBb h31) h32 (xAm h33) h34 (xAz h35) on)))) fun h34 h =>
 dE h fk7 (xR2 a0 r1 r2 r3 r4 r5 r6 r7 r8 r9 r10 r11 r12 r13 r14 r15 r16 r17 r18 r19 r20 r21 r22) (oc12 (xA8 h0) h1 (xAp h2) (xAm h3) (xAC h4) h5 (xAz h6) h7 (xAe h8) (xA0 h9) h10 h11 (oc12 (xAg h12) (xAb h13) (xAe h14) (xAb h15) h16 (xAg h17) (xAb h18) h19 h20 (xAe h21) (xAb h22) h23 (oc11 (xAk h24) (xAk h25) (xAX h26) h27 (xAg h28) (xAb h29) h30 (xBb h31) h32 (xAm h33) h34 on)))) fun h20 h =>
 bE h fun r14 h22 h => bE h fun r15 h23 h => bE h fun r16 h24 h => cE h (fun h25 h => dE h fk7 (xR3 a0 r1 r2 r3 r4 r5 r6 r7 r8 r9 r10 r11 r12 r13 r14 r15 r16) (oc12 (xA8 h0) h1 (xAp h2) (xAm h3) (xAC h4) h5 (xAz h6) h7 (xAe h8) (xA0 h9) h10 h11 (oc12 (xAg h12) (xAb h13) (xAe h14) (xAb h15) h16 (xAg h17) (xAb h18) h19 h20 rfl (xAk h22) (xAk h23) (oc2 (xAX h24) h25 on)))) fun h25 h =>
 bE h fun r17 h26 h => bE h fun r18 h27 h => cE h (fun h28 h => dE h fk7 (xR4 a0 r1 r2 r3 r4 r5 r6 r7 r8 r9 r10 r11 r12 r13 r14 r15 r16 r17 r18) (oc12 (xA8 h0) h1 (xAp h2) (xAm h3) (xAC h4) h5 (xAz h6) h7 (xAe h8) (xA0 h9) h10 h11 (oc12 (xAg h12) (xAb h13) (xAe h14) (xAb h15) h16 (xAg h17) (xAb h18) h19 h20 rfl (xAk h22) (xAk h23) (oc6 (xAX h24) h25 (xAg h26) (xAb h27) h28 rfl on)))) fun h28 h =>
 bE h fun r19 h29 h => cE h (fun h30 h => dE h fk7 (xR5 a0 r1 r2 r3 r4 r5 r6 r7 r8 r9 r10 r11 r12 r13 r14 r15 r16 r17 r18 r19) (oc12 (xA8 h0) h1 (xAp h2) (xAm h3) (xAC h4) h5 (xAz h6) h7 (xAe h8) (xA0 h9) h10 h11 (oc12 (xAg h12) (xAb h13) (xAe h14) (xAb h15) h16 (xAg h17) (xAb h18) h19 h20 rfl (xAk h22) (xAk h23) (oc7 (xAX h24) h25 (xAg h26) (xAb h27) h28 (xBb h29) h30 on)))) fun h30 h =>
 bE h fun r20 h31 h => cE h (fun h32 h => bE h fun r21 h33 h => dE h fk7 (xR6 a0 r1 r2 r3 r4 r5 r6 r7 r8 r9 r10 r11 r12 r13 r14 r15 r16 r17 r18 r19 r20 r21) (oc12 (xA8 h0) h1 (xAp h2) (xAm h3) (xAC h4) h5 (xAz h6) h7 (xAe h8) (xA0 h9) h10 h11 (oc12 (xAg h12) (xAb h13) (xAe h14) (xAb h15) h16 (xAg h17) (xAb h18) h19 h20 rfl (xAk h22) (xAk h23) (oc10 (xAX h24) h25 (xAg h26) (xAb h27) h28 (xBb h29) h30 (xAm h31) h32 (xAz h33) on)))) fun h32 h =>
 dE h fk7 (xR7 a0 r1 r2 r3 r4 r5 r6 r7 r8 r9 r10 r11 r12 r13 r14 r15 r16 r17 r18 r19 r20) (oc12 (xA8 h0) h1 (xAp h2) (xAm h3) (xAC h4) h5 (xAz h6) h7 (xAe h8) (xA0 h9) h10 h11 (oc12 (xAg h12) (xAb h13) (xAe h14) (xAb h15) h16 (xAg h17) (xAb h18) h19 h20 rfl (xAk h22) (xAk h23) (oc9 (xAX h24) h25 (xAg h26) (xAb h27) h28 (xBb h29) h30 (xAm h31) h32 on)))) fun h16 h =>
 cE h (fun h18 h => bE h fun r12 h19 h => bE h fun r13 h20 h => cE h (fun h21 h => dE h fk7 (xR8 a0 r1 r2 r3 r4 r5 r6 r7 r8 r9 r10 r11 r12 r13) (oc12 (xA8 h0) h1 (xAp h2) (xAm h3) (xAC h4) h5 (xAz h6) h7 (xAe h8) (xA0 h9) h10 h11 (oc10 (xAg h12) (xAb h13) (xAe h14) (xAb h15) h16 rfl h18 (xAe h19) (xAb h20) h21 on))) fun h21 h =>
 bE h fun r14 h22 h => bE h fun r15 h23 h => bE h fun r16 h24 h => cE h (fun h25 h => dE h fk7 (xR9 a0 r1 r2 r3 r4 r5 r6 r7 r8 r9 r10 r11 r12 r13 r14 r15 r16) (oc12 (xA8 h0) h1 (xAp h2) (xAm h3) (xAC h4) h5 (xAz h6) h7 (xAe h8) (xA0 h9) h10 h11 (oc12 (xAg h12) (xAb h13) (xAe h14) (xAb h15) h16 rfl h18 (xAe h19) (xAb h20) h21 (xAk h22) (xAk h23) (oc2 (xAX h24) h25 on)))) fun h25 h =>
 bE h fun r17 h26 h => bE h fun r18 h27 h => cE h (fun h28 h => dE h fk7 (xSa a0 r1 r2 r3 r4 r5 r6 r7 r8 r9 r10 r11 r12 r13 r14 r15 r16 r17 r18) (oc12 (xA8 h0) h1 (xAp h2) (xAm h3) (xAC h4) h5 (xAz h6) h7 (xAe h8) (xA0 h9) h10 h11 (oc12 (xAg h12) (xAb h13) (xAe h14) (xAb h15) h16 rfl h18 (xAe h19) (xAb h20) h21 (xAk h22) (xAk h23) (oc6 (xAX h24) h25 (xAg h26) (xAb h27) h28 rfl on)))) fun h28 h =>
 bE h fun r19 h29 h => cE h (fun h30 h => dE h fk7 (xSb a0 r1 r2 r3 r4 r5 r6 r7 r8 r9 r10 r11 r12 r13 r14 r15 r16 r17 r18 r19) (oc12 (xA8 h0) h1 (xAp h2) (xAm h3) (xAC h4) h5 (xAz h6) h7 (xAe h8) (xA0 h9) h10 h11 (oc12 (xAg h12) (xAb h13) (xAe h14) (xAb h15) h16 rfl h18 (xAe h19) (xAb h20) h21 (xAk h22) (xAk h23) (oc7 (xAX h24) h25 (xAg h26) (xAb h27) h28 (xBb h29) h30 on)))) fun h30 h =>
 bE h fun r20 h31 h => cE h (fun h32 h => bE h fun r21 h33 h => dE h fk7 (xSc a0 r1 r2 r3 r4 r5 r6 r7 r8 r9 r10 r11 r12 r13 r14 r15 r16 r17 r18 r19 r20 r21) (oc12 (xA8 h0) h1 (xAp h2) (xAm h3) (xAC h4) h5 (xAz h6) h7 (xAe h8) (xA0 h9) h10 h11 (oc12 (xAg h12) (xAb h13) (xAe h14) (xAb h15) h16 rfl h18 (xAe h19) (xAb h20) h21 (xAk h22) (xAk h23) (oc10 (xAX h24) h25 (xAg h26) (xAb h27) h28 (xBb h29) h30 (xAm h31) h32 (xAz h33) on)))) fun h32 h =>
 dE h fk7 (xSd a0 r1 r2 r3 r4 r5 r6 r7 r8 r9 r10 r11 r12 r13 r14 r15 r16 r17 r18 r19 r20) (oc12 (xA8 h0) h1 (xAp h2) (xAm h3) (xAC h4) h5 (xAz h6) h7 (xAe h8) (xA0 h9) h10 h11 (oc12 (xAg h12) (xAb h13) (xAe h14) (xAb h15) h16 rfl h18 (xAe h19) (xAb h20) h21 (xAk h22) (xAk h23) (oc9 (xAX h24) h25 (xAg h26) (xAb h27) h28 (xBb h29) h30 (xAm h31) h32 on)))) fun h18 h =>
 bE h fun r12 h20 h => bE h fun r13 h21 h => bE h fun r14 h22 h => cE h (fun h23 h => dE h fk7 (xSe a0 r1 r2 r3 r4 r5 r6 r7 r8 r9 r10 r11 r12 r13 r14) (oc12 (xA8 h0) h1 (xAp h2) (xAm h3) (xAC h4) h5 (xAz h6) h7 (xAe h8) (xA0 h9) h10 h11 (oc12 (xAg h12) (xAb h13) (xAe h14) (xAb h15) h16 rfl h18 rfl (xAk h20) (xAk h21) (xAX h22) h23 on))) fun h23 h =>
 bE h fun r15 h24 h => bE h fun r16 h25 h => cE h (fun h26 h => dE h fk7 (xSf a0 r1 r2 r3 r4 r5 r6 r7 r8 r9 r10 r11 r12 r13 r14 r15 r16) (oc12 (xA8 h0) h1 (xAp h2) (xAm h3) (xAC h4) h5 (xAz h6) h7 (xAe h8) (xA0 h9) h10 h11 (oc12 (xAg h12) (xAb h13) (xAe h14) (xAb h15) h16 rfl h18 rfl (xAk h20) (xAk h21) (xAX h22) h23 (oc4 (xAg h24) (xAb h25) h26 rfl on)))) fun h26 h =>
 bE h fun r17 h27 h => cE h (fun h28 h => dE h fk7 (xSg a0 r1 r2 r3 r4 r5 r6 r7 r8 r9 r10 r11 r12 r13 r14 r15 r16 r17) (oc12 (xA8 h0) h1 (xAp h2) (xAm h3) (xAC h4) h5 (xAz h6) h7 (xAe h8) (xA0 h9) h10 h11 (oc12 (xAg h12) (xAb h13) (xAe h14) (xAb h15) h16 rfl h18 rfl (xAk h20) (xAk h21) (xAX h22) h23 (oc5 (xAg h24) (xAb h25) h26 (xBb h27) h28 on)))) fun h28 h =>
 bE h fun r18 h29 h => cE h (fun h30 h => bE h fun r19 h31 h => dE h fk7 (xSh a0 r1 r2 r3 r4 r5 r6 r7 r8 r9 r10 r11 r12 r13 r14 r15 r16 r17 r18 r19) (oc12 (xA8 h0) h1 (xAp h2) (xAm h3) (xAC h4) h5 (xAz h6) h7 (xAe h8) (xA0 h9) h10 h11 (oc12 (xAg h12) (xAb h13) (xAe h14) (xAb h15) h16 rfl h18 rfl (xAk h20) (xAk h21) (xAX h22) h23 (oc8 (xAg h24) (xAb h25) h26 (xBb h27) h28 (xAm h29) h30 (xAz h31) on)))) fun h30 h =>
 dE h fk7 (xSi a0 r1 r2 r3 r4 r5 r6 r7 r8 r9 r10 r11 r12 r13 r14 r15 r16 r17 r18) (oc12 (xA8 h0) h1 (xAp h2) (xAm h3) (xAC h4) h5 (xAz h6) h7 (xAe h8) (xA0 h9) h10 h11 (oc12 (xAg h12) (xAb h13) (xAe h14) (xAb h15) h16 rfl h18 rfl (xAk h20) (xAk h21) (xAX h22) h23 (oc7 (xAg h24) (xAb h25) h26 (xBb h27) h28 (xAm h29) h30 on)))
theorem laws_FnFree_ok {N : Nat} {a0 : List Int} {r : Bool} (h : xGa N  a0 = some r) : AbC 7 (xAM a0) (xAN r) :=
 AbsCalls.of_reach fk7 rfl rfl rfl (Nat.le_of_ble_eq_true rfl) (c7_e a0 r h)
end Go.Ab.T
end
section
namespace Go.Ab
def Big (p : Nat → Prop) : Prop := ∃ k, ∀ N, k ≤ N → p N
def Big2 (p : Nat → Nat → Prop) : Prop := ∃ k, ∀ N n, k ≤ N → k ≤ n → p N n
theorem Big.imp {p q : Nat → Prop} (h : Big p) (f : ∀ N, p N → q N) : Big q := h.elim fun k hk => ⟨k, fun N hN => f N (hk N hN)⟩
theorem Big2.imp {p q : Nat → Nat → Prop} (h : Big2 p) (f : ∀ N n, p N n → q N n) : Big2 q := h.elim fun k hk => ⟨k, fun N n h1 h2 => f N n (hk N n h1 h2)⟩
theorem Big2.of {p : Nat → Nat → Prop} (h : ∀ N n, p N n) : Big2 p := ⟨0, fun N n _ _ => h N n⟩
theorem Big.and {p q : Nat → Prop} (h : Big p) (h' : Big q) : Big fun N => p N ∧ q N := by
 obtain ⟨a, ha⟩ := h; obtain ⟨b, hb⟩ := h'
 exact ⟨max a b, fun N hN => ⟨ha N (by omega), hb N (by omega)⟩⟩
theorem Big2.and {p q : Nat → Nat → Prop} (h : Big2 p) (h' : Big2 q) : Big2 fun N n => p N n ∧ q N n := by
 obtain ⟨a, ha⟩ := h; obtain ⟨b, hb⟩ := h'
 exact ⟨max a b, fun N n h1 h2 => ⟨ha N n (by omega) (by omega), hb N n (by omega) (by omega)⟩⟩
theorem Big.two {p : Nat → Prop} (h : Big p) : Big2 fun N _ => p N := h.elim fun k hk => ⟨k, fun N _ h _ => hk N h⟩
theorem Big2.diag {p : Nat → Nat → Prop} (h : Big2 p) : Big fun N => p N N := h.elim fun k hk => ⟨k, fun N h => hk N N h h⟩
theorem Big2.succ {p : Nat → Nat → Prop} (h : Big2 fun N n => p N (n + 1)) : Big2 p := by
 obtain ⟨k, hk⟩ := h
 refine ⟨k + 1, fun N n h1 h2 => ?_⟩
 obtain ⟨m, rfl⟩ : ∃ m, n = m + 1 := ⟨n - 1, by omega⟩
 exact hk N m (by omega) (by omega)
theorem Big2.list {α : Type} {p : α → Nat → Nat → Prop} {l : List α} (h : ∀ x ∈ l, Big2 (p x)) : Big2 fun N n => ∀ x ∈ l, p x N n := by
 induction l with
 | nil => exact .of fun N n x hx => by cases hx
 | cons a l ih =>
   refine ((h a List.mem_cons_self).and (ih fun x hx => h x (List.mem_cons_of_mem _ hx))).imp fun N n ⟨h1, h2⟩ x hx => ?_
   rcases List.mem_cons.1 hx with rfl | hx
   · exact h1
   · exact h2 x hx
theorem Big.get {p : Nat → Prop} (h : Big p) : ∃ N, p N := h.elim fun k hk => ⟨k, hk k (Nat.le_refl k)⟩
def I64 (x : Int) : Prop := -9223372036854775808 ≤ x ∧ x ≤ 9223372036854775807
theorem xLd (x : Int) : IntKind.i64.wrap x = if x % 18446744073709551616 ≥ 9223372036854775808 then x % 18446744073709551616 - 18446744073709551616 else x % 18446744073709551616 := by
 show (if (true && decide (x % 18446744073709551616 ≥ 9223372036854775808)) = true then x % 18446744073709551616 - 18446744073709551616 else x % 18446744073709551616) = _
 simp only [Bool.true_and, decide_eq_true_eq]
theorem xDu {x : Int} (h1 : -9223372036854775808 ≤ x) (h2 : x ≤ 9223372036854775807) : IntKind.i64.wrap x = x := by
 rw [xLd]
 split <;> omega
theorem xHK {α : Type} {xs : List α} {i : Nat} {x : α} {l : List α} (h : xs.drop i = x :: l) : i < xs.length ∧ xs[i]? = some x ∧ xs.drop (i + 1) = l := by
 have h1 : i < xs.length := by
  rcases Nat.lt_or_ge i xs.length with h1 | h1
  · exact h1
  · rw [List.drop_eq_nil_of_le h1] at h; cases h
 rw [List.drop_eq_getElem_cons h1] at h
 cases h
 exact ⟨h1, by simp [h1], rfl⟩
theorem xLH {α : Type} {xs : List α} {i : Nat} (h : xs.drop i = []) : xs.length ≤ i := by simpa using h
end Go.Ab
end
section
namespace Go.Ab
inductive DK (K : Nat) : D → Prop where
 | int {k n} (h : (Lit.int k n).wf = true) : DK K (.int k n)
 | bool (b) : DK K (.bool b)
 | str {s : Str} (h : s.length ≤ K) : DK K (.str s)
 | sl {sz rows} (h : rows.length ≤ K) (hr : ∀ r ∈ rows, ∀ x ∈ r, DK K x) : DK K (.sl sz rows)
theorem DK.mono {K M : Nat} (hKM : K ≤ M) {d : D} (h : DK K d) : DK M d := by
 induction h with
 | int h => exact .int h
 | bool b => exact .bool b
 | str h => exact .str (by omega)
 | sl h _ ih => exact .sl (by omega) ih
theorem xOt {n : Int} : (Lit.int .i64 n).wf = true ↔ I64 n := by
 show (decide (_ ≤ n) && decide (n ≤ _)) = true ↔ _
 rw [Bool.and_eq_true, decide_eq_true_eq, decide_eq_true_eq]
 exact Iff.rfl
theorem DK.i64 {K : Nat} {n : Int} : DK K (.int .i64 n) ↔ I64 n := ⟨fun h => by cases h with | int h => exact xOt.1 h, fun h => .int (xOt.2 h)⟩
theorem DK.str_iff {K : Nat} {s : Str} : DK K (.str s) ↔ s.length ≤ K := ⟨fun h => by cases h; assumption, .str⟩
theorem DK.sl_iff {K sz : Nat} {α : Type} {f : α → List D} {xs : List α} : DK K (.sl sz (xs.map f)) ↔ xs.length ≤ K ∧ ∀ x ∈ xs, ∀ d ∈ f x, DK K d := by
 constructor
 · intro h
   cases h with
   | sl h hr => exact ⟨by simpa using h, fun x hx => hr _ (List.mem_map_of_mem hx)⟩
 · rintro ⟨h, hr⟩
   refine .sl (by simpa using h) fun r hr' => ?_
   obtain ⟨x, hx, rfl⟩ := List.mem_map.1 hr'
   exact hr x hx
def LFit {α : Type} (K : Nat) (p : α → Prop) (l : List α) : Prop := l.length ≤ K ∧ ∀ x ∈ l, p x
def Ty.Fit (K : Nat) (T : Ty) (x : T.den) : Prop := ∀ d ∈ T.toD x, DK K d
def Org.Fit (o : Org) : Prop := I64 o.cell ∧ I64 o.row
def Rowd.Fit (K : Nat) (r : Rowd) : Prop := LFit K I64 r.cells ∧ LFit K Org.Fit r.frm
def Str.Fit (K : Nat) (s : Str) : Prop := s.length ≤ K
def Exp.Fit (K : Nat) (v : Exp) : Prop := ∀ d ∈ Exp.toD v, DK K d
def Fil.Fit (K : Nat) (v : Fil) : Prop := Str.Fit K v.name ∧ I64 v.n
theorem xTS {K : Nat} {r : Rowd} : (∀ d ∈ Rowd.toD r, DK K d) ↔ r.Fit K := by
 simp only [Rowd.toD, List.mem_cons, List.not_mem_nil, or_false, forall_eq_or_imp, forall_eq, DK.sl_iff, DK.i64, Rowd.Fit, LFit, Org.Fit]
theorem xVn {K : Nat} {r : Fil} : Ty.Fit K .fil r ↔ r.Fit K := by
 simp only [Ty.Fit, Ty.toD, List.mem_cons, List.not_mem_nil, or_false, forall_eq_or_imp, forall_eq, DK.str_iff, DK.i64, Fil.Fit, Str.Fit]
theorem Exp.fit_iff {K : Nat} {v : Exp} : v.Fit K ↔ I64 v.kind ∧ I64 v.n ∧ Str.Fit K v.text ∧ LFit K (Exp.Fit K) v.args := by
 cases v
 simp only [Exp.Fit, Exp.toD, Exp.toDs_eq, List.mem_cons, List.not_mem_nil, or_false, forall_eq_or_imp, forall_eq, DK.sl_iff, DK.i64, DK.str_iff, Str.Fit, LFit, Exp.kind, Exp.n, Exp.text, Exp.args]
theorem xJq {l : List Exp} {x : Exp} (h : x ∈ l) (k n : Int) (t : Str) : SizeOf.sizeOf x < SizeOf.sizeOf (Exp.mk k n t l) := by
 have := List.sizeOf_lt_of_mem h
 simp only [Exp.mk.sizeOf_spec]
 omega
theorem Exp.ind {p : Exp → Prop} (h : ∀ k n t l, (∀ x ∈ l, p x) → p (.mk k n t l)) : ∀ v, p v
 | .mk k n t l => h k n t l fun x hx => Exp.ind h x
termination_by v => SizeOf.sizeOf v
decreasing_by exact xJq hx k n t
end Go.Ab
end
section
namespace Go.Ab
theorem xDr {α σ ρ : Type} {L : Nat → Int → σ → Option ρ} (x0 : List α) (g : List α → σ → ρ) (Inv : Nat → σ → Prop)
 (hnil : ∀ n s, Inv x0.length s → L (n + 1) (x0.length : Nat) s = some (g [] s))
 (hcons : ∀ i x l s, x0.drop i = x :: l → i < x0.length → x0[i]? = some x → Inv i s →
   (∃ s', Inv (i + 1) s' ∧ g (x :: l) s = g l s' ∧ ∀ n, L (n + 1) (i : Nat) s = L n ((i + 1 : Nat) : Int) s') ∨ (∀ n, L (n + 1) (i : Nat) s = some (g (x :: l) s))) :
 ∀ n i s, Inv i s → i ≤ x0.length → x0.length < n + i → L n (i : Nat) s = some (g (x0.drop i) s) := by
 intro n
 induction n with
 | zero => intro i s _ h1 h2; omega
 | succ n ih =>
   intro i s hs hi hn
   cases hd : x0.drop i with
   | nil =>
     have := xLH hd
     obtain rfl : i = x0.length := by omega
     exact hnil n s hs
   | cons x l =>
     obtain ⟨h1, h2, h3⟩ := xHK hd
     rcases hcons i x l s hd h1 h2 hs with ⟨s', h4, h5, h6⟩ | h
     · rw [h6, ih (i + 1) s' h4 (by omega) (by omega), h3, h5]
     · exact h n
theorem xBO {α : Type} {xs : List α} {i : Nat} {x : α} (h : xs[i]? = some x) (d : α) : xs.getD i d = x := by simp [List.getD, h]
theorem xBh {i : Nat} {len : Nat} (h : i < len) (hl : len ≤ 9223372036854775807) : IntKind.i64.wrap ((i : Int) + 1) = ((i + 1 : Nat) : Int) := by
 rw [xDu (by omega) (by omega)]; omega
def left (s : Nat) (l : Int) : Int := if (s : Int) ≤ l then l - s else -1
theorem xJ4 {s : Nat} {l : Int} (h : (s : Int) ≤ l) : left s l = l - s := by unfold left; rw [if_pos h]
theorem xJd {s : Nat} {l : Int} (h : ¬ (s : Int) ≤ l) : left s l = -1 := by unfold left; rw [if_neg h]
section
variable {α : Type} {d : α}
theorem xOp {L : Nat → Int → Option Bool} {x0 : List α} (hend : ∀ n, L (n + 1) (x0.length : Nat) = some true)
 (hcons : ∀ (i : Nat) x n, i < x0.length → x0[i]? = some x → x ∈ x0 → L (n + 1) (i : Nat) = L n ((i + 1 : Nat) : Int)) {n : Nat} (hn : x0.length < n) : L n 0 = some true := by
 have key := xDr (σ := Unit) (L := fun n i _ => L n i) x0 (fun _ _ => true) (fun _ _ => True) (fun n _ _ => hend n)
  (fun i x r s hd hi hx _ => .inl ⟨(), trivial, rfl, fun n => hcons i x n hi hx (List.mem_of_getElem? hx)⟩) n 0 () trivial (by omega) (by omega)
 exact key
end
end Go.Ab
end
section
namespace Go.Ab
theorem vk (a b c : Int) (t : Str) (l : List Val) (k : List Str) (r : List Rowd) : (Val.mk a b c t l k r).kind = a := rfl
theorem vs (a b c : Int) (t : Str) (l : List Val) (k : List Str) (r : List Rowd) : (Val.mk a b c t l k r).step = c := rfl
theorem vl (a b c : Int) (t : Str) (l : List Val) (k : List Str) (r : List Rowd) : (Val.mk a b c t l k r).list = l := rfl
theorem vr (a b c : Int) (t : Str) (l : List Val) (k : List Str) (r : List Rowd) : (Val.mk a b c t l k r).rows = r := rfl
theorem ek (a b : Int) (t : Str) (l : List Exp) : (Exp.mk a b t l).kind = a := rfl
theorem en (a b : Int) (t : Str) (l : List Exp) : (Exp.mk a b t l).n = b := rfl
theorem et (a b : Int) (t : Str) (l : List Exp) : (Exp.mk a b t l).text = t := rfl
theorem ea (a b : Int) (t : Str) (l : List Exp) : (Exp.mk a b t l).args = l := rfl
mutual
def Exp.size : Exp → Nat
 | .mk _ _ t a => t.length + (a.length + Exp.sizes a)
def Exp.sizes : List Exp → Nat
 | [] => 0
 | x :: r => Exp.size x + Exp.sizes r
end
theorem Exp.sizes_eq (l : List Exp) : Exp.sizes l = (l.map Exp.size).sum := by
 induction l with
 | nil => rfl
 | cons x l ih => simp [Exp.sizes, ih]
theorem xJf {α : Type} {f : α → Nat} {l : List α} {x : α} (h : x ∈ l) : f x ≤ (l.map f).sum := by
 induction l with
 | nil => cases h
 | cons a l ih =>
   simp only [List.map_cons, List.sum_cons]
   rcases List.mem_cons.1 h with rfl | h
   · omega
   · have := ih h; omega
theorem Exp.size_eq (e : Exp) : e.size = e.text.length + (e.args.length + (e.args.map Exp.size).sum) := by
 cases e; simp [Exp.size, Exp.sizes_eq, Exp.text, Exp.args]
theorem xGJ (n : Nat) : Big fun N => n < N := ⟨n + 1, fun N h => by omega⟩
end Go.Ab
end
section
namespace Go.Ab
def xIr (c : UInt8) : Bool := decide ((c.toNat : Int) ≥ 97) && decide ((c.toNat : Int) ≤ 122)
def xJj (c : UInt8) : Bool := decide ((c.toNat : Int) ≥ 48) && decide ((c.toNat : Int) ≤ 57)
def xG2 : List UInt8 → Bool → Bool
 | [], _ => true
 | x :: r, f => (xIr x || (!f && xJj x)) && xG2 r false
theorem xJB {N : Nat} {s : Str} (hl : s.length ≤ 9223372036854775807) (hn : s.length < N) : xG7 N s = some (xG2 s true && decide ((s.length : Int) > 0)) :=
 xDr (L := fun n i _ => xCn N n s i) s (fun l f => xG2 l f && decide ((s.length : Int) > 0)) (fun i f => f = (i == 0)) (fun n _ _ => by simp [xCn, xG2])
  (fun i x l f hd hi hx hf => by
    have hi' : (i : Int) < (s.length : Int) := by omega
    have hi0 : ((i : Int) == 0) = f := by rw [hf]; cases i <;> simp <;> omega
    by_cases h1 : (xIr x || (!f && xJj x)) = true
    · refine .inl ⟨false, by simp, by simp [xG2, h1], fun n => ?_⟩
      simp only [xCn, decide_eq_true hi', jT, Int.toNat_natCast, xBO hx, xBh hi hl, hi0]
      rw [if_pos (by omega)]
      unfold xIr xJj at h1
      by_cases c1 : (x.toNat : Int) ≥ 97 <;> by_cases c2 : (x.toNat : Int) ≤ 122 <;> by_cases c3 : (x.toNat : Int) ≥ 48 <;> by_cases c4 : (x.toNat : Int) ≤ 57 <;> cases f <;>
       simp only [c1, c2, c3, c4, decide_true, decide_false, jT, jF, Bool.not_true, Bool.not_false, Bool.and_true, Bool.and_false, Bool.or_true, Bool.or_false, Bool.false_and, Bool.true_and, Bool.false_or, Bool.false_eq_true] at h1 ⊢
    · refine .inr fun n => ?_
      have h1 := Bool.eq_false_iff.2 h1
      simp only [xCn, decide_eq_true hi', jT, Int.toNat_natCast, xBO hx, xBh hi hl, hi0, xG2, h1, Bool.false_and]
      rw [if_pos (by omega)]
      unfold xIr xJj at h1
      by_cases c1 : (x.toNat : Int) ≥ 97 <;> by_cases c2 : (x.toNat : Int) ≤ 122 <;> by_cases c3 : (x.toNat : Int) ≥ 48 <;> by_cases c4 : (x.toNat : Int) ≤ 57 <;> cases f <;>
       simp only [c1, c2, c3, c4, decide_true, decide_false, jT, jF, Bool.not_true, Bool.not_false, Bool.and_true, Bool.and_false, Bool.or_true, Bool.or_false, Bool.false_and, Bool.true_and, Bool.false_or, Bool.true_eq_false] at h1 ⊢) N 0 true rfl (by omega) (by omega)
theorem xIi (N : Nat) (a b c : Int) : xFF N a b c = some (decide (b ≤ a) && decide (a ≤ c)) := by
 unfold xFF
 cases h : decide (b ≤ a) <;> simp
theorem xLc (N : Nat) (a b c : Int) : xHm N a b c = some (decide (b ≤ a) && decide (a ≤ c)) := by
 unfold xHm
 cases h : decide (b ≤ a)
 · rfl
 · rfl
theorem xJG {N : Nat} {s : Str} (hl : s.length ≤ 9223372036854775807) (hn : s.length < N) : xHt N s = some (xG2 s true && (decide ((1 : Int) ≤ s.length) && decide ((s.length : Int) ≤ 8))) :=
 xDr (L := fun n i _ => xCY N n s i) s (fun l f => xG2 l f && (decide ((1 : Int) ≤ s.length) && decide ((s.length : Int) ≤ 8))) (fun i f => f = (i == 0)) (fun n _ _ => by simp [xCY, xG2, xIi])
  (fun i x l f hd hi hx hf => by
    have hi' : (i : Int) < (s.length : Int) := by omega
    have hi0 : ((i : Int) == 0) = f := by rw [hf]; cases i <;> simp <;> omega
    have e1 : decide ((x.toNat : Int) < 48) = !decide ((x.toNat : Int) ≥ 48) := by by_cases c : (x.toNat : Int) ≥ 48 <;> simp [c] <;> omega
    have e2 : decide ((x.toNat : Int) > 57) = !decide ((x.toNat : Int) ≤ 57) := by by_cases c : (x.toNat : Int) ≤ 57 <;> simp [c] <;> omega
    by_cases h1 : (xIr x || (!f && xJj x)) = true
    · refine .inl ⟨false, by simp, by simp [xG2, h1], fun n => ?_⟩
      simp only [xCY, decide_eq_true hi', jT, Int.toNat_natCast, xBO hx, xBh hi hl, hi0, e1, e2]
      rw [if_pos (by omega)]
      unfold xIr xJj at h1
      by_cases c1 : (x.toNat : Int) ≥ 97 <;> by_cases c2 : (x.toNat : Int) ≤ 122 <;> by_cases c3 : (x.toNat : Int) ≥ 48 <;> by_cases c4 : (x.toNat : Int) ≤ 57 <;> cases f <;>
       simp only [c1, c2, c3, c4, decide_true, decide_false, jT, jF, Bool.not_true, Bool.not_false, Bool.and_true, Bool.and_false, Bool.or_true, Bool.or_false, Bool.false_and, Bool.true_and, Bool.false_or, Bool.false_eq_true] at h1 ⊢
    · refine .inr fun n => ?_
      have h1 := Bool.eq_false_iff.2 h1
      simp only [xCY, decide_eq_true hi', jT, Int.toNat_natCast, xBO hx, xBh hi hl, hi0, e1, e2, xG2, h1, Bool.false_and]
      rw [if_pos (by omega)]
      unfold xIr xJj at h1
      by_cases c1 : (x.toNat : Int) ≥ 97 <;> by_cases c2 : (x.toNat : Int) ≤ 122 <;> by_cases c3 : (x.toNat : Int) ≥ 48 <;> by_cases c4 : (x.toNat : Int) ≤ 57 <;> cases f <;>
       simp only [c1, c2, c3, c4, decide_true, decide_false, jT, jF, Bool.not_true, Bool.not_false, Bool.and_true, Bool.and_false, Bool.or_true, Bool.or_false, Bool.false_and, Bool.true_and, Bool.false_or, Bool.true_eq_false] at h1 ⊢) N 0 true rfl (by omega) (by omega)
def xHj : List Str := [[108, 101, 116], [105, 110], [105, 102], [116, 104, 101, 110], [101, 108, 115, 101], [102, 111, 114], [100, 111], [108, 101, 110], [115, 117, 109], [116, 97, 107, 101], [115, 107, 105, 112], [114, 97, 110, 103, 101], [110, 116, 104], [119, 104, 101, 114, 101], [107, 101, 101, 112], [97, 100, 100], [103, 114, 111, 117, 112], [106, 111, 105, 110], [99, 111, 108, 117, 109, 110], [114, 111, 119, 115], [99, 108, 111, 99, 107], [99, 104, 97, 110, 99, 101], [102, 105, 108, 101], [116, 97, 98, 108, 101]]
theorem xHx {N : Nat} {xs : List Str} {s : Str} (hl : xs.length ≤ 9223372036854775807) (hn : xs.length < N) : xFi N xs s = some (xs.any (· == s)) :=
 xDr (σ := Unit) (L := fun n i _ => xEG N n xs s i) xs (fun l _ => l.any (· == s)) (fun _ _ => True) (fun n _ _ => by simp [xEG])
  (fun i x l _ hd hi hx _ => by
    have hi' : (i : Int) < (xs.length : Int) := by omega
    cases h1 : x == s
    · refine .inl ⟨(), trivial, by simp [h1], fun n => ?_⟩
      simp only [xEG, decide_eq_true hi', jT, Int.toNat_natCast, xBO hx, h1, jF, xBh hi hl]
      rw [if_pos (by omega)]
    · refine .inr fun n => ?_
      simp only [xEG, decide_eq_true hi', jT, Int.toNat_natCast, xBO hx, h1]
      rw [if_pos (by omega)]
      simp [h1]) N 0 () trivial (by omega) (by omega)
def xIa (s : Str) : Bool := xHj.any (· == s)
theorem xIL {N : Nat} {s : Str} (hn : 24 < N) : xE5 N s = some (xIa s) := by
 unfold xE5 xF4
 rw [jS, show ([[108, 101, 116], [105, 110], [105, 102], [116, 104, 101, 110], [101, 108, 115, 101], [102, 111, 114], [100, 111], [108, 101, 110], [115, 117, 109], [116, 97, 107, 101], [115, 107, 105, 112], [114, 97, 110, 103, 101], [110, 116, 104], [119, 104, 101, 114, 101], [107, 101, 101, 112], [97, 100, 100], [103, 114, 111, 117, 112], [106, 111, 105, 110], [99, 111, 108, 117, 109, 110], [114, 111, 119, 115], [99, 108, 111, 99, 107], [99, 104, 97, 110, 99, 101], [102, 105, 108, 101], [116, 97, 98, 108, 101]] : List Str) = xHj from rfl, xHx (by decide) hn]
 rfl
theorem xID (N : Nat) (s : Str) : xEX N s = some (xIa s) := by
 by_cases h : s ∈ xHj
 · have h' : xIa s = true := List.any_eq_true.2 ⟨s, h, by simp⟩
   rw [h']
   simp only [xHj, List.mem_cons, List.not_mem_nil, or_false] at h
   rcases h with h | h | h | h | h | h | h | h | h | h | h | h | h | h | h | h | h | h | h | h | h | h | h | h <;> subst h <;> rfl
 · have h' : xIa s = false := by
    unfold xIa
    rw [List.any_eq_false]
    intro x hx hxs
    exact h (by rw [← eq_of_beq hxs]; exact hx)
   rw [h']
   have hne : ∀ x ∈ xHj, (s == x) = false := by
    intro x hx
    cases hb : s == x
    · rfl
    · exact absurd (by rw [eq_of_beq hb]; exact hx) h
   simp only [xHj, List.mem_cons, List.not_mem_nil, or_false, forall_eq_or_imp, forall_eq] at hne
   simp only [xEX, xCD, hne, jF, jS]
   rfl
def xB3 (s : Str) : Bool := xG2 s true && (decide ((1 : Int) ≤ s.length) && decide ((s.length : Int) ≤ 8)) && !xIa s
theorem xFC {N : Nat} {s : Str} (hl : s.length ≤ 9223372036854775807) (hn : s.length < N) : xCo N s = some (xB3 s) := by
 unfold xCo xB3
 rw [xJG hl hn, jS]
 cases (xG2 s true && (decide ((1 : Int) ≤ s.length) && decide ((s.length : Int) ≤ 8)))
 · rfl
 · rw [xID]; rfl
theorem xFH {N : Nat} {s : Str} (hl : s.length ≤ 9223372036854775807) (hn : s.length < N) (hn2 : 24 < N) : xCp N s = some (xB3 s) := by
 unfold xCp xB3
 rw [xJB hl hn, jS, xIL hn2]
 have : decide ((s.length : Int) > 0) = decide ((1 : Int) ≤ s.length) := by by_cases c : (s.length : Int) > 0 <;> simp [c] <;> omega
 rw [this]
 cases xG2 s true <;> cases decide ((1 : Int) ≤ s.length) <;> cases decide ((s.length : Int) ≤ 8) <;> rfl
end Go.Ab
end
section
namespace Go.Ab
theorem xJh : ∀ x : Str, Op.bytesLess x x = false
 | [] => rfl
 | a :: x => by simp [Op.bytesLess, xJh x]
theorem xJb : ∀ {x y z : Str}, Op.bytesLess x y = true → Op.bytesLess y z = true → Op.bytesLess x z = true
 | _, [], _, h, _ => by simp [Op.bytesLess] at h
 | _, _ :: _, [], _, h => by simp [Op.bytesLess] at h
 | [], _ :: _, _ :: _, _, _ => rfl
 | a :: x, b :: y, c :: z, h, h' => by
   simp only [Op.bytesLess, Bool.or_eq_true, Bool.and_eq_true, decide_eq_true_eq, beq_iff_eq] at h h' ⊢
   rcases h with h | ⟨rfl, h⟩
   · rcases h' with h' | ⟨rfl, h'⟩
     · exact .inl (UInt8.lt_trans h h')
     · exact .inl h
   · rcases h' with h' | ⟨rfl, h'⟩
     · exact .inl h'
     · exact .inr ⟨rfl, xJb h h'⟩
theorem xJa : ∀ {x y : Str}, Op.bytesLess x y = false → x ≠ y → Op.bytesLess y x = true
 | [], [], _, h => absurd rfl h
 | [], _ :: _, h, _ => by simp [Op.bytesLess] at h
 | _ :: _, [], _, _ => rfl
 | a :: x, b :: y, h, h' => by
   simp only [Op.bytesLess, Bool.or_eq_false_iff, decide_eq_false_iff_not, Bool.and_eq_false_imp, beq_iff_eq, Bool.or_eq_true, Bool.and_eq_true, decide_eq_true_eq] at h ⊢
   by_cases e : a = b
   · subst e
     exact .inr ⟨rfl, xJa (h.2 rfl) fun e => h' (by rw [e])⟩
   · left
     rcases UInt8.lt_or_lt_of_ne e with h1 | h1
     · exact absurd h1 h.1
     · exact h1
theorem xLF {x y : Str} (h : Op.bytesLess x y = true) : Op.bytesLess y x = false := by
 cases h' : Op.bytesLess y x
 · rfl
 · have := xJb h h'; rw [xJh] at this; cases this
theorem xTs {x y : Str} (h : Op.bytesLess x y = true) : x ≠ y := by rintro rfl; rw [xJh] at h; cases h
end Go.Ab
end
section
namespace Go.Ab
def allI {α : Type} (p : Nat → α → Bool) : List α → Nat → Bool
 | [], _ => true
 | x :: r, i => p i x && allI p r (i + 1)
theorem xMu {α : Type} {p : Nat → α → Bool} : ∀ {l : List α} {i : Nat}, allI p l i = true → ∀ (j : Nat) (x : α), l[j]? = some x → p (i + j) x = true
 | [], i, _, j, x, hj => by simp at hj
 | y :: r, i, h, j, x, hj => by
   simp only [allI, Bool.and_eq_true] at h
   cases j with
   | zero => simp at hj; subst hj; exact h.1
   | succ j =>
     have := xMu h.2 j x (by simpa using hj)
     rw [show i + (j + 1) = i + 1 + j from by omega]; exact this
theorem xOu {α : Type} {L : Nat → Int → Option Bool} {x0 : List α} {p : Nat → α → Bool} {e : Option Bool} (hend : ∀ n, L (n + 1) (x0.length : Nat) = e)
 (hcons : ∀ (i : Nat) x n, i < x0.length → x0[i]? = some x → x ∈ x0 → L (n + 1) (i : Nat) = bif p i x then L n ((i + 1 : Nat) : Int) else some false) {n : Nat} (hn : x0.length < n) :
 L n 0 = bif allI p x0 0 then e else some false := by
 have key : ∀ (m i : Nat), i ≤ x0.length → x0.length < m + i → L m (i : Nat) = bif allI p (x0.drop i) i then e else some false := by
  intro m
  induction m with
  | zero => intro i h1 h2; omega
  | succ m ih =>
    intro i h1 h2
    cases hd : x0.drop i with
    | nil =>
      have := xLH hd
      obtain rfl : i = x0.length := by omega
      rw [hend]; rfl
    | cons x l =>
      obtain ⟨g1, g2, g3⟩ := xHK hd
      rw [hcons i x m g1 g2 (List.mem_of_getElem? g2), ih (i + 1) (by omega) (by omega), g3]
      simp only [allI]
      cases p i x <;> rfl
 exact key n 0 (by omega) (by omega)
def xTQ (c : UInt8) : Bool := !(decide ((c.toNat : Int) < 32)) && (!(decide ((c.toNat : Int) > 126)) && !((c.toNat : Int) == 34))
def xIn (s : Str) : Bool := allI (fun _ => xTQ) s 0 && decide ((s.length : Int) ≤ 20)
theorem xOv {a b : Bool} : (bif a then some b else some false) = some (a && b) := by cases a <;> rfl
theorem xGR {N : Nat} {s : Str} (hl : s.length ≤ 9223372036854775807) (hn : s.length < N) : xFB N s = some (xIn s) := by
 rw [xIn, ← xOv]
 exact xOu (L := fun n i => xB7 N n s i) (fun n => by simp [xB7]) (fun i x n hi hx hm => by
  have hi' : (i : Int) < (s.length : Int) := by omega
  simp only [xB7, decide_eq_true hi', jT, Int.toNat_natCast, xBO hx, xBh hi hl, xTQ]
  rw [if_pos (by omega)]
  cases decide ((x.toNat : Int) < 32) <;> cases decide ((x.toNat : Int) > 126) <;> cases ((x.toNat : Int) == 34) <;> rfl) hn
theorem xHC (N n : Nat) (s : Str) (i : Int) : xDL N n s i = xB7 N n s i := by
 induction n generalizing i with
 | zero => rfl
 | succ n ih => simp only [xDL, xB7, ih]
theorem xIq {N : Nat} {s : Str} (hl : s.length ≤ 9223372036854775807) (hn : s.length < N) : xFA N s = some (xIn s) := (xHC N N s 0).trans (xGR hl hn)
def idxS : List Str → Str → Nat → Int
 | [], _, _ => -1
 | x :: r, s, i => bif x == s then (i : Int) else idxS r s (i + 1)
theorem xFR {N : Nat} {xs : List Str} {s : Str} (hl : xs.length ≤ 9223372036854775807) (hn : xs.length < N) : xCL N xs s = some (idxS xs s 0) :=
 xDr (L := fun n i _ => xDI N n s xs xs.length i) xs (fun l q => idxS l s q) (fun i q => q = i) (fun n q _ => by simp [xDI, idxS])
  (fun i x l q hd hi hx hq => by
    have hi' : (i : Int) < (xs.length : Int) := by omega
    have hq : q = i := hq
    subst hq
    cases h1 : x == s
    · refine .inl ⟨q + 1, rfl, by simp only [idxS, h1, jF], fun n => ?_⟩
      simp only [xDI, decide_eq_true hi', jT, Int.toNat_natCast, xBO hx, h1, jF, xBh hi hl]
      rw [if_pos (by omega)]
    · refine .inr fun n => ?_
      simp only [xDI, decide_eq_true hi', jT, Int.toNat_natCast, xBO hx, h1]
      rw [if_pos (by omega)]
      simp only [idxS, h1, jT]) N 0 0 rfl (by omega) (by omega)
theorem xMB {s : Str} : ∀ {xs : List Str} {j i : Nat}, xs[i]? = some s → (idxS xs s j == ((j + i : Nat) : Int)) = !(xs.take i).any (· == s)
 | [], j, i, h => by simp at h
 | x :: r, j, 0, h => by
   simp at h; subst h
   simp [idxS]
 | x :: r, j, i + 1, h => by
   have h' : r[i]? = some s := by simpa using h
   have ih := xMB (j := j + 1) h'
   simp only [idxS, List.take_succ_cons, List.any_cons]
   cases hx : x == s
   · simp only [jF, Bool.false_or]
     rw [← ih, show j + (i + 1) = j + 1 + i from by omega]
   · simp only [jT, Bool.true_or, Bool.not_true]
     simp; omega
end Go.Ab
end
section
namespace Go.Ab
def kb : List Val → List Int → Bool
 | [], _ => false
 | _ :: _, [] => false
 | x :: r, k :: ks => (x.kind != k) || kb r ks
end Go.Ab
end
section
namespace Go.Ab
theorem xJt {N : Nat} {xs : List Str} {s : Str} (hl : xs.length ≤ 9223372036854775807) (hn : xs.length < N) : xG3 N xs s = some (idxS xs s 0) :=
 xDr (L := fun n i _ => xDP N n xs s i) xs (fun l q => idxS l s q) (fun i q => q = i) (fun n q _ => by simp [xDP, idxS])
  (fun i x l q hd hi hx hq => by
    have hi' : (i : Int) < (xs.length : Int) := by omega
    have hq : q = i := hq
    subst hq
    cases h1 : x == s
    · refine .inl ⟨q + 1, rfl, by simp only [idxS, h1, jF], fun n => ?_⟩
      simp only [xDP, decide_eq_true hi', jT, Int.toNat_natCast, xBO hx, h1, jF, xBh hi hl]
      rw [if_pos (by omega)]
    · refine .inr fun n => ?_
      simp only [xDP, decide_eq_true hi', jT, Int.toNat_natCast, xBO hx, h1]
      rw [if_pos (by omega)]
      simp only [idxS, h1, jT]) N 0 0 rfl (by omega) (by omega)
def pick (k : Int) (n : Int) (rs : List Rowd) : List Rowd := rs.filter fun r => r.cells.getD k.toNat Ty.int.dflt == n
end Go.Ab
end
section
namespace Go.Ab
def dd (n : Nat) : Str := if n = 0 then [] else Lib.decDigits n
mutual
def Exp.cnt : Exp → Nat
 | .mk _ _ _ a => 1 + Exp.cnts a
def Exp.cnts : List Exp → Nat
 | [] => 0
 | x :: r => Exp.cnt x + Exp.cnts r
end
theorem Exp.cnts_eq (l : List Exp) : Exp.cnts l = (l.map Exp.cnt).sum := by
 induction l with
 | nil => rfl
 | cons x l ih => simp only [Exp.cnts, List.map_cons, List.sum_cons, ih]
theorem Exp.cnt_eq (e : Exp) : e.cnt = 1 + (e.args.map Exp.cnt).sum := by
 cases e; simp only [Exp.cnt, Exp.cnts_eq, Exp.args]
mutual
def Exp.nest : Exp → Nat
 | .mk _ _ _ a => Exp.nests a + 1
def Exp.nests : List Exp → Nat
 | [] => 0
 | x :: r => max (Exp.nest x) (Exp.nests r)
end
theorem Exp.nest_eq (e : Exp) : e.nest = Exp.nests e.args + 1 := by cases e; rfl
theorem xM1 {f g : Exp → Nat} : ∀ {a : List Exp}, (∀ x ∈ a, f x ≤ g x + 1) → (a.map f).sum ≤ a.length + (a.map g).sum
 | [], _ => Nat.le_refl _
 | x :: l, ih => by
   have h1 := ih x List.mem_cons_self
   have h2 := xM1 fun y hy => ih y (List.mem_cons_of_mem _ hy)
   simp only [List.map_cons, List.sum_cons, jC]; omega
theorem Exp.cnt_le : ∀ e : Exp, e.cnt ≤ e.size + 1 := by
 refine Exp.ind fun k n t a ih => ?_
 rw [Exp.cnt_eq, Exp.size_eq]
 have := xM1 ih
 show 1 + (a.map Exp.cnt).sum ≤ t.length + (a.length + (a.map Exp.size).sum) + 1
 omega
theorem xLK : ∀ {a : List Exp}, (∀ x ∈ a, x.nest ≤ x.cnt) → Exp.nests a ≤ (a.map Exp.cnt).sum
 | [], _ => Nat.le_refl _
 | x :: l, ih => by
   have h1 := ih x List.mem_cons_self
   have h2 := xLK fun y hy => ih y (List.mem_cons_of_mem _ hy)
   simp only [Exp.nests, List.map_cons, List.sum_cons]; omega
theorem Exp.nest_le : ∀ e : Exp, e.nest ≤ e.cnt := by
 refine Exp.ind fun k n t a ih => ?_
 rw [Exp.nest_eq, Exp.cnt_eq]
 have := xLK ih
 show Exp.nests a + 1 ≤ 1 + (a.map Exp.cnt).sum
 omega
def xIj (vT vN : Str → Bool) (ac : Str → Int) (k n : Int) (t : Str) (l : Nat) : Bool :=
 bif k == 1 then (decide (0 ≤ n) && decide (n ≤ 1000000000)) && ((t == []) && (l == 0))
 else bif k == 2 then (n == 0) && (vT t && (l == 0))
 else bif k == 3 then (n == 0) && (vN t && (l == 0))
 else bif k == 4 then (n == 0) && ((t == []) && decide (l ≤ 8))
 else bif k == 5 then (n == 0) && ((l : Int) == ac t)
 else bif k == 6 then (decide (1 ≤ n) && decide (n ≤ 5)) && ((t == []) && (l == 2))
 else bif k == 7 then (n == 0) && (vN t && (l == 2))
 else bif k == 9 then (n == 0) && (vN t && (l == 2))
 else bif k == 8 then (n == 0) && ((t == []) && (l == 3)) else false
end Go.Ab
end
section
namespace Go.Ab
theorem xTq {α : Type} {b : Bool} {x y : Option α} (h1 : ∃ r, x = some r) (h2 : ∃ r, y = some r) : ∃ r, (bif b then x else y) = some r := by cases b <;> assumption
theorem xDV {α : Type} {b : Bool} {x y : Option α} {p q : α} (h1 : x = some p) (h2 : y = some q) : (bif b then x else y) = some (bif b then p else q) := by cases b <;> assumption
def argc (s : Str) : Int := (xB2 0 s).getD 0
theorem xGp (N : Nat) (s : Str) : xB2 N s = some (argc s) := by
 have key : ∃ r, xB2 0 s = some r := by
  unfold xB2
  repeat (first | exact ⟨_, rfl⟩ | refine xTq ⟨_, rfl⟩ ?_)
 obtain ⟨r, hr⟩ := key
 show xB2 0 s = _
 rw [argc, hr]; rfl
theorem xHL (N : Nat) (s : Str) : xCD N s = some (argc s) := (show xCD N s = xB2 N s from rfl).trans (xGp N s)
def xKv (e : Exp) : Bool := xIj xIn xB3 argc e.kind e.n e.text e.args.length
theorem xTx (l : Nat) : ((l : Int) == 0) = (l == 0) := by
 rcases Nat.eq_zero_or_pos l with rfl | h
 · rfl
 · rw [beq_eq_false_iff_ne.2 (by omega : l ≠ 0), beq_eq_false_iff_ne.2 (by omega : (l : Int) ≠ 0)]
theorem xTy (l : Nat) : ((l : Int) == 2) = (l == 2) := by
 rcases Decidable.em (l = 2) with rfl | h
 · rfl
 · rw [beq_eq_false_iff_ne.2 h, beq_eq_false_iff_ne.2 (by omega : (l : Int) ≠ 2)]
theorem xTz (l : Nat) : ((l : Int) == 3) = (l == 3) := by
 rcases Decidable.em (l = 3) with rfl | h
 · rfl
 · rw [beq_eq_false_iff_ne.2 h, beq_eq_false_iff_ne.2 (by omega : (l : Int) ≠ 3)]
theorem xTA (l : Nat) : decide ((l : Int) ≤ 8) = decide (l ≤ 8) := by
 rcases Decidable.em (l ≤ 8) with h | h
 · rw [decide_eq_true h, decide_eq_true (by omega : (l : Int) ≤ 8)]
 · rw [decide_eq_false h, decide_eq_false (by omega : ¬ (l : Int) ≤ 8)]
theorem xJE {N : Nat} {e : Exp} (ht : e.text.length ≤ 9223372036854775807) (hn : e.text.length < N) : xGL N e = some (xKv e) := by
 simp only [xGL, xKv, xIj, xIi, xIq ht hn, xFC (N := N) ht hn, xHL, jS, xTx, xTy, xTz, xTA]
 refine xDV ?_ (xDV ?_ (xDV ?_ (xDV ?_ (xDV ?_ (xDV ?_ (xDV ?_ (xDV ?_ (xDV ?_ rfl)))))))) <;>
  first
  | rfl
  | (cases (decide ((0 : Int) ≤ e.n) && decide (e.n ≤ 1000000000)) <;> cases (e.text == []) <;> rfl)
  | (cases (decide ((1 : Int) ≤ e.n) && decide (e.n ≤ 5)) <;> cases (e.text == []) <;> rfl)
  | (cases (e.n == 0) <;> cases (e.text == []) <;> rfl)
  | (cases (e.n == 0) <;> cases (xIn e.text) <;> rfl)
  | (cases (e.n == 0) <;> cases (xB3 e.text) <;> rfl)
theorem xJx {N : Nat} {e : Exp} (ht : e.text.length ≤ 9223372036854775807) (hn : e.text.length < N) (h24 : 24 < N) : xGu N e = some (xKv e) := by
 simp only [xGu, xKv, xIj, xLc, xGR ht hn, xFH (N := N) (s := e.text) ht hn h24, xGp, jS, xTx, xTy, xTz, xTA]
 refine xDV ?_ (xDV ?_ (xDV ?_ (xDV ?_ (xDV ?_ (xDV ?_ (xDV ?_ (xDV ?_ (xDV ?_ rfl)))))))) <;>
  first
  | rfl
  | (cases (e.args.length == 0) <;> cases (e.text == []) <;> cases (decide ((0 : Int) ≤ e.n) && decide (e.n ≤ 1000000000)) <;> rfl)
  | (cases (e.args.length == 0) <;> cases (e.n == 0) <;> cases (xIn e.text) <;> rfl)
  | (cases (e.args.length == 0) <;> cases (e.n == 0) <;> cases (xB3 e.text) <;> rfl)
  | (cases (e.n == 0) <;> cases (e.text == []) <;> rfl)
  | (cases (e.args.length == 2) <;> cases (e.text == []) <;> cases (decide ((1 : Int) ≤ e.n) && decide (e.n ≤ 5)) <;> rfl)
  | (cases (e.args.length == 2) <;> cases (e.n == 0) <;> cases (xB3 e.text) <;> rfl)
  | (cases (e.args.length == 3) <;> cases (e.n == 0) <;> cases (e.text == []) <;> rfl)
mutual
def okE : Exp → Bool
 | .mk k n t a => okEs a && xKv (.mk k n t a)
def okEs : List Exp → Bool
 | [] => true
 | x :: r => okE x && okEs r
end
theorem xOy (l : List Exp) : okEs l = l.all okE := by
 induction l with
 | nil => rfl
 | cons x l ih => simp only [okEs, List.all_cons, ih]
theorem xMU (e : Exp) : okE e = (e.args.all okE && xKv e) := by
 cases e; simp only [okE, xOy]; rfl
theorem xTp {K : Nat} (hK : K ≤ 1048576) : ∀ e : Exp, e.Fit K → Big2 fun N d => xEl N d e = some (okE e) ∧ xE6 N d e = some (okE e) := by
 refine Exp.ind fun k n t a ih h => ?_
 obtain ⟨h1, h2, h3, h4⟩ := Exp.fit_iff.1 h
 refine Big2.succ ?_
 refine ((Big2.list fun x hx => ih x hx (h4.2 x hx)).and (xGJ (K + 30)).two).imp fun N d ⟨hx, hn⟩ => ?_
 have hl : a.length ≤ K := h4.1
 have ht : (Exp.mk k n t a).text.length ≤ K := h3
 rw [xMU]
 refine ⟨?_, ?_⟩
 · exact xDr (σ := Unit) (L := fun m i _ => xDi N (xEl N d) m a a.length i (.mk k n t a)) a (fun l _ => l.all okE && xKv (.mk k n t a)) (fun _ _ => True) (fun m _ _ => by simp [xDi, xJE (N := N) (e := .mk k n t a) (by omega) (by omega)])
    (fun i x l _ hd hi hxi _ => by
      have hi' : (i : Int) < (a.length : Int) := by omega
      have hm := List.mem_of_getElem? hxi
      cases ho : okE x
      · refine .inr fun m => ?_
        simp only [xDi, decide_eq_true hi', jT, Int.toNat_natCast, xBO hxi, (hx x hm).1, ho, jS, Bool.not_false, List.all_cons, Bool.false_and]
        rw [if_pos (by omega)]
      · refine .inl ⟨(), trivial, by simp [ho], fun m => ?_⟩
        simp only [xDi, decide_eq_true hi', jT, Int.toNat_natCast, xBO hxi, (hx x hm).1, ho, jS, Bool.not_true, jF, xBh hi (by omega : a.length ≤ _)]
        rw [if_pos (by omega)]) N 0 () trivial (by omega) (by omega)
 · exact xDr (σ := Unit) (L := fun m i _ => xEf N (xE6 N d) m i (.mk k n t a)) a (fun l _ => l.all okE && xKv (.mk k n t a)) (fun _ _ => True) (fun m _ _ => by simp [xEf, ea, xJx (N := N) (e := .mk k n t a) (by omega) (by omega) (by omega)])
    (fun i x l _ hd hi hxi _ => by
      have hi' : (i : Int) < ((Exp.mk k n t a).args.length : Int) := by show (i : Int) < (a.length : Int); omega
      have hi2 : (0 : Int) ≤ (i : Int) ∧ (i : Int) < ((Exp.mk k n t a).args.length : Int) := ⟨by omega, hi'⟩
      have hm := List.mem_of_getElem? hxi
      have hxi2 : (Exp.mk k n t a).args[i]? = some x := hxi
      cases ho : okE x
      · refine .inr fun m => ?_
        simp only [xEf, decide_eq_true hi', if_pos hi2, jT, Int.toNat_natCast, xBO hxi2, (hx x hm).2, ho, jS, Bool.not_false, List.all_cons, Bool.false_and]
      · refine .inl ⟨(), trivial, by simp [ho], fun m => ?_⟩
        simp only [xEf, decide_eq_true hi', if_pos hi2, jT, Int.toNat_natCast, xBO hxi2, (hx x hm).2, ho, jS, Bool.not_true, jF, xBh hi (by omega : a.length ≤ _)]) N 0 () trivial (by omega) (by omega)
end Go.Ab
end
section
namespace Go.Ab
def sumC (l : List Exp) : Nat := (l.map Exp.cnt).sum
theorem xJC (x : Exp) (l : List Exp) : sumC (x :: l) = x.cnt + sumC l := by simp only [sumC, List.map_cons, List.sum_cons]
theorem xMF (c s : Nat) {l : Int} (h : 0 ≤ l) : left (c + s) l = if left c l < 0 then left c l else left s (left c l) := by
 by_cases c1 : (c : Int) ≤ l
 · rw [xJ4 c1, if_neg (by omega)]
   by_cases c2 : (s : Int) ≤ l - c
   · rw [xJ4 c2, xJ4 (by omega)]; omega
   · rw [xJd c2, xJd (by omega)]
 · rw [xJd c1, if_pos (by omega), xJd (by omega)]
theorem xM8 {K : Nat} (hK : K ≤ 1048576) : ∀ e : Exp, e.Fit K → e.cnt ≤ 2000000 → Big2 fun N d => xDa N d e = some (e.cnt : Int) ∧ ∀ l : Int, 0 ≤ l → l ≤ 1000 → xD2 N d e l = some (left e.cnt l) := by
 refine Exp.ind fun k n t a ih h hc => ?_
 obtain ⟨h1, h2, h3, h4⟩ := Exp.fit_iff.1 h
 rw [Exp.cnt_eq] at hc
 have hc : 1 + sumC a ≤ 2000000 := hc
 have hmem : ∀ x ∈ a, x.cnt ≤ sumC a := fun x hx => xJf (f := Exp.cnt) hx
 refine Big2.succ ?_
 refine ((Big2.list fun x hx => ih x hx (h4.2 x hx) (by have := hmem x hx; omega)).and (xGJ (K + 30)).two).imp fun N d ⟨hx, hn⟩ => ?_
 have hl : a.length ≤ K := h4.1
 rw [Exp.cnt_eq]
 refine ⟨?_, fun l hl0 hl1 => ?_⟩
 · have := xDr (L := fun m i s => xCQ N (xDa N d) m s a a.length i) a (fun l s => s + (sumC l : Int)) (fun i s => 0 ≤ s ∧ s + (sumC (a.drop i) : Int) ≤ 2000000) (fun m s _ => by simp [xCQ, sumC])
    (fun i x l s hd hi hxi hs => by
      have hi' : (i : Int) < (a.length : Int) := by omega
      have hm := List.mem_of_getElem? hxi
      rw [hd, xJC] at hs
      have hw : IntKind.i64.wrap (s + (x.cnt : Int)) = s + (x.cnt : Int) := xDu (by omega) (by omega)
      refine .inl ⟨s + (x.cnt : Int), ⟨by omega, by rw [(xHK hd).2.2]; omega⟩, by rw [xJC]; omega, fun m => ?_⟩
      simp only [xCQ, decide_eq_true hi', jT, Int.toNat_natCast, xBO hxi, (hx x hm).1, jS, hw, xBh hi (by omega : a.length ≤ _)]
      rw [if_pos (by omega)]) N 0 1 ⟨by omega, by rw [List.drop_zero]; omega⟩ (by omega) (by omega)
   rw [List.drop_zero] at this
   show xCQ N (xDa N d) N 1 a a.length 0 = some ((1 + sumC a : Nat) : Int)
   rw [show ((1 + sumC a : Nat) : Int) = 1 + (sumC a : Int) from by omega]
   exact this
 · have := xDr (L := fun m i s => xC7 N (xD2 N d) m s i (.mk k n t a)) a (fun l s => if s < 0 then s else left (sumC l) s) (fun i s => -1 ≤ s ∧ s ≤ 1000) (fun m s hs => by
    simp only [xC7, ea, Int.lt_irrefl, decide_false, jF, sumC, List.map_nil, List.sum_nil]
    split
    · rfl
    · rw [xJ4 (by omega)]; simp)
    (fun i x l s hd hi hxi hs => by
      have hi' : (i : Int) < ((Exp.mk k n t a).args.length : Int) := by show (i : Int) < (a.length : Int); omega
      have hi2 : (0 : Int) ≤ (i : Int) ∧ (i : Int) < ((Exp.mk k n t a).args.length : Int) := ⟨by omega, hi'⟩
      have hm := List.mem_of_getElem? hxi
      have hxi2 : (Exp.mk k n t a).args[i]? = some x := hxi
      by_cases hneg : s < 0
      · refine .inr fun m => ?_
        have h2 : ¬ s ≥ 0 := by omega
        simp only [xC7, decide_eq_true hi', jT, decide_eq_false h2, jF, if_pos hneg]
      · have h2 : s ≥ 0 := by omega
        refine .inl ⟨left x.cnt s, ?_, ?_, fun m => ?_⟩
        · unfold left; split <;> omega
        · rw [if_neg hneg, xJC, xMF _ _ (by omega)]
        · simp only [xC7, decide_eq_true hi', jT, decide_eq_true h2, if_pos hi2, Int.toNat_natCast, xBO hxi2, (hx x hm).2 s (by omega) (by omega), jS, xBh hi (by omega : a.length ≤ _)]) N 0 (l - 1) ⟨by omega, by omega⟩ (by omega) (by omega)
   rw [List.drop_zero] at this
   show xC7 N (xD2 N d) N (IntKind.i64.wrap (l - 1)) 0 (.mk k n t a) = some (left (1 + sumC a) l)
   rw [xDu (by omega) (by omega)]
   refine Eq.trans this ?_
   unfold left
   by_cases c0 : l - 1 < 0
   · rw [if_pos c0, if_neg (by omega)]; congr 1; omega
   · rw [if_neg c0]
     by_cases c2 : (sumC a : Int) ≤ l - 1
     · rw [if_pos c2, if_pos (by omega)]; congr 1; omega
     · rw [if_neg c2, if_neg (by omega)]
theorem xLJ {x : Exp} : ∀ {a : List Exp}, x ∈ a → x.nest ≤ Exp.nests a
 | y :: l, h => by
   rcases List.mem_cons.1 h with rfl | h
   · simp only [Exp.nests]; omega
   · have := xLJ h; simp only [Exp.nests]; omega
theorem maxI (a b : Nat) : (if (a : Int) > (b : Int) then (a : Int) else (b : Int)) = ((max b a : Nat) : Int) := by
 split <;> omega
theorem nest_eq {K : Nat} (hK : K ≤ 1048576) : ∀ e : Exp, e.Fit K → e.nest ≤ 2000000 → Big2 fun N d => xD7 N d e = some (e.nest : Int) ∧ xEb N d e = some (e.nest : Int) := by
 refine Exp.ind fun k n t a ih h hc => ?_
 obtain ⟨h1, h2, h3, h4⟩ := Exp.fit_iff.1 h
 rw [Exp.nest_eq] at hc
 have hc : Exp.nests a + 1 ≤ 2000000 := hc
 have hmem : ∀ x ∈ a, x.nest ≤ Exp.nests a := fun x hx => xLJ hx
 refine Big2.succ ?_
 refine ((Big2.list fun x hx => ih x hx (h4.2 x hx) (by have := hmem x hx; omega)).and (xGJ (K + 30)).two).imp fun N d ⟨hx, hn⟩ => ?_
 have hl : a.length ≤ K := h4.1
 rw [Exp.nest_eq]
 refine ⟨?_, ?_⟩
 · have := xDr (L := fun m i (s : Nat) => xDA N (xD7 N d) m (s : Int) a a.length i) a (fun l s => ((max s (Exp.nests l) + 1 : Nat) : Int)) (fun i s => s ≤ 2000000) (fun m s hs => by
    have hw : IntKind.i64.wrap ((s : Int) + 1) = ((max s 0 + 1 : Nat) : Int) := by rw [xDu (by omega) (by omega)]; omega
    simp only [xDA, Int.lt_irrefl, decide_false, jF, hw, Exp.nests])
    (fun i x l s hd hi hxi hs => by
      have hi' : (i : Int) < (a.length : Int) := by omega
      have hm := List.mem_of_getElem? hxi
      have := hmem x hm
      refine .inl ⟨max s x.nest, by omega, by simp only [Exp.nests]; omega, fun m => ?_⟩
      simp only [xDA, decide_eq_true hi', jT, Int.toNat_natCast, xBO hxi, (hx x hm).1, jS, maxI, xBh hi (by omega : a.length ≤ _)]
      rw [if_pos (by omega)]) N 0 0 (by omega) (by omega) (by omega)
   rw [List.drop_zero] at this
   refine Eq.trans this ?_
   simp; rfl
 · have := xDr (L := fun m i (s : Nat) => xDD N (xEb N d) m (s : Int) i (.mk k n t a)) a (fun l s => ((max s (Exp.nests l) + 1 : Nat) : Int)) (fun i s => s ≤ 2000000) (fun m s hs => by
    have hw : IntKind.i64.wrap ((s : Int) + 1) = ((max s 0 + 1 : Nat) : Int) := by rw [xDu (by omega) (by omega)]; omega
    simp only [xDD, ea, Int.lt_irrefl, decide_false, jF, hw, Exp.nests])
    (fun i x l s hd hi hxi hs => by
      have hi' : (i : Int) < ((Exp.mk k n t a).args.length : Int) := by show (i : Int) < (a.length : Int); omega
      have hi2 : (0 : Int) ≤ (i : Int) ∧ (i : Int) < ((Exp.mk k n t a).args.length : Int) := ⟨by omega, hi'⟩
      have hm := List.mem_of_getElem? hxi
      have hxi2 : (Exp.mk k n t a).args[i]? = some x := hxi
      have := hmem x hm
      have hmax : xHn N (s : Int) (x.nest : Int) = some ((max s x.nest : Nat) : Int) := by
       unfold xHn
       by_cases c : (s : Int) > (x.nest : Int)
       · rw [decide_eq_true c]; show some (s : Int) = _; congr 1; omega
       · rw [decide_eq_false c]; show some (x.nest : Int) = _; congr 1; omega
      refine .inl ⟨max s x.nest, by omega, by simp only [Exp.nests]; omega, fun m => ?_⟩
      simp only [xDD, decide_eq_true hi', jT, if_pos hi2, Int.toNat_natCast, xBO hxi2, (hx x hm).2, jS, hmax, xBh hi (by omega : a.length ≤ _)]) N 0 0 (by omega) (by omega) (by omega)
   rw [List.drop_zero] at this
   refine Eq.trans this ?_
   simp; rfl
def xGY (e : Exp) : Bool := (decide (e.cnt ≤ 40) && decide (e.nest ≤ 8)) && okE e
theorem xJD {K : Nat} (hK : K ≤ 1048576) {e : Exp} (h : e.Fit K) (hs : e.size ≤ 1048576) : Big fun N => xEJ N e = some (xGY e) ∧ xD1 N e = some (xGY e) := by
 have h1 := Exp.cnt_le e
 have h2 := Exp.nest_le e
 refine (((xM8 hK e h (by omega)).diag.and (nest_eq hK e h (by omega)).diag).and (xTp hK e h).diag).imp fun N ⟨⟨⟨c1, c2⟩, n1, n2⟩, a1, a2⟩ => ?_
 have c3 : xG9 N e = some (e.cnt : Int) := c1
 have c4 : xHY N e 40 = some (left e.cnt 40) := c2 40 (by omega) (by omega)
 have n3 : xG8 N e = some (e.nest : Int) := n1
 have n4 : xHc N e = some (e.nest : Int) := n2
 have a3 : xHs N e = some (okE e) := a1
 have a4 : xIv N e = some (okE e) := a2
 have d1 : decide ((e.cnt : Int) ≤ 40) = decide (e.cnt ≤ 40) := decide_eq_decide.2 (by omega)
 have d2 : decide (left e.cnt 40 ≥ 0) = decide (e.cnt ≤ 40) := decide_eq_decide.2 (by unfold left; split <;> omega)
 have d3 : decide ((e.nest : Int) ≤ 8) = decide (e.nest ≤ 8) := decide_eq_decide.2 (by omega)
 refine ⟨?_, ?_⟩
 · simp only [xEJ, c3, n3, a3, jS, d1, d3, xGY]
   cases decide (e.cnt ≤ 40) <;> cases decide (e.nest ≤ 8) <;> rfl
 · simp only [xD1, c4, n4, a4, jS, d2, d3, xGY]
   cases decide (e.cnt ≤ 40) <;> cases decide (e.nest ≤ 8) <;> rfl
theorem kinds {k n : Int} {t : Str} {l : Nat} (h : xIj xIn xB3 argc k n t l = true) : k = 1 ∨ k = 2 ∨ k = 3 ∨ k = 4 ∨ k = 5 ∨ (k = 6 ∧ 1 ≤ n ∧ n ≤ 5 ∧ l = 2) ∨ (k = 7 ∧ l = 2) ∨ (k = 9 ∧ l = 2) ∨ (k = 8 ∧ l = 3) := by
 unfold xIj at h
 by_cases h1 : k = 1; · exact .inl h1
 by_cases h2 : k = 2; · exact .inr (.inl h2)
 by_cases h3 : k = 3; · exact .inr (.inr (.inl h3))
 by_cases h4 : k = 4; · exact .inr (.inr (.inr (.inl h4)))
 by_cases h5 : k = 5; · exact .inr (.inr (.inr (.inr (.inl h5))))
 rw [beq_eq_false_iff_ne.2 h1, beq_eq_false_iff_ne.2 h2, beq_eq_false_iff_ne.2 h3, beq_eq_false_iff_ne.2 h4, beq_eq_false_iff_ne.2 h5] at h
 simp only [jF] at h
 by_cases h6 : k = 6
 · subst h6
   simp only [beq_self_eq_true, jT, Bool.and_eq_true, decide_eq_true_eq, beq_iff_eq] at h
   exact .inr (.inr (.inr (.inr (.inr (.inl ⟨rfl, h.1.1, h.1.2, h.2.2⟩)))))
 by_cases h7 : k = 7
 · subst h7
   simp only [show ((7 : Int) == 6) = false from rfl, jF, beq_self_eq_true, jT, Bool.and_eq_true, beq_iff_eq] at h
   exact .inr (.inr (.inr (.inr (.inr (.inr (.inl ⟨rfl, h.2.2⟩))))))
 by_cases h9 : k = 9
 · subst h9
   simp only [show ((9 : Int) == 6) = false from rfl, show ((9 : Int) == 7) = false from rfl, jF, beq_self_eq_true, jT, Bool.and_eq_true, beq_iff_eq] at h
   exact .inr (.inr (.inr (.inr (.inr (.inr (.inr (.inl ⟨rfl, h.2.2⟩)))))))
 by_cases h8 : k = 8
 · subst h8
   simp only [show ((8 : Int) == 6) = false from rfl, show ((8 : Int) == 7) = false from rfl, show ((8 : Int) == 9) = false from rfl, jF, beq_self_eq_true, jT, Bool.and_eq_true, beq_iff_eq] at h
   exact .inr (.inr (.inr (.inr (.inr (.inr (.inr (.inr ⟨rfl, h.2.2⟩)))))))
 rw [beq_eq_false_iff_ne.2 h6, beq_eq_false_iff_ne.2 h7, beq_eq_false_iff_ne.2 h9, beq_eq_false_iff_ne.2 h8] at h
 cases h
end Go.Ab
end
section
namespace Go.Ab
theorem xIC {s : Str} : ∀ (xs : List Str) (j : Nat), decide (idxS xs s j < 0) = !(xs.any (· == s))
 | [], j => rfl
 | x :: r, j => by
   by_cases h : (x == s) = true
   · rw [show idxS (x :: r) s j = (j : Int) from by simp only [idxS, h, jT]]
     simp only [List.any_cons, h, Bool.true_or, Bool.not_true]
     exact decide_eq_false (by omega)
   · have h := Bool.eq_false_iff.2 h
     rw [show idxS (x :: r) s j = idxS r s (j + 1) from by simp only [idxS, h, jF], xIC r (j + 1)]
     simp only [List.any_cons, h, Bool.false_or]
def inn (bd : List Str) (b : Bool) (t : Str) (f : Bool) : List Str := bif b && !f then bd ++ [t] else bd
theorem xLl {bd : List Str} {b : Bool} {t : Str} {f : Bool} : (inn bd b t f).length ≤ bd.length + 1 := by
 unfold inn
 cases b && !f
 · simp
 · simp
def xBg (k : Int) : Bool := k == 7 || k == 9
mutual
def xCO : Exp → List Str → List Str
 | .mk k n t a, bd => bif (k == 3) && !(bd.any (· == t)) then [t] else xF5 a bd (xBg k) t true
def xF5 : List Exp → List Str → Bool → Str → Bool → List Str
 | [], _, _, _, _ => []
 | x :: r, bd, b, t, f => xCO x (inn bd b t f) ++ xF5 r bd b t false
end
mutual
def xEg : Exp → List Str
 | .mk k n t a => (bif xBg k then [t] else []) ++ xF6 a
def xF6 : List Exp → List Str
 | [] => []
 | x :: r => xEg x ++ xF6 r
end
mutual
def xCt : Exp → Str → Str → List Str → Bool
 | .mk k n t a, p, q, bd => bif (k == 3) && !(bd.any (· == t)) then (bif t == p then bd.any (· == q) else false) else xER a p q bd (xBg k) t true
def xER : List Exp → Str → Str → List Str → Bool → Str → Bool → Bool
 | [], _, _, _, _, _, _ => false
 | x :: r, p, q, bd, b, t, f => xCt x p q (inn bd b t f) || xER r p q bd b t false
end
theorem xMA {a : List Exp} (h : ∀ x ∈ a, ∀ bd, (xCO x bd).length ≤ x.cnt) : ∀ bd b t f, (xF5 a bd b t f).length ≤ (a.map Exp.cnt).sum := by
 induction a with
 | nil => intros; simp [xF5]
 | cons x r ih =>
   intro bd b t f
   have h1 := h x List.mem_cons_self (inn bd b t f)
   have h2 := ih (fun y hy => h y (List.mem_cons_of_mem _ hy)) bd b t false
   simp only [xF5, jA, List.map_cons, List.sum_cons]; omega
theorem xIB : ∀ (e : Exp) (bd : List Str), (xCO e bd).length ≤ e.cnt := by
 refine Exp.ind fun k n t a ih bd => ?_
 rw [Exp.cnt_eq]
 have := xMA ih bd (xBg k) t true
 simp only [xCO]
 cases (k == 3) && !(bd.any (· == t))
 · simp only [jF]; show _ ≤ 1 + (a.map Exp.cnt).sum; omega
 · simp only [jT, List.length_singleton]; omega
theorem xMf {a : List Exp} (h : ∀ x ∈ a, (xEg x).length ≤ x.cnt) : (xF6 a).length ≤ (a.map Exp.cnt).sum := by
 induction a with
 | nil => simp [xF6]
 | cons x r ih =>
   have h1 := h x List.mem_cons_self
   have h2 := ih (fun y hy => h y (List.mem_cons_of_mem _ hy))
   simp only [xF6, jA, List.map_cons, List.sum_cons]; omega
theorem xH4 : ∀ (e : Exp), (xEg e).length ≤ e.cnt := by
 refine Exp.ind fun k n t a ih => ?_
 rw [Exp.cnt_eq]
 have := xMf ih
 simp only [xEg, jA]
 show _ ≤ 1 + (a.map Exp.cnt).sum
 cases xBg k
 · simp; omega
 · simp; omega
theorem xJr {k n : Int} {t : Str} {a : List Exp} {x : Exp} (h : x ∈ a) : x.size + 1 ≤ (Exp.mk k n t a).size ∧ a.length ≤ (Exp.mk k n t a).size := by
 have e : (Exp.mk k n t a).size = t.length + (a.length + (a.map Exp.size).sum) := Exp.size_eq _
 have := xJf (f := Exp.size) h
 have := List.length_pos_of_mem h
 omega
theorem xKh {k n : Int} {t : Str} {a : List Exp} : a.length ≤ (Exp.mk k n t a).size := by
 rw [Exp.size_eq]
 show a.length ≤ t.length + (a.length + (a.map Exp.size).sum)
 omega
theorem xMD {k : Int} (h : (k == 3) = true) : xBg k = false ∧ (k == 7) = false ∧ (k == 9) = false := by
 have : k = 3 := by simpa using h
 subst this; exact ⟨rfl, rfl, rfl⟩
section
variable {N d : Nat} {k n : Int} {t : Str} {a : List Exp} {bd : List Str}
theorem xJc {x : Exp} {l : List Exp} {i : Nat} (h : a.drop i = x :: l) : ((a.drop i).map Exp.cnt).sum = x.cnt + ((a.drop (i + 1)).map Exp.cnt).sum := by
 obtain ⟨_, _, h3⟩ := xHK h
 rw [h3, h]; rfl
theorem xJY {i : Nat} (h : (decide ((i : Int) > 0)) = true) : (i == 0) = false := by
 have := of_decide_eq_true h
 simp; omega
theorem xIY {i : Nat} (h : (decide ((i : Int) > 0)) = false) : (i == 0) = true := by
 have := of_decide_eq_false h
 simp; omega
theorem xTn (hN : 4000000 < N) (hbd : bd.length + 1 ≤ 4000000) (hal : a.length ≤ 4000000) {b : Bool} {e : Exp} {out : List Str} (ht : e.text = t) (ho : out.length + (a.map Exp.cnt).sum ≤ 8000000)
 {q : Exp → List Str → List Str → Option (List Str)} (hq : ∀ x ∈ a, ∀ f o, o.length + x.cnt ≤ 8000000 → q x (inn bd b t f) o = some (o ++ xCO x (inn bd b t f))) :
 xAB N q N bd b a a.length 0 e out = some (out ++ xF5 a bd b t true) := by
 have key := xDr (σ := List Str × Bool) (L := fun m i s => xAB N q m bd b a a.length i e s.1) a (fun l s => s.1 ++ xF5 l bd b t s.2) (fun i s => s.2 = (i == 0) ∧ s.1.length + ((a.drop i).map Exp.cnt).sum ≤ 8000000)
  (fun m s _ => by simp [xAB, xF5])
  (fun i x l s hd hi hxi hs => by
    obtain ⟨hs1, hs2⟩ := hs
    have hi' : (i : Int) < (a.length : Int) := by omega
    have hm := List.mem_of_getElem? hxi
    rw [xJc hd] at hs2
    have hqx := hq x hm s.2 s.1 (by omega)
    have hfl := xIB x (inn bd b t s.2)
    refine .inl ⟨(s.1 ++ xCO x (inn bd b t s.2), false), ⟨by simp, by simp only [jA]; omega⟩, by simp only [xF5, List.append_assoc], fun m => ?_⟩
    simp only [xAB, decide_eq_true hi', jT, Int.toNat_natCast, xBO hxi, ht, List.nil_append, xBh hi (by omega : a.length ≤ _)]
    rw [if_pos (by omega)]
    unfold inn at hqx ⊢
    cases b with
    | false => simp only [Bool.false_and, jF] at hqx ⊢; rw [hqx]; rfl
    | true =>
      cases hp : decide ((i : Int) > 0) with
      | true =>
        rw [hs1, xJY hp] at hqx ⊢
        simp only [Bool.not_false, Bool.and_true, jT] at hqx ⊢
        rw [if_pos (by unfold Lim; omega), if_pos (by simp only [List.length_singleton]; unfold Lim; omega), hqx]; rfl
      | false =>
        rw [hs1, xIY hp] at hqx ⊢
        simp only [Bool.not_true, Bool.and_false, jF, jT] at hqx ⊢
        rw [hqx]; rfl) N 0 (out, true) ⟨rfl, by simpa using ho⟩ (by omega) (by omega)
 exact key
theorem xTj (hN : 4000000 < N) (hbd : bd.length + 1 ≤ 4000000) (hal : a.length ≤ 4000000) {out : List Str} (ho : out.length + (a.map Exp.cnt).sum ≤ 8000000)
 {q : Exp → List Str → Option (List Str)} (hq : ∀ x ∈ a, ∀ f, q x (inn bd (xBg k) t f) = some (xCO x (inn bd (xBg k) t f))) :
 xBX N q N bd out 0 (.mk k n t a) = some (out ++ xF5 a bd (xBg k) t true) := by
 have key := xDr (σ := List Str × Bool) (L := fun m i s => xBX N q m bd s.1 i (.mk k n t a)) a (fun l s => s.1 ++ xF5 l bd (xBg k) t s.2) (fun i s => s.2 = (i == 0) ∧ s.1.length + ((a.drop i).map Exp.cnt).sum ≤ 8000000)
  (fun m s _ => by simp [xBX, xF5, ea])
  (fun i x l s hd hi hxi hs => by
    obtain ⟨hs1, hs2⟩ := hs
    have hi' : (i : Int) < (a.length : Int) := by omega
    have hm := List.mem_of_getElem? hxi
    rw [xJc hd] at hs2
    have hqx := hq x hm s.2
    have hfl := xIB x (inn bd (xBg k) t s.2)
    have hi2 : (i : Int) < ((Exp.mk k n t a).args.length : Int) := hi'
    have hil : (0 : Int) ≤ (i : Int) ∧ (i : Int) < ((Exp.mk k n t a).args.length : Int) := ⟨by omega, hi2⟩
    have hxi2 : (Exp.mk k n t a).args[i]? = some x := hxi
    refine .inl ⟨(s.1 ++ xCO x (inn bd (xBg k) t s.2), false), ⟨by simp, by simp only [jA]; omega⟩, by simp only [xF5, List.append_assoc], fun m => ?_⟩
    simp only [xBX, et, ek, decide_eq_true hi2, jT, Int.toNat_natCast, xBO hxi2, List.nil_append, xBh hi (by omega : a.length ≤ _), if_pos hil]
    have hlim : s.1.length + (xCO x (inn bd (xBg k) t s.2)).length ≤ Lim := by unfold Lim; omega
    have hg0 : 0 + bd.length ≤ Lim := by unfold Lim; omega
    have hg1 : bd.length + [t].length ≤ Lim := by simp only [List.length_singleton]; unfold Lim; omega
    simp only [if_pos hg0, if_pos hg1]
    unfold xBg inn at hqx hlim ⊢
    cases h7 : k == 7 <;> cases h9 : k == 9 <;> cases hp : decide ((i : Int) > 0) <;> simp only [h7, h9, hp, hs1, Bool.or_false, Bool.or_true, Bool.false_and, Bool.true_and, jF, jT] at hqx hlim ⊢ <;>
     first
     | (rw [hqx]; simp only [jS]; rw [if_pos hlim])
     | (rw [xIY hp] at hqx hlim ⊢; simp only [Bool.not_true, jF] at hqx hlim ⊢; rw [hqx]; simp only [jS]; rw [if_pos hlim])
     | (rw [xJY hp] at hqx hlim ⊢; simp only [Bool.not_false, jT] at hqx hlim ⊢; rw [hqx]; simp only [jS]; rw [if_pos hlim])) N 0 (out, true) ⟨rfl, by simpa using ho⟩ (by omega) (by omega)
 exact key
end
theorem xM9 : ∀ e : Exp, Big2 fun N d => ∀ bd out, bd.length + e.size ≤ 3000000 → out.length + e.cnt ≤ 8000000 →
 xD5 N d e bd = some (xCO e bd) ∧ xBf N d e bd out = some (out ++ xCO e bd) := by
 refine Exp.ind fun k n t a ih => ?_
 refine Big2.succ ?_
 refine ((Big2.list fun x hx => ih x hx).and (xGJ 8000000).two).imp fun N d ⟨hx, hN⟩ bd out hb ho => ?_
 have hal := xKh (k := k) (n := n) (t := t) (a := a)
 have hcnt : (Exp.mk k n t a).cnt = 1 + (a.map Exp.cnt).sum := Exp.cnt_eq _
 have hc : ∀ x ∈ a, ∀ (f : Bool), (inn bd (xBg k) t f).length + x.size ≤ 3000000 := fun x hm f => by
  have h1 := xLl (bd := bd) (b := xBg k) (t := t) (f := f)
  have h2 := (xJr (k := k) (n := n) (t := t) hm).1
  omega
 have hca : ∀ x ∈ a, x.cnt ≤ (a.map Exp.cnt).sum := fun x hm => xJf (f := Exp.cnt) hm
 have hS := xTj (N := N) (k := k) (n := n) (t := t) (a := a) (bd := bd) (q := xD5 N d) (out := []) (by omega) (by omega) (by omega) (by simp; omega) fun x hm f => (hx x hm (inn bd (xBg k) t f) [] (hc x hm f) (by have := hca x hm; simp; omega)).1
 have hV : ∀ (b : Bool) , b = xBg k → xAB N (xBf N d) N bd b a a.length 0 (.mk k n t a) out = some (out ++ xF5 a bd (xBg k) t true) := by
  rintro b rfl
  exact xTn (by omega) (by omega) (by omega) rfl (by omega) fun x hm f o h => (hx x hm (inn bd (xBg k) t f) o (hc x hm f) h).2
 have hH : xFi N bd t = some (bd.any (· == t)) := xHx (by omega) (by omega)
 have hI : xCL N bd t = some (idxS bd t 0) := xFR (by omega) (by omega)
 refine ⟨?_, ?_⟩
 · show xEx N (xD5 N d) (.mk k n t a) bd = _
   simp only [xEx, xCO, ek, et, hH, jS, hS, List.nil_append, List.length_singleton]
   cases h3 : k == 3
   · simp only [jF, Bool.false_and]
   · cases bd.any (· == t)
     · simp only [jT, Bool.not_false, Bool.and_true]
       rw [if_pos (by unfold Lim; omega)]
     · simp only [jT, Bool.not_true, Bool.and_false, jF]
 · show xBt N (xBf N d) (.mk k n t a) bd out = _
   simp only [xBt, xCO, ek, et, ea, hI, jS, xIC]
   cases h3 : k == 3
   · simp only [jF, Bool.false_and]
     cases h7 : k == 7
     · cases h9 : k == 9
       · simp only [jF]; exact hV false (by simp [xBg, h7, h9])
       · simp only [jT, jF]; exact hV true (by simp [xBg, h7, h9])
     · simp only [jT]; exact hV true (by simp [xBg, h7])
   · obtain ⟨g1, g7, g9⟩ := xMD h3
     cases bd.any (· == t)
     · simp only [jT, Bool.not_false, Bool.and_true, xFz, List.length_singleton]
       rw [if_pos (by unfold Lim; omega)]; rfl
     · simp only [jT, Bool.not_true, Bool.and_false, jF, g9]
       exact hV false g1.symm
end Go.Ab
end
section
namespace Go.Ab
section
variable {N d : Nat} {k n : Int} {t : Str} {a : List Exp} {bd : List Str}
theorem xTl (hN : 4000000 < N) (hbd : bd.length + 1 ≤ 4000000) (hal : a.length ≤ 4000000) {b : Bool} {e : Exp} {out : List Str} (ht : e.text = t) (ho : out.length + (a.map Exp.cnt).sum ≤ 8000000)
 {q : Exp → List Str → List Str → Option (List Str)} (hq : ∀ x ∈ a, ∀ f o, o.length + x.cnt ≤ 8000000 → q x (inn bd b t f) o = some (o ++ xEg x)) :
 xAt N q N bd b a a.length 0 e out = some (out ++ xF6 a) := by
 have key := xDr (σ := List Str × Bool) (L := fun m i s => xAt N q m bd b a a.length i e s.1) a (fun l s => s.1 ++ xF6 l) (fun i s => s.2 = (i == 0) ∧ s.1.length + ((a.drop i).map Exp.cnt).sum ≤ 8000000)
  (fun m s _ => by simp [xAt, xF6])
  (fun i x l s hd hi hxi hs => by
    obtain ⟨hs1, hs2⟩ := hs
    have hi' : (i : Int) < (a.length : Int) := by omega
    have hm := List.mem_of_getElem? hxi
    rw [xJc hd] at hs2
    have hqx := hq x hm s.2 s.1 (by omega)
    have hfl := xH4 x
    refine .inl ⟨(s.1 ++ xEg x, false), ⟨by simp, by simp only [jA]; omega⟩, by simp only [xF6, List.append_assoc], fun m => ?_⟩
    simp only [xAt, decide_eq_true hi', jT, Int.toNat_natCast, xBO hxi, ht, List.nil_append, xBh hi (by omega : a.length ≤ _)]
    rw [if_pos (by omega)]
    unfold inn at hqx
    cases b with
    | false => simp only [Bool.false_and, jF] at hqx ⊢; rw [hqx]; rfl
    | true =>
      cases hp : decide ((i : Int) > 0) with
      | true =>
        rw [hs1, xJY hp] at hqx
        simp only [Bool.not_false, Bool.and_true, jT] at hqx ⊢
        rw [if_pos (by unfold Lim; omega), if_pos (by simp only [List.length_singleton]; unfold Lim; omega), hqx]; rfl
      | false =>
        rw [hs1, xIY hp] at hqx
        simp only [Bool.not_true, Bool.and_false, jF, jT] at hqx ⊢
        rw [hqx]; rfl) N 0 (out, true) ⟨rfl, by simpa using ho⟩ (by omega) (by omega)
 exact key
theorem xTh (hN : 4000000 < N) (hal : a.length ≤ 4000000) {out : List Str} (ho : out.length + (a.map Exp.cnt).sum ≤ 8000000)
 {q : Exp → Option (List Str)} (hq : ∀ x ∈ a, q x = some (xEg x)) :
 xCr N q N out 0 (.mk k n t a) = some (out ++ xF6 a) := by
 have key := xDr (σ := List Str) (L := fun m i s => xCr N q m s i (.mk k n t a)) a (fun l s => s ++ xF6 l) (fun i s => s.length + ((a.drop i).map Exp.cnt).sum ≤ 8000000)
  (fun m s _ => by simp [xCr, xF6, ea])
  (fun i x l s hd hi hxi hs2 => by
    have hi' : (i : Int) < (a.length : Int) := by omega
    have hm := List.mem_of_getElem? hxi
    rw [xJc hd] at hs2
    have hqx := hq x hm
    have hfl := xH4 x
    have hi2 : (i : Int) < ((Exp.mk k n t a).args.length : Int) := hi'
    have hil : (0 : Int) ≤ (i : Int) ∧ (i : Int) < ((Exp.mk k n t a).args.length : Int) := ⟨by omega, hi2⟩
    have hxi2 : (Exp.mk k n t a).args[i]? = some x := hxi
    have hlim : s.length + (xEg x).length ≤ Lim := by unfold Lim; omega
    refine .inl ⟨s ++ xEg x, by simp only [jA]; omega, by simp only [xF6, List.append_assoc], fun m => ?_⟩
    simp only [xCr, decide_eq_true hi2, jT, Int.toNat_natCast, xBO hxi2, xBh hi (by omega : a.length ≤ _), if_pos hil, hqx, jS, if_pos hlim]) N 0 out (by simpa using ho) (by omega) (by omega)
 exact key
theorem xTm (hN : 4000000 < N) (hbd : bd.length + 1 ≤ 4000000) (hal : a.length ≤ 4000000) {b : Bool} {e : Exp} {o : Bool} {p q : Str} (ht : e.text = t)
 {f : Exp → List Str → Bool → Str → Str → Option (Bool × Str × Str)} (hq : ∀ x ∈ a, ∀ g o, f x (inn bd b t g) o p q = some (o || xCt x p q (inn bd b t g), p, q)) :
 xAy N f N bd b a a.length 0 e o p q = some (o || xER a p q bd b t true, p, q) := by
 have key := xDr (σ := Bool × Bool) (L := fun m i s => xAy N f m bd b a a.length i e s.1 p q) a (fun l s => (s.1 || xER l p q bd b t s.2, p, q)) (fun i s => s.2 = (i == 0))
  (fun m s _ => by simp [xAy, xER])
  (fun i x l s hd hi hxi hs1 => by
    have hi' : (i : Int) < (a.length : Int) := by omega
    have hm := List.mem_of_getElem? hxi
    have hqx := hq x hm s.2 s.1
    refine .inl ⟨(s.1 || xCt x p q (inn bd b t s.2), false), by simp, by simp only [xER, Bool.or_assoc], fun m => ?_⟩
    simp only [xAy, decide_eq_true hi', jT, Int.toNat_natCast, xBO hxi, ht, List.nil_append, xBh hi (by omega : a.length ≤ _)]
    rw [if_pos (by omega)]
    unfold inn at hqx ⊢
    cases b with
    | false => simp only [Bool.false_and, jF] at hqx ⊢; rw [hqx]; rfl
    | true =>
      cases hp : decide ((i : Int) > 0) with
      | true =>
        rw [hs1, xJY hp] at hqx ⊢
        simp only [Bool.not_false, Bool.and_true, jT] at hqx ⊢
        rw [if_pos (by unfold Lim; omega), if_pos (by simp only [List.length_singleton]; unfold Lim; omega), hqx]; rfl
      | false =>
        rw [hs1, xIY hp] at hqx ⊢
        simp only [Bool.not_true, Bool.and_false, jF, jT] at hqx ⊢
        rw [hqx]; rfl) N 0 (o, true) rfl (by omega) (by omega)
 exact key
theorem xTi (hN : 4000000 < N) (hbd : bd.length + 1 ≤ 4000000) (hal : a.length ≤ 4000000) {p q : Str}
 {f : Exp → Str → Str → List Str → Option Bool} (hq : ∀ x ∈ a, ∀ g, f x p q (inn bd (xBg k) t g) = some (xCt x p q (inn bd (xBg k) t g))) :
 xBj N f N p q bd 0 (.mk k n t a) = some (xER a p q bd (xBg k) t true) := by
 have key := xDr (σ := Bool) (L := fun m i s => xBj N f m p q bd i (.mk k n t a)) a (fun l s => xER l p q bd (xBg k) t s) (fun i s => s = (i == 0))
  (fun m s _ => by simp [xBj, xER, ea])
  (fun i x l s hd hi hxi hs1 => by
    have hi' : (i : Int) < (a.length : Int) := by omega
    have hm := List.mem_of_getElem? hxi
    have hqx := hq x hm s
    have hi2 : (i : Int) < ((Exp.mk k n t a).args.length : Int) := hi'
    have hil : (0 : Int) ≤ (i : Int) ∧ (i : Int) < ((Exp.mk k n t a).args.length : Int) := ⟨by omega, hi2⟩
    have hxi2 : (Exp.mk k n t a).args[i]? = some x := hxi
    have hg0 : 0 + bd.length ≤ Lim := by unfold Lim; omega
    have hg1 : bd.length + [t].length ≤ Lim := by simp only [List.length_singleton]; unfold Lim; omega
    have step : ∀ m, xBj N f (m + 1) p q bd i (.mk k n t a) = bif xCt x p q (inn bd (xBg k) t s) then some true else xBj N f m p q bd ((i + 1 : Nat) : Int) (.mk k n t a) := by
     intro m
     simp only [xBj, et, ek, decide_eq_true hi2, jT, Int.toNat_natCast, xBO hxi2, List.nil_append, xBh hi (by omega : a.length ≤ _), if_pos hil, if_pos hg0, if_pos hg1]
     unfold xBg inn at hqx ⊢
     cases h7 : k == 7 <;> cases h9 : k == 9 <;> cases hp : decide ((i : Int) > 0) <;> simp only [h7, h9, hp, hs1, Bool.or_false, Bool.or_true, Bool.false_and, Bool.true_and, jF, jT] at hqx ⊢ <;>
      first
      | (rw [hqx]; rfl)
      | (rw [xIY hp] at hqx ⊢; simp only [Bool.not_true, jF] at hqx ⊢; rw [hqx]; rfl)
      | (rw [xJY hp] at hqx ⊢; simp only [Bool.not_false, jT] at hqx ⊢; rw [hqx]; rfl)
    cases hc : xCt x p q (inn bd (xBg k) t s)
    · refine .inl ⟨false, by simp, by simp only [xER, hc, Bool.false_or], fun m => ?_⟩
      rw [step, hc]; rfl
    · refine .inr fun m => ?_
      rw [step, hc]; simp only [jT, xER, hc, Bool.true_or]) N 0 true rfl (by omega) (by omega)
 exact key
end
theorem xMx : ∀ e : Exp, Big2 fun N d => ∀ bd out, bd.length + e.size ≤ 3000000 → out.length + e.cnt ≤ 8000000 →
 xEw N d e = some (xEg e) ∧ xBd N d e bd out = some (out ++ xEg e) := by
 refine Exp.ind fun k n t a ih => ?_
 refine Big2.succ ?_
 refine ((Big2.list fun x hx => ih x hx).and (xGJ 8000000).two).imp fun N d ⟨hx, hN⟩ bd out hb ho => ?_
 have hal := xKh (k := k) (n := n) (t := t) (a := a)
 have hcnt : (Exp.mk k n t a).cnt = 1 + (a.map Exp.cnt).sum := Exp.cnt_eq _
 have hc : ∀ x ∈ a, ∀ (f : Bool), (inn bd (xBg k) t f).length + x.size ≤ 3000000 := fun x hm f => by
  have h1 := xLl (bd := bd) (b := xBg k) (t := t) (f := f)
  have h2 := (xJr (k := k) (n := n) (t := t) hm).1
  omega
 have hca : ∀ x ∈ a, x.cnt ≤ (a.map Exp.cnt).sum := fun x hm => xJf (f := Exp.cnt) hm
 have hS : ∀ o : List Str, o.length ≤ 1 → xCr N (xEw N d) N o 0 (.mk k n t a) = some (o ++ xF6 a) := fun o ho1 =>
  xTh (by omega) (by omega) (by omega) fun x hm => (hx x hm (inn bd (xBg k) t true) [] (hc x hm true) (by have := hca x hm; simp; omega)).1
 have hV : ∀ (b : Bool) (o : List Str), b = xBg k → o.length ≤ out.length + 1 → xAt N (xBd N d) N bd b a a.length 0 (.mk k n t a) o = some (o ++ xF6 a) := by
  rintro b o rfl ho1
  exact xTl (by omega) (by omega) (by omega) rfl (by omega) fun x hm f o h => (hx x hm (inn bd (xBg k) t f) o (hc x hm f) h).2
 have hI : xCL N bd t = some (idxS bd t 0) := xFR (by omega) (by omega)
 have hB : xDz N t out = some (out ++ [t]) := by
  unfold xDz
  rw [if_pos (by simp only [List.length_singleton]; unfold Lim; omega)]
 refine ⟨?_, ?_⟩
 · show xF1 N (xEw N d) (.mk k n t a) = _
   simp only [xF1, xEg, ek, et, List.nil_append, List.length_singleton, hS [t] (by simp), hS [] (by simp)]
   unfold xBg
   cases k == 7 <;> cases k == 9 <;> simp only [jT, jF, Bool.or_true, Bool.or_false, Bool.true_or] <;> first | rfl | (rw [if_pos (by unfold Lim; omega)])
 · show xBp N (xBd N d) (.mk k n t a) bd out = _
   simp only [xBp, xEg, ek, et, ea, hI, hB, jS]
   cases h3 : k == 3
   · simp only [jF]
     cases h7 : k == 7
     · cases h9 : k == 9
       · simp only [jF]
         have hb : xBg k = false := by simp [xBg, h7, h9]
         rw [hV false out hb.symm (by omega), hb]; rfl
       · simp only [jT, jF]
         have hb : xBg k = true := by simp [xBg, h7, h9]
         rw [hV true _ hb.symm (by simp), hb]; simp
     · simp only [jT]
       have hb : xBg k = true := by simp [xBg, h7]
       rw [hV true _ hb.symm (by simp), hb]; simp
   · obtain ⟨g1, g7, g9⟩ := xMD h3
     simp only [jT, g9, hV false out g1.symm (by omega), g1, jF, List.nil_append]
     cases decide (idxS bd t 0 < 0) <;> rfl
theorem xMm (p q : Str) : ∀ e : Exp, Big2 fun N d => ∀ bd o, bd.length + e.size ≤ 3000000 →
 xDf N d e p q bd = some (xCt e p q bd) ∧ xBe N d e bd o p q = some (o || xCt e p q bd, p, q) := by
 refine Exp.ind fun k n t a ih => ?_
 refine Big2.succ ?_
 refine ((Big2.list fun x hx => ih x hx).and (xGJ 8000000).two).imp fun N d ⟨hx, hN⟩ bd o hb => ?_
 have hal := xKh (k := k) (n := n) (t := t) (a := a)
 have hc : ∀ x ∈ a, ∀ (f : Bool), (inn bd (xBg k) t f).length + x.size ≤ 3000000 := fun x hm f => by
  have h1 := xLl (bd := bd) (b := xBg k) (t := t) (f := f)
  have h2 := (xJr (k := k) (n := n) (t := t) hm).1
  omega
 have hS := xTi (N := N) (k := k) (n := n) (t := t) (a := a) (bd := bd) (p := p) (q := q) (f := xDf N d) (by omega) (by omega) (by omega) fun x hm f => (hx x hm (inn bd (xBg k) t f) false (hc x hm f)).1
 have hV : ∀ (b : Bool) , b = xBg k → xAy N (xBe N d) N bd b a a.length 0 (.mk k n t a) o p q = some (o || xER a p q bd (xBg k) t true, p, q) := by
  rintro b rfl
  exact xTm (by omega) (by omega) (by omega) rfl fun x hm f o => (hx x hm (inn bd (xBg k) t f) o (hc x hm f)).2
 have hH : ∀ s, xFi N bd s = some (bd.any (· == s)) := fun s => xHx (by omega) (by omega)
 have hI : ∀ s, xCL N bd s = some (idxS bd s 0) := fun s => xFR (by omega) (by omega)
 have hge : ∀ s, decide (idxS bd s 0 ≥ 0) = bd.any (· == s) := fun s => by
  have := xIC (s := s) bd 0
  cases ha : bd.any (· == s)
  · rw [ha] at this; exact decide_eq_false (by have := of_decide_eq_true this; omega)
  · rw [ha] at this; exact decide_eq_true (by have := of_decide_eq_false this; omega)
 refine ⟨?_, ?_⟩
 · show xDT N (xDf N d) (.mk k n t a) p q bd = _
   simp only [xDT, xCt, ek, et, hH, jS, hS]
   cases k == 3 <;> cases bd.any (· == t) <;> cases t == p <;> rfl
 · show xBq N (xBe N d) (.mk k n t a) bd o p q = _
   simp only [xBq, xCt, ek, et, ea, hI, jS, xIC]
   cases h3 : k == 3
   · simp only [jF, Bool.false_and]
     cases h7 : k == 7
     · cases h9 : k == 9
       · simp only [jF]; exact hV false (by simp [xBg, h7, h9])
       · simp only [jT, jF]; exact hV true (by simp [xBg, h7, h9])
     · simp only [jT]; exact hV true (by simp [xBg, h7])
   · obtain ⟨g1, g7, g9⟩ := xMD h3
     cases bd.any (· == t)
     · simp only [jT, Bool.not_false, Bool.and_true, xFc, hI, jS, hge]
       cases o <;> cases t == p <;> simp
     · simp only [jT, Bool.not_true, Bool.and_false, jF, g9]
       exact hV false g1.symm
end Go.Ab
end
section
namespace Go.Ab
theorem xTr : ∀ x y : Str, Op.bytesLess x y = decide (x < y)
 | [], [] => by simp [Op.bytesLess]
 | [], _ :: _ => by simp [Op.bytesLess]
 | _ :: _, [] => by simp [Op.bytesLess]
 | a :: x, b :: y => by
   simp only [Op.bytesLess, xTr x y, List.cons_lt_cons_iff]
   by_cases h1 : a < b <;> by_cases h2 : a = b <;> by_cases h3 : x < y <;> simp [h1, h2, h3]
theorem xNc (x y : Str) : decide (x ≤ y) = !Op.bytesLess y x := by
 rw [xTr]
 by_cases h : y < x
 · rw [decide_eq_true h]; exact decide_eq_false fun g => g h
 · rw [decide_eq_false h]; exact decide_eq_true h
def SS (l : List Str) : Prop := l.Pairwise fun x y => Op.bytesLess x y = true
theorem xM0 : ∀ {l m : List Str}, SS l → SS m → (∀ x, x ∈ l ↔ x ∈ m) → l = m
 | [], [], _, _, _ => rfl
 | [], y :: m, _, _, h => absurd ((h y).2 List.mem_cons_self) (by simp)
 | x :: l, [], _, _, h => absurd ((h x).1 List.mem_cons_self) (by simp)
 | x :: l, y :: m, hl, hm, h => by
   unfold SS at hl hm
   rw [List.pairwise_cons] at hl hm
   have e : x = y := by
    rcases List.mem_cons.1 ((h x).1 List.mem_cons_self) with e | h1
    · exact e
    · rcases List.mem_cons.1 ((h y).2 List.mem_cons_self) with e | h2
      · exact e.symm
      · have := xLF (hl.1 y h2)
        rw [hm.1 x h1] at this; cases this
   subst e
   refine congrArg (x :: ·) (xM0 hl.2 hm.2 fun z => ⟨fun hz => ?_, fun hz => ?_⟩)
   · rcases List.mem_cons.1 ((h z).1 (List.mem_cons_of_mem _ hz)) with e | h1
     · exact absurd e.symm (xTs (hl.1 z hz))
     · exact h1
   · rcases List.mem_cons.1 ((h z).2 (List.mem_cons_of_mem _ hz)) with e | h1
     · exact absurd e.symm (xTs (hm.1 z hz))
     · exact h1
def insS (s : Str) : List Str → List Str
 | [] => [s]
 | x :: r => bif Op.bytesLess x s then x :: insS s r else bif x == s then x :: r else s :: x :: r
theorem xJ3 {s z : Str} : ∀ {l : List Str}, z ∈ insS s l ↔ z = s ∨ z ∈ l
 | [] => by simp [insS]
 | x :: r => by
   unfold insS
   cases Op.bytesLess x s
   · simp only [jF]
     cases h : x == s
     · simp only [jF, List.mem_cons]
     · simp only [jT, List.mem_cons]
       have : x = s := by simpa using h
       subst this
       exact ⟨fun h => .inr h, fun h => h.elim .inl id⟩
   · simp only [jT, List.mem_cons, xJ3 (l := r)]
     constructor
     · rintro (h | h | h)
       · exact .inr (.inl h)
       · exact .inl h
       · exact .inr (.inr h)
     · rintro (h | h | h)
       · exact .inr (.inl h)
       · exact .inl h
       · exact .inr (.inr h)
theorem xMC {s : Str} : ∀ {l : List Str}, SS l → SS (insS s l)
 | [], _ => List.pairwise_singleton _ _
 | x :: r, h => by
   have h' := List.pairwise_cons.1 h
   unfold insS
   cases hb : Op.bytesLess x s
   · simp only [jF]
     cases he : x == s
     · simp only [jF]
       have hsx := xJa hb (by intro e; rw [e] at he; simp at he)
       refine List.pairwise_cons.2 ⟨fun y hy => ?_, h⟩
       rcases List.mem_cons.1 hy with rfl | hy
       · exact hsx
       · exact xJb hsx (h'.1 y hy)
     · simp only [jT]; exact h
   · simp only [jT]
     refine List.pairwise_cons.2 ⟨fun y hy => ?_, xMC h'.2⟩
     rcases xJ3.1 hy with rfl | hy
     · exact hb
     · exact h'.1 y hy
theorem xJ2 {s : Str} : ∀ {l : List Str}, (insS s l).length ≤ l.length + 1
 | [] => by simp [insS]
 | x :: r => by
   unfold insS
   have := xJ2 (s := s) (l := r)
   cases Op.bytesLess x s
   · simp only [jF]
     cases x == s
     · simp
     · simp
   · simp only [jT, jC]; omega
def xGI : List Str → List Str → List Str
 | [], acc => acc
 | s :: r, acc => xGI r (insS s acc)
theorem xIJ : ∀ {l acc : List Str}, (xGI l acc).length ≤ acc.length + l.length
 | [], acc => by simp [xGI]
 | s :: r, acc => by
   have h1 := xIJ (l := r) (acc := insS s acc)
   have h2 := xJ2 (s := s) (l := acc)
   simp only [xGI, jC]; omega
theorem xIK {z : Str} : ∀ {l acc : List Str}, z ∈ xGI l acc ↔ z ∈ acc ∨ z ∈ l
 | [], acc => by simp [xGI]
 | s :: r, acc => by
   simp only [xGI, xIK (l := r), xJ3, List.mem_cons]
   constructor
   · rintro ((h | h) | h)
     · exact .inr (.inl h)
     · exact .inl h
     · exact .inr (.inr h)
   · rintro (h | h | h)
     · exact .inl (.inr h)
     · exact .inl (.inl h)
     · exact .inr h
theorem xKi : ∀ {l acc : List Str}, SS acc → SS (xGI l acc)
 | [], _, h => h
 | s :: r, acc, h => xKi (l := r) (xMC h)
theorem xTP {N : Nat} {k3 : List Str → List Str → Int → Option (List Str)} {x0 acc : List Str} {i : Nat} {s : Str} (hx : x0[i]? = some s) (hl : acc.length ≤ 8000000) (hxl : x0.length ≤ 8000000) (hN : acc.length < N) :
 xCW N k3 N x0 acc i 0 = k3 x0 (insS s acc) ((i + 1 : Nat) : Int) := by
 have hi := (List.getElem?_eq_some_iff.1 hx).1
 have hi2 : (0 : Int) ≤ (i : Int) ∧ (i : Int) < (x0.length : Int) := ⟨by omega, by omega⟩
 have hsome : ∃ r, k3 x0 (insS s acc) ((i + 1 : Nat) : Int) = r := ⟨_, rfl⟩
 have key : ∀ (n j : Nat) (l : List Str), acc.drop j = l → j ≤ acc.length → acc.length < n + j → xCW N k3 n x0 acc i (j : Nat) = k3 x0 (acc.take j ++ insS s l) ((i + 1 : Nat) : Int) := by
  intro n
  induction n with
  | zero => intro j l _ h1 h2; omega
  | succ n ih =>
    intro j l hd hj hn
    have hdl : (acc.drop j).length = acc.length - j := List.length_drop
    have htl : (acc.take j).length = j := by rw [List.length_take]; omega
    cases l with
    | nil =>
      have hj2 : j = acc.length := by rw [hd] at hdl; simp at hdl; omega
      have c1 : ¬ (j : Int) < (acc.length : Int) := by omega
      simp only [xCW, decide_eq_false c1, jF, Int.toNat_natCast, xBO hx, xBh hi (by omega : x0.length ≤ _)]
      rw [if_pos (by omega), if_pos (by unfold Lim; omega), if_pos hi2, if_pos (by simp only [List.length_singleton]; unfold Lim; omega), if_pos (by simp only [jA, List.length_singleton, jN]; unfold Lim; omega)]
      rw [hd]; simp [insS]
    | cons x r =>
      obtain ⟨h1, h2, h3⟩ := xHK hd
      have c1 : (j : Int) < (acc.length : Int) := by omega
      simp only [xCW, decide_eq_true c1, jT, Int.toNat_natCast, xBO hx, xBO h2, xBh hi (by omega : x0.length ≤ _), xBh h1 (by omega : acc.length ≤ _)]
      rw [if_pos (by omega), if_pos hi2]
      unfold insS
      have hlim : (acc.take j).length + [s].length ≤ Lim := by simp only [List.length_singleton]; unfold Lim; omega
      have hlim2 : (acc.take j ++ [s]).length + ([] ++ acc.drop j).length ≤ Lim := by simp only [jA, List.length_singleton, jN]; unfold Lim; omega
      have hlim0 : 0 + (acc.drop j).length ≤ Lim := by unfold Lim; omega
      have hjj : (0 : Int) ≤ (j : Int) ∧ (j : Int) ≤ (acc.length : Int) := ⟨by omega, by omega⟩
      cases hb : Op.bytesLess x s
      · simp only [jF]
        cases he : x == s
        · simp only [jF, if_pos hjj, if_pos hlim0, if_pos hlim, if_pos hlim2]
          rw [hd]; simp
        · simp only [jT]
          rw [← hd, List.take_append_drop]
      · simp only [jT]
        have e1 : acc.take (j + 1) = acc.take j ++ [x] := by rw [List.take_add_one, h2]; rfl
        rw [ih (j + 1) r h3 (by omega) (by omega), e1]
        simp [List.append_assoc]
 have := key N 0 acc rfl (by omega) (by omega)
 simpa using this
theorem xHl {N : Nat} {xs : List Str} (hl : xs.length ≤ 4000000) (hN : 8000000 < N) : xFx N xs = some (xGI xs []) := by
 exact xDr (L := fun n i s => xDE N n xs s i) xs (fun l s => xGI l s) (fun i s => s.length ≤ i) (fun n s _ => by simp [xDE, xGI])
  (fun i x l s hd hi hxi hs => by
    have hi' : (i : Int) < (xs.length : Int) := by omega
    have hs : s.length ≤ i := hs
    have := xJ2 (s := x) (l := s)
    refine .inl ⟨insS x s, by omega, rfl, fun n => ?_⟩
    simp only [xDE, decide_eq_true hi', jT]
    exact xTP hxi (by omega) (by omega) (by omega)) N 0 [] (Nat.le_refl 0) (by omega) (by omega)
def dedS : List Str → List Str → List Str
 | _, [] => []
 | pre, x :: r => (bif pre.any (· == x) then [] else [x]) ++ dedS (pre ++ [x]) r
theorem xJ1 {z : Str} : ∀ {l pre : List Str}, z ∈ dedS pre l ↔ z ∉ pre ∧ z ∈ l
 | [], pre => by simp [dedS]
 | x :: r, pre => by
   simp only [dedS, List.mem_append, xJ1 (l := r), List.mem_cons]
   cases h : pre.any (· == x)
   · simp only [jF, List.mem_singleton]
     have hx : x ∉ pre := fun hm => by
      rw [List.any_eq_true.2 ⟨x, hm, by simp⟩] at h; cases h
     constructor
     · rintro (rfl | ⟨h1, h2⟩)
       · exact ⟨hx, .inl rfl⟩
       · exact ⟨fun hm => h1 (.inl hm), .inr h2⟩
     · rintro ⟨h1, h2⟩
       by_cases e : z = x
       · exact .inl e
       · refine .inr ⟨?_, h2.resolve_left e⟩
         rintro (hm | rfl | hm)
         · exact h1 hm
         · exact e rfl
         · cases hm
   · simp only [jT, List.not_mem_nil, false_or]
     obtain ⟨y, hy, he⟩ := List.any_eq_true.1 h
     have hyx : y = x := by simpa using he
     subst hyx
     constructor
     · rintro ⟨h1, h2⟩; exact ⟨fun hm => h1 (.inl hm), .inr h2⟩
     · rintro ⟨h1, h2⟩
       rcases h2 with rfl | h2
       · exact absurd hy h1
       · refine ⟨?_, h2⟩
         rintro (hm | rfl | hm)
         · exact h1 hm
         · exact h1 hy
         · cases hm
theorem xLk : ∀ {l pre : List Str}, (dedS pre l).Nodup
 | [], pre => by simp [dedS]
 | x :: r, pre => by
   simp only [dedS]
   cases h : pre.any (· == x)
   · simp only [jF, List.singleton_append, List.nodup_cons]
     exact ⟨fun hm => (xJ1.1 hm).1 (by simp), xLk⟩
   · simp only [jT, List.nil_append]; exact xLk
theorem xNe {l : List Str} (h : l.Nodup) : SS (l.mergeSort fun x y => decide (x ≤ y)) := by
 have hs : (l.mergeSort fun x y => decide (x ≤ y)).Pairwise fun x y => decide (x ≤ y) = true := List.pairwise_mergeSort (fun a b c h1 h2 => by
  rw [xNc] at h1 h2 ⊢
  simp only [Bool.not_eq_true'] at h1 h2 ⊢
  cases hca : Op.bytesLess c a
  · rfl
  · by_cases e : b = c
    · subst e; rw [h1] at hca; cases hca
    · have := xJa h2 (fun e' => e e'.symm)
      have h3 := xJb this hca
      rw [h1] at h3; cases h3) (fun a b => by
  rw [xNc, xNc]
  cases h1 : Op.bytesLess b a
  · rfl
  · rw [xLF h1]; rfl) l
 have hn : (l.mergeSort fun x y => decide (x ≤ y)).Nodup := (List.mergeSort_perm l _).nodup_iff.2 h
 refine (hs.and hn).imp ?_
 rintro x y ⟨h1, h2⟩
 rw [xNc] at h1
 simp only [Bool.not_eq_true'] at h1
 exact xJa h1 (fun e => h2 e.symm)
theorem xMZ (xs : List Str) : ((dedS [] xs).mergeSort fun x y => decide (x ≤ y)) = xGI xs [] := by
 refine xM0 (xNe xLk) (xKi .nil) fun z => ?_
 rw [(List.mergeSort_perm _ _).mem_iff, xJ1, xIK]
 simp
theorem xHh {N : Nat} {xs : List Str} (hl : xs.length ≤ 4000000) (hN : 8000000 < N) : xFt N xs = some (xGI xs []) := by
 have key := xDr (L := fun n i s => xCw N n xs s xs xs.length i) (σ := List Str) xs (fun l s => (s ++ dedS (xs.take (xs.length - l.length)) l).mergeSort fun x y => decide (x ≤ y)) (fun i s => s.length ≤ i)
  (fun n s hs => by
    have hs : s.length ≤ xs.length := hs
    simp only [xCw, Int.lt_irrefl, decide_false, jF, sort_Strings, zF0, dedS, List.append_nil]
    rw [if_pos (by omega)]
    simp only [jS]
    rw [if_pos (List.mergeSort_perm _ _).length_eq])
  (fun i x l s hd hi hxi hs => by
    have hi' : (i : Int) < (xs.length : Int) := by omega
    have hs : s.length ≤ i := hs
    have hI : xCL N xs x = some (idxS xs x 0) := xFR (by omega) (by omega)
    have hx0 := xMB (j := 0) hxi
    rw [Nat.zero_add] at hx0
    have hdl : (xs.drop i).length = xs.length - i := List.length_drop
    rw [hd, jC] at hdl
    have e1 : xs.length - (x :: l).length = i := by rw [jC]; omega
    have e2 : xs.length - l.length = i + 1 := by omega
    have e3 : xs.take (i + 1) = xs.take i ++ [x] := by rw [List.take_add_one, hxi]; rfl
    cases ha : (xs.take i).any (· == x)
    · refine .inl ⟨s ++ [x], by simp; omega, by simp only [e1, e2, e3, dedS, ha, jF, List.append_assoc], fun n => ?_⟩
      simp only [xCw, decide_eq_true hi', jT, Int.toNat_natCast, xBO hxi, hI, jS, hx0, ha, Bool.not_false, xBh hi (by omega : xs.length ≤ _)]
      rw [if_pos (by omega), if_pos (by simp only [List.length_singleton]; unfold Lim; omega)]
    · refine .inl ⟨s, by omega, by simp only [e1, e2, e3, dedS, ha, jT, List.nil_append], fun n => ?_⟩
      simp only [xCw, decide_eq_true hi', jT, Int.toNat_natCast, xBO hxi, hI, jS, hx0, ha, Bool.not_true, jF, xBh hi (by omega : xs.length ≤ _)]
      rw [if_pos (by omega)]) N 0 [] (Nat.le_refl 0) (by omega) (by omega)
 simp only [List.drop_zero, Nat.sub_self, List.take_zero, List.nil_append, xMZ] at key
 exact key
end Go.Ab
end
section
namespace Go.Ab
theorem xHr {K : Nat} {k n : Int} {t : Str} {a : List Exp} (hk : I64 k) (hn : I64 n) (ht : t.length ≤ K) (ha : a.length ≤ K) (hx : ∀ x ∈ a, x.Fit K) : (Exp.mk k n t a).Fit K :=
 Exp.fit_iff.2 ⟨hk, hn, ht, ha, hx⟩
theorem xFw (k n : Int) (t : Str) (a : List Exp) : (Exp.mk k n t a).size = t.length + (a.length + (a.map Exp.size).sum) := Exp.size_eq _
theorem xJk {x : Int} (h : 0 ≤ x ∧ x ≤ 1000) : I64 x := by unfold I64; omega
theorem xLb (a b : List Exp) : ((a ++ b).map Exp.size).sum = (a.map Exp.size).sum + (b.map Exp.size).sum := by simp
end Go.Ab
end
section
namespace Go.Ab
abbrev e0 : Exp := .mk 0 0 [] []
end Go.Ab
end
section
namespace Go.Ab
theorem sOp (N : Nat) (k : Int) (a b : Exp) : xFM N k a b = some (.mk 6 k [] [a, b]) := by unfold xFM; simp only [Exp.re_eq]
end Go.Ab
end
section
namespace Go.Ab
theorem xLI {e : Exp} (hs : e.size ≤ 1048576) : Big fun N => xDv N e = some (xGI (xCO e []) []) ∧ xCC N e = some (xGI (xCO e []) []) := by
 have hc := Exp.cnt_le e
 have hl := xIB e []
 refine ((xM9 e).diag.and (xGJ 8000000)).imp fun N ⟨h, hN⟩ => ?_
 obtain ⟨h1, h2⟩ := h [] [] (by simp; omega) (by simp; omega)
 have h1' : xH3 N e [] = some (xCO e []) := h1
 have h2' : xC3 N e [] [] = some (xCO e []) := h2
 simp only [xDv, xCC, h1', h2', jS, xHh (N := N) (xs := xCO e []) (by omega) hN, xHl (N := N) (xs := xCO e []) (by omega) hN]
 exact ⟨trivial, trivial⟩
theorem xKp {e : Exp} (hs : e.size ≤ 1048576) : Big fun N => xBS N e = some (xGI (xEg e) []) ∧ xHW N e = some (xGI (xEg e) []) := by
 have hc := Exp.cnt_le e
 have hl := xH4 e
 refine ((xMx e).diag.and (xGJ 8000000)).imp fun N ⟨h, hN⟩ => ?_
 obtain ⟨h1, h2⟩ := h [] [] (by simp; omega) (by simp; omega)
 have h1' : xIN N e = some (xEg e) := h1
 have h2' : xCR N e [] [] = some (xEg e) := h2
 simp only [xBS, xHW, h1', h2', jS, xHh (N := N) (xs := xEg e) (by omega) hN, xHl (N := N) (xs := xEg e) (by omega) hN]
 exact ⟨trivial, trivial⟩
theorem xKq {e : Exp} {p q : Str} (hs : e.size ≤ 1048576) : Big fun N => xCF N e p q = some (xCt e p q []) ∧ xE4 N e p q = some (xCt e p q []) := by
 refine (xMm p q e).diag.imp fun N h => ?_
 obtain ⟨h1, h2⟩ := h [] false (by simp; omega)
 have h1' : xHd N e p q [] = some (xCt e p q []) := h1
 have h2' : xCS N e [] false p q = some (false || xCt e p q [], p, q) := h2
 simp only [xCF, xE4, h1', h2', jS, Bool.false_or]
 exact ⟨trivial, trivial⟩
end Go.Ab
end
section
namespace Go.Ab
mutual
def renE : Exp → Str → Str → Exp
 | .mk k n t a, p, q => .mk k n (bif (k == 3) && t == p then q else t) (renL a p q (xBg k && t == p) true)
def renL : List Exp → Str → Str → Bool → Bool → List Exp
 | [], _, _, _, _ => []
 | x :: r, p, q, b, f => (bif b && !f then x else renE x p q) :: renL r p q b false
end
theorem xJe : ∀ (a : List Exp) (p q : Str) (b f : Bool), (renL a p q b f).length = a.length
 | [], _, _, _, _ => rfl
 | x :: r, p, q, b, f => by simp only [renL, jC, xJe r p q b false]
section
variable {N d : Nat} {k n : Int} {t : Str} {a : List Exp} {e z : Exp}
theorem xM7 {K : Nat} (hK : K ≤ 8000000) : ∀ e : Exp, e.Fit K → Big2 fun N d => xEm N d e = some e ∧ xEK N d e = some e := by
 refine Exp.ind fun k n t a ih h => ?_
 obtain ⟨h1, h2, h3, h4⟩ := Exp.fit_iff.1 h
 refine Big2.succ ?_
 refine ((Big2.list fun x hx => ih x hx (h4.2 x hx)).and (xGJ K).two).imp fun N d ⟨hx, hn⟩ => ?_
 have hl : a.length ≤ K := h4.1
 refine ⟨?_, ?_⟩
 · have key := xDr (L := fun m i q => xDZ N (xEm N d) m a a.length i (Exp.mk 0 0 [] []) (Exp.mk k n t q)) a (fun l q => Exp.mk k n t (q ++ l)) (fun i q => q.length = i) (fun m q _ => by simp [xDZ])
    (fun i x l q hd hi hxi hq => by
      have hi' : (i : Int) < (a.length : Int) := by omega
      have hq : q.length = i := hq
      refine .inl ⟨q ++ [x], by simp [hq], by simp, fun m => ?_⟩
      simp only [xDZ, decide_eq_true hi', jT, Int.toNat_natCast, xBO hxi, (hx x (List.mem_of_getElem? hxi)).1, jS, Exp.re_eq, xBh hi (by omega : a.length ≤ _)]
      rw [if_pos (by omega), if_pos (by show q.length + 1 ≤ Lim; unfold Lim; omega)]; rfl) N 0 [] rfl (by omega) (by omega)
   exact key
 · have key := xDr (L := fun m i q => xEu N (xEK N d) m i (Exp.mk k n t a) (Exp.mk 0 0 [] []) (Exp.mk k n t q)) a (fun l q => Exp.mk k n t (q ++ l)) (fun i q => q.length = i) (fun m q _ => by simp [xEu, ea])
    (fun i x l q hd hi hxi hq => by
      have hi' : (i : Int) < ((Exp.mk k n t a).args.length : Int) := by show (i : Int) < (a.length : Int); omega
      have hi2 : (0 : Int) ≤ (i : Int) ∧ (i : Int) < ((Exp.mk k n t a).args.length : Int) := ⟨by omega, hi'⟩
      have hxi2 : (Exp.mk k n t a).args[i]? = some x := hxi
      have hq : q.length = i := hq
      refine .inl ⟨q ++ [x], by simp [hq], by simp, fun m => ?_⟩
      simp only [xEu, decide_eq_true hi', if_pos hi2, jT, Int.toNat_natCast, xBO hxi2, (hx x (List.mem_of_getElem? hxi)).2, jS, Exp.re_eq, xBh hi (by omega : a.length ≤ _)]
      rw [if_pos (by show q.length + 1 ≤ Lim; unfold Lim; omega)]; rfl) N 0 [] rfl (by omega) (by omega)
   exact key
theorem xTo (hN : 8000000 < N) (hal : a.length ≤ 4000000) {p q : Str} {b : Bool} {k' n' : Int} {t' : Str} {f : Exp → Str → Str → Option Exp} (hq : ∀ x ∈ a, f x p q = some (renE x p q)) (hc : ∀ x ∈ a, xGH N x = some x) :
 xBB N f N p q b a a.length 0 z (Exp.mk k' n' t' []) = some (Exp.mk k' n' t' (renL a p q b true)) := by
 have key := xDr (σ := List Exp × Bool) (L := fun m i s => xBB N f m p q b a a.length i z (Exp.mk k' n' t' s.1)) a (fun l s => Exp.mk k' n' t' (s.1 ++ renL l p q b s.2)) (fun i s => s.2 = (i == 0) ∧ s.1.length = i)
  (fun m s _ => by simp [xBB, renL])
  (fun i x l s hd hi hxi hs => by
    obtain ⟨hs1, hs2⟩ := hs
    have hi' : (i : Int) < (a.length : Int) := by omega
    have hm := List.mem_of_getElem? hxi
    have hlim : s.1.length + 1 ≤ Lim := by unfold Lim; omega
    refine .inl ⟨(s.1 ++ [bif b && !s.2 then x else renE x p q], false), ⟨by simp, by simp [hs2]⟩, by simp only [renL, List.append_assoc, List.singleton_append], fun m => ?_⟩
    simp only [xBB, decide_eq_true hi', jT, Int.toNat_natCast, xBO hxi, hq x hm, hc x hm, jS, Exp.re_eq, ek, en, et, ea, List.length_singleton, xBh hi (by omega : a.length ≤ _), if_pos hlim]
    rw [if_pos (by omega)]
    cases b with
    | false => simp only [Bool.false_and, jF]
    | true =>
      cases hp : decide ((i : Int) > 0) with
      | true => rw [hs1, xJY hp]; rfl
      | false => rw [hs1, xIY hp]; rfl) N 0 ([], true) ⟨rfl, rfl⟩ (by omega) (by omega)
 exact key
theorem xOq {i : Nat} {l : Nat} (hi : i < l) (h2 : l = 2) : ((i : Int) == 1) = !(i == 0) := by
 rcases (by omega : i = 0 ∨ i = 1) with rfl | rfl <;> rfl
theorem xTk (hN : 8000000 < N) (hal : a.length ≤ 4000000) {p q : Str} (hb2 : xBg k = true → a.length = 2) {k' n' : Int} {t' : Str} {f : Exp → Str → Str → Option Exp} (hq : ∀ x ∈ a, f x p q = some (renE x p q)) (hc : ∀ x ∈ a, xGs N x = some x) :
 xA1 N f N p q 0 (.mk k n t a) z (Exp.mk k' n' t' []) = some (Exp.mk k' n' t' (renL a p q (xBg k && t == p) true)) := by
 have key := xDr (σ := List Exp × Bool) (L := fun m i s => xA1 N f m p q i (.mk k n t a) z (Exp.mk k' n' t' s.1)) a (fun l s => Exp.mk k' n' t' (s.1 ++ renL l p q (xBg k && t == p) s.2)) (fun i s => s.2 = (i == 0) ∧ s.1.length = i)
  (fun m s _ => by simp [xA1, renL, ea])
  (fun i x l s hd hi hxi hs => by
    obtain ⟨hs1, hs2⟩ := hs
    have hm := List.mem_of_getElem? hxi
    have hi' : (i : Int) < ((Exp.mk k n t a).args.length : Int) := by show (i : Int) < (a.length : Int); omega
    have hi2 : (0 : Int) ≤ (i : Int) ∧ (i : Int) < ((Exp.mk k n t a).args.length : Int) := ⟨by omega, hi'⟩
    have hxi2 : (Exp.mk k n t a).args[i]? = some x := hxi
    have hlim : s.1.length + 1 ≤ Lim := by unfold Lim; omega
    refine .inl ⟨(s.1 ++ [bif (xBg k && t == p) && !s.2 then x else renE x p q], false), ⟨by simp, by simp [hs2]⟩, by simp only [renL, List.append_assoc, List.singleton_append], fun m => ?_⟩
    simp only [xA1, decide_eq_true hi', jT, Int.toNat_natCast, xBO hxi2, hq x hm, hc x hm, jS, Exp.re_eq, ek, en, et, List.length_singleton, xBh hi (by omega : a.length ≤ _), if_pos hi2]
    have e1 : ∀ (y : Exp), (if List.length (Exp.args (Exp.mk k' n' t' s.1)) + 1 ≤ Lim then xA1 N f m p q ((i + 1 : Nat) : Int) (Exp.mk k n t a) z (Exp.mk k' n' t' (Exp.args (Exp.mk k' n' t' s.1) ++ [y])) else none) =
     xA1 N f m p q ((i + 1 : Nat) : Int) (Exp.mk k n t a) z (Exp.mk k' n' t' (s.1 ++ [y])) := fun y => if_pos hlim
    simp only [e1]
    cases h7 : k == 7
    · cases h9 : k == 9
      · have hb : xBg k = false := by simp [xBg, h7, h9]
        simp only [hb, Bool.false_and, jF]
      · have hb : xBg k = true := by simp [xBg, h7, h9]
        rw [hs1, xOq hi (hb2 hb), hb]
        cases i == 0 <;> cases t == p <;> rfl
    · have hb : xBg k = true := by simp [xBg, h7]
      rw [hs1, xOq hi (hb2 hb), hb]
      cases i == 0 <;> cases t == p <;> rfl) N 0 ([], true) ⟨rfl, rfl⟩ (by omega) (by omega)
 exact key
end
theorem xHT {k n : Int} {t : Str} {a : List Exp} (h : okE (.mk k n t a) = true) : (xBg k = true → a.length = 2) ∧ ((k == 3) = true → a = []) ∧ ∀ x ∈ a, okE x = true := by
 rw [xMU, Bool.and_eq_true] at h
 obtain ⟨h1, h2⟩ := h
 have hk := kinds h2
 refine ⟨fun hb => ?_, fun h3 => ?_, fun x hx => List.all_eq_true.1 h1 x hx⟩
 · unfold xBg at hb
   simp only [Bool.or_eq_true, beq_iff_eq] at hb
   rcases hk with h | h | h | h | h | ⟨h, _⟩ | ⟨h, hl⟩ | ⟨h, hl⟩ | ⟨h, _⟩
   · have h : k = 1 := h; omega
   · have h : k = 2 := h; omega
   · have h : k = 3 := h; omega
   · have h : k = 4 := h; omega
   · have h : k = 5 := h; omega
   · have h : k = 6 := h; omega
   · exact hl
   · exact hl
   · have h : k = 8 := h; omega
 · have : k = 3 := by simpa using h3
   subst this
   have : xIj xIn xB3 argc 3 n t a.length = true := h2
   unfold xIj at this
   simp only [show ((3 : Int) == 1) = false from rfl, show ((3 : Int) == 2) = false from rfl, beq_self_eq_true, jF, jT, Bool.and_eq_true, beq_iff_eq] at this
   exact List.length_eq_zero_iff.1 this.2.2
theorem xTg {K : Nat} (hK : K ≤ 4000000) (p q : Str) : ∀ e : Exp, e.Fit K → okE e = true → Big2 fun N d => xD0 N d e p q = some (renE e p q) ∧ xDg N d e p q = some (renE e p q) := by
 refine Exp.ind fun k n t a ih h ho => ?_
 obtain ⟨h1, h2, h3, h4⟩ := Exp.fit_iff.1 h
 obtain ⟨o1, o2, o3⟩ := xHT ho
 refine Big2.succ ?_
 refine (((Big2.list fun x hx => ih x hx (h4.2 x hx) (o3 x hx)).and (Big2.list fun x hx => (xM7 (by omega) x (h4.2 x hx)).diag.two)).and (xGJ 8000000).two).imp fun N d ⟨⟨hx, hc⟩, hn⟩ => ?_
 have hl : a.length ≤ K := h4.1
 have c1 : ∀ x ∈ a, xGH N x = some x := fun x hx => (hc x hx).1
 have c2 : ∀ x ∈ a, xGs N x = some x := fun x hx => (hc x hx).2
 refine ⟨?_, ?_⟩
 · show xEn N (xD0 N d) (.mk k n t a) p q = _
   have hv : ∀ (b : Bool) (t' : Str), xBB N (xD0 N d) N p q b a a.length 0 (Exp.mk 0 0 [] []) (Exp.mk k n t' []) = some (Exp.mk k n t' (renL a p q b true)) := fun b t' =>
    xTo hn (by omega) (fun x hm => (hx x hm).1) c1
   simp only [xEn, renE, ek, en, et, ea, hv]
   cases h3 : k == 3
   · simp only [jF, Bool.false_and]
     unfold xBg
     cases k == 7 <;> cases k == 9 <;> simp
   · obtain ⟨g1, g7, g9⟩ := xMD h3
     rw [g1]
     cases t == p <;> rfl
 · show xDU N (xDg N d) (.mk k n t a) p q = _
   have hv : ∀ (t' : Str), xA1 N (xDg N d) N p q 0 (.mk k n t a) (Exp.mk 0 0 [] []) (Exp.mk k n t' []) = some (Exp.mk k n t' (renL a p q (xBg k && t == p) true)) := fun t' =>
    xTk hn (by omega) o1 (fun x hm => (hx x hm).2) c2
   simp only [xDU, renE, ek, en, et, hv]
   cases k == 3 <;> cases t == p <;> rfl
def renP (e : Exp) (p q : Str) : Exp × Bool := bif xGY e && (xB3 p && (xB3 q && !xCt e p q [])) then (renE e p q, true) else (.mk 0 0 [] [], false)
theorem xOr {K : Nat} (hK : K ≤ 1048576) {e : Exp} (h : e.Fit K) (hs : e.size ≤ 1048576) {p q : Str} (hp : p.length ≤ 1048576) (hq : q.length ≤ 1048576) :
 Big fun N => xCj N e p q = some (renP e p q) ∧ xEs N e p q = some (renP e p q) := by
 cases hv : xGY e
 · refine (xJD hK h hs).imp fun N ⟨h1, h2⟩ => ?_
   simp only [xCj, xEs, h1, h2, hv, jS, Bool.not_false, jT, renP, Bool.false_and, jF]
   exact ⟨trivial, trivial⟩
 · have ho : okE e = true := by
    unfold xGY at hv
    simp only [Bool.and_eq_true] at hv
    exact hv.2
   refine (((xJD hK h hs).and (xKq (p := p) (q := q) hs)).and ((xTg (by omega) p q e h ho).diag.and (xGJ 2000000))).imp fun N ⟨⟨⟨h1, h2⟩, c1, c2⟩, ⟨r1, r2⟩, hN⟩ => ?_
   have r1' : xHO N e p q = some (renE e p q) := r1
   have r2' : xHe N e p q = some (renE e p q) := r2
   simp only [xCj, xEs, h1, h2, hv, c1, c2, r1', r2', xFC (N := N) (s := p) (by omega) (by omega), xFC (N := N) (s := q) (by omega) (by omega),
    xFH (N := N) (s := p) (by omega) (by omega) (by omega), xFH (N := N) (s := q) (by omega) (by omega) (by omega), jS, Bool.not_true, jF, renP, Bool.true_and]
   cases xB3 p <;> cases xB3 q <;> cases xCt e p q [] <;> exact ⟨rfl, rfl⟩
theorem xL2 {p q : Str} : ∀ {a : List Exp} {b f : Bool}, (∀ x ∈ a, (renE x p q).cnt = x.cnt ∧ (renE x p q).nest = x.nest) → ((renL a p q b f).map Exp.cnt).sum = (a.map Exp.cnt).sum ∧ Exp.nests (renL a p q b f) = Exp.nests a
 | [], _, _, _ => ⟨rfl, rfl⟩
 | x :: r, b, f, h => by
   obtain ⟨i1, i2⟩ := xL2 (a := r) (b := b) (f := false) fun y hy => h y (List.mem_cons_of_mem _ hy)
   obtain ⟨h1, h2⟩ := h x List.mem_cons_self
   simp only [renL, List.map_cons, List.sum_cons, Exp.nests, i1, i2]
   cases b && !f
   · simp only [jF, h1, h2]; exact ⟨trivial, trivial⟩
   · simp only [jT]; exact ⟨trivial, trivial⟩
theorem xKg (p q : Str) : ∀ e : Exp, (renE e p q).cnt = e.cnt ∧ (renE e p q).nest = e.nest := by
 refine Exp.ind fun k n t a ih => ?_
 obtain ⟨h1, h2⟩ := xL2 (b := xBg k && t == p) (f := true) ih
 rw [Exp.cnt_eq, Exp.nest_eq, Exp.cnt_eq (.mk k n t a), Exp.nest_eq (.mk k n t a)]
 simp only [renE, ea, h1, h2]
 exact ⟨trivial, trivial⟩
theorem xL3 {K : Nat} {p q : Str} : ∀ {a : List Exp} {b f : Bool}, (∀ x ∈ a, (renE x p q).Fit K ∧ x.Fit K) → ∀ y ∈ renL a p q b f, y.Fit K
 | [], _, _, _ => fun y hy => by cases hy
 | x :: r, b, f, h => fun y hy => by
   rcases List.mem_cons.1 (show y ∈ (bif b && !f then x else renE x p q) :: renL r p q b false from hy) with rfl | hy
   · cases b && !f
     · exact (h x List.mem_cons_self).1
     · exact (h x List.mem_cons_self).2
   · exact xL3 (fun z hz => h z (List.mem_cons_of_mem _ hz)) y hy
theorem xOl {K : Nat} {p q : Str} (hq : q.length ≤ K) : ∀ e : Exp, e.Fit K → (renE e p q).Fit K := by
 refine Exp.ind fun k n t a ih h => ?_
 obtain ⟨h1, h2, h3, h4⟩ := Exp.fit_iff.1 h
 refine Exp.fit_iff.2 ⟨h1, h2, ?_, ?_, xL3 fun x hx => ⟨ih x hx (h4.2 x hx), h4.2 x hx⟩⟩
 · show (bif (k == 3) && t == p then q else t).length ≤ K
   cases (k == 3) && t == p
   · exact h3
   · exact hq
 · show (renL a p q (xBg k && t == p) true).length ≤ K
   rw [xJe]; exact h4.1
theorem xOm {K : Nat} {e : Exp} {p q : Str} (hq : q.length ≤ K) (h : e.Fit K) : (renP e p q).1.Fit K ∧ (renP e p q).1.cnt ≤ e.cnt := by
 unfold renP
 cases xGY e && (xB3 p && (xB3 q && !xCt e p q []))
 · refine ⟨Exp.fit_iff.2 ⟨(show I64 0 from ⟨by decide, by decide⟩), (show I64 0 from ⟨by decide, by decide⟩), Nat.zero_le _, Nat.zero_le _, fun x hx => by cases hx⟩, ?_⟩
   show (Exp.mk 0 0 [] []).cnt ≤ e.cnt
   rw [Exp.cnt_eq, Exp.cnt_eq e]; simp only [ea, List.map_nil, List.sum_nil]; omega
 · exact ⟨xOl hq e h, by show (renE e p q).cnt ≤ e.cnt; rw [(xKg p q e).1]; exact Nat.le_refl _⟩
end Go.Ab
end
section
namespace Go.Ab
def Ret {α : Type} (o : Option α) (Q : α → Prop) : Prop := ∃ r, o = some r ∧ Q r
theorem Ret.mk' {α : Type} {a : α} {Q : α → Prop} (h : Q a) : Ret (Option.some a) Q := ⟨a, rfl, h⟩
theorem Ret.bnd {α β : Type} {o : Option α} {f : α → Option β} {P : α → Prop} {Q : β → Prop} (h : Ret o P) (hf : ∀ a, P a → Ret (f a) Q) : Ret (Option.bind o f) Q := by
 obtain ⟨a, rfl, ha⟩ := h
 exact hf a ha
theorem Ret.cnd {α : Type} {b : Bool} {x y : Option α} {Q : α → Prop} (h1 : b = true → Ret x Q) (h2 : b = false → Ret y Q) : Ret (bif b then x else y) Q := by
 cases b
 · exact h2 rfl
 · exact h1 rfl
theorem Ret.chk {α : Type} {p : Prop} [Decidable p] {x : Option α} {Q : α → Prop} (hp : p) (h : Ret x Q) : Ret (if p then x else none) Q := by
 rw [if_pos hp]; exact h
theorem Ret.imp {α : Type} {o : Option α} {P Q : α → Prop} (h : Ret o P) (hi : ∀ a, P a → Q a) : Ret o Q := by
 obtain ⟨a, e, ha⟩ := h
 exact ⟨a, e, hi a ha⟩
structure CurOk (c : Cur) : Prop where
 lo : 0 ≤ c.i
 len : c.b.length ≤ 1048576
def Dr {α : Type} (P : α → Prop) : α × Cur → Prop := fun r => P r.1 ∧ CurOk r.2
theorem xMv (x : Int) : 0 ≤ andI .i64 x 255 ∧ andI .i64 x 255 ≤ 255 := by
 unfold andI
 have h : (BitVec.ofInt IntKind.i64.bits x &&& BitVec.ofInt IntKind.i64.bits 255).toNat ≤ 255 := by
  rw [BitVec.toNat_and]
  exact Nat.and_le_right
 rw [xDu (by omega) (by omega)]
 omega
theorem xJi {N : Nat} {c : Cur} (h : CurOk c) : Ret (xEF N c) (Dr fun v => 0 ≤ v ∧ v ≤ 255) := by
 unfold xEF
 have h1 := h.lo
 have h2 := h.len
 refine .cnd (fun hc => ?_) (fun _ => .mk' ⟨xMv _, h1, h2⟩)
 have hc := of_decide_eq_true hc
 refine .chk ⟨h1, hc⟩ (.mk' ⟨xMv _, ?_, h2⟩)
 show 0 ≤ IntKind.i64.wrap (c.i + 1)
 rw [xDu (by omega) (by omega)]
 omega
theorem xTR {x n : Int} (hx : 0 ≤ x) (hn : 0 < n) : 0 ≤ Int.tmod x n ∧ Int.tmod x n < n := by
 rw [Int.tmod_eq_emod_of_nonneg hx]
 exact ⟨Int.emod_nonneg _ (by omega), Int.emod_lt_of_pos _ hn⟩
theorem xLE {N : Nat} {c : Cur} {n : Int} (h : CurOk c) : Ret (xAZ N c n) (Dr fun v => 0 ≤ v ∧ (v < n ∨ v = 0)) := by
 unfold xAZ
 refine .cnd (fun _ => .mk' ⟨⟨by omega, .inr rfl⟩, h⟩) (fun hc => ?_)
 have hc : ¬ n ≤ 0 := of_decide_eq_false hc
 have hn : n ≠ 0 := by omega
 refine .cnd (fun _ => .bnd (xJi h) fun a ha => ?_) (fun _ => .bnd (xJi h) fun a ha => .bnd (xJi ha.2) fun b hb => .bnd (xJi hb.2) fun d hd => .bnd (xJi hd.2) fun e he => ?_)
 · have := xTR ha.1.1 (by omega : 0 < n)
   exact .chk hn (.mk' ⟨⟨this.1, .inl this.2⟩, ha.2⟩)
 · have a1 := ha.1; have b1 := hb.1; have d1 := hd.1; have e1 := he.1
   have key : ∀ x y z w : Int, (0 ≤ x ∧ x ≤ 255) → (0 ≤ y ∧ y ≤ 255) → (0 ≤ z ∧ z ≤ 255) → (0 ≤ w ∧ w ≤ 255) →
    0 ≤ IntKind.i64.wrap ((IntKind.i64.wrap ((IntKind.i64.wrap ((IntKind.i64.wrap (x * 16777216)) + (IntKind.i64.wrap (y * 65536)))) + (IntKind.i64.wrap (z * 256)))) + w) := by
    intro x y z w hx hy hz hw
    rw [xDu (x := x * 16777216) (by omega) (by omega), xDu (x := y * 65536) (by omega) (by omega), xDu (x := z * 256) (by omega) (by omega), xDu (x := x * 16777216 + y * 65536) (by omega) (by omega),
     xDu (x := x * 16777216 + y * 65536 + z * 256) (by omega) (by omega), xDu (by omega) (by omega)]
    omega
   have := xTR (key _ _ _ _ a1 b1 d1 e1) (by omega : 0 < n)
   exact .chk hn (.mk' ⟨⟨this.1, .inl this.2⟩, he.2⟩)
theorem xOo {N : Nat} {c : Cur} {n : Int} (h : CurOk c) (hn : 0 < n) : Ret (xAZ N c n) (Dr fun v => 0 ≤ v ∧ v < n) :=
 (xLE h).imp fun a ha => ⟨⟨ha.1.1, by have := ha.1.2; omega⟩, ha.2⟩
theorem xOz {N : Nat} {c : Cur} {n : Int} (h : CurOk c) : Ret (xEI N c n) (Dr fun _ => True) :=
 .bnd (xLE h) fun a ha => .mk' ⟨trivial, ha.2⟩
theorem xMn {N : Nat} {c : Cur} {l : List Str} (h : CurOk c) (hl : 0 < l.length) : Ret (xBG N c l) (Dr fun v => v ∈ l) := by
 refine .bnd (xOo h (by omega)) fun a ha => ?_
 have h1 := ha.1
 refine .chk h1 (.mk' ⟨?_, ha.2⟩)
 have hlt : a.1.toNat < l.length := by omega
 show List.getD l a.1.toNat _ ∈ l
 rw [xBO (List.getElem?_eq_getElem hlt)]
 exact List.getElem_mem hlt
end Go.Ab
end
section
namespace Go.Ab
def U {ι α : Type} (S : ι → Prop) (o : ι → Option α) (Q : α → Prop) : Prop := ∃ r, Q r ∧ ∀ x, S x → o x = some r
section
variable {ι α β : Type} {S : ι → Prop} {P : α → Prop} {Q : β → Prop}
theorem U.mk' {a : α} (h : P a) : U S (fun _ => some a) P := ⟨a, h, fun _ _ => rfl⟩
theorem U.bnd {o : ι → Option α} {f : ι → α → Option β} (h : U S o P) (hf : ∀ a, P a → U S (fun x => f x a) Q) : U S (fun x => Option.bind (o x) (f x)) Q := by
 obtain ⟨a, ha, e⟩ := h
 obtain ⟨b, hb, e'⟩ := hf a ha
 exact ⟨b, hb, fun x hx => by show (o x).bind (f x) = _; rw [e x hx]; exact e' x hx⟩
theorem U.cnd {b : Bool} {p q : ι → Option α} (h1 : b = true → U S p P) (h2 : b = false → U S q P) : U S (fun x => bif b then p x else q x) P := by
 cases b
 · exact h2 rfl
 · exact h1 rfl
theorem U.chk {p : Prop} [Decidable p] {o : ι → Option α} (hp : p) (h : U S o P) : U S (fun x => if p then o x else none) P := by
 obtain ⟨a, ha, e⟩ := h
 exact ⟨a, ha, fun x hx => by show (if p then o x else none) = _; rw [if_pos hp]; exact e x hx⟩
theorem U.pre {κ : Type} {T : κ → Prop} {o : κ → Option α} (h : U T o P) (g : ι → κ) (hg : ∀ x, S x → T (g x)) : U S (fun x => o (g x)) P := by
 obtain ⟨a, ha, e⟩ := h
 exact ⟨a, ha, fun x hx => e _ (hg x hx)⟩
theorem U.ret {o : Nat → Option α} (g : ι → Nat) (h : Ret (o 0) P) (hc : ∀ N, o N = o 0) : U S (fun x => o (g x)) P := by
 obtain ⟨a, e, ha⟩ := h
 exact ⟨a, ha, fun x _ => (hc _).trans e⟩
end
theorem forU {σ ρ : Type} {L : Nat → Nat → Int → σ → Option ρ} {Q : ρ → Prop} {B : Nat} (len : Nat) (Inv : Nat → σ → Prop) (hB : len ≤ B)
 (hend : ∀ st, Inv len st → U (fun x : Nat × Nat => B < x.1) (fun x => L x.1 (x.2 + 1) (len : Nat) st) Q)
 (hstep : ∀ i st, i < len → Inv i st → (∀ st', Inv (i + 1) st' → U (fun x : Nat × Nat => B < x.1 ∧ len - (i + 1) < x.2) (fun x => L x.1 x.2 ((i + 1 : Nat) : Int) st') Q) → U (fun x : Nat × Nat => B < x.1 ∧ len - (i + 1) < x.2) (fun x => L x.1 (x.2 + 1) (i : Nat) st) Q) :
 ∀ st, Inv 0 st → U (fun N : Nat => B < N) (fun N => L N N 0 st) Q := by
 have key : ∀ k i st, len - i = k → i ≤ len → Inv i st → U (fun x : Nat × Nat => B < x.1 ∧ len - i < x.2) (fun x => L x.1 x.2 (i : Nat) st) Q := by
  intro k
  induction k with
  | zero =>
    intro i st hk hi hs
    have : i = len := by omega
    subst this
    obtain ⟨r, hr, e⟩ := hend st hs
    refine ⟨r, hr, fun x hx => ?_⟩
    obtain ⟨N, n⟩ := x
    obtain ⟨m, rfl⟩ : ∃ m, n = m + 1 := ⟨n - 1, by have := hx.2; simp at this; omega⟩
    exact e (N, m) hx.1
  | succ k ih =>
    intro i st hk hi hs
    obtain ⟨r, hr, e⟩ := hstep i st (by omega) hs fun st' h' => ih (i + 1) st' (by omega) (by omega) h'
    refine ⟨r, hr, fun x hx => ?_⟩
    obtain ⟨N, n⟩ := x
    have h2 : len - i < n := hx.2
    obtain ⟨m, rfl⟩ : ∃ m, n = m + 1 := ⟨n - 1, by omega⟩
    exact e (N, m) ⟨hx.1, by show len - (i + 1) < m; omega⟩
 intro st hs
 exact (key len 0 st (by omega) (by omega) hs).pre (fun N => (N, N)) fun N hN => ⟨hN, by have : B < N := hN; show len - 0 < N; omega⟩
section
variable {ι : Type} {S : ι → Prop} {c : Cur}
theorem xIz (g : ι → Nat) {n : Int} (h : CurOk c) (hn : 0 < n) : U S (fun x => xAZ (g x) c n) (Dr fun v => 0 ≤ v ∧ v < n) := .ret (o := fun N => xAZ N c n) g (xOo h hn) fun _ => rfl
theorem xTD (g : ι → Nat) {n : Int} (h : CurOk c) : U S (fun x => xEI (g x) c n) (Dr fun _ => True) := .ret (o := fun N => xEI N c n) g (xOz h) fun _ => rfl
theorem xTf (g : ι → Nat) {l : List Str} (h : CurOk c) (hl : 0 < l.length) : U S (fun x => xBG (g x) c l) (Dr fun v => v ∈ l) := .ret (o := fun N => xBG N c l) g (xMn h hl) fun _ => rfl
theorem newU (g : ι → Nat) {a : List Int} (h : a.length ≤ 1048576) (hS : ∀ x, S x → 1048576 < g x) : U S (fun x => xGg (g x) a) CurOk := by
 have key : U (fun N : Nat => 1048576 < N) (fun N => xGg N a) CurOk := by
  unfold xGg
  refine forU (σ := Int) (L := fun N m i st => xFl N m a st i) (B := 1048576) a.length (fun _ _ => True) h (fun st _ => ?_) (fun i st hi _ ih => ?_) _ trivial
  · simp only [xFl, Int.lt_irrefl, decide_false, jF]
    exact .mk' ⟨by show (0 : Int) ≤ 0; omega, h⟩
  · simp only [xFl, decide_eq_true (show (i : Int) < (a.length : Int) by omega), jT, xBh hi (by omega : a.length ≤ _)]
    exact .cnd (fun _ => .chk ⟨by omega, by omega⟩ (ih _ trivial)) (fun _ => .mk' ⟨by show (0 : Int) ≤ 0; omega, h⟩)
 exact key.pre g hS
end
theorem xIs {v : Int} (h : 0 ≤ v) : ∃ n : Nat, v = (n : Int) := ⟨v.toNat, by omega⟩
end Go.Ab
end
section
namespace Go.Ab
def E2 {α : Type} (o : Nat → Nat → Option α) (Q : α → Prop) : Prop := ∃ r, Q r ∧ Big2 fun N d => o N d = some r
section
variable {α β : Type} {P : α → Prop} {Q : β → Prop}
theorem E2.mk' {a : α} (h : P a) : E2 (fun _ _ => some a) P := ⟨a, h, .of fun _ _ => rfl⟩
theorem E2.bnd {o : Nat → Nat → Option α} {f : Nat → Nat → α → Option β} (h : E2 o P) (hf : ∀ a, P a → E2 (fun N d => f N d a) Q) : E2 (fun N d => Option.bind (o N d) (f N d)) Q := by
 obtain ⟨a, ha, e⟩ := h
 obtain ⟨b, hb, e'⟩ := hf a ha
 exact ⟨b, hb, (e.and e').imp fun N d ⟨h1, h2⟩ => by show (o N d).bind (f N d) = _; rw [h1]; exact h2⟩
theorem E2.cnd {b : Bool} {p q : Nat → Nat → Option α} (h1 : b = true → E2 p P) (h2 : b = false → E2 q P) : E2 (fun N d => bif b then p N d else q N d) P := by
 cases b
 · exact h2 rfl
 · exact h1 rfl
theorem E2.chk {p : Prop} [Decidable p] {o : Nat → Nat → Option α} (hp : p) (h : E2 o P) : E2 (fun N d => if p then o N d else none) P := by
 obtain ⟨a, ha, e⟩ := h
 exact ⟨a, ha, e.imp fun N d h => by show (if p then o N d else none) = _; rw [if_pos hp]; exact h⟩
theorem E2.imp {o : Nat → Nat → Option α} {P' : α → Prop} (h : E2 o P) (hi : ∀ a, P a → P' a) : E2 o P' := by
 obtain ⟨a, ha, e⟩ := h
 exact ⟨a, hi a ha, e⟩
theorem E2.succ {o : Nat → Nat → Option α} (h : E2 (fun N d => o N (d + 1)) P) : E2 o P := by
 obtain ⟨a, ha, e⟩ := h
 exact ⟨a, ha, e.succ⟩
theorem E2.ofU {B : Nat} {o : Nat → Option α} (h : U (fun N => B < N) o P) : E2 (fun N _ => o N) P := by
 obtain ⟨a, ha, e⟩ := h
 exact ⟨a, ha, B + 1, fun N n h _ => e N (by omega)⟩
theorem E2.ofBig {o : Nat → Option α} {a : α} (h : Big fun N => o N = some a) (ha : P a) : E2 (fun N _ => o N) P := ⟨a, ha, h.two⟩
theorem E2.diag {o : Nat → Nat → Option α} (h : E2 o P) : ∃ r, P r ∧ Big fun N => o N N = some r := by
 obtain ⟨a, ha, e⟩ := h
 exact ⟨a, ha, e.diag⟩
end
theorem xHJ {c : Cur} {n : Int} (h : CurOk c) (hn : 0 < n) : E2 (fun N _ => xAZ N c n) (Dr fun v => 0 ≤ v ∧ v < n) := .ofU (B := 0) (xIz id h hn)
theorem xTC {c : Cur} {n : Int} (h : CurOk c) : E2 (fun N _ => xEI N c n) (Dr fun _ => True) := .ofU (B := 0) (xTD id h)
theorem xKf {c : Cur} {l : List Str} (h : CurOk c) (hl : 0 < l.length) : E2 (fun N _ => xBG N c l) (Dr fun v => v ∈ l) := .ofU (B := 0) (xTf id h hl)
def EDr (s : Nat) (e : Exp) : Prop := e.Fit 1000 ∧ e.size ≤ s
theorem EDr.mono {s s' : Nat} {e : Exp} (h : EDr s e) (hs : s ≤ s') : EDr s' e := ⟨h.1, Nat.le_trans h.2 hs⟩
def sizes (a : List Exp) : Nat := (a.map Exp.size).sum
theorem xH7 {k n : Int} {t : Str} {a : List Exp} {s : Nat} (hk : 0 ≤ k ∧ k ≤ 1000) (hn : 0 ≤ n ∧ n ≤ 1000) (ht : t.length ≤ 8) (ha : a.length ≤ 1000) (hx : ∀ x ∈ a, x.Fit 1000) (hs : t.length + (a.length + sizes a) ≤ s) : EDr s (.mk k n t a) :=
 ⟨xHr (xJk hk) (xJk hn) (by omega) ha hx, by rw [xFw]; exact hs⟩
theorem xGh {k n : Int} {t : Str} (hk : 0 ≤ k ∧ k ≤ 1000) (hn : 0 ≤ n ∧ n ≤ 1000) (ht : t.length ≤ 8) : EDr 8 (.mk k n t []) := xH7 hk hn ht (by simp) (fun x hx => by cases hx) (by simp [sizes]; omega)
theorem all1 {p : Exp → Prop} {a : Exp} (h : p a) : ∀ x ∈ [a], p x := fun x hx => by
 simp only [List.mem_cons, List.not_mem_nil, or_false] at hx; subst hx; exact h
theorem all2 {p : Exp → Prop} {a b : Exp} (h : p a) (h' : p b) : ∀ x ∈ [a, b], p x := fun x hx => by
 simp only [List.mem_cons, List.not_mem_nil, or_false] at hx
 rcases hx with rfl | rfl <;> assumption
theorem all3 {p : Exp → Prop} {a b c : Exp} (h : p a) (h' : p b) (h'' : p c) : ∀ x ∈ [a, b, c], p x := fun x hx => by
 simp only [List.mem_cons, List.not_mem_nil, or_false] at hx
 rcases hx with rfl | rfl | rfl <;> assumption
theorem edr1 {k : Int} {t : Str} {a : Exp} {s : Nat} (hk : 0 ≤ k ∧ k ≤ 1000) (ht : t.length ≤ 8) (h : EDr s a) : EDr (s + 9) (.mk k 0 t [a]) :=
 xH7 hk (by omega) ht (by simp) (all1 h.1) (by have := h.2; simp only [sizes, List.map_cons, List.map_nil, List.sum_cons, List.sum_nil, jC, jN]; omega)
theorem edr2 {k n : Int} {t : Str} {a b : Exp} {s s' : Nat} (hk : 0 ≤ k ∧ k ≤ 1000) (hn : 0 ≤ n ∧ n ≤ 1000) (ht : t.length ≤ 8) (h : EDr s a) (h' : EDr s' b) : EDr (s + s' + 10) (.mk k n t [a, b]) :=
 xH7 hk hn ht (by simp) (all2 h.1 h'.1) (by have := h.2; have := h'.2; simp only [sizes, List.map_cons, List.map_nil, List.sum_cons, List.sum_nil, jC, jN]; omega)
theorem edr3 {k : Int} {t : Str} {a b c : Exp} {s s' s'' : Nat} (hk : 0 ≤ k ∧ k ≤ 1000) (ht : t.length ≤ 8) (h : EDr s a) (h' : EDr s' b) (h'' : EDr s'' c) : EDr (s + s' + s'' + 11) (.mk k 0 t [a, b, c]) :=
 xH7 hk (by omega) ht (by simp) (all3 h.1 h'.1 h''.1) (by have := h.2; have := h'.2; have := h''.2; simp only [sizes, List.map_cons, List.map_nil, List.sum_cons, List.sum_nil, jC, jN]; omega)
def Nms (k : Nat) (l : List Str) : Prop := 0 < l.length ∧ l.length + 2 * k ≤ 100 ∧ ∀ s ∈ l, s.length ≤ 8
theorem xME {c : Cur} (h : CurOk c) {k : Nat} {l : List Str} (hl : Nms k l) : U (fun N : Nat => 1000 < N) (fun N => xE8 N c l) (Dr (EDr 8)) := by
 refine .bnd (xIz id h (by decide)) fun a ha => ?_
 have num : ∀ b : Int × Cur, (0 ≤ b.1 ∧ b.1 < 6) → CurOk b.2 → U (fun N : Nat => 1000 < N) (fun N => Option.bind (xB0 N b.1) fun r3 => some (r3, b.2)) (Dr (EDr 8)) := fun b h1 h2 =>
  .mk' ⟨xGh (k := 1) (n := b.1) (t := []) (by omega) (by omega) (by simp), h2⟩
 refine .cnd (fun _ => .bnd (xTf id ha.2 (by decide)) fun b hb => .mk' ⟨xGh (by omega) (by omega) ?_, hb.2⟩)
  (fun _ => .cnd (fun _ => .bnd (xIz id ha.2 (by decide)) fun b hb => num b hb.1 hb.2) (fun _ => .cnd (fun _ => .bnd (xIz id ha.2 (by decide)) fun b hb => num b hb.1 hb.2) (fun _ => .bnd (xTf id ha.2 hl.1) fun b hb => .mk' ⟨xGh (k := 3) (n := 0) (by omega) (by omega) (hl.2.2 _ hb.1), hb.2⟩)))
 have := hb.1
 simp only [List.mem_cons, List.not_mem_nil, or_false] at this
 rcases this with e | e | e | e <;> rw [e] <;> decide
def LDr (i : Nat) (l : List Exp) : Prop := l.length = i ∧ (∀ x ∈ l, EDr 20 x)
theorem xL4 {s : Nat} : ∀ {l : List Exp}, (∀ x ∈ l, EDr s x) → sizes l ≤ s * l.length
 | [], _ => by simp [sizes]
 | x :: l, h => by
   have h1 := (h x List.mem_cons_self).2
   have h2 := xL4 fun y hy => h y (List.mem_cons_of_mem _ hy)
   simp only [sizes, List.map_cons, List.sum_cons, jC, Nat.mul_add] at h2 ⊢
   omega
theorem LDr.app {i : Nat} {l : List Exp} {x : Exp} (h : LDr i l) (hx : EDr 20 x) : LDr (i + 1) (l ++ [x]) := by
 refine ⟨by rw [jA, h.1]; rfl, fun y hy => ?_⟩
 rcases List.mem_append.1 hy with hy | hy
 · exact h.2 y hy
 · rw [List.mem_singleton.1 hy]; exact hx
theorem LDr.edr {i : Nat} {l : List Exp} (h : LDr i l) (hi : i ≤ 4) : EDr 100 (.mk 4 0 [] l) := by
 have h1 := xL4 h.2
 have h2 := h.1
 exact xH7 (by omega) (by omega) (by simp) (by omega) (fun x hx => (h.2 x hx).1) (by rw [h2] at h1 ⊢; simp only [jN]; omega)
theorem xNd {c : Cur} (h : CurOk c) {k : Nat} {l : List Str} (hl : Nms k l) : U (fun N : Nat => 1000 < N) (fun N => xE9 N c l) (Dr (EDr 100)) := by
 refine .bnd (xIz id h (by decide)) fun a ha => ?_
 obtain ⟨n, hn⟩ := xIs ha.1.1
 have hn2 : n < 4 := by have := ha.1.2; omega
 rw [hn]
 refine forU (σ := List Exp × Cur) (L := fun N m i st => xDS N m l n i st.2 (Exp.mk 0 0 [] []) (Exp.mk 4 0 [] st.1)) (B := 1000) n (fun i st => LDr i st.1 ∧ CurOk st.2) (by omega) (fun st hs => ?_) (fun i st hi hs ih => ?_) ([], a.2) ⟨⟨rfl, fun x hx => by cases hx⟩, ha.2⟩
 · simp only [xDS, Int.lt_irrefl, decide_false, jF]
   exact .mk' ⟨hs.1.edr (by omega), hs.2⟩
 · have hlen := hs.1.1
   simp only [xDS, xB0, decide_eq_true (show (i : Int) < (n : Int) by omega), jT, xBh hi (by omega : n ≤ _), jS, Exp.re_eq, ek, en, et, ea]
   refine .bnd (xIz _ hs.2 (by decide)) fun b hb => .chk (by simp only [jC, jN]; unfold Lim; omega) (.bnd (xTD _ hb.2) fun d hd => .cnd (fun _ => ?_) (fun _ => ih (st.1 ++ [_], d.2) ⟨hs.1.app ?_, hd.2⟩))
   · refine .bnd ((xME hd.2 hl).pre (fun x : Nat × Nat => x.1) fun x hx => hx.1) fun e he => .chk (by simp only [jA, jC, jN]; omega) (ih ((st.1 ++ [_]).set i e.1, e.2) ⟨⟨by rw [List.length_set, jA, hlen]; rfl, fun y hy => ?_⟩, he.2⟩)
     rcases List.mem_or_eq_of_mem_set hy with hy | hy
     · rcases List.mem_append.1 hy with hy | hy
       · exact hs.1.2 y hy
       · rw [List.mem_singleton.1 hy]
         have := hb.1
         exact (xGh (by omega) (by omega) (by simp)).mono (by omega)
     · rw [hy]; exact he.1.mono (by omega)
   · have := hb.1
     exact (xGh (by omega) (by omega) (by simp)).mono (by omega)
theorem xM2 {c : Cur} (h : CurOk c) : U (fun N : Nat => 1000 < N) (fun N => xFh N c) (Dr (EDr 150)) := by
 refine .bnd (xIz id h (by decide)) fun a ha => ?_
 obtain ⟨n, hn⟩ := xIs ha.1.1
 have hn2 : n < 4 := by have := ha.1.2; omega
 rw [hn]
 have z8 : ∀ {m : Int}, 0 ≤ m ∧ m ≤ 1000 → EDr 0 (Exp.mk 1 m [] []) := fun hm => xH7 (by omega) hm (by simp) (by simp) (fun x hx => by cases hx) (by simp [sizes])
 refine forU (σ := List Exp × Cur) (L := fun N m i st => xD4 N m n i st.2 (Exp.mk 0 0 [] []) (Exp.mk 4 0 [] st.1)) (B := 1000) n (fun i st => LDr i st.1 ∧ CurOk st.2) (by omega) (fun st hs => ?_) (fun i st hi hs ih => ?_) ([], a.2) ⟨⟨rfl, fun x hx => by cases hx⟩, ha.2⟩
 · simp only [xD4, xCi, Int.lt_irrefl, decide_false, jF, jS, Exp.re_eq]
   refine .mk' ⟨(edr2 (by omega) (by omega) (by decide) (xGh (k := 2) (n := 0) (by omega) (by omega) (by decide)) (hs.1.edr (by omega))).mono (by omega), hs.2⟩
 · have hlen := hs.1.1
   simp only [xD4, xB0, decide_eq_true (show (i : Int) < (n : Int) by omega), jT, xBh hi (by omega : n ≤ _), jS, Exp.re_eq, ek, en, et, ea]
   refine .bnd (xIz _ hs.2 (by decide)) fun b hb => .bnd (xIz _ hb.2 (by decide)) fun d hd => .chk (by simp only [jC, jN]; unfold Lim; omega) (ih (st.1 ++ [_], d.2) ⟨hs.1.app ?_, hd.2⟩)
   have h1 := hb.1; have h2 := hd.1
   exact (edr2 (by omega) (by omega) (by simp) (z8 (by omega)) (z8 (by omega))).mono (by omega)
theorem xJX {c : Cur} (h : CurOk c) {a b : Exp} {s : Nat} (ha : EDr s a) (hb : EDr s b) : E2 (fun N _ => xCJ N c a b) (Dr (EDr s)) :=
 .bnd (xTC h) fun r hr => .cnd (fun _ => .mk' ⟨ha, hr.2⟩) (fun _ => .mk' ⟨hb, hr.2⟩)
theorem xLj {c : Cur} (h : CurOk c) : E2 (fun N _ => xEO N c) (Dr (EDr 8)) := by
 refine .bnd (xKf h (by decide)) fun b hb => .mk' ⟨xGh (by omega) (by omega) ?_, hb.2⟩
 have := hb.1
 simp only [List.mem_cons, List.not_mem_nil, or_false] at this
 rcases this with e | e | e | e | e <;> rw [e] <;> decide
def bnd4 (k : Nat) : Nat := 400 * 4 ^ k
theorem xMw (k : Nat) : bnd4 (k + 1) = 4 * bnd4 k := by unfold bnd4; rw [Nat.pow_succ]; omega
theorem xLG (k : Nat) : 400 ≤ bnd4 k := by
 unfold bnd4
 have : 0 < 4 ^ k := Nat.pow_pos (by omega)
 omega
theorem xVo : ∀ (k : Nat) (c : Cur) (l : List Str), k ≤ 10 → CurOk c → Nms k l → E2 (fun N d => xCq N d c l (k : Int)) (Dr (EDr (bnd4 k))) := by
 intro k
 induction k with
 | zero =>
   intro c l _ hc hl
   refine .succ ?_
   show E2 (fun N d => xCX N (xCq N d) c l ((0 : Nat) : Int)) _
   unfold xCX
   refine .cnd (fun _ => .bnd (.ofU (xME hc hl)) fun a ha => .mk' ⟨ha.1.mono (by have := xLG 0; omega), ha.2⟩) (fun h => by simp at h)
 | succ k ih =>
   intro c l hk hc hl
   have b1 := xMw k
   have b0 := xLG k
   have hl' : Nms k l := ⟨hl.1, by have := hl.2.1; omega, hl.2.2⟩
   refine .succ ?_
   show E2 (fun N d => xCX N (xCq N d) c l ((k + 1 : Nat) : Int)) _
   have wk : IntKind.i64.wrap (((k + 1 : Nat) : Int) - 1) = (k : Int) := by rw [xDu (by omega) (by omega)]; omega
   have hrec : ∀ (c : Cur) (l : List Str), CurOk c → Nms k l → E2 (fun N d => xCq N d c l (k : Int)) (Dr (EDr (bnd4 k))) := fun c l => ih c l (by omega)
   unfold xCX
   simp only [wk, sOp, xCi, xB0, jS, Exp.re_eq]
   have leaf8 : ∀ {m : Int}, 0 ≤ m ∧ m ≤ 1000 → EDr 8 (Exp.mk 1 m [] []) := fun hm => xGh (by omega) hm (by simp)
   refine .cnd (fun _ => .bnd (.ofU (xME hc hl)) fun a ha => .mk' ⟨ha.1.mono (by omega), ha.2⟩) (fun _ => .bnd (xHJ hc (by decide)) fun a ha => ?_)
   have op2 : E2 (fun N d => Option.bind (xAZ N a.2 5) fun r2 => Option.bind (xCq N d r2.2 l (k : Int)) fun r3 => Option.bind (xCq N d r3.2 l (k : Int)) fun r4 => some (Exp.mk 6 (IntKind.i64.wrap (1 + r2.1)) [] [r3.1, r4.1], r4.2)) (Dr (EDr (bnd4 (k + 1)))) :=
    .bnd (xHJ ha.2 (by decide)) fun b hb => .bnd (hrec _ _ hb.2 hl') fun x hx => .bnd (hrec _ _ hx.2 hl') fun y hy => .mk' ⟨(edr2 (by omega) (by
      have h1 := hb.1
      rw [xDu (by omega) (by omega)]; omega) (by simp) hx.1 hy.1).mono (by omega), hy.2⟩
   have nm3 : ∀ v : Str, v ∈ [[117], [118], List.getD l (Int.toNat 0) Ty.str.dflt] → v.length ≤ 8 := fun v hv => by
    simp only [List.mem_cons, List.not_mem_nil, or_false] at hv
    rcases hv with e | e | e
    · rw [e]; decide
    · rw [e]; decide
    · rw [e]
      obtain ⟨s, r, rfl⟩ : ∃ s r, l = s :: r := by
       cases l with
       | nil => exact absurd hl.1 (by simp)
       | cons s r => exact ⟨s, r, rfl⟩
      exact hl.2.2 s List.mem_cons_self
   have hpos : (0 : Int) ≤ 0 ∧ (0 : Int) < (List.length l) := ⟨by omega, by have := hl.1; omega⟩
   refine .cnd (fun _ => op2) (fun _ => .cnd (fun _ => op2) (fun _ => .cnd (fun _ => ?_) (fun _ => .cnd (fun _ => ?_) (fun _ => .cnd (fun _ => ?_) (fun _ => .cnd (fun _ => ?_) (fun _ => .cnd (fun _ => ?_) (fun _ => .cnd (fun _ => ?_) (fun _ => .cnd (fun _ => ?_) (fun _ => .cnd (fun _ => ?_) (fun _ => .cnd (fun _ => ?_) (fun _ => .cnd (fun _ => ?_) (fun _ => ?_))))))))))))
   · refine .chk hpos (.bnd (xKf ha.2 (by simp)) fun b hb => .bnd (hrec _ _ hb.2 hl') fun x hx => .chk (by have := hl.2.1; simp only [jC, jN]; unfold Lim; omega) (.bnd (hrec _ _ hx.2 ⟨by simp, by have := hl.2.1; simp only [jA, jC, jN]; omega, fun s hs => ?_⟩) fun y hy => .mk' ⟨(edr2 (by omega) (by omega) (nm3 _ hb.1) hx.1 hy.1).mono (by omega), hy.2⟩))
     rcases List.mem_append.1 hs with hs | hs
     · rw [List.mem_singleton.1 hs]; exact nm3 _ hb.1
     · exact hl.2.2 s hs
   · exact .bnd (hrec _ _ ha.2 hl') fun x hx => .bnd (hrec _ _ hx.2 hl') fun y hy => .bnd (hrec _ _ hy.2 hl') fun z hz => .mk' ⟨(edr3 (by omega) (by simp) hx.1 hy.1 hz.1).mono (by omega), hz.2⟩
   · refine .chk hpos (.bnd (xKf ha.2 (by simp)) fun b hb => .bnd (.ofU (xNd hb.2 hl)) fun x hx => .chk (by have := hl.2.1; simp only [jC, jN]; unfold Lim; omega) (.bnd (hrec _ _ hx.2 ⟨by simp, by have := hl.2.1; simp only [jA, jC, jN]; omega, fun s hs => ?_⟩) fun y hy => .mk' ⟨(edr2 (by omega) (by omega) (nm3 _ hb.1) hx.1 hy.1).mono (by omega), hy.2⟩))
     rcases List.mem_append.1 hs with hs | hs
     · simp only [List.mem_cons, List.not_mem_nil, or_false] at hs
       rcases hs with rfl | rfl <;> exact nm3 _ hb.1
     · exact hl.2.2 s hs
   · exact .bnd (.ofU (xNd ha.2 hl)) fun x hx => .mk' ⟨hx.1.mono (by omega), hx.2⟩
   · refine .bnd (xKf ha.2 (by decide)) fun b hb => .bnd (.ofU (xNd hb.2 hl)) fun x hx => .bnd (hrec _ _ hx.2 hl') fun y hy => .bnd (xJX hy.2 (hx.1.mono (by omega : 100 ≤ bnd4 k)) hy.1) fun z hz => .mk' ⟨(edr1 (by omega) ?_ hz.1).mono (by omega), hz.2⟩
     have := hb.1
     simp only [List.mem_cons, List.not_mem_nil, or_false] at this
     rcases this with e | e <;> rw [e] <;> decide
   · refine .bnd (xKf ha.2 (by decide)) fun b hb => .bnd (xHJ hb.2 (by decide)) fun d hd => .bnd (.ofU (xNd hd.2 hl)) fun x hx => .bnd (xHJ hx.2 (by decide)) fun f hf => .bnd (xHJ hf.2 (by decide)) fun g hg => ?_
     have h1 := hd.1; have h2 := hf.1; have h3 := hg.1
     refine .bnd (xJX hg.2 hx.1 ((edr2 (by omega) (by omega) (by decide) (leaf8 (by omega)) (leaf8 (by omega))).mono (by omega))) fun z hz => .mk' ⟨(edr2 (by omega) (by omega) ?_ (leaf8 (by omega)) hz.1).mono (by omega), hz.2⟩
     have := hb.1
     simp only [List.mem_cons, List.not_mem_nil, or_false] at this
     rcases this with e | e | e | e <;> rw [e] <;> decide
   · refine .bnd (xLj ha.2) fun b hb => .bnd (xHJ hb.2 (by decide)) fun d hd => .bnd (.ofU (xM2 hd.2)) fun x hx => .bnd (hrec _ _ hx.2 hl') fun y hy => .bnd (xJX hy.2 (hx.1.mono (by omega : 150 ≤ bnd4 k)) hy.1) fun z hz => ?_
     have h1 := hd.1
     exact .mk' ⟨(edr3 (by omega) (by decide) hb.1 (leaf8 (by omega)) hz.1).mono (by omega), hz.2⟩
   · exact .bnd (xLj ha.2) fun b hb => .bnd (xLj hb.2) fun d hd => .bnd (.ofU (xM2 hd.2)) fun x hx => .bnd (hrec _ _ hx.2 hl') fun y hy => .bnd (xJX hy.2 (hx.1.mono (by omega : 150 ≤ bnd4 k)) hy.1) fun z hz => .mk' ⟨(edr3 (by omega) (by decide) hb.1 hd.1 hz.1).mono (by omega), hz.2⟩
   · exact .bnd (.ofU (xM2 ha.2)) fun x hx => .bnd (hrec _ _ hx.2 hl') fun y hy => .bnd (xJX hy.2 (hx.1.mono (by omega : 150 ≤ bnd4 k)) hy.1) fun z hz => .mk' ⟨(edr1 (by omega) (by decide) hz.1).mono (by omega), hz.2⟩
   · refine .bnd (xHJ ha.2 (by decide)) fun b hb => ?_
     have h1 := hb.1
     exact .mk' ⟨(edr1 (by omega) (by decide) (leaf8 (by rw [xDu (by omega) (by omega)]; omega))).mono (by omega), hb.2⟩
   · refine .bnd (xKf ha.2 (by decide)) fun b hb => .bnd (xJX hb.2 (s := 400) ((xGh (k := 5) (n := 0) (by omega) (by omega) (by decide)).mono (by omega)) ((edr1 (by omega) (by decide) (xGh (k := 2) (n := 0) (t := b.1) (by omega) (by omega) ?_)).mono (by omega))) fun z hz => .mk' ⟨hz.1.mono (by omega), hz.2⟩
     have := hb.1
     simp only [List.mem_cons, List.not_mem_nil, or_false] at this
     rcases this with e | e | e <;> rw [e] <;> decide
theorem nms0 : Nms 10 [[97], [98], [99]] := ⟨by decide, by decide, fun s hs => by
 simp only [List.mem_cons, List.not_mem_nil, or_false] at hs
 rcases hs with rfl | rfl | rfl <;> decide⟩
theorem xTw {c : Cur} (h : CurOk c) : E2 (fun N _ => xGt N c) (Dr (EDr 110000)) := by
 refine .bnd (xHJ h (by decide)) fun a ha => ?_
 obtain ⟨n, hn⟩ := xIs ha.1.1
 have hn2 : n < 4 := by have := ha.1.2; omega
 have wn : IntKind.i64.wrap (1 + a.1) = ((n + 1 : Nat) : Int) := by rw [hn, xDu (by omega) (by omega)]; omega
 rw [wn]
 obtain ⟨r, hr, hb⟩ := (xVo (n + 1) a.2 [[97], [98], [99]] (by omega) ha.2 ⟨by decide, by simp only [jC, jN]; omega, nms0.2.2⟩).diag
 have hsz : bnd4 (n + 1) ≤ 102400 := by
  unfold bnd4
  have : 4 ^ (n + 1) ≤ 4 ^ 4 := Nat.pow_le_pow_right (by omega) (by omega)
  have e : (4 : Nat) ^ 4 = 256 := by decide
  omega
 have hr1 := hr.1.mono hsz
 refine .bnd (.ofBig (o := fun N => xHZ N a.2 [[97], [98], [99]] ((n + 1 : Nat) : Int)) hb (P := fun x => x = r) rfl) fun x hx => ?_
 subst hx
 refine .bnd (.ofBig ((xJD (K := 1000) (by omega) hr1.1 (by have := hr1.2; omega)).imp fun N h => h.2) (P := fun _ => True) trivial) fun v _ => .cnd (fun _ => .bnd (.ofU (xME hr.2 nms0)) fun y hy => .mk' ⟨hy.1.mono (by omega), hy.2⟩) (fun _ => .mk' ⟨hr1.mono (by omega), hr.2⟩)
theorem newE {a : List Int} (h : a.length ≤ 1048576) : E2 (fun N _ => xGg N a) CurOk := .ofU (B := 1048576) (newU id h fun x hx => hx)
end Go.Ab
end
section
namespace Go.Ab
theorem xMY {K : Nat} (hK : K ≤ 9223372036854775807) : ∀ e : Exp, e.Fit K → Big2 fun N d => xDe N d e e = some true := by
 refine Exp.ind fun k n t a ih h => ?_
 obtain ⟨h1, h2, h3, h4⟩ := Exp.fit_iff.1 h
 refine Big2.succ ?_
 refine ((Big2.list fun x hx => ih x hx (h4.2 x hx)).and (xGJ a.length).two).imp fun N d ⟨hx, hn⟩ => ?_
 have hl : a.length ≤ K := h4.1
 show xDO N (xDe N d) (.mk k n t a) (.mk k n t a) = some true
 simp only [xDO, bne_self_eq_false, beq_self_eq_true, Bool.not_true, jF]
 exact xOp (x0 := a) (L := fun m i => xDC N (xDe N d) m i (.mk k n t a) (.mk k n t a)) (fun m => by simp [xDC, ea]) (fun i x m hi hxi hm => by
  have hi' : (i : Int) < ((Exp.mk k n t a).args.length : Int) := by show (i : Int) < (a.length : Int); omega
  have hi2 : (0 : Int) ≤ (i : Int) ∧ (i : Int) < ((Exp.mk k n t a).args.length : Int) := ⟨by omega, hi'⟩
  have hxi2 : (Exp.mk k n t a).args[i]? = some x := hxi
  simp only [xDC, decide_eq_true hi', if_pos hi2, jT, Int.toNat_natCast, xBO hxi2, hx x hm, jS, xBh hi (by omega : a.length ≤ _), Bool.not_true, jF]) hn
end Go.Ab
end
section
namespace Go.Ab
def Any (_ : Str) : Prop := True
end Go.Ab
end
section
namespace Go.Ab
theorem Exp.fit_mono {K M : Nat} (h : K ≤ M) {e : Exp} (he : e.Fit K) : e.Fit M := fun d hd => (he d hd).mono h
def BDr (s : Nat) (e : Exp) : Prop := e.Fit 5000 ∧ e.size ≤ s
def xKo : Nat → Nat → Exp → Exp
 | 0, _, e => e
 | m + 1, i, e => xKo m (i + 1) (.mk 6 1 [] [e, .mk 1 (i : Int) [] []])
theorem xM6 : ∀ (m i s : Nat) (e : Exp), i + m = 7 → BDr s e → BDr (s + 20 * m) (xKo m i e) := by
 intro m
 induction m with
 | zero => intro i s e hi he; exact he
 | succ m ih =>
   intro i s e hi he
   have hnum : BDr 8 (.mk 1 (i : Int) [] []) := ⟨xHr (xJk (by omega)) (xJk (by omega)) (Nat.zero_le _) (Nat.zero_le _) (fun x hx => by cases hx), by rw [xFw]; simp⟩
   have hnew : BDr (s + 20) (.mk 6 1 [] [e, .mk 1 (i : Int) [] []]) := by
    refine ⟨xHr (xJk (by omega)) (xJk (by omega)) (Nat.zero_le _) (by simp) (all2 he.1 hnum.1), ?_⟩
    rw [xFw]
    have h1 := he.2
    have h2 := hnum.2
    simp only [List.map_cons, List.map_nil, List.sum_cons, List.sum_nil, jC, jN]
    omega
   have h1 := ih (i + 1) (s + 20) _ (by omega) hnew
   exact ⟨h1.1, by have := h1.2; show (xKo m (i + 1) _).size ≤ _; omega⟩
theorem xTU {N : Nat} {c : Cur} {b2 : Exp} : ∀ (m i n : Nat) (e : Exp), i + m = 7 → m < n → xDm N n (i : Int) c b2 e = some (xKo m i e, c) := by
 intro m
 induction m with
 | zero =>
   intro i n e hi hn
   obtain ⟨n, rfl⟩ : ∃ k, n = k + 1 := ⟨n - 1, by omega⟩
   simp only [xDm, decide_eq_false (by omega : ¬ (i : Int) < 7), jF, xKo]
 | succ m ih =>
   intro i n e hi hn
   obtain ⟨n, rfl⟩ : ∃ k, n = k + 1 := ⟨n - 1, by omega⟩
   have w : IntKind.i64.wrap ((i : Int) + 1) = ((i + 1 : Nat) : Int) := by rw [xDu (by omega) (by omega)]; omega
   simp only [xDm, decide_eq_true (by omega : (i : Int) < 7), jT, xB0, xFM, jS, Exp.re_eq, w, xKo]
   exact ih (i + 1) n _ (by omega) (by omega)
theorem xTT {c : Cur} (h : CurOk c) : E2 (fun N _ => xG6 N c) (Dr (BDr 120000)) := by
 refine .bnd (xTw h) fun a ha => ?_
 obtain ⟨⟨e, c1⟩, hc⟩ : ∃ x : Exp × Cur, x = a := ⟨a, rfl⟩
 subst hc
 obtain ⟨⟨he, hsz⟩, hc1⟩ := ha
 have hsz : e.size ≤ 110000 := hsz
 have he : e.Fit 1000 := he
 have hc1 : CurOk c1 := hc1
 obtain ⟨k, n, t, zs⟩ := e
 obtain ⟨g1, g2, g3, g4⟩ := Exp.fit_iff.1 he
 have g1 : I64 k := g1
 have g2 : I64 n := g2
 have g3 : t.length ≤ 1000 := g3
 have g5 : zs.length ≤ 1000 := g4.1
 have g6 : ∀ x ∈ zs, x.Fit 5000 := fun x hx => Exp.fit_mono (by omega) (g4.2 x hx)
 rw [xFw] at hsz
 have ht : t.length ≤ 5000 := by omega
 have ha : zs.length ≤ 5000 := by omega
 have hs0 : t.length + (zs.length + (zs.map Exp.size).sum) ≤ 120000 := by omega
 refine .bnd (xHJ hc1 (by decide)) fun b hb => ?_
 refine .cnd (fun _ => ?_) fun _ => .cnd (fun _ => ?_) fun _ => .cnd (fun _ => ?_) fun _ => .cnd (fun _ => ?_) fun _ => .cnd (fun _ => ?_) fun _ => ?_
 · refine .bnd (xHJ hb.2 (by decide)) fun d hd => .mk' ⟨⟨xHr (xJk ⟨hd.1.1, by have := hd.1.2; omega⟩) g2 ht ha g6, ?_⟩, hd.2⟩
   rw [xFw]; exact hs0
 · refine .bnd (.ofU (xME hb.2 (k := 10) (l := [[97]]) ⟨by decide, by decide, fun s hs => by rw [List.mem_singleton.1 hs]; decide⟩)) fun d hd => ?_
   have hd1 : EDr 8 d.1 := hd.1
   refine .chk ?_ (.mk' ⟨⟨?_, ?_⟩, hd.2⟩)
   · show zs.length + 1 ≤ Lim
     unfold Lim; omega
   · refine xHr g1 g2 ht ?_ fun x hx => ?_
     · show (zs ++ [Exp.re d.1]).length ≤ 5000
       rw [jA]; simp only [jC, jN]; omega
     · have hx : x ∈ zs ++ [Exp.re d.1] := hx
       rcases List.mem_append.1 hx with hx | hx
       · exact g6 x hx
       · rw [List.mem_singleton.1 hx, Exp.re_eq]; exact Exp.fit_mono (by omega) hd1.1
   · rw [xFw]
     show t.length + ((zs ++ [Exp.re d.1]).length + ((zs ++ [Exp.re d.1]).map Exp.size).sum) ≤ 120000
     have h8 := hd1.2
     rw [xLb, jA, Exp.re_eq]
     simp only [List.map_cons, List.map_nil, List.sum_cons, List.sum_nil, jC, jN]
     omega
 · refine .bnd (xKf hb.2 (by decide)) fun d hd => .mk' ⟨⟨?_, ?_⟩, hd.2⟩
   · refine xHr g1 g2 ?_ ha g6
     have hm : d.1 ∈ [[108, 101, 116], [115, 117, 109], ([] : Str), [120]] := hd.1
     simp only [List.mem_cons, List.not_mem_nil, or_false] at hm
     rcases hm with h | h | h | h <;> rw [h] <;> decide
   · rw [xFw]
     have hm : d.1 ∈ [[108, 101, 116], [115, 117, 109], ([] : Str), [120]] := hd.1
     have : d.1.length ≤ 3 := by
      simp only [List.mem_cons, List.not_mem_nil, or_false] at hm
      rcases hm with h | h | h | h <;> rw [h] <;> decide
     show d.1.length + (zs.length + (zs.map Exp.size).sum) ≤ 120000
     omega
 · refine .bnd (o := fun N _ => xGj N b.2 [-1, 7, 1000000001]) (P := Dr fun v => I64 v) ?_ fun d hd => .mk' ⟨⟨xHr g1 hd.1 ht ha g6, ?_⟩, hd.2⟩
   · refine .bnd (xHJ hb.2 (by decide)) fun d hd => ?_
     obtain ⟨⟨d1, d2⟩, d3⟩ := hd
     have d2 : d.1 < 3 := d2
     refine .chk ⟨d1, d2⟩ (.mk' ⟨?_, d3⟩)
     have : d.1 = 0 ∨ d.1 = 1 ∨ d.1 = 2 := by omega
     show I64 (List.getD [-1, 7, 1000000001] (Int.toNat d.1) Ty.int.dflt)
     rcases this with h | h | h <;> rw [h] <;> (unfold I64; decide)
   · rw [xFw]; exact hs0
 · have hb0 : BDr 110000 (.mk k n t zs) := ⟨Exp.fit_mono (by omega) he, by rw [xFw]; exact hsz⟩
   have h1 := xM6 7 0 110000 _ rfl hb0
   have h2 : Big fun N => xDm N N 0 b.2 (.mk 0 0 [] []) (.mk k n t zs) = some (xKo 7 0 (.mk k n t zs), b.2) := (xGJ 8).imp fun N hN => xTU (N := N) (c := b.2) (b2 := .mk 0 0 [] []) 7 0 N _ rfl (by omega)
   have h3 : (xKo 7 0 (.mk k n t zs)).size ≤ 120000 := by have := h1.2; omega
   exact .ofBig h2 ⟨⟨h1.1, h3⟩, hb.2⟩
 · exact .mk' ⟨⟨Exp.fit_mono (by omega) he, by rw [xFw]; exact hs0⟩, hb.2⟩
end Go.Ab
end
section
namespace Go.Ab
theorem xHP {s : Str} {l : List Str} : l.any (· == s) = true ↔ s ∈ l := by simp
theorem xF8 {s : Str} {l : List Str} : l.any (· == s) = false ↔ s ∉ l := by
 rw [← xHP]; cases l.any (· == s) <;> simp
theorem xHa {bd : List Str} {b : Bool} {t z : Str} {f : Bool} : z ∈ inn bd b t f ↔ z ∈ bd ∨ (b = true ∧ f = false ∧ z = t) := by
 unfold inn
 cases b <;> cases f <;> simp
theorem xKt {z : Str} : ∀ {a : List Exp} {bd : List Str} {b : Bool} {t : Str} {f : Bool}, (∀ x ∈ a, ∀ bd, z ∈ bd → z ∉ xCO x bd) → z ∈ bd → z ∉ xF5 a bd b t f
 | [], _, _, _, _, _, _ => by simp [xF5]
 | x :: r, bd, b, t, f, h, hz => by
   simp only [xF5, List.mem_append, not_or]
   exact ⟨h x List.mem_cons_self _ (xHa.2 (.inl hz)), xKt (fun y hy => h y (List.mem_cons_of_mem _ hy)) hz⟩
theorem xNa {z : Str} : ∀ (e : Exp) (bd : List Str), z ∈ bd → z ∉ xCO e bd := by
 refine Exp.ind fun k n t a ih bd hz => ?_
 simp only [xCO]
 cases h : (k == 3) && !(bd.any (· == t))
 · simp only [jF]; exact xKt ih hz
 · simp only [jT, List.mem_singleton]
   rintro rfl
   rw [xHP.2 hz] at h
   simp at h
theorem xMW {p q : Str} : ∀ {a : List Exp} {bd : List Str} {b c : Bool} {t : Str} {f : Bool}, (∀ x ∈ a, ∀ bd, p ∉ bd → p ∉ xCO x bd → renE x p q = x) → (c = (b && t == p)) → p ∉ bd → p ∉ xF5 a bd b t f → renL a p q c f = a
 | [], _, _, _, _, _, _, _, _, _ => rfl
 | x :: r, bd, b, c, t, f, h, hc, hp, hf => by
   simp only [xF5, List.mem_append, not_or] at hf
   have hr := xMW (fun y hy => h y (List.mem_cons_of_mem _ hy)) hc hp hf.2
   simp only [renL, hr]
   congr 1
   cases hcf : c && !f
   · simp only [jF]
     refine h x List.mem_cons_self _ ?_ hf.1
     rw [xHa]
     rintro (hm | ⟨rfl, rfl, rfl⟩)
     · exact hp hm
     · subst hc; simp at hcf
   · rfl
theorem xOs {p q : Str} : ∀ (e : Exp) (bd : List Str), okE e = true → p ∉ bd → p ∉ xCO e bd → renE e p q = e := by
 refine Exp.ind fun k n t a ih bd ho hp hf => ?_
 obtain ⟨o1, o2, o3⟩ := xHT ho
 simp only [xCO] at hf
 simp only [renE]
 cases h3 : k == 3
 · rw [h3] at hf
   simp only [Bool.false_and, jF] at hf ⊢
   rw [xMW (b := xBg k) (t := t) (fun x hx bd => ih x hx bd (o3 x hx)) rfl hp hf]
 · obtain rfl := o2 h3
   rw [h3] at hf
   simp only [Bool.true_and, renL] at hf ⊢
   cases ha : bd.any (· == t)
   · rw [ha] at hf
     simp only [Bool.not_false, jT, List.mem_singleton] at hf
     rw [beq_eq_false_iff_ne.2 (fun e => hf e.symm), jF]
   · have : t ∈ bd := xHP.1 ha
     rw [beq_eq_false_iff_ne.2 (fun e : t = p => hp (e ▸ this)), jF]
def subN (p q z : Str) : Str := bif z == p then q else z
theorem xMG {p q : Str} : ∀ {l : List Str}, p ∉ l → l.map (subN p q) = l
 | [], _ => rfl
 | z :: r, h => by
   simp only [List.mem_cons, not_or] at h
   simp only [List.map_cons, xMG h.2, subN, beq_eq_false_iff_ne.2 (fun e : z = p => h.1 e.symm), jF]
theorem xKu {p q : Str} : ∀ {a : List Exp} {bd : List Str} {b : Bool} {t : Str} {f : Bool}, (∀ x ∈ a, ∀ bd, p ∉ bd → xCt x p q bd = false → xCO (renE x p q) bd = (xCO x bd).map (subN p q)) → p ∉ bd →
 xER a p q bd b t f = false → xF5 (renL a p q (b && t == p) f) bd b t f = (xF5 a bd b t f).map (subN p q)
 | [], _, _, _, _, _, _, _ => rfl
 | x :: r, bd, b, t, f, h, hp, hc => by
   simp only [xER, Bool.or_eq_false_iff] at hc
   have hr := xKu (fun y hy => h y (List.mem_cons_of_mem _ hy)) hp hc.2
   simp only [renL, xF5, List.map_append, hr]
   congr 1
   cases hcf : (b && t == p) && !f
   · simp only [jF]
     refine h x List.mem_cons_self _ ?_ hc.1
     rw [xHa]
     rintro (hm | ⟨rfl, rfl, rfl⟩)
     · exact hp hm
     · simp at hcf
   · simp only [jT]
     simp only [Bool.and_eq_true, Bool.not_eq_true', beq_iff_eq] at hcf
     obtain ⟨⟨rfl, rfl⟩, rfl⟩ := hcf
     exact (xMG (xNa x _ (xHa.2 (.inr ⟨rfl, rfl, rfl⟩)))).symm
theorem xNb {p q : Str} : ∀ (e : Exp) (bd : List Str), okE e = true → p ∉ bd → xCt e p q bd = false → xCO (renE e p q) bd = (xCO e bd).map (subN p q) := by
 refine Exp.ind fun k n t a ih bd ho hp hc => ?_
 obtain ⟨o1, o2, o3⟩ := xHT ho
 simp only [xCt] at hc
 simp only [renE, xCO]
 cases h3 : k == 3
 · rw [h3] at hc
   simp only [Bool.false_and, jF] at hc ⊢
   exact xKu (fun x hx bd => ih x hx bd (o3 x hx)) hp hc
 · obtain rfl := o2 h3
   rw [h3] at hc
   simp only [Bool.true_and, renL, xF5] at hc ⊢
   cases ha : bd.any (· == t)
   · rw [ha] at hc
     simp only [Bool.not_false, jT] at hc ⊢
     cases hp2 : t == p
     · simp only [jF, ha, Bool.not_false, jT, List.map_cons, List.map_nil, subN, hp2]
     · rw [hp2] at hc
       simp only [jT] at hc ⊢
       rw [hc]
       simp only [Bool.not_false, jT, List.map_cons, List.map_nil, subN, hp2]
   · have : t ∈ bd := xHP.1 ha
     have hp2 : (t == p) = false := beq_eq_false_iff_ne.2 (fun e => hp (e ▸ this))
     simp only [hp2, jF, ha, Bool.not_true, List.map_nil]
theorem xIZ {p q : Str} : ∀ {a : List Exp} {bd : List Str} {b : Bool} {t : Str} {f : Bool}, (∀ x ∈ a, ∀ bd, q ∈ bd → xCt x p q bd = false → p ∉ xCO x bd) → q ∈ bd → xER a p q bd b t f = false → p ∉ xF5 a bd b t f
 | [], _, _, _, _, _, _, _ => by simp [xF5]
 | x :: r, bd, b, t, f, h, hq, hc => by
   simp only [xER, Bool.or_eq_false_iff] at hc
   simp only [xF5, List.mem_append, not_or]
   exact ⟨h x List.mem_cons_self _ (xHa.2 (.inl hq)) hc.1, xIZ (fun y hy => h y (List.mem_cons_of_mem _ hy)) hq hc.2⟩
theorem xLi {p q : Str} : ∀ (e : Exp) (bd : List Str), q ∈ bd → xCt e p q bd = false → p ∉ xCO e bd := by
 refine Exp.ind fun k n t a ih bd hq hc => ?_
 simp only [xCt] at hc
 simp only [xCO]
 cases h : (k == 3) && !(bd.any (· == t))
 · rw [h] at hc
   simp only [jF] at hc ⊢
   exact xIZ ih hq hc
 · rw [h] at hc
   simp only [jT] at hc ⊢
   rw [xHP.2 hq] at hc
   cases hp : t == p
   · simp only [List.mem_singleton]; rintro rfl; simp at hp
   · rw [hp] at hc; cases hc
theorem xK9 {p q : Str} (hpq : p ≠ q) : ∀ {a : List Exp} {bd : List Str} {b : Bool} {t : Str} {f : Bool}, (∀ x ∈ a, okE x = true) → (∀ x ∈ a, ∀ bd, p ∉ bd → q ∉ bd → q ∉ xCO x bd → xCt x p q bd = false → renE (renE x p q) q p = x) → p ∉ bd → q ∉ bd →
 q ∉ xF5 a bd b t f → xER a p q bd b t f = false → renL (renL a p q (b && t == p) f) q p (b && t == q) f = a
 | [], _, _, _, _, _, _, _, _, _, _ => rfl
 | x :: r, bd, b, t, f, ho, h, hp, hq, hf, hc => by
   simp only [xER, Bool.or_eq_false_iff] at hc
   simp only [xF5, List.mem_append, not_or] at hf
   have hr := xK9 hpq (fun y hy => ho y (List.mem_cons_of_mem _ hy)) (fun y hy => h y (List.mem_cons_of_mem _ hy)) hp hq hf.2 hc.2
   simp only [renL, hr]
   congr 1
   have hx := ho x List.mem_cons_self
   cases hcf : (b && t == p) && !f
   · cases hcq : (b && t == q) && !f
     · simp only [jF]
       refine h x List.mem_cons_self (inn bd b t f) ?_ ?_ hf.1 hc.1
       · rw [xHa]
         rintro (hm | ⟨rfl, rfl, rfl⟩)
         · exact hp hm
         · simp at hcf
       · rw [xHa]
         rintro (hm | ⟨rfl, rfl, rfl⟩)
         · exact hq hm
         · simp at hcq
     · simp only [jF, jT]
       simp only [Bool.and_eq_true, Bool.not_eq_true', beq_iff_eq] at hcq
       obtain ⟨⟨rfl, rfl⟩, rfl⟩ := hcq
       have hin : t ∈ inn bd true t false := xHa.2 (.inr ⟨rfl, rfl, rfl⟩)
       refine xOs x (inn bd true t false) hx ?_ (xLi x _ hin hc.1)
       rw [xHa]
       rintro (hm | ⟨_, _, e⟩)
       · exact hp hm
       · exact hpq e
   · simp only [jT]
     simp only [Bool.and_eq_true, Bool.not_eq_true', beq_iff_eq] at hcf
     obtain ⟨⟨rfl, rfl⟩, rfl⟩ := hcf
     have hne : (t == q) = false := beq_eq_false_iff_ne.2 hpq
     simp only [hne, Bool.and_false, Bool.false_and, jF]
     refine xOs x (inn bd true t false) hx ?_ hf.1
     rw [xHa]
     rintro (hm | ⟨_, _, e⟩)
     · exact hq hm
     · exact hpq e.symm
theorem xOn {p q : Str} (hpq : p ≠ q) : ∀ (e : Exp) (bd : List Str), okE e = true → p ∉ bd → q ∉ bd → q ∉ xCO e bd → xCt e p q bd = false → renE (renE e p q) q p = e := by
 refine Exp.ind fun k n t a ih bd ho hp hq hf hc => ?_
 obtain ⟨o1, o2, o3⟩ := xHT ho
 simp only [xCt] at hc
 simp only [xCO] at hf
 simp only [renE]
 cases h3 : k == 3
 · rw [h3] at hc hf
   simp only [Bool.false_and, jF] at hc hf ⊢
   rw [xK9 hpq o3 (fun x hx bd => ih x hx bd (o3 x hx)) hp hq hf hc]
 · obtain rfl := o2 h3
   rw [h3] at hc hf
   simp only [Bool.true_and, renL] at hc hf ⊢
   cases hp2 : t == p
   · simp only [jF]
     have hq2 : (t == q) = false := by
      refine beq_eq_false_iff_ne.2 fun e => ?_
      subst e
      rw [xF8.2 hq] at hf
      simp at hf
     rw [hq2]; rfl
   · have : t = p := by simpa using hp2
     subst this
     simp only [jT, beq_self_eq_true]
theorem xK8 {p : Str} : ∀ e : Exp, renE e p p = e := by
 have hl : ∀ (a : List Exp) (b f : Bool), (∀ x ∈ a, renE x p p = x) → renL a p p b f = a := by
  intro a
  induction a with
  | nil => intros; rfl
  | cons x r ih =>
    intro b f h
    simp only [renL, ih b false (fun y hy => h y (List.mem_cons_of_mem _ hy)), h x List.mem_cons_self]
    cases b && !f <;> rfl
 refine Exp.ind fun k n t a ih => ?_
 simp only [renE, hl a _ _ ih]
 cases h : (k == 3) && t == p
 · rfl
 · simp only [Bool.and_eq_true, beq_iff_eq] at h
   rw [h.2]; rfl
theorem xMy (p q : Str) : ∀ e : Exp, xEg (renE e p q) = xEg e := by
 have hl : ∀ (a : List Exp) (b f : Bool), (∀ x ∈ a, xEg (renE x p q) = xEg x) → xF6 (renL a p q b f) = xF6 a := by
  intro a
  induction a with
  | nil => intros; rfl
  | cons x r ih =>
    intro b f h
    simp only [renL, xF6, ih b false (fun y hy => h y (List.mem_cons_of_mem _ hy))]
    cases b && !f
    · simp only [jF, h x List.mem_cons_self]
    · rfl
 refine Exp.ind fun k n t a ih => ?_
 simp only [renE, xEg, hl a _ _ ih]
 cases h3 : k == 3
 · simp only [Bool.false_and, jF]
 · rw [(xMD h3).1]; rfl
theorem xTB {p q : Str} (hq : xB3 q = true) : ∀ e : Exp, okE e = true → okE (renE e p q) = true := by
 have hl : ∀ (a : List Exp) (b f : Bool), (∀ x ∈ a, okE x = true ∧ okE (renE x p q) = true) → (renL a p q b f).all okE = true := by
  intro a
  induction a with
  | nil => intros; rfl
  | cons x r ih =>
    intro b f h
    simp only [renL, List.all_cons, ih b false (fun y hy => h y (List.mem_cons_of_mem _ hy)), Bool.and_true]
    cases b && !f
    · exact (h x List.mem_cons_self).2
    · exact (h x List.mem_cons_self).1
 refine Exp.ind fun k n t a ih ho => ?_
 obtain ⟨o1, o2, o3⟩ := xHT ho
 rw [xMU, Bool.and_eq_true] at ho ⊢
 simp only [renE, ea]
 refine ⟨hl a _ _ fun x hx => ⟨o3 x hx, ih x hx (o3 x hx)⟩, ?_⟩
 have h2 : xIj xIn xB3 argc k n t a.length = true := ho.2
 show xIj xIn xB3 argc k n (bif (k == 3) && t == p then q else t) (renL a p q (xBg k && t == p) true).length = true
 rw [xJe]
 cases h3 : (k == 3) && t == p
 · exact h2
 · simp only [Bool.and_eq_true, beq_iff_eq] at h3
   obtain ⟨rfl, _⟩ := h3
   unfold xIj at h2 ⊢
   simp only [show ((3 : Int) == 1) = false from rfl, show ((3 : Int) == 2) = false from rfl, beq_self_eq_true, jF, jT, Bool.and_eq_true] at h2 ⊢
   exact ⟨h2.1, hq, h2.2.2⟩
theorem xM3 {p q : Str} {e : Exp} (hq : xB3 q = true) (h : xGY e = true) : xGY (renE e p q) = true := by
 unfold xGY at h ⊢
 rw [Bool.and_eq_true] at h ⊢
 rw [(xKg p q e).1, (xKg p q e).2]
 exact ⟨h.1, xTB hq e h.2⟩
theorem xMX {N : Nat} {l : List Str} (hs : SS l) (hl : l.length ≤ 4000000) (hN : 4000000 < N) : xGN N l = some true := by
 have key : ∀ (n i : Nat), 0 < i → i ≤ l.length + 1 → l.length + 1 < n + i → xEN N n l (i : Nat) = some true := by
  intro n
  induction n with
  | zero => intro i h0 h1 h; omega
  | succ n ih =>
    intro i h0 h1' h
    by_cases hi : i < l.length
    · have h1 : (i : Int) < (l.length : Int) := by omega
      have e1 : IntKind.i64.wrap ((i : Int) - 1) = ((i - 1 : Nat) : Int) := by rw [xDu (by omega) (by omega)]; omega
      have g1 : l[i - 1]? = some l[i - 1] := List.getElem?_eq_getElem (by omega)
      have g2 : l[i]? = some l[i] := List.getElem?_eq_getElem hi
      have hb : Op.bytesLess l[i - 1] l[i] = true := (List.pairwise_iff_getElem.1 hs) (i - 1) i (by omega) hi (by omega)
      simp only [xEN, decide_eq_true h1, jT, e1, Int.toNat_natCast, xBO g1, xBO g2, hb, Bool.not_true, jF, xBh hi (by omega : l.length ≤ _)]
      rw [if_pos (by omega), if_pos (by omega), ih (i + 1) (by omega) (by omega) (by omega)]
    · have h1 : ¬ (i : Int) < (l.length : Int) := by omega
      simp only [xEN, decide_eq_false h1, jF]
 exact key N 1 (by omega) (by omega) (by omega)
theorem xH8 {N : Nat} {l : List Str} {s : Str} (hl : l.length ≤ 4000000) (hN : 4000000 < N) : xCy N l s = some (l.any (· == s)) := by
 unfold xCy
 rw [xJt (by omega) (by omega), jS]
 congr 1
 have := xIC (s := s) l 0
 cases ha : l.any (· == s)
 · rw [ha] at this; exact decide_eq_false (by have := of_decide_eq_true this; omega)
 · rw [ha] at this; exact decide_eq_true (by have := of_decide_eq_false this; omega)
theorem xJI {N : Nat} {l : List Str} (hl : l.length ≤ 4000000) (hN : 4000000 < N) : xDw N l l = some true := by
 unfold xDw
 rw [bne_self_eq_false, jF]
 exact xOp (x0 := l) (L := fun n i => xDB N n l l i) (fun n => by simp [xDB]) (fun i x n hi hx hm => by
  have hi' : (i : Int) < (l.length : Int) := by omega
  simp only [xDB, decide_eq_true hi', jT, Int.toNat_natCast, xBO hx, xBh hi (by omega : l.length ≤ _), beq_self_eq_true, Bool.not_true, jF]
  rw [if_pos (by omega), if_pos (by omega)]) (by omega)
theorem xM5 {a0 : List Int} (h : a0.length ≤ 1048576) : ∃ (e : Exp) (p q : Str), (Big fun N => xDN N a0 = some (e, p, q)) ∧ BDr 120000 e ∧ p.length ≤ 100 ∧ q.length ≤ 100 := by
 have hpick : ∀ {c : Cur}, CurOk c → E2 (fun N _ => xBG N c [[97], [98], [99], [117]]) (Dr fun v => v.length ≤ 100) := fun hc => (xKf hc (by decide)).imp fun v hv => ⟨by
  have := hv.1; simp only [List.mem_cons, List.not_mem_nil, or_false] at this; rcases this with e | e | e | e <;> rw [e] <;> decide, hv.2⟩
 have hpick2 : ∀ {c : Cur}, CurOk c → E2 (fun N _ => xBG N c [[97], [117], [118], [122], [108, 101, 116]]) (Dr fun v => v.length ≤ 100) := fun hc => (xKf hc (by decide)).imp fun v hv => ⟨by
  have := hv.1; simp only [List.mem_cons, List.not_mem_nil, or_false] at this; rcases this with e | e | e | e | e <;> rw [e] <;> decide, hv.2⟩
 have : E2 (fun N _ => xDN N a0) (fun r => BDr 120000 r.1 ∧ r.2.1.length ≤ 100 ∧ r.2.2.length ≤ 100) := by
  refine .bnd (P := fun r => BDr 120000 r.1 ∧ r.2.1.length ≤ 100 ∧ r.2.2.length ≤ 100) (.bnd (newE h) fun c hc => .bnd (xTw hc) fun r hr => .bnd (xTC hr.2) fun s hs => .cnd (fun _ => .bnd (xTT hs.2) fun u hu => .bnd (hpick hu.2) fun v hv => .bnd (hpick2 hv.2) fun w hw => .mk' ⟨hu.1, hv.1, hw.1⟩)
   fun _ => .bnd (hpick hs.2) fun v hv => .bnd (hpick2 hv.2) fun w hw => .mk' ⟨⟨Exp.fit_mono (by omega) hr.1.1, Nat.le_trans hr.1.2 (by omega)⟩, hv.1, hw.1⟩) fun r hr => .mk' hr
 obtain ⟨⟨e, p, q⟩, h1, h2⟩ := this.diag
 exact ⟨e, p, q, h2, h1⟩
theorem xLa {p q : Str} : ∀ {a : List Exp} {b f : Bool}, (∀ x ∈ a, (renE x p q).size ≤ x.size + x.cnt * q.length) → ((renL a p q b f).map Exp.size).sum ≤ (a.map Exp.size).sum + (a.map Exp.cnt).sum * q.length
 | [], _, _, _ => by simp [renL]
 | x :: r, b, f, h => by
   have i1 := xLa (a := r) (b := b) (f := false) fun y hy => h y (List.mem_cons_of_mem _ hy)
   have h1 := h x List.mem_cons_self
   simp only [renL, List.map_cons, List.sum_cons, Nat.add_mul]
   cases b && !f
   · simp only [jF]; omega
   · simp only [jT]
     have := Nat.zero_le (x.cnt * q.length)
     omega
theorem xMV (p q : Str) : ∀ e : Exp, (renE e p q).size ≤ e.size + e.cnt * q.length := by
 refine Exp.ind fun k n t a ih => ?_
 have h1 := xLa (b := xBg k && t == p) (f := true) ih
 rw [Exp.size_eq, Exp.size_eq (.mk k n t a), Exp.cnt_eq]
 simp only [renE, ea, et, xJe, Nat.add_mul, Nat.one_mul]
 cases (k == 3) && t == p
 · simp only [jF]; omega
 · simp only [jT]; omega
theorem xM4 {l : List Str} {s : Str} : (xGI l []).any (· == s) = l.any (· == s) := by
 cases h : l.any (· == s)
 · rw [xF8] at h ⊢
   rw [xIK]; simp [h]
 · rw [xHP] at h ⊢
   rw [xIK]; exact .inr h
theorem xLh {p q s : Str} {l : List Str} : s ∈ l.map (subN p q) ↔ ∃ z ∈ l, subN p q z = s := by simp
theorem xI6 (a0 : List Int) (f0 : ∀ z ∈ [CV.sl .ro .byte a0], DFit z.toD) : ∃ N, xGa N a0 = some true := by
 by_cases hb : (a0.length : Int) > 1048576
 · exact ⟨0, by simp [xGa, xH9, hb]⟩
 · obtain ⟨e, p, q, hdraw, ⟨hfit, hsz⟩, hp, hq⟩ := xM5 (a0 := a0) (by omega)
   have hB : ∀ N, xH9 N a0 = some false := fun N => by
    unfold xH9
    rw [decide_eq_false (by omega)]
   have hren := xOr (K := 5000) (by omega) hfit (by omega) (p := p) (q := q) (by omega) (by omega)
   have hfe := xLI (e := e) (by omega)
   have hcnt := Exp.cnt_le e
   have hfl := xIB e []
   have hsl := xIJ (l := xCO e []) (acc := [])
   simp only [jN, Nat.zero_add] at hsl
   obtain ⟨rf, rc⟩ := xOm (p := p) (q := q) (by omega : q.length ≤ 5000) hfit
   have heq := (xMY (K := 5000) (by omega) (renP e p q).1 rf).diag
   have hris : ∀ N, 4000000 < N → xGN N (xGI (xCO e []) []) = some true := fun N hN => xMX (xKi .nil) (by omega) hN
   cases hr : (renP e p q).2
   · refine (((hdraw.and hren).and (hfe.and heq)).and (xGJ 4000000)).imp (fun N ⟨⟨⟨h1, h2, h3⟩, ⟨h4, h5⟩, h6⟩, hN⟩ => ?_) |>.get
     have h6' : xC0 N (renP e p q).1 (renP e p q).1 = some true := h6
     simp only [xGa, hB, h1, h2, h3, h4, h6', hris N hN, hr, jS, jF, jT, beq_self_eq_true, Bool.not_true, Bool.not_false]
   ·
    have hall : xGY e = true ∧ xB3 p = true ∧ xB3 q = true ∧ xCt e p q [] = false := by
     unfold renP at hr
     cases h : xGY e && (xB3 p && (xB3 q && !xCt e p q []))
     · rw [h] at hr; cases hr
     · simpa only [Bool.and_eq_true, Bool.not_eq_true'] using h
    obtain ⟨v1, v2, v3, v4⟩ := hall
    have hrp : renP e p q = (renE e p q, true) := by unfold renP; rw [v1, v2, v3, v4]; rfl
    rw [hrp] at hren heq rf
    have hc40 : e.cnt ≤ 40 := by
     unfold xGY at v1
     simp only [Bool.and_eq_true, decide_eq_true_eq] at v1
     exact v1.1.1
    have ho : okE e = true := by
     unfold xGY at v1
     simp only [Bool.and_eq_true] at v1
     exact v1.2
    have hxs : (renE e p q).size ≤ 1048576 := by
     have h1 := xMV p q e
     have h2 : e.cnt * q.length ≤ 40 * 100 := Nat.mul_le_mul hc40 hq
     omega
    have hfx : xCO (renE e p q) [] = (xCO e []).map (subN p q) := xNb e [] ho (by simp) v4
    have hbx : xEg (renE e p q) = xEg e := xMy p q e
    have hren2 := xOr (K := 5000) (by omega) rf hxs (p := q) (q := p) (by omega) (by omega)
    have hfxN := xLI (e := renE e p q) hxs
    have hbxN := xKp (e := renE e p q) hxs
    have hbeN := xKp (e := e) (by omega)
    have hcx := xKq (e := renE e p q) (p := q) (q := p) hxs
    have hee := (xMY (K := 5000) (by omega) e hfit).diag
    rw [hfx] at hfxN
    rw [hbx] at hbxN
    have hbl := xH4 e
    have hbl2 := xIJ (l := xEg e) (acc := [])
    have hml := xIJ (l := (xCO e []).map (subN p q)) (acc := [])
    simp only [jN, Nat.zero_add, List.length_map] at hbl2 hml
    have hAB : (xCO e []).any (· == q) = false → (xCO e []).any (· == p) = ((xCO e []).map (subN p q)).any (· == q) := by
     intro hC
     rw [xF8] at hC
     cases hA : (xCO e []).any (· == p)
     · symm
       rw [xF8, xLh]
       rintro ⟨z, hz, e1⟩
       rw [xF8] at hA
       unfold subN at e1
       rw [beq_eq_false_iff_ne.2 (fun e2 : z = p => hA (e2 ▸ hz)), jF] at e1
       exact hC (e1 ▸ hz)
     · symm
       rw [xHP, xLh]
       rw [xHP] at hA
       exact ⟨p, hA, by simp [subN]⟩
    have hD : (p == q) = false → ((xCO e []).map (subN p q)).any (· == p) = false := by
     intro hpq
     have hne : p ≠ q := by simpa using hpq
     rw [xF8, xLh]
     rintro ⟨z, hz, e1⟩
     unfold subN at e1
     cases hzp : z == p
     · rw [hzp, jF] at e1; subst e1; simp at hzp
     · rw [hzp, jT] at e1; exact hne e1.symm
    have hback : (xCO e []).any (· == q) = false → renE (renE e p q) q p = e := by
     intro hC
     by_cases hpq : p = q
     · subst hpq; rw [xK8, xK8]
     · rw [xF8] at hC
       exact xOn hpq e [] ho (by simp) (by simp) hC v4
    have hR : xCt (renE e p q) q p [] = false → renP (renE e p q) q p = (renE (renE e p q) q p, true) := by
     intro hc
     unfold renP
     rw [xM3 v3 v1, v2, v3, hc]; rfl
    refine ((((hdraw.and hren).and (hfe.and heq)).and ((hfxN.and hbxN).and (hbeN.and hcx))).and ((hren2.and hee).and (xGJ 4000000))).imp (fun N ⟨⟨⟨⟨h1, h2, h3⟩, ⟨h4, h5⟩, h6⟩, ⟨⟨g1, g2⟩, g3, g4⟩, ⟨g5, g6⟩, g7, g8⟩, ⟨⟨w1, w2⟩, w3⟩, hN⟩ => ?_) |>.get
    have h6' : xC0 N (renE e p q) (renE e p q) = some true := h6
    have w3' : xC0 N e e = some true := w3
    have t1 := xH8 (N := N) (l := xGI (xCO e []) []) (s := p) (by omega) hN
    have t2 := xH8 (N := N) (l := xGI (xCO e []) []) (s := q) (by omega) hN
    have t3 := xH8 (N := N) (l := xGI ((xCO e []).map (subN p q)) []) (s := p) (by omega) hN
    have t4 := xH8 (N := N) (l := xGI ((xCO e []).map (subN p q)) []) (s := q) (by omega) hN
    have t5 := xJI (N := N) (l := xGI (xEg e) []) (by omega) hN
    rw [xM4] at t1 t2 t3 t4
    simp only [xGa, hB, h1, h2, h3, h4, h5, h6', hris N hN, g1, g3, g5, g7, w1, t1, t2, t3, t4, t5, jS, jF, jT, beq_self_eq_true, Bool.not_true, Bool.not_false]
    generalize ((xCO e []).map (subN p q)).any (· == p) = D at *
    generalize ((xCO e []).map (subN p q)).any (· == q) = B at *
    generalize (xCO e []).any (· == p) = A at *
    cases hC : (xCO e []).any (· == q)
    · rw [hback hC] at hR
      have e1 := hAB hC
      subst e1
      cases hpq : p == q
      · have e2 := hD hpq
        subst e2
        cases hcc : xCt (renE e p q) q p []
        · simp only [hR hcc, w3', jS, beq_self_eq_true, Bool.not_true, Bool.not_false, jT, jF]
        · simp only [beq_self_eq_true, Bool.not_true, Bool.not_false, jT, jF]
      · cases hcc : xCt (renE e p q) q p []
        · simp only [hR hcc, w3', jS, beq_self_eq_true, Bool.not_true, Bool.not_false, jT, jF]
        · simp only [beq_self_eq_true, Bool.not_true, Bool.not_false, jT, jF]
    · cases hpq : p == q
      · have e2 := hD hpq
        subst e2
        cases A <;> cases B <;> rfl
      · cases A <;> cases B <;> rfl
end Go.Ab
end
section
namespace Go.Proofs.Ytkfoneofdidhkaa
open Go.Ab Go.ChangeShapes Go.WideShapes Go.ChangeAt Go.RowKit
theorem own : ownKnob Try.prog.godebug = none := by kernel_rfl
theorem xOx : laidOutB Try.prog = true := by kernel_rfl
theorem xLm : zG7 Try.prog [(5, .byte)] = true := by kernel_rfl
set_option maxRecDepth 100000 in
theorem fnFree_lifted (os : Os) (started : os.Started) (H : Type) (enc : TypeId × Value → H) :
 ReturnsInHanded {} Try.checked os 7 .any (Rows.fnFreeSpec.pre6 enc Try.prog Try.f7 Rows.fnFreeRow.domain false) (Rows.fnFreeSpec.post enc Try.prog Try.f7 false true false false) := by
 refine returnsInHanded_of_change (C := Try.checked) own started (by kernel_rfl) Try.func7
  (ChangeSpec.witness6 (enc := enc) (C := Try.checked) false ⟨#[], #[.slice none 0 0], []⟩ 8 (by kernel_rfl) (by kernel_rfl) (by kernel_rfl) (by kernel_rfl)) ?_
 intro W base args ds gs before hval0 hW hcnd _
 letI : Inhabited Lb := ⟨⟨[]⟩⟩
 have hval : ∀ (j : Nat) t v, Try.f7.params[j]? = some t → args[j]? = some v → Value.okWide Try.prog W .any base t v := hval0
 have hW' := hW
 obtain ⟨p, q, hA0, hV, rfl, hfz, hnd⟩ := hW
 have hA : DataW.TrodAll enc Try.prog W 0 (fun _ => true) true Try.f7.params.toList args.toList ds p := hA0
 rw [Try.params7] at hA hval
 obtain ⟨v0, vs0, d0, ds0, p0, q0, hargs, rfl, rfl, h0, r0⟩ := trodAll_cons hA
 obtain ⟨rfl, rfl, rfl⟩ := trodAll_nil r0
 obtain rfl : args = #[v0] := by cases args; simp_all
 obtain ⟨rfl, rfl⟩ := trodVars_none hV
 have lt0 : ∀ x ∈ p0, x.block < W.heap.size := by obtain ⟨m, hm⟩ := h0; exact DataW.trod_lt m _ _ _ hm
 obtain ⟨z0, e0, f0, vr0⟩ := vr_of xLm (g := false) (t := 41) (ns := [.inr .byte]) (by kernel_rfl) (hval 0 41 v0 rfl rfl) h0
 obtain ⟨x0_0, _, rfl, e0_0⟩ := AreOf.sl_inv e0
 obtain rfl := e0_0.nil_inv
 obtain ⟨N, hF⟩ := xI6 x0_0 f0
 clear hA0 hval0
 refine (zJb T.fk7 (T.laws_FnFree_ok hF) (W := W) (args := #[v0]) ⟨vr0 _, trivial⟩ (fun x hx => nomatch hx)).mono fun e W' ⟨he, bel⟩ => ?_
 subst he
 exact ⟨_, rfl, _, _, _, [], _, [], hW', trodAll_mk1 (shut_bool Try.underlying4 _), (trodAll_cons_mk (Below.trod xOx (by kernel_rfl) (of_decide_eq_true (by kernel_rfl)) h0 bel lt0) trodAll_mk0), rfl, bel.frame _, fun h => by cases h⟩
theorem fnFree_proved : Rows.FnFreeSaid :=
 OpenClaim.holds_of_wide 7 Try.f7 rfl rfl rfl rfl rfl rfl rfl ⟨rfl, rfl, rfl, rfl, rfl⟩ rfl rfl rfl rfl rfl (by kernel_rfl) Try.func7 (by kernel_rfl)
  (of_decide_eq_true (by kernel_rfl)) (by unfold Func.isWrapper; first | (rw [if_pos (by decide +kernel)]; kernel_rfl) | (rw [if_neg (by decide +kernel)]; exact ⟨rfl, rfl⟩))
  (fun os started H enc _ => fnFree_lifted os started H enc)
end Go.Proofs.Ytkfoneofdidhkaa
end
