/- The statement FnTakeSkip holds: plain functions, certificates, laws. Conditions: none. -/
import Derived.Test.YtbcfnggjagchiaaL2
import Derived.Test.YtbcfnggjagchiaaFnTakeSkipP0
set_option linter.all false
section
open Go.Proofs
namespace Go.Ab.T
set_option linter.unusedVariables false
set_option maxRecDepth 100000
noncomputable def I149 : Info := { body := (Try.f149.body).getD .skip, nt := 26, results := [.tmp 4], keep := [0, 2, 8, 10, 20, 28, 50], live := [(4, [0, 2, 10])], modes := [] }
theorem fk149 : FnOk Try.prog 149 Try.f149 I149 := ⟨Try.func149, by kernel_rfl, by kernel_rfl, by kernel_rfl, by kernel_rfl⟩
def S149_4 (x0 x1 : List Int) (x5 : Int) : St := [(0, .v false [.sl .ro .int x0]), (2, .v false [.sl .ro .int x1]), (10, .v false [.int .i64 x5])]
theorem p149_4_0 (x0 x1 : List Int) (x5 : Int) : rS 4 I149 (S149_4 x0 x1 x5) [Y, Y] [] = dn (xB7 false) [(decide ((x5 : Int) < (Ln x0 : Int))) = true, (0 : Int) ≤ x5 ∧ x5 < (Ln x0), (0 : Int) ≤ x5 ∧ x5 < (Ln x1), (((gD x0 (tN x5) Ty.int.dflt) : Int) != (gD x1 (tN x5) Ty.int.dflt)) = true] := by kernel_rfl
theorem p149_4_1 (x0 x1 : List Int) (x5 : Int) : rS 4 I149 (S149_4 x0 x1 x5) [Y, F] [] = st 4 I149 (S149_4 x0 x1 (W (x5 + 1))) [(decide ((x5 : Int) < (Ln x0 : Int))) = true, (0 : Int) ≤ x5 ∧ x5 < (Ln x0), (0 : Int) ≤ x5 ∧ x5 < (Ln x1), (((gD x0 (tN x5) Ty.int.dflt) : Int) != (gD x1 (tN x5) Ty.int.dflt)) = false] := by kernel_rfl
theorem p149_4_2 (x0 x1 : List Int) (x5 : Int) : rS 4 I149 (S149_4 x0 x1 x5) [F] [] = dn (xB7 true) [(decide ((x5 : Int) < (Ln x0 : Int))) = false] := by kernel_rfl
theorem p149_e_3 (a0 a1 : List Int) : rE I149 (xD4 a0 a1) [Y] [] = dn (xB7 false) [(((Ln a0 : Int) : Int) != (Ln a1 : Int)) = true] := by kernel_rfl
theorem p149_e_4 (a0 a1 : List Int) : rE I149 (xD4 a0 a1) [F] [] = st 4 I149 (S149_4 a0 a1 0) [(((Ln a0 : Int) : Int) != (Ln a1 : Int)) = false] := by kernel_rfl
theorem c149_4 {N : Nat} : ∀ n x0 x1 x5 r, xDA N n x0 x1 x5 = some r → RS Try.f149 I149 4 (S149_4 x0 x1 x5) (xB7 r) := by
 intro n
 induction n with
 | zero => exact fun _ _ _ _ h => nE h
 | succ n ih =>
  exact fun x0 x1 x5 r h =>
   cE h (fun h0 h => iE h fun h1 h => iE h fun h2 h => cE h (fun h3 h => dS h fk149 (p149_4_0 x0 x1 x5) (oc h0 (oc h1 (oc h2 (oc h3 on))))) fun h3 h =>
   tS fk149 (p149_4_1 x0 x1 x5) (oc h0 (oc h1 (oc h2 (oc h3 on)))) (ih _ _ _ _ h)) fun h0 h =>
   dS h fk149 (p149_4_2 x0 x1 x5) (oc h0 on)
theorem c149_e {N : Nat} : ∀ a0 a1 r, xFR N a0 a1 = some r → RE Try.f149 I149 (xD4 a0 a1) (xB7 r) := fun a0 a1 r h =>
 cE h (fun h0 h => dE h fk149 (p149_e_3 a0 a1) (oc h0 on)) fun h0 h =>
 tE fk149 (p149_e_4 a0 a1) (oc h0 on) (c149_4 _ _ _ _ _ h)
theorem xGw {N : Nat} {a0 : List Int} {a1 : List Int} {r : Bool} (h : xFR N  a0 a1 = some r) : AbC 149 (xD4 a0 a1) (xB7 r) :=
 AbsCalls.of_reach fk149 rfl rfl (Nat.le_of_ble_eq_true rfl) (c149_e a0 a1 r h)
noncomputable def I150 : Info := { body := (Try.f150.body).getD .skip, nt := 26, results := [.tmp 4], keep := [0, 2, 8, 10, 20, 28, 50], live := [(4, [0, 2, 10])], modes := [] }
theorem fk150 : FnOk Try.prog 150 Try.f150 I150 := ⟨Try.func150, by kernel_rfl, by kernel_rfl, by kernel_rfl, by kernel_rfl⟩
def S150_4 (x0 x1 : List Org) (x5 : Int) : St := [(0, .v false [.sl .ro .org x0]), (2, .v false [.sl .ro .org x1]), (10, .v false [.int .i64 x5])]
theorem p150_4_0 (x0 x1 : List Org) (x5 : Int) : rS 4 I150 (S150_4 x0 x1 x5) [Y, Y] [] = dn (xCv false) [(decide ((x5 : Int) < (Ln x0 : Int))) = true, (0 : Int) ≤ x5 ∧ x5 < (Ln x0), (0 : Int) ≤ x5 ∧ x5 < (Ln x1), (!((((Org.cell (gD x0 (tN x5) Ty.org.dflt)) : Int) == (Org.cell (gD x1 (tN x5) Ty.org.dflt))) && (((Org.row (gD x0 (tN x5) Ty.org.dflt)) : Int) == (Org.row (gD x1 (tN x5) Ty.org.dflt))))) = true] := by kernel_rfl
theorem p150_4_1 (x0 x1 : List Org) (x5 : Int) : rS 4 I150 (S150_4 x0 x1 x5) [Y, F] [] = st 4 I150 (S150_4 x0 x1 (W (x5 + 1))) [(decide ((x5 : Int) < (Ln x0 : Int))) = true, (0 : Int) ≤ x5 ∧ x5 < (Ln x0), (0 : Int) ≤ x5 ∧ x5 < (Ln x1), (!((((Org.cell (gD x0 (tN x5) Ty.org.dflt)) : Int) == (Org.cell (gD x1 (tN x5) Ty.org.dflt))) && (((Org.row (gD x0 (tN x5) Ty.org.dflt)) : Int) == (Org.row (gD x1 (tN x5) Ty.org.dflt))))) = false] := by kernel_rfl
theorem p150_4_2 (x0 x1 : List Org) (x5 : Int) : rS 4 I150 (S150_4 x0 x1 x5) [F] [] = dn (xCv true) [(decide ((x5 : Int) < (Ln x0 : Int))) = false] := by kernel_rfl
theorem p150_e_3 (a0 a1 : List Org) : rE I150 (xEd a0 a1) [Y] [] = dn (xCv false) [(((Ln a0 : Int) : Int) != (Ln a1 : Int)) = true] := by kernel_rfl
theorem p150_e_4 (a0 a1 : List Org) : rE I150 (xEd a0 a1) [F] [] = st 4 I150 (S150_4 a0 a1 0) [(((Ln a0 : Int) : Int) != (Ln a1 : Int)) = false] := by kernel_rfl
theorem c150_4 {N : Nat} : ∀ n x0 x1 x5 r, xEe N n x0 x1 x5 = some r → RS Try.f150 I150 4 (S150_4 x0 x1 x5) (xCv r) := by
 intro n
 induction n with
 | zero => exact fun _ _ _ _ h => nE h
 | succ n ih =>
  exact fun x0 x1 x5 r h =>
   cE h (fun h0 h => iE h fun h1 h => iE h fun h2 h => cE h (fun h3 h => dS h fk150 (p150_4_0 x0 x1 x5) (oc h0 (oc h1 (oc h2 (oc h3 on))))) fun h3 h =>
   tS fk150 (p150_4_1 x0 x1 x5) (oc h0 (oc h1 (oc h2 (oc h3 on)))) (ih _ _ _ _ h)) fun h0 h =>
   dS h fk150 (p150_4_2 x0 x1 x5) (oc h0 on)
theorem c150_e {N : Nat} : ∀ a0 a1 r, xFJ N a0 a1 = some r → RE Try.f150 I150 (xEd a0 a1) (xCv r) := fun a0 a1 r h =>
 cE h (fun h0 h => dE h fk150 (p150_e_3 a0 a1) (oc h0 on)) fun h0 h =>
 tE fk150 (p150_e_4 a0 a1) (oc h0 on) (c150_4 _ _ _ _ _ h)
theorem xHB {N : Nat} {a0 : List Org} {a1 : List Org} {r : Bool} (h : xFJ N  a0 a1 = some r) : AbC 150 (xEd a0 a1) (xCv r) :=
 AbsCalls.of_reach fk150 rfl rfl (Nat.le_of_ble_eq_true rfl) (c150_e a0 a1 r h)
def G107 (q : Val → Val → Bool → Option (Bool)) : Prop := ∀ a0 a1 a2 r, q a0 a1 a2 = some r → AbC 107 (xBP a0 a1 a2) (xBa r)
noncomputable def I107 : Info := { body := (Try.f107.body).getD .skip, nt := 121, results := [.tmp 6], keep := [0, 2, 4, 6, 8, 12, 14, 16, 120, 130, 160, 170, 240, 7, 9], live := [(4, [4, 6, 8, 14, 7, 9]), (9, [4, 6, 8, 16, 7, 9])], modes := [(1, [(5, .take, false), (12, .take, false), (19, .take, false), (26, .take, false), (35, .take, false), (43, .take, false)]), (11, [(14, .take, false), (16, .take, false)])] }
theorem xHZ : FnOk Try.prog 107 Try.f107 I107 := ⟨Try.func107, by kernel_rfl, by kernel_rfl, by kernel_rfl, by kernel_rfl⟩
def S107_4 (x2 : Bool) (x7 : Int) (b3 b4 : Val) : St := [(4, .v false [.bool x2]), (6, .v false [.ptr 3 0]), (8, .v false [.ptr 4 0]), (14, .v false [.int .i64 x7]), (7, .v true [.int .i64 (Val.kind b3), .int .i64 (Val.n b3), .int .i64 (Val.step b3), .str (Val.text b3), .sl .ro .val (Val.list b3), .sl .ro .str (Val.columns b3), .sl .ro .row (Val.rows b3)]), (9, .v true [.int .i64 (Val.kind b4), .int .i64 (Val.n b4), .int .i64 (Val.step b4), .str (Val.text b4), .sl .ro .val (Val.list b4), .sl .ro .str (Val.columns b4), .sl .ro .row (Val.rows b4)])]
def S107_9 (x2 : Bool) (x8 : Int) (b3 b4 : Val) : St := [(4, .v false [.bool x2]), (6, .v false [.ptr 3 0]), (8, .v false [.ptr 4 0]), (16, .v false [.int .i64 x8]), (7, .v true [.int .i64 (Val.kind b3), .int .i64 (Val.n b3), .int .i64 (Val.step b3), .str (Val.text b3), .sl .ro .val (Val.list b3), .sl .ro .str (Val.columns b3), .sl .ro .row (Val.rows b3)]), (9, .v true [.int .i64 (Val.kind b4), .int .i64 (Val.n b4), .int .i64 (Val.step b4), .str (Val.text b4), .sl .ro .val (Val.list b4), .sl .ro .str (Val.columns b4), .sl .ro .row (Val.rows b4)])]
theorem p107_9_0 (x2 : Bool) (x8 : Int) (b3 b4 : Val) (r1 : Bool) : rS 9 I107 (S107_9 x2 x8 b3 b4) [Y, Y, Y] [xB7 r1] = dn (xBa false) [(decide ((x8 : Int) < (Ln (Val.rows b3) : Int))) = true, (0 : Int) ≤ x8 ∧ x8 < (Ln (Val.rows b3)), (0 : Int) ≤ x8 ∧ x8 < (Ln (Val.rows b4)), AbC 149 (xD4 (Rowd.cells (gD (Val.rows b3) (tN x8) rd)) (Rowd.cells (gD (Val.rows b4) (tN x8) rd))) (xB7 r1), (!r1) = true, true = true] := by kernel_rfl
theorem p107_9_1 (x2 : Bool) (x8 : Int) (b3 b4 : Val) (r1 r2 : Bool) : rS 9 I107 (S107_9 x2 x8 b3 b4) [Y, F, Y, Y] [xB7 r1, xCv r2] = dn (xBa false) [(decide ((x8 : Int) < (Ln (Val.rows b3) : Int))) = true, (0 : Int) ≤ x8 ∧ x8 < (Ln (Val.rows b3)), (0 : Int) ≤ x8 ∧ x8 < (Ln (Val.rows b4)), AbC 149 (xD4 (Rowd.cells (gD (Val.rows b3) (tN x8) rd)) (Rowd.cells (gD (Val.rows b4) (tN x8) rd))) (xB7 r1), (!r1) = false, x2 = true, (0 : Int) ≤ x8 ∧ x8 < (Ln (Val.rows b3)), (0 : Int) ≤ x8 ∧ x8 < (Ln (Val.rows b4)), AbC 150 (xEd (Rowd.frm (gD (Val.rows b3) (tN x8) rd)) (Rowd.frm (gD (Val.rows b4) (tN x8) rd))) (xCv r2), (!r2) = true] := by kernel_rfl
theorem p107_9_2 (x2 : Bool) (x8 : Int) (b3 b4 : Val) (r1 r2 : Bool) : rS 9 I107 (S107_9 x2 x8 b3 b4) [Y, F, Y, F] [xB7 r1, xCv r2] = st 9 I107 (S107_9 x2 (W (x8 + 1)) b3 b4) [(decide ((x8 : Int) < (Ln (Val.rows b3) : Int))) = true, (0 : Int) ≤ x8 ∧ x8 < (Ln (Val.rows b3)), (0 : Int) ≤ x8 ∧ x8 < (Ln (Val.rows b4)), AbC 149 (xD4 (Rowd.cells (gD (Val.rows b3) (tN x8) rd)) (Rowd.cells (gD (Val.rows b4) (tN x8) rd))) (xB7 r1), (!r1) = false, x2 = true, (0 : Int) ≤ x8 ∧ x8 < (Ln (Val.rows b3)), (0 : Int) ≤ x8 ∧ x8 < (Ln (Val.rows b4)), AbC 150 (xEd (Rowd.frm (gD (Val.rows b3) (tN x8) rd)) (Rowd.frm (gD (Val.rows b4) (tN x8) rd))) (xCv r2), (!r2) = false] := by kernel_rfl
theorem p107_9_3 (x2 : Bool) (x8 : Int) (b3 b4 : Val) (r1 : Bool) : rS 9 I107 (S107_9 x2 x8 b3 b4) [Y, F, F, F] [xB7 r1] = st 9 I107 (S107_9 x2 (W (x8 + 1)) b3 b4) [(decide ((x8 : Int) < (Ln (Val.rows b3) : Int))) = true, (0 : Int) ≤ x8 ∧ x8 < (Ln (Val.rows b3)), (0 : Int) ≤ x8 ∧ x8 < (Ln (Val.rows b4)), AbC 149 (xD4 (Rowd.cells (gD (Val.rows b3) (tN x8) rd)) (Rowd.cells (gD (Val.rows b4) (tN x8) rd))) (xB7 r1), (!r1) = false, x2 = false, false = false] := by kernel_rfl
theorem p107_9_4 (x2 : Bool) (x8 : Int) (b3 b4 : Val) : rS 9 I107 (S107_9 x2 x8 b3 b4) [F] [] = dn (xBa true) [(decide ((x8 : Int) < (Ln (Val.rows b3) : Int))) = false] := by kernel_rfl
theorem p107_4_5 (x2 : Bool) (x7 : Int) (b3 b4 : Val) (r1 : Bool) : rS 4 I107 (S107_4 x2 x7 b3 b4) [Y, Y] [xBa r1] = dn (xBa false) [(decide ((x7 : Int) < (Ln (Val.list b3) : Int))) = true, (0 : Int) ≤ x7 ∧ x7 < (Ln (Val.list b3)), (0 : Int) ≤ x7 ∧ x7 < (Ln (Val.list b4)), AbC 107 (xBP (gD (Val.list b3) (tN x7) vd) (gD (Val.list b4) (tN x7) vd) x2) (xBa r1), (!r1) = true] := by kernel_rfl
theorem p107_4_6 (x2 : Bool) (x7 : Int) (b3 b4 : Val) (r1 : Bool) : rS 4 I107 (S107_4 x2 x7 b3 b4) [Y, F] [xBa r1] = st 4 I107 (S107_4 x2 (W (x7 + 1)) b3 b4) [(decide ((x7 : Int) < (Ln (Val.list b3) : Int))) = true, (0 : Int) ≤ x7 ∧ x7 < (Ln (Val.list b3)), (0 : Int) ≤ x7 ∧ x7 < (Ln (Val.list b4)), AbC 107 (xBP (gD (Val.list b3) (tN x7) vd) (gD (Val.list b4) (tN x7) vd) x2) (xBa r1), (!r1) = false] := by kernel_rfl
theorem p107_4_7 (x2 : Bool) (x7 : Int) (b3 b4 : Val) : rS 4 I107 (S107_4 x2 x7 b3 b4) [F] [] = st 9 I107 (S107_9 x2 0 b3 b4) [(decide ((x7 : Int) < (Ln (Val.list b3) : Int))) = false] := by kernel_rfl
theorem p107_e_8 (a0 a1 : Val) (a2 : Bool) : rE I107 (xBP a0 a1 a2) [Y, Y, Y, Y, Y, Y, Y] [] = dn (xBa false) [(((Val.kind a0) : Int) != (Val.kind a1)) = true, true = true, true = true, true = true, true = true, true = true, true = true] := by kernel_rfl
theorem p107_e_9 (a0 a1 : Val) (a2 : Bool) : rE I107 (xBP a0 a1 a2) [F, Y, Y, Y, Y, Y, Y] [] = dn (xBa false) [(((Val.kind a0) : Int) != (Val.kind a1)) = false, (((Val.n a0) : Int) != (Val.n a1)) = true, true = true, true = true, true = true, true = true, true = true] := by kernel_rfl
theorem p107_e_10 (a0 a1 : Val) (a2 : Bool) : rE I107 (xBP a0 a1 a2) [F, F, Y, Y, Y, Y, Y] [] = dn (xBa false) [(((Val.kind a0) : Int) != (Val.kind a1)) = false, (((Val.n a0) : Int) != (Val.n a1)) = false, (((Val.step a0) : Int) != (Val.step a1)) = true, true = true, true = true, true = true, true = true] := by kernel_rfl
theorem p107_e_11 (a0 a1 : Val) (a2 : Bool) : rE I107 (xBP a0 a1 a2) [F, F, F, Y, Y, Y, Y] [] = dn (xBa false) [(((Val.kind a0) : Int) != (Val.kind a1)) = false, (((Val.n a0) : Int) != (Val.n a1)) = false, (((Val.step a0) : Int) != (Val.step a1)) = false, (!(((Val.text a0) : Str) == (Val.text a1))) = true, true = true, true = true, true = true] := by kernel_rfl
theorem p107_e_12 (a0 a1 : Val) (a2 : Bool) : rE I107 (xBP a0 a1 a2) [F, F, F, F, Y, Y, Y] [] = dn (xBa false) [(((Val.kind a0) : Int) != (Val.kind a1)) = false, (((Val.n a0) : Int) != (Val.n a1)) = false, (((Val.step a0) : Int) != (Val.step a1)) = false, (!(((Val.text a0) : Str) == (Val.text a1))) = false, (((Ln (Val.list a0) : Int) : Int) != (Ln (Val.list a1) : Int)) = true, true = true, true = true] := by kernel_rfl
theorem p107_e_13 (a0 a1 : Val) (a2 r1 : Bool) : rE I107 (xBP a0 a1 a2) [F, F, F, F, F, Y, Y] [xCt r1] = dn (xBa false) [(((Val.kind a0) : Int) != (Val.kind a1)) = false, (((Val.n a0) : Int) != (Val.n a1)) = false, (((Val.step a0) : Int) != (Val.step a1)) = false, (!(((Val.text a0) : Str) == (Val.text a1))) = false, (((Ln (Val.list a0) : Int) : Int) != (Ln (Val.list a1) : Int)) = false, AbC 148 (xEu (Val.columns a0) (Val.columns a1)) (xCt r1), (!r1) = true, true = true] := by kernel_rfl
theorem p107_e_14 (a0 a1 : Val) (a2 r1 : Bool) : rE I107 (xBP a0 a1 a2) [F, F, F, F, F, F, Y] [xCt r1] = dn (xBa false) [(((Val.kind a0) : Int) != (Val.kind a1)) = false, (((Val.n a0) : Int) != (Val.n a1)) = false, (((Val.step a0) : Int) != (Val.step a1)) = false, (!(((Val.text a0) : Str) == (Val.text a1))) = false, (((Ln (Val.list a0) : Int) : Int) != (Ln (Val.list a1) : Int)) = false, AbC 148 (xEu (Val.columns a0) (Val.columns a1)) (xCt r1), (!r1) = false, (((Ln (Val.rows a0) : Int) : Int) != (Ln (Val.rows a1) : Int)) = true] := by kernel_rfl
theorem p107_e_15 (a0 a1 : Val) (a2 r1 : Bool) : rE I107 (xBP a0 a1 a2) [F, F, F, F, F, F, F] [xCt r1] = st 4 I107 (S107_4 a2 0 a0 a1) [(((Val.kind a0) : Int) != (Val.kind a1)) = false, (((Val.n a0) : Int) != (Val.n a1)) = false, (((Val.step a0) : Int) != (Val.step a1)) = false, (!(((Val.text a0) : Str) == (Val.text a1))) = false, (((Ln (Val.list a0) : Int) : Int) != (Ln (Val.list a1) : Int)) = false, AbC 148 (xEu (Val.columns a0) (Val.columns a1)) (xCt r1), (!r1) = false, (((Ln (Val.rows a0) : Int) : Int) != (Ln (Val.rows a1) : Int)) = false] := by kernel_rfl
theorem c107_9 {N : Nat} {q0 : Val → Val → Bool → Option (Bool)} (g0 : G107 q0) : ∀ n x2 x8 b3 b4 r, xCw N q0 n x2 x8 b3 b4 = some r → RS Try.f107 I107 9 (S107_9 x2 x8 b3 b4) (xBa r) := by
 intro n
 induction n with
 | zero => exact fun _ _ _ _ _ h => nE h
 | succ n ih =>
  exact fun x2 x8 b3 b4 r h =>
   cE h (fun h0 h => iE h fun h1 h => iE h fun h2 h => bE h fun r1 h3 h => cE h (fun h4 h => dS h xHZ (p107_9_0 x2 x8 b3 b4 r1) (oc h0 (oc h1 (oc h2 (oc (xGw h3) (oc h4 (oc rfl on))))))) fun h4 h =>
   cE h (fun h5 h => bE h fun r2 h8 h => cE h (fun h9 h => dS h xHZ (p107_9_1 x2 x8 b3 b4 r1 r2) (oc h0 (oc h1 (oc h2 (oc (xGw h3) (oc h4 (oc h5 (oc h1 (oc h2 (oc (xHB h8) (oc h9 on))))))))))) fun h9 h =>
   tS xHZ (p107_9_2 x2 x8 b3 b4 r1 r2) (oc h0 (oc h1 (oc h2 (oc (xGw h3) (oc h4 (oc h5 (oc h1 (oc h2 (oc (xHB h8) (oc h9 on)))))))))) (ih _ _ _ _ _ h)) fun h5 h =>
   tS xHZ (p107_9_3 x2 x8 b3 b4 r1) (oc h0 (oc h1 (oc h2 (oc (xGw h3) (oc h4 (oc h5 (oc rfl on))))))) (ih _ _ _ _ _ h)) fun h0 h =>
   dS h xHZ (p107_9_4 x2 x8 b3 b4) (oc h0 on)
theorem c107_4 {N : Nat} {q0 : Val → Val → Bool → Option (Bool)} (g0 : G107 q0) : ∀ n x2 x7 b3 b4 r, xDa N q0 n x2 x7 b3 b4 = some r → RS Try.f107 I107 4 (S107_4 x2 x7 b3 b4) (xBa r) := by
 intro n
 induction n with
 | zero => exact fun _ _ _ _ _ h => nE h
 | succ n ih =>
  exact fun x2 x7 b3 b4 r h =>
   cE h (fun h0 h => iE h fun h1 h => iE h fun h2 h => bE h fun r1 h3 h => cE h (fun h4 h => dS h xHZ (p107_4_5 x2 x7 b3 b4 r1) (oc h0 (oc h1 (oc h2 (oc (g0 _ _ _ _ h3) (oc h4 on)))))) fun h4 h =>
   tS xHZ (p107_4_6 x2 x7 b3 b4 r1) (oc h0 (oc h1 (oc h2 (oc (g0 _ _ _ _ h3) (oc h4 on))))) (ih _ _ _ _ _ h)) fun h0 h =>
   tS xHZ (p107_4_7 x2 x7 b3 b4) (oc h0 on) (c107_9 g0 _ _ _ _ _ _ h)
theorem c107_e {N : Nat} {q0 : Val → Val → Bool → Option (Bool)} (g0 : G107 q0) : ∀ a0 a1 a2 r, xDR N q0 a0 a1 a2 = some r → RE Try.f107 I107 (xBP a0 a1 a2) (xBa r) := fun a0 a1 a2 r h =>
 cE h (fun h0 h => dE h xHZ (p107_e_8 a0 a1 a2) (oc h0 (oc rfl (oc rfl (oc rfl (oc rfl (oc rfl (oc rfl on)))))))) fun h0 h =>
 cE h (fun h1 h => dE h xHZ (p107_e_9 a0 a1 a2) (oc h0 (oc h1 (oc rfl (oc rfl (oc rfl (oc rfl (oc rfl on)))))))) fun h1 h =>
 cE h (fun h2 h => dE h xHZ (p107_e_10 a0 a1 a2) (oc h0 (oc h1 (oc h2 (oc rfl (oc rfl (oc rfl (oc rfl on)))))))) fun h2 h =>
 cE h (fun h3 h => dE h xHZ (p107_e_11 a0 a1 a2) (oc h0 (oc h1 (oc h2 (oc h3 (oc rfl (oc rfl (oc rfl on)))))))) fun h3 h =>
 cE h (fun h4 h => dE h xHZ (p107_e_12 a0 a1 a2) (oc h0 (oc h1 (oc h2 (oc h3 (oc h4 (oc rfl (oc rfl on)))))))) fun h4 h =>
 bE h fun r1 h5 h => cE h (fun h6 h => dE h xHZ (p107_e_13 a0 a1 a2 r1) (oc h0 (oc h1 (oc h2 (oc h3 (oc h4 (oc (xG5 h5) (oc h6 (oc rfl on))))))))) fun h6 h =>
 cE h (fun h7 h => dE h xHZ (p107_e_14 a0 a1 a2 r1) (oc h0 (oc h1 (oc h2 (oc h3 (oc h4 (oc (xG5 h5) (oc h6 (oc h7 on))))))))) fun h7 h =>
 tE xHZ (p107_e_15 a0 a1 a2 r1) (oc h0 (oc h1 (oc h2 (oc h3 (oc h4 (oc (xG5 h5) (oc h6 (oc h7 on)))))))) (c107_4 g0 _ _ _ _ _ _ h)
theorem xIG {N : Nat} {q0 : Val → Val → Bool → Option (Bool)} (g0 : G107 q0) {a0 : Val} {a1 : Val} {a2 : Bool} {r : Bool} (h : xDR N q0 a0 a1 a2 = some r) : AbC 107 (xBP a0 a1 a2) (xBa r) :=
 AbsCalls.of_reach xHZ rfl rfl (Nat.le_of_ble_eq_true rfl) (c107_e g0 a0 a1 a2 r h)
theorem xHg {N : Nat} : ∀ d, G107 (xBp N d)
 | 0 => fun _ _ _ _ h => nE h
 | d + 1 => fun _ _ _ _ h => xIG (N := N) (xHg d) h
theorem xIl {N : Nat} {a0 : Val} {a1 : Val} {a2 : Bool} {r : Bool} (h : xGr N a0 a1 a2 = some r) : AbC 107 (xBP a0 a1 a2) (xBa r) := xHg N _ _ _ r h
noncomputable def I60 : Info := { body := (Try.f60.body).getD .skip, nt := 8, results := [.tmp 4], keep := [0, 2, 4, 6, 8, 5, 7], live := [], modes := [] }
theorem fk60 : FnOk Try.prog 60 Try.f60 I60 := ⟨Try.func60, by kernel_rfl, by kernel_rfl, by kernel_rfl, by kernel_rfl⟩
theorem p60_e_0 (a0 a1 : Val) (r1 : Bool) : rE I60 (xEx a0 a1) [] [xBa r1] = dn (xDe r1) [AbC 107 (xBP a0 a1 false) (xBa r1)] := by kernel_rfl
theorem c60_e {N : Nat} : ∀ a0 a1 r, xEo N a0 a1 = some r → RE Try.f60 I60 (xEx a0 a1) (xDe r) := fun a0 a1 r h =>
 bE h fun r1 h0 h => dE h fk60 (p60_e_0 a0 a1 r1) (oc (xIl h0) on)
theorem xHc {N : Nat} {a0 : Val} {a1 : Val} {r : Bool} (h : xEo N  a0 a1 = some r) : AbC 60 (xEx a0 a1) (xDe r) :=
 AbsCalls.of_reach fk60 rfl rfl (Nat.le_of_ble_eq_true rfl) (c60_e a0 a1 r h)
noncomputable def I11 : Info := { body := (Try.f11.body).getD .skip, nt := 71, results := [.cell 6 31], keep := [0, 2, 4, 8, 10, 12, 14, 16, 18, 34, 54, 66, 78, 92, 116, 9, 11, 13, 15], live := [], modes := [(1, [(4, .take, false)]), (2, [(0, .take, false)]), (3, [(0, .take, false)]), (4, [(3, .take, false)]), (11, [(2, .take, false)]), (13, [(2, .take, false)])] }
theorem fk11 : FnOk Try.prog 11 Try.f11 I11 := ⟨Try.func11, by kernel_rfl, by kernel_rfl, by kernel_rfl, by kernel_rfl⟩
theorem p11_e_0 (a0 : Int) (a1 a2 : Val) (r1 : Val × Bool) : rE I11 (xAw a0 a1 a2) [Y] [xAr r1] = dn (xAn r1.1) [AbC 56 (xA9 [(Val.re a1), (Val.re a2)]) (xAr r1), r1.2 = true] := by kernel_rfl
theorem p11_e_1 (a0 : Int) (a1 a2 : Val) (r1 : Val × Bool) (r2 : Val) : rE I11 (xAw a0 a1 a2) [F, Y, Y] [xAr r1, xCl r2] = dn (xAn r2) [AbC 56 (xA9 [(Val.re a1), (Val.re a2)]) (xAr r1), r1.2 = false, (((Val.kind a1) : Int) == 1) = true, ((a0 : Int) == 1) = true, AbC 57 (xCI a1 a2) (xCl r2)] := by kernel_rfl
theorem p11_e_2 (a0 : Int) (a1 a2 : Val) (r1 : Val × Bool) (r2 : Val) : rE I11 (xAw a0 a1 a2) [F, Y, F, Y] [xAr r1, xCT r2] = dn (xAn r2) [AbC 56 (xA9 [(Val.re a1), (Val.re a2)]) (xAr r1), r1.2 = false, (((Val.kind a1) : Int) == 1) = true, ((a0 : Int) == 1) = false, ((a0 : Int) == 4) = true, AbC 58 (xDE a1 a2) (xCT r2)] := by kernel_rfl
theorem p11_e_3 (a0 : Int) (a1 a2 : Val) (r1 : Val × Bool) (r2 : Bool) (r3 : Val) : rE I11 (xAw a0 a1 a2) [F, Y, F, F, Y] [xAr r1, xDe r2, xBK r3] = dn (xAn r3) [AbC 56 (xA9 [(Val.re a1), (Val.re a2)]) (xAr r1), r1.2 = false, (((Val.kind a1) : Int) == 1) = true, ((a0 : Int) == 1) = false, ((a0 : Int) == 4) = false, ((a0 : Int) == 5) = true, AbC 60 (xEx a1 a2) (xDe r2), AbC 59 (xCL r2) (xBK r3)] := by kernel_rfl
theorem p11_e_4 (a0 : Int) (a1 a2 : Val) (r1 : Val × Bool) (r2 : Val) : rE I11 (xAw a0 a1 a2) [F, Y, F, F, F, Y, Y] [xAr r1, xBs r2] = dn (xAn r2) [AbC 56 (xA9 [(Val.re a1), (Val.re a2)]) (xAr r1), r1.2 = false, (((Val.kind a1) : Int) == 1) = true, ((a0 : Int) == 1) = false, ((a0 : Int) == 4) = false, ((a0 : Int) == 5) = false, ((a0 : Int) == 2) = true, (((Val.kind a2) : Int) == 1) = true, AbC 61 (xCe (W ((Val.n a1) - (Val.n a2)))) (xBs r2)] := by kernel_rfl
theorem p11_e_5 (a0 : Int) (a1 a2 : Val) (r1 : Val × Bool) (r2 : Val) : rE I11 (xAw a0 a1 a2) [F, Y, F, F, F, Y, F, F, F] [xAr r1, xAg r2] = dn (xAn r2) [AbC 56 (xA9 [(Val.re a1), (Val.re a2)]) (xAr r1), r1.2 = false, (((Val.kind a1) : Int) == 1) = true, ((a0 : Int) == 1) = false, ((a0 : Int) == 4) = false, ((a0 : Int) == 5) = false, ((a0 : Int) == 2) = true, (((Val.kind a2) : Int) == 1) = false, ((a0 : Int) == 3) = false, false = false, AbC 44 (xAA 4) (xAg r2)] := by kernel_rfl
theorem p11_e_6 (a0 : Int) (a1 a2 : Val) (r1 : Val × Bool) (r2 : Val) : rE I11 (xAw a0 a1 a2) [F, Y, F, F, F, F, F, Y, Y] [xAr r1, xBs r2] = dn (xAn r2) [AbC 56 (xA9 [(Val.re a1), (Val.re a2)]) (xAr r1), r1.2 = false, (((Val.kind a1) : Int) == 1) = true, ((a0 : Int) == 1) = false, ((a0 : Int) == 4) = false, ((a0 : Int) == 5) = false, ((a0 : Int) == 2) = false, false = false, ((a0 : Int) == 3) = true, (((Val.kind a2) : Int) == 1) = true, AbC 61 (xCe (W ((Val.n a1) * (Val.n a2)))) (xBs r2)] := by kernel_rfl
theorem p11_e_7 (a0 : Int) (a1 a2 : Val) (r1 : Val × Bool) (r2 : Val) : rE I11 (xAw a0 a1 a2) [F, Y, F, F, F, F, F, Y, F] [xAr r1, xAg r2] = dn (xAn r2) [AbC 56 (xA9 [(Val.re a1), (Val.re a2)]) (xAr r1), r1.2 = false, (((Val.kind a1) : Int) == 1) = true, ((a0 : Int) == 1) = false, ((a0 : Int) == 4) = false, ((a0 : Int) == 5) = false, ((a0 : Int) == 2) = false, false = false, ((a0 : Int) == 3) = true, (((Val.kind a2) : Int) == 1) = false, AbC 44 (xAA 4) (xAg r2)] := by kernel_rfl
theorem p11_e_8 (a0 : Int) (a1 a2 : Val) (r1 : Val × Bool) (r2 : Val) : rE I11 (xAw a0 a1 a2) [F, Y, F, F, F, F, F, F, F] [xAr r1, xAg r2] = dn (xAn r2) [AbC 56 (xA9 [(Val.re a1), (Val.re a2)]) (xAr r1), r1.2 = false, (((Val.kind a1) : Int) == 1) = true, ((a0 : Int) == 1) = false, ((a0 : Int) == 4) = false, ((a0 : Int) == 5) = false, ((a0 : Int) == 2) = false, false = false, ((a0 : Int) == 3) = false, false = false, AbC 44 (xAA 4) (xAg r2)] := by kernel_rfl
theorem p11_e_9 (a0 : Int) (a1 a2 : Val) (r1 : Val × Bool) (r2 : Val) : rE I11 (xAw a0 a1 a2) [F, F, Y] [xAr r1, xCl r2] = dn (xAn r2) [AbC 56 (xA9 [(Val.re a1), (Val.re a2)]) (xAr r1), r1.2 = false, (((Val.kind a1) : Int) == 1) = false, ((a0 : Int) == 1) = true, AbC 57 (xCI a1 a2) (xCl r2)] := by kernel_rfl
theorem p11_e_10 (a0 : Int) (a1 a2 : Val) (r1 : Val × Bool) (r2 : Val) : rE I11 (xAw a0 a1 a2) [F, F, F, Y] [xAr r1, xCT r2] = dn (xAn r2) [AbC 56 (xA9 [(Val.re a1), (Val.re a2)]) (xAr r1), r1.2 = false, (((Val.kind a1) : Int) == 1) = false, ((a0 : Int) == 1) = false, ((a0 : Int) == 4) = true, AbC 58 (xDE a1 a2) (xCT r2)] := by kernel_rfl
theorem p11_e_11 (a0 : Int) (a1 a2 : Val) (r1 : Val × Bool) (r2 : Bool) (r3 : Val) : rE I11 (xAw a0 a1 a2) [F, F, F, F, Y] [xAr r1, xDe r2, xBK r3] = dn (xAn r3) [AbC 56 (xA9 [(Val.re a1), (Val.re a2)]) (xAr r1), r1.2 = false, (((Val.kind a1) : Int) == 1) = false, ((a0 : Int) == 1) = false, ((a0 : Int) == 4) = false, ((a0 : Int) == 5) = true, AbC 60 (xEx a1 a2) (xDe r2), AbC 59 (xCL r2) (xBK r3)] := by kernel_rfl
theorem p11_e_12 (a0 : Int) (a1 a2 : Val) (r1 : Val × Bool) (r2 : Val) : rE I11 (xAw a0 a1 a2) [F, F, F, F, F, Y, F, F, F] [xAr r1, xAg r2] = dn (xAn r2) [AbC 56 (xA9 [(Val.re a1), (Val.re a2)]) (xAr r1), r1.2 = false, (((Val.kind a1) : Int) == 1) = false, ((a0 : Int) == 1) = false, ((a0 : Int) == 4) = false, ((a0 : Int) == 5) = false, ((a0 : Int) == 2) = true, false = false, ((a0 : Int) == 3) = false, false = false, AbC 44 (xAA 4) (xAg r2)] := by kernel_rfl
theorem p11_e_13 (a0 : Int) (a1 a2 : Val) (r1 : Val × Bool) (r2 : Val) : rE I11 (xAw a0 a1 a2) [F, F, F, F, F, F, F, Y, F] [xAr r1, xAg r2] = dn (xAn r2) [AbC 56 (xA9 [(Val.re a1), (Val.re a2)]) (xAr r1), r1.2 = false, (((Val.kind a1) : Int) == 1) = false, ((a0 : Int) == 1) = false, ((a0 : Int) == 4) = false, ((a0 : Int) == 5) = false, ((a0 : Int) == 2) = false, false = false, ((a0 : Int) == 3) = true, false = false, AbC 44 (xAA 4) (xAg r2)] := by kernel_rfl
theorem p11_e_14 (a0 : Int) (a1 a2 : Val) (r1 : Val × Bool) (r2 : Val) : rE I11 (xAw a0 a1 a2) [F, F, F, F, F, F, F, F, F] [xAr r1, xAg r2] = dn (xAn r2) [AbC 56 (xA9 [(Val.re a1), (Val.re a2)]) (xAr r1), r1.2 = false, (((Val.kind a1) : Int) == 1) = false, ((a0 : Int) == 1) = false, ((a0 : Int) == 4) = false, ((a0 : Int) == 5) = false, ((a0 : Int) == 2) = false, false = false, ((a0 : Int) == 3) = false, false = false, AbC 44 (xAA 4) (xAg r2)] := by kernel_rfl
theorem c11_e {N : Nat} : ∀ a0 a1 a2 r, xBJ N a0 a1 a2 = some r → RE Try.f11 I11 (xAw a0 a1 a2) (xAn r) := fun a0 a1 a2 r h =>
 bE h fun r1 h0 h => cE h (fun h1 h => dE h fk11 (p11_e_0 a0 a1 a2 r1) (oc (xBl h0) (oc h1 on))) fun h1 h =>
 cE h (fun h2 h => cE h (fun h3 h => bE h fun r2 h4 h => dE h fk11 (p11_e_1 a0 a1 a2 r1 r2) (oc (xBl h0) (oc h1 (oc h2 (oc h3 (oc (spec_l5Add_ok h4) on)))))) fun h3 h =>
 cE h (fun h4 h => bE h fun r2 h5 h => dE h fk11 (p11_e_2 a0 a1 a2 r1 r2) (oc (xBl h0) (oc h1 (oc h2 (oc h3 (oc h4 (oc (xIm h5) on))))))) fun h4 h =>
 cE h (fun h5 h => bE h fun r2 h6 h => bE h fun r3 h7 h => dE h fk11 (p11_e_3 a0 a1 a2 r1 r2 r3) (oc (xBl h0) (oc h1 (oc h2 (oc h3 (oc h4 (oc h5 (oc (xHc h6) (oc (xFd h7) on))))))))) fun h5 h =>
 cE h (fun h6 h => cE h (fun h7 h => bE h fun r2 h8 h => dE h fk11 (p11_e_4 a0 a1 a2 r1 r2) (oc (xBl h0) (oc h1 (oc h2 (oc h3 (oc h4 (oc h5 (oc h6 (oc h7 (oc (xEw h8) on)))))))))) fun h7 h =>
 bE h fun r2 h10 h => dE h fk11 (p11_e_5 a0 a1 a2 r1 r2) (oc (xBl h0) (oc h1 (oc h2 (oc h3 (oc h4 (oc h5 (oc h6 (oc h7 (oc (eq_ne h6 rfl) (oc rfl (oc (xAH h10) on)))))))))))) fun h6 h =>
 cE h (fun h8 h => cE h (fun h9 h => bE h fun r2 h10 h => dE h fk11 (p11_e_6 a0 a1 a2 r1 r2) (oc (xBl h0) (oc h1 (oc h2 (oc h3 (oc h4 (oc h5 (oc h6 (oc rfl (oc h8 (oc h9 (oc (xEw h10) on)))))))))))) fun h9 h =>
 bE h fun r2 h10 h => dE h fk11 (p11_e_7 a0 a1 a2 r1 r2) (oc (xBl h0) (oc h1 (oc h2 (oc h3 (oc h4 (oc h5 (oc h6 (oc rfl (oc h8 (oc h9 (oc (xAH h10) on)))))))))))) fun h8 h =>
 bE h fun r2 h10 h => dE h fk11 (p11_e_8 a0 a1 a2 r1 r2) (oc (xBl h0) (oc h1 (oc h2 (oc h3 (oc h4 (oc h5 (oc h6 (oc rfl (oc h8 (oc rfl (oc (xAH h10) on)))))))))))) fun h2 h =>
 cE h (fun h3 h => bE h fun r2 h4 h => dE h fk11 (p11_e_9 a0 a1 a2 r1 r2) (oc (xBl h0) (oc h1 (oc h2 (oc h3 (oc (spec_l5Add_ok h4) on)))))) fun h3 h =>
 cE h (fun h4 h => bE h fun r2 h5 h => dE h fk11 (p11_e_10 a0 a1 a2 r1 r2) (oc (xBl h0) (oc h1 (oc h2 (oc h3 (oc h4 (oc (xIm h5) on))))))) fun h4 h =>
 cE h (fun h5 h => bE h fun r2 h6 h => bE h fun r3 h7 h => dE h fk11 (p11_e_11 a0 a1 a2 r1 r2 r3) (oc (xBl h0) (oc h1 (oc h2 (oc h3 (oc h4 (oc h5 (oc (xHc h6) (oc (xFd h7) on))))))))) fun h5 h =>
 cE h (fun h6 h => bE h fun r2 h10 h => dE h fk11 (p11_e_12 a0 a1 a2 r1 r2) (oc (xBl h0) (oc h1 (oc h2 (oc h3 (oc h4 (oc h5 (oc h6 (oc rfl (oc (eq_ne h6 rfl) (oc rfl (oc (xAH h10) on)))))))))))) fun h6 h =>
 cE h (fun h8 h => bE h fun r2 h10 h => dE h fk11 (p11_e_13 a0 a1 a2 r1 r2) (oc (xBl h0) (oc h1 (oc h2 (oc h3 (oc h4 (oc h5 (oc h6 (oc rfl (oc h8 (oc rfl (oc (xAH h10) on)))))))))))) fun h8 h =>
 bE h fun r2 h10 h => dE h fk11 (p11_e_14 a0 a1 a2 r1 r2) (oc (xBl h0) (oc h1 (oc h2 (oc h3 (oc h4 (oc h5 (oc h6 (oc rfl (oc h8 (oc rfl (oc (xAH h10) on)))))))))))
theorem xCd {N : Nat} {a0 : Int} {a1 : Val} {a2 : Val} {r : Val} (h : xBJ N  a0 a1 a2 = some r) : AbC 11 (xAw a0 a1 a2) (xAn r) :=
 AbsCalls.of_reach fk11 rfl rfl (Nat.le_of_ble_eq_true rfl) (c11_e a0 a1 a2 r h)
noncomputable def I101 : Info := { body := (Try.f101.body).getD .skip, nt := 15, results := [.tmp 6], keep := [0, 2, 4, 12], live := [], modes := [(1, [(3, .take, false)])] }
theorem fk101 : FnOk Try.prog 101 Try.f101 I101 := ⟨Try.func101, by kernel_rfl, by kernel_rfl, by kernel_rfl, by kernel_rfl⟩
theorem p101_e_0 (a0 a1 a2 : Int) : rE I101 (xB5 a0 a1 a2) [Y] [] = dn (xBf (decide ((a0 : Int) ≤ a2))) [(decide ((a1 : Int) ≤ a0)) = true] := by kernel_rfl
theorem p101_e_1 (a0 a1 a2 : Int) : rE I101 (xB5 a0 a1 a2) [F] [] = dn (xBf false) [(decide ((a1 : Int) ≤ a0)) = false] := by kernel_rfl
theorem c101_e {N : Nat} : ∀ a0 a1 a2 r, xED N a0 a1 a2 = some r → RE Try.f101 I101 (xB5 a0 a1 a2) (xBf r) := fun a0 a1 a2 r h =>
 cE h (fun h0 h => dE h fk101 (p101_e_0 a0 a1 a2) (oc h0 on)) fun h0 h =>
 dE h fk101 (p101_e_1 a0 a1 a2) (oc h0 on)
theorem xC8 {N : Nat} {a0 : Int} {a1 : Int} {a2 : Int} {r : Bool} (h : xED N  a0 a1 a2 = some r) : AbC 101 (xB5 a0 a1 a2) (xBf r) :=
 AbsCalls.of_reach fk101 rfl rfl (Nat.le_of_ble_eq_true rfl) (c101_e a0 a1 a2 r h)
noncomputable def I90 : Info := { body := (Try.f90.body).getD .skip, nt := 5, results := [.tmp 2], keep := [0, 4], live := [], modes := [] }
theorem fk90 : FnOk Try.prog 90 Try.f90 I90 := ⟨Try.func90, by kernel_rfl, by kernel_rfl, by kernel_rfl, by kernel_rfl⟩
theorem p90_e_0 (a0 : Int) (r1 : Bool) : rE I90 (xCr a0) [] [xBf r1] = dn (xBj r1) [AbC 101 (xB5 a0 (-1000000000) 1000000000) (xBf r1)] := by kernel_rfl
theorem c90_e {N : Nat} : ∀ a0 r, xDX N a0 = some r → RE Try.f90 I90 (xCr a0) (xBj r) := fun a0 r h =>
 bE h fun r1 h0 h => dE h fk90 (p90_e_0 a0 r1) (oc (xC8 h0) on)
theorem xDj {N : Nat} {a0 : Int} {r : Bool} (h : xDX N  a0 = some r) : AbC 90 (xCr a0) (xBj r) :=
 AbsCalls.of_reach fk90 rfl rfl (Nat.le_of_ble_eq_true rfl) (c90_e a0 r h)
noncomputable def I166 : Info := { body := (Try.f166.body).getD .skip, nt := 29, results := [.tmp 2], keep := [0, 4, 6, 14, 50], live := [(2, [0, 6])], modes := [(4, [(4, .take, false), (10, .take, false)])] }
theorem fk166 : FnOk Try.prog 166 Try.f166 I166 := ⟨Try.func166, by kernel_rfl, by kernel_rfl, by kernel_rfl, by kernel_rfl⟩
def S166_2 (x0 : Str) (x3 : Int) : St := [(0, .v false [.str x0]), (6, .v false [.int .i64 x3])]
theorem p166_2_0 (x0 : Str) (x3 : Int) : rS 2 I166 (S166_2 x0 x3) [Y, Y, Y, Y] [] = dn (xCf false) [(decide ((x3 : Int) < (Ln x0 : Int))) = true, (0 : Int) ≤ x3 ∧ x3 < (Ln x0), (decide ((((gD x0 (tN x3) 0).toNat : Int) : Int) < 32)) = true, true = true, true = true] := by kernel_rfl
theorem p166_2_1 (x0 : Str) (x3 : Int) : rS 2 I166 (S166_2 x0 x3) [Y, F, Y, Y] [] = dn (xCf false) [(decide ((x3 : Int) < (Ln x0 : Int))) = true, (0 : Int) ≤ x3 ∧ x3 < (Ln x0), (decide ((((gD x0 (tN x3) 0).toNat : Int) : Int) < 32)) = false, (0 : Int) ≤ x3 ∧ x3 < (Ln x0), (decide ((((gD x0 (tN x3) 0).toNat : Int) : Int) > 126)) = true, true = true] := by kernel_rfl
theorem p166_2_2 (x0 : Str) (x3 : Int) : rS 2 I166 (S166_2 x0 x3) [Y, F, F, Y] [] = dn (xCf false) [(decide ((x3 : Int) < (Ln x0 : Int))) = true, (0 : Int) ≤ x3 ∧ x3 < (Ln x0), (decide ((((gD x0 (tN x3) 0).toNat : Int) : Int) < 32)) = false, (0 : Int) ≤ x3 ∧ x3 < (Ln x0), (decide ((((gD x0 (tN x3) 0).toNat : Int) : Int) > 126)) = false, (0 : Int) ≤ x3 ∧ x3 < (Ln x0), ((((gD x0 (tN x3) 0).toNat : Int) : Int) == 34) = true] := by kernel_rfl
theorem p166_2_3 (x0 : Str) (x3 : Int) : rS 2 I166 (S166_2 x0 x3) [Y, F, F, F] [] = st 2 I166 (S166_2 x0 (W (x3 + 1))) [(decide ((x3 : Int) < (Ln x0 : Int))) = true, (0 : Int) ≤ x3 ∧ x3 < (Ln x0), (decide ((((gD x0 (tN x3) 0).toNat : Int) : Int) < 32)) = false, (0 : Int) ≤ x3 ∧ x3 < (Ln x0), (decide ((((gD x0 (tN x3) 0).toNat : Int) : Int) > 126)) = false, (0 : Int) ≤ x3 ∧ x3 < (Ln x0), ((((gD x0 (tN x3) 0).toNat : Int) : Int) == 34) = false] := by kernel_rfl
theorem p166_2_4 (x0 : Str) (x3 : Int) : rS 2 I166 (S166_2 x0 x3) [F] [] = dn (xCf (decide (((Ln x0 : Int) : Int) ≤ 20))) [(decide ((x3 : Int) < (Ln x0 : Int))) = false] := by kernel_rfl
theorem p166_e_5 (a0 : Str) : rE I166 (xES a0) [] [] = st 2 I166 (S166_2 a0 0) [] := by kernel_rfl
theorem c166_2 {N : Nat} : ∀ n x0 x3 r, xEh N n x0 x3 = some r → RS Try.f166 I166 2 (S166_2 x0 x3) (xCf r) := by
 intro n
 induction n with
 | zero => exact fun _ _ _ h => nE h
 | succ n ih =>
  exact fun x0 x3 r h =>
   cE h (fun h0 h => iE h fun h1 h => cE h (fun h2 h => dS h fk166 (p166_2_0 x0 x3) (oc h0 (oc h1 (oc h2 (oc rfl (oc rfl on)))))) fun h2 h =>
   cE h (fun h4 h => dS h fk166 (p166_2_1 x0 x3) (oc h0 (oc h1 (oc h2 (oc h1 (oc h4 (oc rfl on))))))) fun h4 h =>
   cE h (fun h6 h => dS h fk166 (p166_2_2 x0 x3) (oc h0 (oc h1 (oc h2 (oc h1 (oc h4 (oc h1 (oc h6 on)))))))) fun h6 h =>
   tS fk166 (p166_2_3 x0 x3) (oc h0 (oc h1 (oc h2 (oc h1 (oc h4 (oc h1 (oc h6 on))))))) (ih _ _ _ h)) fun h0 h =>
   dS h fk166 (p166_2_4 x0 x3) (oc h0 on)
theorem c166_e {N : Nat} : ∀ a0 r, xFL N a0 = some r → RE Try.f166 I166 (xES a0) (xCf r) := fun a0 r h =>
 tE fk166 (p166_e_5 a0) on (c166_2 _ _ _ _ h)
theorem xIt {N : Nat} {a0 : Str} {r : Bool} (h : xFL N  a0 = some r) : AbC 166 (xES a0) (xCf r) :=
 AbsCalls.of_reach fk166 rfl rfl (Nat.le_of_ble_eq_true rfl) (c166_e a0 r h)
noncomputable def I141 : Info := { body := (Try.f141.body).getD .skip, nt := 42, results := [.tmp 2], keep := [0, 4, 6, 8, 16, 76], live := [(2, [0, 6])], modes := [(4, [(4, .take, false)]), (5, [(0, .take, false), (2, .take, false), (5, .take, false), (11, .take, false)])] }
theorem fk141 : FnOk Try.prog 141 Try.f141 I141 := ⟨Try.func141, by kernel_rfl, by kernel_rfl, by kernel_rfl, by kernel_rfl⟩
def xGQ (x0 : Str) (x3 : Int) : St := [(0, .v false [.str x0]), (6, .v false [.int .i64 x3])]
theorem p141_2_0 (x0 : Str) (x3 : Int) : rS 2 I141 (xGQ x0 x3) [Y, Y, Y, Y, Y, Y] [] = dn (xB4 false) [(decide ((x3 : Int) < (Ln x0 : Int))) = true, (0 : Int) ≤ x3 ∧ x3 < (Ln x0), (decide ((((gD x0 (tN x3) 0).toNat : Int) : Int) ≥ 97)) = true, (0 : Int) ≤ x3 ∧ x3 < (Ln x0), (!(decide ((((gD x0 (tN x3) 0).toNat : Int) : Int) ≤ 122))) = true, ((x3 : Int) == 0) = true, true = true, true = true] := by kernel_rfl
theorem p141_2_1 (x0 : Str) (x3 : Int) : rS 2 I141 (xGQ x0 x3) [Y, Y, Y, F, Y, Y] [] = dn (xB4 false) [(decide ((x3 : Int) < (Ln x0 : Int))) = true, (0 : Int) ≤ x3 ∧ x3 < (Ln x0), (decide ((((gD x0 (tN x3) 0).toNat : Int) : Int) ≥ 97)) = true, (0 : Int) ≤ x3 ∧ x3 < (Ln x0), (!(decide ((((gD x0 (tN x3) 0).toNat : Int) : Int) ≤ 122))) = true, ((x3 : Int) == 0) = false, (0 : Int) ≤ x3 ∧ x3 < (Ln x0), (decide ((((gD x0 (tN x3) 0).toNat : Int) : Int) < 48)) = true, true = true] := by kernel_rfl
theorem p141_2_2 (x0 : Str) (x3 : Int) : rS 2 I141 (xGQ x0 x3) [Y, Y, Y, F, F, Y] [] = dn (xB4 false) [(decide ((x3 : Int) < (Ln x0 : Int))) = true, (0 : Int) ≤ x3 ∧ x3 < (Ln x0), (decide ((((gD x0 (tN x3) 0).toNat : Int) : Int) ≥ 97)) = true, (0 : Int) ≤ x3 ∧ x3 < (Ln x0), (!(decide ((((gD x0 (tN x3) 0).toNat : Int) : Int) ≤ 122))) = true, ((x3 : Int) == 0) = false, (0 : Int) ≤ x3 ∧ x3 < (Ln x0), (decide ((((gD x0 (tN x3) 0).toNat : Int) : Int) < 48)) = false, (0 : Int) ≤ x3 ∧ x3 < (Ln x0), (decide ((((gD x0 (tN x3) 0).toNat : Int) : Int) > 57)) = true] := by kernel_rfl
theorem p141_2_3 (x0 : Str) (x3 : Int) : rS 2 I141 (xGQ x0 x3) [Y, Y, Y, F, F, F] [] = st 2 I141 (xGQ x0 (W (x3 + 1))) [(decide ((x3 : Int) < (Ln x0 : Int))) = true, (0 : Int) ≤ x3 ∧ x3 < (Ln x0), (decide ((((gD x0 (tN x3) 0).toNat : Int) : Int) ≥ 97)) = true, (0 : Int) ≤ x3 ∧ x3 < (Ln x0), (!(decide ((((gD x0 (tN x3) 0).toNat : Int) : Int) ≤ 122))) = true, ((x3 : Int) == 0) = false, (0 : Int) ≤ x3 ∧ x3 < (Ln x0), (decide ((((gD x0 (tN x3) 0).toNat : Int) : Int) < 48)) = false, (0 : Int) ≤ x3 ∧ x3 < (Ln x0), (decide ((((gD x0 (tN x3) 0).toNat : Int) : Int) > 57)) = false] := by kernel_rfl
theorem p141_2_4 (x0 : Str) (x3 : Int) : rS 2 I141 (xGQ x0 x3) [Y, Y, F, F] [] = st 2 I141 (xGQ x0 (W (x3 + 1))) [(decide ((x3 : Int) < (Ln x0 : Int))) = true, (0 : Int) ≤ x3 ∧ x3 < (Ln x0), (decide ((((gD x0 (tN x3) 0).toNat : Int) : Int) ≥ 97)) = true, (0 : Int) ≤ x3 ∧ x3 < (Ln x0), (!(decide ((((gD x0 (tN x3) 0).toNat : Int) : Int) ≤ 122))) = false, false = false] := by kernel_rfl
theorem p141_2_5 (x0 : Str) (x3 : Int) : rS 2 I141 (xGQ x0 x3) [Y, F, Y, Y, Y, Y] [] = dn (xB4 false) [(decide ((x3 : Int) < (Ln x0 : Int))) = true, (0 : Int) ≤ x3 ∧ x3 < (Ln x0), (decide ((((gD x0 (tN x3) 0).toNat : Int) : Int) ≥ 97)) = false, (!false) = true, ((x3 : Int) == 0) = true, true = true, true = true] := by kernel_rfl
theorem p141_2_6 (x0 : Str) (x3 : Int) : rS 2 I141 (xGQ x0 x3) [Y, F, Y, F, Y, Y] [] = dn (xB4 false) [(decide ((x3 : Int) < (Ln x0 : Int))) = true, (0 : Int) ≤ x3 ∧ x3 < (Ln x0), (decide ((((gD x0 (tN x3) 0).toNat : Int) : Int) ≥ 97)) = false, (!false) = true, ((x3 : Int) == 0) = false, (0 : Int) ≤ x3 ∧ x3 < (Ln x0), (decide ((((gD x0 (tN x3) 0).toNat : Int) : Int) < 48)) = true, true = true] := by kernel_rfl
theorem p141_2_7 (x0 : Str) (x3 : Int) : rS 2 I141 (xGQ x0 x3) [Y, F, Y, F, F, Y] [] = dn (xB4 false) [(decide ((x3 : Int) < (Ln x0 : Int))) = true, (0 : Int) ≤ x3 ∧ x3 < (Ln x0), (decide ((((gD x0 (tN x3) 0).toNat : Int) : Int) ≥ 97)) = false, (!false) = true, ((x3 : Int) == 0) = false, (0 : Int) ≤ x3 ∧ x3 < (Ln x0), (decide ((((gD x0 (tN x3) 0).toNat : Int) : Int) < 48)) = false, (0 : Int) ≤ x3 ∧ x3 < (Ln x0), (decide ((((gD x0 (tN x3) 0).toNat : Int) : Int) > 57)) = true] := by kernel_rfl
theorem p141_2_8 (x0 : Str) (x3 : Int) : rS 2 I141 (xGQ x0 x3) [Y, F, Y, F, F, F] [] = st 2 I141 (xGQ x0 (W (x3 + 1))) [(decide ((x3 : Int) < (Ln x0 : Int))) = true, (0 : Int) ≤ x3 ∧ x3 < (Ln x0), (decide ((((gD x0 (tN x3) 0).toNat : Int) : Int) ≥ 97)) = false, (!false) = true, ((x3 : Int) == 0) = false, (0 : Int) ≤ x3 ∧ x3 < (Ln x0), (decide ((((gD x0 (tN x3) 0).toNat : Int) : Int) < 48)) = false, (0 : Int) ≤ x3 ∧ x3 < (Ln x0), (decide ((((gD x0 (tN x3) 0).toNat : Int) : Int) > 57)) = false] := by kernel_rfl
theorem p141_2_9 (x0 : Str) (x3 : Int) (r1 : Bool) : rS 2 I141 (xGQ x0 x3) [F] [xBf r1] = dn (xB4 r1) [(decide ((x3 : Int) < (Ln x0 : Int))) = false, AbC 101 (xB5 (Ln x0 : Int) 1 8) (xBf r1)] := by kernel_rfl
theorem p141_e_10 (a0 : Str) : rE I141 (xFD a0) [] [] = st 2 I141 (xGQ a0 0) [] := by kernel_rfl
theorem c141_2 {N : Nat} : ∀ n x0 x3 r, xDy N n x0 x3 = some r → RS Try.f141 I141 2 (xGQ x0 x3) (xB4 r) := by
 intro n
 induction n with
 | zero => exact fun _ _ _ h => nE h
 | succ n ih =>
  exact fun x0 x3 r h =>
   cE h (fun h0 h => iE h fun h1 h => cE h (fun h2 h => cE h (fun h4 h => cE h (fun h5 h => dS h fk141 (p141_2_0 x0 x3) (oc h0 (oc h1 (oc h2 (oc h1 (oc h4 (oc h5 (oc rfl (oc rfl on))))))))) fun h5 h =>
   cE h (fun h7 h => dS h fk141 (p141_2_1 x0 x3) (oc h0 (oc h1 (oc h2 (oc h1 (oc h4 (oc h5 (oc h1 (oc h7 (oc rfl on)))))))))) fun h7 h =>
   cE h (fun h9 h => dS h fk141 (p141_2_2 x0 x3) (oc h0 (oc h1 (oc h2 (oc h1 (oc h4 (oc h5 (oc h1 (oc h7 (oc h1 (oc h9 on))))))))))) fun h9 h =>
   tS fk141 (p141_2_3 x0 x3) (oc h0 (oc h1 (oc h2 (oc h1 (oc h4 (oc h5 (oc h1 (oc h7 (oc h1 (oc h9 on)))))))))) (ih _ _ _ h)) fun h4 h =>
   tS fk141 (p141_2_4 x0 x3) (oc h0 (oc h1 (oc h2 (oc h1 (oc h4 (oc rfl on)))))) (ih _ _ _ h)) fun h2 h =>
   cE h (fun h4 h => dS h fk141 (p141_2_5 x0 x3) (oc h0 (oc h1 (oc h2 (oc rfl (oc h4 (oc rfl (oc rfl on)))))))) fun h4 h =>
   cE h (fun h6 h => dS h fk141 (p141_2_6 x0 x3) (oc h0 (oc h1 (oc h2 (oc rfl (oc h4 (oc h1 (oc h6 (oc rfl on))))))))) fun h6 h =>
   cE h (fun h8 h => dS h fk141 (p141_2_7 x0 x3) (oc h0 (oc h1 (oc h2 (oc rfl (oc h4 (oc h1 (oc h6 (oc h1 (oc h8 on)))))))))) fun h8 h =>
   tS fk141 (p141_2_8 x0 x3) (oc h0 (oc h1 (oc h2 (oc rfl (oc h4 (oc h1 (oc h6 (oc h1 (oc h8 on))))))))) (ih _ _ _ h)) fun h0 h =>
   bE h fun r1 h1 h => dS h fk141 (p141_2_9 x0 x3 r1) (oc h0 (oc (xC8 h1) on))
theorem c141_e {N : Nat} : ∀ a0 r, xHH N a0 = some r → RE Try.f141 I141 (xFD a0) (xB4 r) := fun a0 r h =>
 tE fk141 (p141_e_10 a0) on (c141_2 _ _ _ _ h)
theorem xIh {N : Nat} {a0 : Str} {r : Bool} (h : xHH N  a0 = some r) : AbC 141 (xFD a0) (xB4 r) :=
 AbsCalls.of_reach fk141 rfl rfl (Nat.le_of_ble_eq_true rfl) (c141_e a0 r h)
noncomputable def I176 : Info := { body := (Try.f176.body).getD .skip, nt := 26, results := [.tmp 2], keep := [0, 4, 6, 8, 12, 24, 40, 48], live := [], modes := [] }
theorem xHF : FnOk Try.prog 176 Try.f176 I176 := ⟨Try.func176, by kernel_rfl, by kernel_rfl, by kernel_rfl, by kernel_rfl⟩
theorem p176_e_0 (a0 : Str) : rE I176 (xAF a0) [Y] [] = dn (xAE 0) [((a0 : Str) == [99, 108, 111, 99, 107]) = true] := by kernel_rfl
theorem p176_e_1 (a0 : Str) : rE I176 (xAF a0) [F, Y, Y] [] = dn (xAE 1) [((a0 : Str) == [99, 108, 111, 99, 107]) = false, ((a0 : Str) == [108, 101, 110]) = true, ((a0 : Str) == [108, 101, 110]) = true] := by kernel_rfl
theorem p176_e_2 (a0 : Str) : rE I176 (xAF a0) [F, F, Y, Y] [] = dn (xAE 1) [((a0 : Str) == [99, 108, 111, 99, 107]) = false, ((a0 : Str) == [108, 101, 110]) = false, ((a0 : Str) == [115, 117, 109]) = true, ((a0 : Str) == [115, 117, 109]) = true] := by kernel_rfl
theorem p176_e_3 (a0 : Str) : rE I176 (xAF a0) [F, F, F, Y, Y] [] = dn (xAE 1) [((a0 : Str) == [99, 108, 111, 99, 107]) = false, ((a0 : Str) == [108, 101, 110]) = false, ((a0 : Str) == [115, 117, 109]) = false, ((a0 : Str) == [114, 111, 119, 115]) = true, ((a0 : Str) == [114, 111, 119, 115]) = true] := by kernel_rfl
theorem p176_e_4 (a0 : Str) : rE I176 (xAF a0) [F, F, F, F, Y, Y] [] = dn (xAE 1) [((a0 : Str) == [99, 108, 111, 99, 107]) = false, ((a0 : Str) == [108, 101, 110]) = false, ((a0 : Str) == [115, 117, 109]) = false, ((a0 : Str) == [114, 111, 119, 115]) = false, ((a0 : Str) == [99, 104, 97, 110, 99, 101]) = true, ((a0 : Str) == [99, 104, 97, 110, 99, 101]) = true] := by kernel_rfl
theorem p176_e_5 (a0 : Str) : rE I176 (xAF a0) [F, F, F, F, F, Y] [] = dn (xAE 1) [((a0 : Str) == [99, 108, 111, 99, 107]) = false, ((a0 : Str) == [108, 101, 110]) = false, ((a0 : Str) == [115, 117, 109]) = false, ((a0 : Str) == [114, 111, 119, 115]) = false, ((a0 : Str) == [99, 104, 97, 110, 99, 101]) = false, ((a0 : Str) == [102, 105, 108, 101]) = true] := by kernel_rfl
theorem p176_e_6 (a0 : Str) : rE I176 (xAF a0) [F, F, F, F, F, F, Y, Y] [] = dn (xAE 2) [((a0 : Str) == [99, 108, 111, 99, 107]) = false, ((a0 : Str) == [108, 101, 110]) = false, ((a0 : Str) == [115, 117, 109]) = false, ((a0 : Str) == [114, 111, 119, 115]) = false, ((a0 : Str) == [99, 104, 97, 110, 99, 101]) = false, ((a0 : Str) == [102, 105, 108, 101]) = false, ((a0 : Str) == [116, 97, 107, 101]) = true, ((a0 : Str) == [116, 97, 107, 101]) = true] := by kernel_rfl
theorem p176_e_7 (a0 : Str) : rE I176 (xAF a0) [F, F, F, F, F, F, F, Y, Y] [] = dn (xAE 2) [((a0 : Str) == [99, 108, 111, 99, 107]) = false, ((a0 : Str) == [108, 101, 110]) = false, ((a0 : Str) == [115, 117, 109]) = false, ((a0 : Str) == [114, 111, 119, 115]) = false, ((a0 : Str) == [99, 104, 97, 110, 99, 101]) = false, ((a0 : Str) == [102, 105, 108, 101]) = false, ((a0 : Str) == [116, 97, 107, 101]) = false, ((a0 : Str) == [115, 107, 105, 112]) = true, ((a0 : Str) == [115, 107, 105, 112]) = true] := by kernel_rfl
theorem p176_e_8 (a0 : Str) : rE I176 (xAF a0) [F, F, F, F, F, F, F, F, Y, Y] [] = dn (xAE 2) [((a0 : Str) == [99, 108, 111, 99, 107]) = false, ((a0 : Str) == [108, 101, 110]) = false, ((a0 : Str) == [115, 117, 109]) = false, ((a0 : Str) == [114, 111, 119, 115]) = false, ((a0 : Str) == [99, 104, 97, 110, 99, 101]) = false, ((a0 : Str) == [102, 105, 108, 101]) = false, ((a0 : Str) == [116, 97, 107, 101]) = false, ((a0 : Str) == [115, 107, 105, 112]) = false, ((a0 : Str) == [114, 97, 110, 103, 101]) = true, ((a0 : Str) == [114, 97, 110, 103, 101]) = true] := by kernel_rfl
theorem p176_e_9 (a0 : Str) : rE I176 (xAF a0) [F, F, F, F, F, F, F, F, F, Y, Y] [] = dn (xAE 2) [((a0 : Str) == [99, 108, 111, 99, 107]) = false, ((a0 : Str) == [108, 101, 110]) = false, ((a0 : Str) == [115, 117, 109]) = false, ((a0 : Str) == [114, 111, 119, 115]) = false, ((a0 : Str) == [99, 104, 97, 110, 99, 101]) = false, ((a0 : Str) == [102, 105, 108, 101]) = false, ((a0 : Str) == [116, 97, 107, 101]) = false, ((a0 : Str) == [115, 107, 105, 112]) = false, ((a0 : Str) == [114, 97, 110, 103, 101]) = false, ((a0 : Str) == [110, 116, 104]) = true, ((a0 : Str) == [110, 116, 104]) = true] := by kernel_rfl
theorem p176_e_10 (a0 : Str) : rE I176 (xAF a0) [F, F, F, F, F, F, F, F, F, F, Y, Y] [] = dn (xAE 2) [((a0 : Str) == [99, 108, 111, 99, 107]) = false, ((a0 : Str) == [108, 101, 110]) = false, ((a0 : Str) == [115, 117, 109]) = false, ((a0 : Str) == [114, 111, 119, 115]) = false, ((a0 : Str) == [99, 104, 97, 110, 99, 101]) = false, ((a0 : Str) == [102, 105, 108, 101]) = false, ((a0 : Str) == [116, 97, 107, 101]) = false, ((a0 : Str) == [115, 107, 105, 112]) = false, ((a0 : Str) == [114, 97, 110, 103, 101]) = false, ((a0 : Str) == [110, 116, 104]) = false, ((a0 : Str) == [107, 101, 101, 112]) = true, ((a0 : Str) == [107, 101, 101, 112]) = true] := by kernel_rfl
theorem p176_e_11 (a0 : Str) : rE I176 (xAF a0) [F, F, F, F, F, F, F, F, F, F, F, Y, Y] [] = dn (xAE 2) [((a0 : Str) == [99, 108, 111, 99, 107]) = false, ((a0 : Str) == [108, 101, 110]) = false, ((a0 : Str) == [115, 117, 109]) = false, ((a0 : Str) == [114, 111, 119, 115]) = false, ((a0 : Str) == [99, 104, 97, 110, 99, 101]) = false, ((a0 : Str) == [102, 105, 108, 101]) = false, ((a0 : Str) == [116, 97, 107, 101]) = false, ((a0 : Str) == [115, 107, 105, 112]) = false, ((a0 : Str) == [114, 97, 110, 103, 101]) = false, ((a0 : Str) == [110, 116, 104]) = false, ((a0 : Str) == [107, 101, 101, 112]) = false, ((a0 : Str) == [99, 111, 108, 117, 109, 110]) = true, ((a0 : Str) == [99, 111, 108, 117, 109, 110]) = true] := by kernel_rfl
theorem p176_e_12 (a0 : Str) : rE I176 (xAF a0) [F, F, F, F, F, F, F, F, F, F, F, F, Y] [] = dn (xAE 2) [((a0 : Str) == [99, 108, 111, 99, 107]) = false, ((a0 : Str) == [108, 101, 110]) = false, ((a0 : Str) == [115, 117, 109]) = false, ((a0 : Str) == [114, 111, 119, 115]) = false, ((a0 : Str) == [99, 104, 97, 110, 99, 101]) = false, ((a0 : Str) == [102, 105, 108, 101]) = false, ((a0 : Str) == [116, 97, 107, 101]) = false, ((a0 : Str) == [115, 107, 105, 112]) = false, ((a0 : Str) == [114, 97, 110, 103, 101]) = false, ((a0 : Str) == [110, 116, 104]) = false, ((a0 : Str) == [107, 101, 101, 112]) = false, ((a0 : Str) == [99, 111, 108, 117, 109, 110]) = false, ((a0 : Str) == [116, 97, 98, 108, 101]) = true] := by kernel_rfl
theorem p176_e_13 (a0 : Str) : rE I176 (xAF a0) [F, F, F, F, F, F, F, F, F, F, F, F, F, Y, Y] [] = dn (xAE 3) [((a0 : Str) == [99, 108, 111, 99, 107]) = false, ((a0 : Str) == [108, 101, 110]) = false, ((a0 : Str) == [115, 117, 109]) = false, ((a0 : Str) == [114, 111, 119, 115]) = false, ((a0 : Str) == [99, 104, 97, 110, 99, 101]) = false, ((a0 : Str) == [102, 105, 108, 101]) = false, ((a0 : Str) == [116, 97, 107, 101]) = false, ((a0 : Str) == [115, 107, 105, 112]) = false, ((a0 : Str) == [114, 97, 110, 103, 101]) = false, ((a0 : Str) == [110, 116, 104]) = false, ((a0 : Str) == [107, 101, 101, 112]) = false, ((a0 : Str) == [99, 111, 108, 117, 109, 110]) = false, ((a0 : Str) == [116, 97, 98, 108, 101]) = false, ((a0 : Str) == [119, 104, 101, 114, 101]) = true, ((a0 : Str) == [119, 104, 101, 114, 101]) = true] := by kernel_rfl
theorem p176_e_14 (a0 : Str) : rE I176 (xAF a0) [F, F, F, F, F, F, F, F, F, F, F, F, F, F, Y, Y] [] = dn (xAE 3) [((a0 : Str) == [99, 108, 111, 99, 107]) = false, ((a0 : Str) == [108, 101, 110]) = false, ((a0 : Str) == [115, 117, 109]) = false, ((a0 : Str) == [114, 111, 119, 115]) = false, ((a0 : Str) == [99, 104, 97, 110, 99, 101]) = false, ((a0 : Str) == [102, 105, 108, 101]) = false, ((a0 : Str) == [116, 97, 107, 101]) = false, ((a0 : Str) == [115, 107, 105, 112]) = false, ((a0 : Str) == [114, 97, 110, 103, 101]) = false, ((a0 : Str) == [110, 116, 104]) = false, ((a0 : Str) == [107, 101, 101, 112]) = false, ((a0 : Str) == [99, 111, 108, 117, 109, 110]) = false, ((a0 : Str) == [116, 97, 98, 108, 101]) = false, ((a0 : Str) == [119, 104, 101, 114, 101]) = false, ((a0 : Str) == [103, 114, 111, 117, 112]) = true, ((a0 : Str) == [103, 114, 111, 117, 112]) = true] := by kernel_rfl
theorem p176_e_15 (a0 : Str) : rE I176 (xAF a0) [F, F, F, F, F, F, F, F, F, F, F, F, F, F, F, Y] [] = dn (xAE 3) [((a0 : Str) == [99, 108, 111, 99, 107]) = false, ((a0 : Str) == [108, 101, 110]) = false, ((a0 : Str) == [115, 117, 109]) = false, ((a0 : Str) == [114, 111, 119, 115]) = false, ((a0 : Str) == [99, 104, 97, 110, 99, 101]) = false, ((a0 : Str) == [102, 105, 108, 101]) = false, ((a0 : Str) == [116, 97, 107, 101]) = false, ((a0 : Str) == [115, 107, 105, 112]) = false, ((a0 : Str) == [114, 97, 110, 103, 101]) = false, ((a0 : Str) == [110, 116, 104]) = false, ((a0 : Str) == [107, 101, 101, 112]) = false, ((a0 : Str) == [99, 111, 108, 117, 109, 110]) = false, ((a0 : Str) == [116, 97, 98, 108, 101]) = false, ((a0 : Str) == [119, 104, 101, 114, 101]) = false, ((a0 : Str) == [103, 114, 111, 117, 112]) = false, ((a0 : Str) == [106, 111, 105, 110]) = true] := by kernel_rfl
theorem p176_e_16 (a0 : Str) : rE I176 (xAF a0) [F, F, F, F, F, F, F, F, F, F, F, F, F, F, F, F, Y] [] = dn (xAE 4) [((a0 : Str) == [99, 108, 111, 99, 107]) = false, ((a0 : Str) == [108, 101, 110]) = false, ((a0 : Str) == [115, 117, 109]) = false, ((a0 : Str) == [114, 111, 119, 115]) = false, ((a0 : Str) == [99, 104, 97, 110, 99, 101]) = false, ((a0 : Str) == [102, 105, 108, 101]) = false, ((a0 : Str) == [116, 97, 107, 101]) = false, ((a0 : Str) == [115, 107, 105, 112]) = false, ((a0 : Str) == [114, 97, 110, 103, 101]) = false, ((a0 : Str) == [110, 116, 104]) = false, ((a0 : Str) == [107, 101, 101, 112]) = false, ((a0 : Str) == [99, 111, 108, 117, 109, 110]) = false, ((a0 : Str) == [116, 97, 98, 108, 101]) = false, ((a0 : Str) == [119, 104, 101, 114, 101]) = false, ((a0 : Str) == [103, 114, 111, 117, 112]) = false, ((a0 : Str) == [106, 111, 105, 110]) = false, ((a0 : Str) == [97, 100, 100]) = true] := by kernel_rfl
theorem p176_e_17 (a0 : Str) : rE I176 (xAF a0) [F, F, F, F, F, F, F, F, F, F, F, F, F, F, F, F, F] [] = dn (xAE (-1)) [((a0 : Str) == [99, 108, 111, 99, 107]) = false, ((a0 : Str) == [108, 101, 110]) = false, ((a0 : Str) == [115, 117, 109]) = false, ((a0 : Str) == [114, 111, 119, 115]) = false, ((a0 : Str) == [99, 104, 97, 110, 99, 101]) = false, ((a0 : Str) == [102, 105, 108, 101]) = false, ((a0 : Str) == [116, 97, 107, 101]) = false, ((a0 : Str) == [115, 107, 105, 112]) = false, ((a0 : Str) == [114, 97, 110, 103, 101]) = false, ((a0 : Str) == [110, 116, 104]) = false, ((a0 : Str) == [107, 101, 101, 112]) = false, ((a0 : Str) == [99, 111, 108, 117, 109, 110]) = false, ((a0 : Str) == [116, 97, 98, 108, 101]) = false, ((a0 : Str) == [119, 104, 101, 114, 101]) = false, ((a0 : Str) == [103, 114, 111, 117, 112]) = false, ((a0 : Str) == [106, 111, 105, 110]) = false, ((a0 : Str) == [97, 100, 100]) = false] := by kernel_rfl
theorem c176_e {N : Nat} : ∀ a0 r, xFb N a0 = some r → RE Try.f176 I176 (xAF a0) (xAE r) := fun a0 r h =>
 cE h (fun h0 h => dE h xHF (p176_e_0 a0) (oc h0 on)) fun h0 h =>
 cE h (fun h1 h => dE h xHF (p176_e_1 a0) (oc h0 (oc h1 (oc h1 on)))) fun h1 h =>
 cE h (fun h2 h => dE h xHF (p176_e_2 a0) (oc h0 (oc h1 (oc h2 (oc h2 on))))) fun h2 h =>
 cE h (fun h3 h => dE h xHF (p176_e_3 a0) (oc h0 (oc h1 (oc h2 (oc h3 (oc h3 on)))))) fun h3 h =>
 cE h (fun h4 h => dE h xHF (p176_e_4 a0) (oc h0 (oc h1 (oc h2 (oc h3 (oc h4 (oc h4 on))))))) fun h4 h =>
 cE h (fun h5 h => dE h xHF (p176_e_5 a0) (oc h0 (oc h1 (oc h2 (oc h3 (oc h4 (oc h5 on))))))) fun h5 h =>
 cE h (fun h6 h => dE h xHF (p176_e_6 a0) (oc h0 (oc h1 (oc h2 (oc h3 (oc h4 (oc h5 (oc h6 (oc h6 on))))))))) fun h6 h =>
 cE h (fun h7 h => dE h xHF (p176_e_7 a0) (oc h0 (oc h1 (oc h2 (oc h3 (oc h4 (oc h5 (oc h6 (oc h7 (oc h7 on)))))))))) fun h7 h =>
 cE h (fun h8 h => dE h xHF (p176_e_8 a0) (oc h0 (oc h1 (oc h2 (oc h3 (oc h4 (oc h5 (oc h6 (oc h7 (oc h8 (oc h8 on))))))))))) fun h8 h =>
 cE h (fun h9 h => dE h xHF (p176_e_9 a0) (oc h0 (oc h1 (oc h2 (oc h3 (oc h4 (oc h5 (oc h6 (oc h7 (oc h8 (oc h9 (oc h9 on)))))))))))) fun h9 h =>
 cE h (fun h10 h => dE h xHF (p176_e_10 a0) (oc h0 (oc h1 (oc h2 (oc h3 (oc h4 (oc h5 (oc h6 (oc h7 (oc h8 (oc h9 (oc h10 (oc h10 on))))))))))))) fun h10 h =>
 cE h (fun h11 h => dE h xHF (p176_e_11 a0) (oc h0 (oc h1 (oc h2 (oc h3 (oc h4 (oc h5 (oc h6 (oc h7 (oc h8 (oc h9 (oc h10 (oc h11 (oc h11 on)))))))))))))) fun h11 h =>
 cE h (fun h12 h => dE h xHF (p176_e_12 a0) (oc h0 (oc h1 (oc h2 (oc h3 (oc h4 (oc h5 (oc h6 (oc h7 (oc h8 (oc h9 (oc h10 (oc h11 (oc h12 on)))))))))))))) fun h12 h =>
 cE h (fun h13 h => dE h xHF (p176_e_13 a0) (oc h0 (oc h1 (oc h2 (oc h3 (oc h4 (oc h5 (oc h6 (oc h7 (oc h8 (oc h9 (oc h10 (oc h11 (oc h12 (oc h13 (oc h13 on)))))))))))))))) fun h13 h =>
 cE h (fun h14 h => dE h xHF (p176_e_14 a0) (oc h0 (oc h1 (oc h2 (oc h3 (oc h4 (oc h5 (oc h6 (oc h7 (oc h8 (oc h9 (oc h10 (oc h11 (oc h12 (oc h13 (oc h14 (oc h14 on))))))))))))))))) fun h14 h =>
 cE h (fun h15 h => dE h xHF (p176_e_15 a0) (oc h0 (oc h1 (oc h2 (oc h3 (oc h4 (oc h5 (oc h6 (oc h7 (oc h8 (oc h9 (oc h10 (oc h11 (oc h12 (oc h13 (oc h14 (oc h15 on))))))))))))))))) fun h15 h =>
 cE h (fun h16 h => dE h xHF (p176_e_16 a0) (oc h0 (oc h1 (oc h2 (oc h3 (oc h4 (oc h5 (oc h6 (oc h7 (oc h8 (oc h9 (oc h10 (oc h11 (oc h12 (oc h13 (oc h14 (oc h15 (oc h16 on)))))))))))))))))) fun h16 h =>
 dE h xHF (p176_e_17 a0) (oc h0 (oc h1 (oc h2 (oc h3 (oc h4 (oc h5 (oc h6 (oc h7 (oc h8 (oc h9 (oc h10 (oc h11 (oc h12 (oc h13 (oc h14 (oc h15 (oc h16 on)))))))))))))))))
theorem xH0 {N : Nat} {a0 : Str} {r : Int} (h : xFb N  a0 = some r) : AbC 176 (xAF a0) (xAE r) :=
 AbsCalls.of_reach xHF rfl rfl (Nat.le_of_ble_eq_true rfl) (c176_e a0 r h)
noncomputable def I142 : Info := { body := (Try.f142.body).getD .skip, nt := 15, results := [.tmp 2], keep := [0, 4, 6, 8], live := [], modes := [] }
theorem fk142 : FnOk Try.prog 142 Try.f142 I142 := ⟨Try.func142, by kernel_rfl, by kernel_rfl, by kernel_rfl, by kernel_rfl⟩
theorem p142_e_0 (a0 : Str) : rE I142 (xBS a0) [Y, Y] [] = dn (xBH true) [((a0 : Str) == [108, 101, 116]) = true, ((a0 : Str) == [108, 101, 116]) = true] := by kernel_rfl
theorem p142_e_1 (a0 : Str) : rE I142 (xBS a0) [F, Y, Y] [] = dn (xBH true) [((a0 : Str) == [108, 101, 116]) = false, ((a0 : Str) == [105, 110]) = true, ((a0 : Str) == [105, 110]) = true] := by kernel_rfl
theorem p142_e_2 (a0 : Str) : rE I142 (xBS a0) [F, F, Y, Y] [] = dn (xBH true) [((a0 : Str) == [108, 101, 116]) = false, ((a0 : Str) == [105, 110]) = false, ((a0 : Str) == [105, 102]) = true, ((a0 : Str) == [105, 102]) = true] := by kernel_rfl
theorem p142_e_3 (a0 : Str) : rE I142 (xBS a0) [F, F, F, Y, Y] [] = dn (xBH true) [((a0 : Str) == [108, 101, 116]) = false, ((a0 : Str) == [105, 110]) = false, ((a0 : Str) == [105, 102]) = false, ((a0 : Str) == [116, 104, 101, 110]) = true, ((a0 : Str) == [116, 104, 101, 110]) = true] := by kernel_rfl
theorem p142_e_4 (a0 : Str) : rE I142 (xBS a0) [F, F, F, F, Y, Y] [] = dn (xBH true) [((a0 : Str) == [108, 101, 116]) = false, ((a0 : Str) == [105, 110]) = false, ((a0 : Str) == [105, 102]) = false, ((a0 : Str) == [116, 104, 101, 110]) = false, ((a0 : Str) == [101, 108, 115, 101]) = true, ((a0 : Str) == [101, 108, 115, 101]) = true] := by kernel_rfl
theorem p142_e_5 (a0 : Str) : rE I142 (xBS a0) [F, F, F, F, F, Y, Y] [] = dn (xBH true) [((a0 : Str) == [108, 101, 116]) = false, ((a0 : Str) == [105, 110]) = false, ((a0 : Str) == [105, 102]) = false, ((a0 : Str) == [116, 104, 101, 110]) = false, ((a0 : Str) == [101, 108, 115, 101]) = false, ((a0 : Str) == [102, 111, 114]) = true, ((a0 : Str) == [102, 111, 114]) = true] := by kernel_rfl
theorem p142_e_6 (a0 : Str) : rE I142 (xBS a0) [F, F, F, F, F, F, Y] [] = dn (xBH true) [((a0 : Str) == [108, 101, 116]) = false, ((a0 : Str) == [105, 110]) = false, ((a0 : Str) == [105, 102]) = false, ((a0 : Str) == [116, 104, 101, 110]) = false, ((a0 : Str) == [101, 108, 115, 101]) = false, ((a0 : Str) == [102, 111, 114]) = false, ((a0 : Str) == [100, 111]) = true] := by kernel_rfl
theorem p142_e_7 (a0 : Str) (r1 : Int) : rE I142 (xBS a0) [F, F, F, F, F, F, F] [xAE r1] = dn (xBH (decide ((r1 : Int) ≥ 0))) [((a0 : Str) == [108, 101, 116]) = false, ((a0 : Str) == [105, 110]) = false, ((a0 : Str) == [105, 102]) = false, ((a0 : Str) == [116, 104, 101, 110]) = false, ((a0 : Str) == [101, 108, 115, 101]) = false, ((a0 : Str) == [102, 111, 114]) = false, ((a0 : Str) == [100, 111]) = false, AbC 176 (xAF a0) (xAE r1)] := by kernel_rfl
theorem c142_e {N : Nat} : ∀ a0 r, xFg N a0 = some r → RE Try.f142 I142 (xBS a0) (xBH r) := fun a0 r h =>
 cE h (fun h0 h => dE h fk142 (p142_e_0 a0) (oc h0 (oc h0 on))) fun h0 h =>
 cE h (fun h1 h => dE h fk142 (p142_e_1 a0) (oc h0 (oc h1 (oc h1 on)))) fun h1 h =>
 cE h (fun h2 h => dE h fk142 (p142_e_2 a0) (oc h0 (oc h1 (oc h2 (oc h2 on))))) fun h2 h =>
 cE h (fun h3 h => dE h fk142 (p142_e_3 a0) (oc h0 (oc h1 (oc h2 (oc h3 (oc h3 on)))))) fun h3 h =>
 cE h (fun h4 h => dE h fk142 (p142_e_4 a0) (oc h0 (oc h1 (oc h2 (oc h3 (oc h4 (oc h4 on))))))) fun h4 h =>
 cE h (fun h5 h => dE h fk142 (p142_e_5 a0) (oc h0 (oc h1 (oc h2 (oc h3 (oc h4 (oc h5 (oc h5 on)))))))) fun h5 h =>
 cE h (fun h6 h => dE h fk142 (p142_e_6 a0) (oc h0 (oc h1 (oc h2 (oc h3 (oc h4 (oc h5 (oc h6 on)))))))) fun h6 h =>
 bE h fun r1 h7 h => dE h fk142 (p142_e_7 a0 r1) (oc h0 (oc h1 (oc h2 (oc h3 (oc h4 (oc h5 (oc h6 (oc (xH0 h7) on))))))))
theorem impl_IsReserved_ok {N : Nat} {a0 : Str} {r : Bool} (h : xFg N  a0 = some r) : AbC 142 (xBS a0) (xBH r) :=
 AbsCalls.of_reach fk142 rfl rfl (Nat.le_of_ble_eq_true rfl) (c142_e a0 r h)
noncomputable def I88 : Info := { body := (Try.f88.body).getD .skip, nt := 10, results := [.tmp 2], keep := [0, 4], live := [], modes := [(1, [(2, .take, false)])] }
theorem fk88 : FnOk Try.prog 88 Try.f88 I88 := ⟨Try.func88, by kernel_rfl, by kernel_rfl, by kernel_rfl, by kernel_rfl⟩
theorem p88_e_0 (a0 : Str) (r1 r2 : Bool) : rE I88 (xDp a0) [Y] [xB4 r1, xBH r2] = dn (xCB (!r2)) [AbC 141 (xFD a0) (xB4 r1), r1 = true, AbC 142 (xBS a0) (xBH r2)] := by kernel_rfl
theorem p88_e_1 (a0 : Str) (r1 : Bool) : rE I88 (xDp a0) [F] [xB4 r1] = dn (xCB false) [AbC 141 (xFD a0) (xB4 r1), r1 = false] := by kernel_rfl
theorem c88_e {N : Nat} : ∀ a0 r, xE1 N a0 = some r → RE Try.f88 I88 (xDp a0) (xCB r) := fun a0 r h =>
 bE h fun r1 h0 h => cE h (fun h1 h => bE h fun r2 h2 h => dE h fk88 (p88_e_0 a0 r1 r2) (oc (xIh h0) (oc h1 (oc (impl_IsReserved_ok h2) on)))) fun h1 h =>
 dE h fk88 (p88_e_1 a0 r1) (oc (xIh h0) (oc h1 on))
theorem xGT {N : Nat} {a0 : Str} {r : Bool} (h : xE1 N  a0 = some r) : AbC 88 (xDp a0) (xCB r) :=
 AbsCalls.of_reach fk88 rfl rfl (Nat.le_of_ble_eq_true rfl) (c88_e a0 r h)
noncomputable def I140 : Info := { body := (Try.f140.body).getD .skip, nt := 19, results := [.tmp 4], keep := [0, 2, 8, 10, 12, 14, 16, 18, 20, 32], live := [(2, [2, 14, 16, 18])], modes := [(4, [(0, .take, false)]), (5, [(0, .take, false)]), (6, [(1, .take, false)])] }
theorem fk140 : FnOk Try.prog 140 Try.f140 I140 := ⟨Try.func140, by kernel_rfl, by kernel_rfl, by kernel_rfl, by kernel_rfl⟩
def S140_2 (x1 : Str) (x7 : List Str) (x8 x9 : Int) : St := [(2, .v false [.str x1]), (14, .v false [.sl .ro .str x7]), (16, .v false [.int .i64 x8]), (18, .v false [.int .i64 x9])]
theorem p140_2_0 (x1 : Str) (x7 : List Str) (x8 x9 : Int) : rS 2 I140 (S140_2 x1 x7 x8 x9) [Y, Y] [] = dn (xDb x9) [(decide ((x9 : Int) < x8)) = true, (0 : Int) ≤ x9 ∧ x9 < (Ln x7), (((gD x7 (tN x9) Ty.str.dflt) : Str) == x1) = true] := by kernel_rfl
theorem p140_2_1 (x1 : Str) (x7 : List Str) (x8 x9 : Int) : rS 2 I140 (S140_2 x1 x7 x8 x9) [Y, F] [] = st 2 I140 (S140_2 x1 x7 x8 (W (x9 + 1))) [(decide ((x9 : Int) < x8)) = true, (0 : Int) ≤ x9 ∧ x9 < (Ln x7), (((gD x7 (tN x9) Ty.str.dflt) : Str) == x1) = false] := by kernel_rfl
theorem p140_2_2 (x1 : Str) (x7 : List Str) (x8 x9 : Int) : rS 2 I140 (S140_2 x1 x7 x8 x9) [F] [] = dn (xDb (-1)) [(decide ((x9 : Int) < x8)) = false] := by kernel_rfl
theorem p140_e_3 (a0 : List Str) (a1 : Str) : rE I140 (xFf a0 a1) [] [] = st 2 I140 (S140_2 a1 a0 (Ln a0 : Int) 0) [] := by kernel_rfl
theorem c140_2 {N : Nat} : ∀ n x1 x7 x8 x9 r, xEg N n x1 x7 x8 x9 = some r → RS Try.f140 I140 2 (S140_2 x1 x7 x8 x9) (xDb r) := by
 intro n
 induction n with
 | zero => exact fun _ _ _ _ _ h => nE h
 | succ n ih =>
  exact fun x1 x7 x8 x9 r h =>
   cE h (fun h0 h => iE h fun h1 h => cE h (fun h2 h => dS h fk140 (p140_2_0 x1 x7 x8 x9) (oc h0 (oc h1 (oc h2 on)))) fun h2 h =>
   tS fk140 (p140_2_1 x1 x7 x8 x9) (oc h0 (oc h1 (oc h2 on))) (ih _ _ _ _ _ h)) fun h0 h =>
   dS h fk140 (p140_2_2 x1 x7 x8 x9) (oc h0 on)
theorem c140_e {N : Nat} : ∀ a0 a1 r, xG8 N a0 a1 = some r → RE Try.f140 I140 (xFf a0 a1) (xDb r) := fun a0 a1 r h =>
 tE fk140 (p140_e_3 a0 a1) on (c140_2 _ _ _ _ _ _ h)
theorem xH2 {N : Nat} {a0 : List Str} {a1 : Str} {r : Int} (h : xG8 N  a0 a1 = some r) : AbC 140 (xFf a0 a1) (xDb r) :=
 AbsCalls.of_reach fk140 rfl rfl (Nat.le_of_ble_eq_true rfl) (c140_e a0 a1 r h)
noncomputable def I189 : Info := { body := (Try.f189.body).getD .skip, nt := 18, results := [.tmp 2], keep := [0, 4, 6, 8, 10, 12, 14, 16, 32], live := [(2, [0, 10, 12, 14])], modes := [(4, [(1, .take, false), (3, .take, false)]), (6, [(1, .take, false)])] }
theorem fk189 : FnOk Try.prog 189 Try.f189 I189 := ⟨Try.func189, by kernel_rfl, by kernel_rfl, by kernel_rfl, by kernel_rfl⟩
def S189_2 (x0 x5 : List Str) (x6 x7 : Int) : St := [(0, .v false [.sl .ro .str x0]), (10, .v false [.sl .ro .str x5]), (12, .v false [.int .i64 x6]), (14, .v false [.int .i64 x7])]
theorem p189_2_0 (x0 x5 : List Str) (x6 x7 r1 : Int) : rS 2 I189 (S189_2 x0 x5 x6 x7) [Y, Y] [xDb r1] = dn (xCW false) [(decide ((x7 : Int) < x6)) = true, (0 : Int) ≤ x7 ∧ x7 < (Ln x5), AbC 140 (xFf x0 (gD x5 (tN x7) Ty.str.dflt)) (xDb r1), ((r1 : Int) != x7) = true] := by kernel_rfl
theorem p189_2_1 (x0 x5 : List Str) (x6 x7 r1 : Int) : rS 2 I189 (S189_2 x0 x5 x6 x7) [Y, F] [xDb r1] = st 2 I189 (S189_2 x0 x5 x6 (W (x7 + 1))) [(decide ((x7 : Int) < x6)) = true, (0 : Int) ≤ x7 ∧ x7 < (Ln x5), AbC 140 (xFf x0 (gD x5 (tN x7) Ty.str.dflt)) (xDb r1), ((r1 : Int) != x7) = false] := by kernel_rfl
theorem p189_2_2 (x0 x5 : List Str) (x6 x7 : Int) : rS 2 I189 (S189_2 x0 x5 x6 x7) [F] [] = dn (xCW true) [(decide ((x7 : Int) < x6)) = false] := by kernel_rfl
theorem p189_e_3 (a0 : List Str) : rE I189 (xER a0) [] [] = st 2 I189 (S189_2 a0 a0 (Ln a0 : Int) 0) [] := by kernel_rfl
theorem c189_2 {N : Nat} : ∀ n x0 x5 x6 x7 r, xCV N n x0 x5 x6 x7 = some r → RS Try.f189 I189 2 (S189_2 x0 x5 x6 x7) (xCW r) := by
 intro n
 induction n with
 | zero => exact fun _ _ _ _ _ h => nE h
 | succ n ih =>
  exact fun x0 x5 x6 x7 r h =>
   cE h (fun h0 h => iE h fun h1 h => bE h fun r1 h2 h => cE h (fun h3 h => dS h fk189 (p189_2_0 x0 x5 x6 x7 r1) (oc h0 (oc h1 (oc (xH2 h2) (oc h3 on))))) fun h3 h =>
   tS fk189 (p189_2_1 x0 x5 x6 x7 r1) (oc h0 (oc h1 (oc (xH2 h2) (oc h3 on)))) (ih _ _ _ _ _ h)) fun h0 h =>
   dS h fk189 (p189_2_2 x0 x5 x6 x7) (oc h0 on)
theorem c189_e {N : Nat} : ∀ a0 r, xFK N a0 = some r → RE Try.f189 I189 (xER a0) (xCW r) := fun a0 r h =>
 tE fk189 (p189_e_3 a0) on (c189_2 _ _ _ _ _ _ h)
theorem xIq {N : Nat} {a0 : List Str} {r : Bool} (h : xFK N  a0 = some r) : AbC 189 (xER a0) (xCW r) :=
 AbsCalls.of_reach fk189 rfl rfl (Nat.le_of_ble_eq_true rfl) (c189_e a0 r h)
noncomputable def I185 : Info := { body := (Try.f185.body).getD .skip, nt := 22, results := [.tmp 2], keep := [0, 4, 8, 10, 12, 14, 16, 26], live := [(2, [0, 10, 12, 14])], modes := [(4, [(0, .take, false)]), (6, [(1, .take, false)]), (7, [(3, .take, false)])] }
theorem fk185 : FnOk Try.prog 185 Try.f185 I185 := ⟨Try.func185, by kernel_rfl, by kernel_rfl, by kernel_rfl, by kernel_rfl⟩
def S185_2 (x0 x5 : List Str) (x6 x7 : Int) : St := [(0, .v false [.sl .ro .str x0]), (10, .v false [.sl .ro .str x5]), (12, .v false [.int .i64 x6]), (14, .v false [.int .i64 x7])]
theorem p185_2_0 (x0 x5 : List Str) (x6 x7 : Int) (r1 : Bool) : rS 2 I185 (S185_2 x0 x5 x6 x7) [Y, Y] [xCB r1] = dn (xBI false) [(decide ((x7 : Int) < x6)) = true, (0 : Int) ≤ x7 ∧ x7 < (Ln x5), AbC 88 (xDp (gD x5 (tN x7) Ty.str.dflt)) (xCB r1), (!r1) = true] := by kernel_rfl
theorem p185_2_1 (x0 x5 : List Str) (x6 x7 : Int) (r1 : Bool) : rS 2 I185 (S185_2 x0 x5 x6 x7) [Y, F] [xCB r1] = st 2 I185 (S185_2 x0 x5 x6 (W (x7 + 1))) [(decide ((x7 : Int) < x6)) = true, (0 : Int) ≤ x7 ∧ x7 < (Ln x5), AbC 88 (xDp (gD x5 (tN x7) Ty.str.dflt)) (xCB r1), (!r1) = false] := by kernel_rfl
theorem p185_2_2 (x0 x5 : List Str) (x6 x7 : Int) (r1 r2 : Bool) : rS 2 I185 (S185_2 x0 x5 x6 x7) [F, Y] [xBf r1, xCW r2] = dn (xBI r2) [(decide ((x7 : Int) < x6)) = false, AbC 101 (xB5 (Ln x0 : Int) 1 4) (xBf r1), r1 = true, AbC 189 (xER x0) (xCW r2)] := by kernel_rfl
theorem p185_2_3 (x0 x5 : List Str) (x6 x7 : Int) (r1 : Bool) : rS 2 I185 (S185_2 x0 x5 x6 x7) [F, F] [xBf r1] = dn (xBI false) [(decide ((x7 : Int) < x6)) = false, AbC 101 (xB5 (Ln x0 : Int) 1 4) (xBf r1), r1 = false] := by kernel_rfl
theorem p185_e_4 (a0 : List Str) : rE I185 (xDI a0) [] [] = st 2 I185 (S185_2 a0 a0 (Ln a0 : Int) 0) [] := by kernel_rfl
theorem c185_2 {N : Nat} : ∀ n x0 x5 x6 x7 r, xDJ N n x0 x5 x6 x7 = some r → RS Try.f185 I185 2 (S185_2 x0 x5 x6 x7) (xBI r) := by
 intro n
 induction n with
 | zero => exact fun _ _ _ _ _ h => nE h
 | succ n ih =>
  exact fun x0 x5 x6 x7 r h =>
   cE h (fun h0 h => iE h fun h1 h => bE h fun r1 h2 h => cE h (fun h3 h => dS h fk185 (p185_2_0 x0 x5 x6 x7 r1) (oc h0 (oc h1 (oc (xGT h2) (oc h3 on))))) fun h3 h =>
   tS fk185 (p185_2_1 x0 x5 x6 x7 r1) (oc h0 (oc h1 (oc (xGT h2) (oc h3 on)))) (ih _ _ _ _ _ h)) fun h0 h =>
   bE h fun r1 h1 h => cE h (fun h2 h => bE h fun r2 h3 h => dS h fk185 (p185_2_2 x0 x5 x6 x7 r1 r2) (oc h0 (oc (xC8 h1) (oc h2 (oc (xIq h3) on))))) fun h2 h =>
   dS h fk185 (p185_2_3 x0 x5 x6 x7 r1) (oc h0 (oc (xC8 h1) (oc h2 on)))
theorem c185_e {N : Nat} : ∀ a0 r, xF3 N a0 = some r → RE Try.f185 I185 (xDI a0) (xBI r) := fun a0 r h =>
 tE fk185 (p185_e_4 a0) on (c185_2 _ _ _ _ _ _ h)
theorem xF4 {N : Nat} {a0 : List Str} {r : Bool} (h : xF3 N  a0 = some r) : AbC 185 (xDI a0) (xBI r) :=
 AbsCalls.of_reach fk185 rfl rfl (Nat.le_of_ble_eq_true rfl) (c185_e a0 r h)
noncomputable def I186 : Info := { body := (Try.f186.body).getD .skip, nt := 24, results := [.tmp 4], keep := [0, 2, 4, 6, 8, 5, 7], live := [], modes := [(1, [(5, .take, false), (11, .take, false)])] }
theorem fk186 : FnOk Try.prog 186 Try.f186 I186 := ⟨Try.func186, by kernel_rfl, by kernel_rfl, by kernel_rfl, by kernel_rfl⟩
theorem p186_e_0 (a0 a1 : Org) : rE I186 (xCJ a0 a1) [Y] [] = dn (xBW true) [(decide (((Org.cell a0) : Int) < (Org.cell a1))) = true] := by kernel_rfl
theorem p186_e_1 (a0 a1 : Org) : rE I186 (xCJ a0 a1) [F, Y] [] = dn (xBW (decide (((Org.row a0) : Int) < (Org.row a1)))) [(decide (((Org.cell a0) : Int) < (Org.cell a1))) = false, (((Org.cell a0) : Int) == (Org.cell a1)) = true] := by kernel_rfl
theorem p186_e_2 (a0 a1 : Org) : rE I186 (xCJ a0 a1) [F, F] [] = dn (xBW false) [(decide (((Org.cell a0) : Int) < (Org.cell a1))) = false, (((Org.cell a0) : Int) == (Org.cell a1)) = false] := by kernel_rfl
theorem c186_e {N : Nat} : ∀ a0 a1 r, xFs N a0 a1 = some r → RE Try.f186 I186 (xCJ a0 a1) (xBW r) := fun a0 a1 r h =>
 cE h (fun h0 h => dE h fk186 (p186_e_0 a0 a1) (oc h0 on)) fun h0 h =>
 cE h (fun h1 h => dE h fk186 (p186_e_1 a0 a1) (oc h0 (oc h1 on))) fun h1 h =>
 dE h fk186 (p186_e_2 a0 a1) (oc h0 (oc h1 on))
theorem xGM {N : Nat} {a0 : Org} {a1 : Org} {r : Bool} (h : xFs N  a0 a1 = some r) : AbC 186 (xCJ a0 a1) (xBW r) :=
 AbsCalls.of_reach fk186 rfl rfl (Nat.le_of_ble_eq_true rfl) (c186_e a0 a1 r h)
noncomputable def I167 : Info := { body := (Try.f167.body).getD .skip, nt := 77, results := [.tmp 2], keep := [0, 2, 4, 8, 12, 14, 16, 36, 40, 42, 44, 46, 64, 68, 70, 72, 74, 84, 90, 92, 94, 96, 148, 3, 9, 17], live := [(4, [2, 40, 42, 44, 3]), (9, [2, 8, 40, 42, 44, 68, 70, 72, 3, 9]), (15, [2, 8, 40, 42, 44, 90, 92, 94, 3, 9])], modes := [(1, [(4, .take, false)]), (11, [(0, .take, false)]), (13, [(1, .take, false)]), (17, [(3, .take, false), (8, .take, false), (11, .take, false)]), (19, [(1, .take, false)]), (20, [(1, .take, false)])] }
theorem xIa : FnOk Try.prog 167 Try.f167 I167 := ⟨Try.func167, by kernel_rfl, by kernel_rfl, by kernel_rfl, by kernel_rfl⟩
def S167_4 (x20 : List Rowd) (x21 x22 : Int) (b1 : Val) : St := [(2, .v false [.ptr 1 0]), (40, .v false [.sl .ro .row x20]), (42, .v false [.int .i64 x21]), (44, .v false [.int .i64 x22]), (3, .v true [.int .i64 (Val.kind b1), .int .i64 (Val.n b1), .int .i64 (Val.step b1), .str (Val.text b1), .sl .ro .val (Val.list b1), .sl .ro .str (Val.columns b1), .sl .ro .row (Val.rows b1)])]
def S167_9 (x20 : List Rowd) (x21 x22 : Int) (x34 : List Int) (x35 x36 : Int) (b1 : Val) (b4 : Rowd) : St := [(2, .v false [.ptr 1 0]), (8, .v false [.ptr 4 0]), (40, .v false [.sl .ro .row x20]), (42, .v false [.int .i64 x21]), (44, .v false [.int .i64 x22]), (68, .v false [.sl .ro .int x34]), (70, .v false [.int .i64 x35]), (72, .v false [.int .i64 x36]), (3, .v true [.int .i64 (Val.kind b1), .int .i64 (Val.n b1), .int .i64 (Val.step b1), .str (Val.text b1), .sl .ro .val (Val.list b1), .sl .ro .str (Val.columns b1), .sl .ro .row (Val.rows b1)]), (9, .v true [.sl .ro .int (Rowd.cells b4), .sl .ro .org (Rowd.frm b4)])]
def xHh (x20 : List Rowd) (x21 x22 : Int) (x45 : List Org) (x46 x47 : Int) (b1 : Val) (b4 : Rowd) : St := [(2, .v false [.ptr 1 0]), (8, .v false [.ptr 4 0]), (40, .v false [.sl .ro .row x20]), (42, .v false [.int .i64 x21]), (44, .v false [.int .i64 x22]), (90, .v false [.sl .ro .org x45]), (92, .v false [.int .i64 x46]), (94, .v false [.int .i64 x47]), (3, .v true [.int .i64 (Val.kind b1), .int .i64 (Val.n b1), .int .i64 (Val.step b1), .str (Val.text b1), .sl .ro .val (Val.list b1), .sl .ro .str (Val.columns b1), .sl .ro .row (Val.rows b1)]), (9, .v true [.sl .ro .int (Rowd.cells b4), .sl .ro .org (Rowd.frm b4)])]
theorem p167_15_0 (x20 : List Rowd) (x21 x22 : Int) (x45 : List Org) (x46 x47 : Int) (b1 : Val) (b4 : Rowd) : rS 15 I167 (xHh x20 x21 x22 x45 x46 x47 b1 b4) [Y, Y, Y, Y] [] = dn (xBn false) [(decide ((x47 : Int) < x46)) = true, (0 : Int) ≤ x47 ∧ x47 < (Ln x45), (decide (((Org.cell (gD x45 (tN x47) Ty.org.dflt)) : Int) < 0)) = true, true = true, true = true] := by kernel_rfl
theorem p167_15_1 (x20 : List Rowd) (x21 x22 : Int) (x45 : List Org) (x46 x47 : Int) (b1 : Val) (b4 : Rowd) : rS 15 I167 (xHh x20 x21 x22 x45 x46 x47 b1 b4) [Y, F, Y, Y] [] = dn (xBn false) [(decide ((x47 : Int) < x46)) = true, (0 : Int) ≤ x47 ∧ x47 < (Ln x45), (decide (((Org.cell (gD x45 (tN x47) Ty.org.dflt)) : Int) < 0)) = false, (decide (((Org.row (gD x45 (tN x47) Ty.org.dflt)) : Int) < 0)) = true, true = true] := by kernel_rfl
theorem p167_15_2 (x20 : List Rowd) (x21 x22 : Int) (x45 : List Org) (x46 x47 : Int) (b1 : Val) (b4 : Rowd) (r1 : Bool) : rS 15 I167 (xHh x20 x21 x22 x45 x46 x47 b1 b4) [Y, F, F, Y, Y] [xBW r1] = dn (xBn false) [(decide ((x47 : Int) < x46)) = true, (0 : Int) ≤ x47 ∧ x47 < (Ln x45), (decide (((Org.cell (gD x45 (tN x47) Ty.org.dflt)) : Int) < 0)) = false, (decide (((Org.row (gD x45 (tN x47) Ty.org.dflt)) : Int) < 0)) = false, (decide ((x47 : Int) > 0)) = true, (0 : Int) ≤ (W (x47 - 1)) ∧ (W (x47 - 1)) < (Ln (Rowd.frm b4)), AbC 186 (xCJ (gD (Rowd.frm b4) (tN (W (x47 - 1))) Ty.org.dflt) (gD x45 (tN x47) Ty.org.dflt)) (xBW r1), (!r1) = true] := by kernel_rfl
theorem p167_15_3 (x20 : List Rowd) (x21 x22 : Int) (x45 : List Org) (x46 x47 : Int) (b1 : Val) (b4 : Rowd) (r1 : Bool) : rS 15 I167 (xHh x20 x21 x22 x45 x46 x47 b1 b4) [Y, F, F, Y, F] [xBW r1] = st 15 I167 (xHh x20 x21 x22 x45 x46 (W (x47 + 1)) b1 b4) [(decide ((x47 : Int) < x46)) = true, (0 : Int) ≤ x47 ∧ x47 < (Ln x45), (decide (((Org.cell (gD x45 (tN x47) Ty.org.dflt)) : Int) < 0)) = false, (decide (((Org.row (gD x45 (tN x47) Ty.org.dflt)) : Int) < 0)) = false, (decide ((x47 : Int) > 0)) = true, (0 : Int) ≤ (W (x47 - 1)) ∧ (W (x47 - 1)) < (Ln (Rowd.frm b4)), AbC 186 (xCJ (gD (Rowd.frm b4) (tN (W (x47 - 1))) Ty.org.dflt) (gD x45 (tN x47) Ty.org.dflt)) (xBW r1), (!r1) = false] := by kernel_rfl
theorem p167_15_4 (x20 : List Rowd) (x21 x22 : Int) (x45 : List Org) (x46 x47 : Int) (b1 : Val) (b4 : Rowd) : rS 15 I167 (xHh x20 x21 x22 x45 x46 x47 b1 b4) [Y, F, F, F, F] [] = st 15 I167 (xHh x20 x21 x22 x45 x46 (W (x47 + 1)) b1 b4) [(decide ((x47 : Int) < x46)) = true, (0 : Int) ≤ x47 ∧ x47 < (Ln x45), (decide (((Org.cell (gD x45 (tN x47) Ty.org.dflt)) : Int) < 0)) = false, (decide (((Org.row (gD x45 (tN x47) Ty.org.dflt)) : Int) < 0)) = false, (decide ((x47 : Int) > 0)) = false, false = false] := by kernel_rfl
theorem p167_15_5 (x20 : List Rowd) (x21 x22 : Int) (x45 : List Org) (x46 x47 : Int) (b1 : Val) (b4 : Rowd) : rS 15 I167 (xHh x20 x21 x22 x45 x46 x47 b1 b4) [F] [] = st 4 I167 (S167_4 x20 x21 (W (x22 + 1)) b1) [(decide ((x47 : Int) < x46)) = false] := by kernel_rfl
theorem p167_9_6 (x20 : List Rowd) (x21 x22 : Int) (x34 : List Int) (x35 x36 : Int) (b1 : Val) (b4 : Rowd) (r1 : Bool) : rS 9 I167 (S167_9 x20 x21 x22 x34 x35 x36 b1 b4) [Y, Y] [xBj r1] = dn (xBn false) [(decide ((x36 : Int) < x35)) = true, (0 : Int) ≤ x36 ∧ x36 < (Ln x34), AbC 90 (xCr (gD x34 (tN x36) Ty.int.dflt)) (xBj r1), (!r1) = true] := by kernel_rfl
theorem p167_9_7 (x20 : List Rowd) (x21 x22 : Int) (x34 : List Int) (x35 x36 : Int) (b1 : Val) (b4 : Rowd) (r1 : Bool) : rS 9 I167 (S167_9 x20 x21 x22 x34 x35 x36 b1 b4) [Y, F] [xBj r1] = st 9 I167 (S167_9 x20 x21 x22 x34 x35 (W (x36 + 1)) b1 b4) [(decide ((x36 : Int) < x35)) = true, (0 : Int) ≤ x36 ∧ x36 < (Ln x34), AbC 90 (xCr (gD x34 (tN x36) Ty.int.dflt)) (xBj r1), (!r1) = false] := by kernel_rfl
theorem p167_9_8 (x20 : List Rowd) (x21 x22 : Int) (x34 : List Int) (x35 x36 : Int) (b1 : Val) (b4 : Rowd) : rS 9 I167 (S167_9 x20 x21 x22 x34 x35 x36 b1 b4) [F] [] = st 15 I167 (xHh x20 x21 x22 (Rowd.frm b4) (Ln (Rowd.frm b4) : Int) 0 b1 b4) [(decide ((x36 : Int) < x35)) = false] := by kernel_rfl
theorem p167_4_9 (x20 : List Rowd) (x21 x22 : Int) (b1 : Val) : rS 4 I167 (S167_4 x20 x21 x22 b1) [Y, Y] [] = dn (xBn false) [(decide ((x22 : Int) < x21)) = true, (0 : Int) ≤ x22 ∧ x22 < (Ln x20), (((Ln (Rowd.cells (gD x20 (tN x22) rd)) : Int) : Int) != (Ln (Val.columns b1) : Int)) = true] := by kernel_rfl
theorem p167_4_10 (x20 : List Rowd) (x21 x22 : Int) (b1 : Val) : rS 4 I167 (S167_4 x20 x21 x22 b1) [Y, F] [] = st 9 I167 (S167_9 x20 x21 x22 (Rowd.cells (gD x20 (tN x22) rd)) (Ln (Rowd.cells (gD x20 (tN x22) rd)) : Int) 0 b1 (gD x20 (tN x22) rd)) [(decide ((x22 : Int) < x21)) = true, (0 : Int) ≤ x22 ∧ x22 < (Ln x20), (((Ln (Rowd.cells (gD x20 (tN x22) rd)) : Int) : Int) != (Ln (Val.columns b1) : Int)) = false] := by kernel_rfl
theorem p167_4_11 (x20 : List Rowd) (x21 x22 : Int) (b1 : Val) : rS 4 I167 (S167_4 x20 x21 x22 b1) [F] [] = dn (xBn true) [(decide ((x22 : Int) < x21)) = false] := by kernel_rfl
theorem p167_e_12 (a0 : Val) (r1 : Bool) : rE I167 (xEj a0) [Y, Y] [xBI r1] = dn (xBn false) [AbC 185 (xDI (Val.columns a0)) (xBI r1), (!r1) = true, true = true] := by kernel_rfl
theorem p167_e_13 (a0 : Val) (r1 : Bool) : rE I167 (xEj a0) [F, Y] [xBI r1] = dn (xBn false) [AbC 185 (xDI (Val.columns a0)) (xBI r1), (!r1) = false, (decide (((Ln (Val.rows a0) : Int) : Int) > 12)) = true] := by kernel_rfl
theorem p167_e_14 (a0 : Val) (r1 : Bool) : rE I167 (xEj a0) [F, F] [xBI r1] = st 4 I167 (S167_4 (Val.rows a0) (Ln (Val.rows a0) : Int) 0 a0) [AbC 185 (xDI (Val.columns a0)) (xBI r1), (!r1) = false, (decide (((Ln (Val.rows a0) : Int) : Int) > 12)) = false] := by kernel_rfl
theorem c167_15 {N : Nat} {k4 : (List Rowd) → Int → Int → Val → Option (Bool)} (hk4 : ∀ z0 z1 z2 z3 r, k4 z0 z1 z2 z3 = some r → RS Try.f167 I167 4 (S167_4 z0 z1 z2 z3) (xBn r)) : ∀ n x20 x21 x22 x45 x46 x47 b1 b4 r, xDk N k4 n x20 x21 x22 x45 x46 x47 b1 b4 = some r → RS Try.f167 I167 15 (xHh x20 x21 x22 x45 x46 x47 b1 b4) (xBn r) := by
 intro n
 induction n with
 | zero => exact fun _ _ _ _ _ _ _ _ _ h => nE h
 | succ n ih =>
  exact fun x20 x21 x22 x45 x46 x47 b1 b4 r h =>
   cE h (fun h0 h => iE h fun h1 h => cE h (fun h2 h => dS h xIa (p167_15_0 x20 x21 x22 x45 x46 x47 b1 b4) (oc h0 (oc h1 (oc h2 (oc rfl (oc rfl on)))))) fun h2 h =>
   cE h (fun h3 h => dS h xIa (p167_15_1 x20 x21 x22 x45 x46 x47 b1 b4) (oc h0 (oc h1 (oc h2 (oc h3 (oc rfl on)))))) fun h3 h =>
   cE h (fun h4 h => iE h fun h5 h => bE h fun r1 h6 h => cE h (fun h7 h => dS h xIa (p167_15_2 x20 x21 x22 x45 x46 x47 b1 b4 r1) (oc h0 (oc h1 (oc h2 (oc h3 (oc h4 (oc h5 (oc (xGM h6) (oc h7 on))))))))) fun h7 h =>
   tS xIa (p167_15_3 x20 x21 x22 x45 x46 x47 b1 b4 r1) (oc h0 (oc h1 (oc h2 (oc h3 (oc h4 (oc h5 (oc (xGM h6) (oc h7 on)))))))) (ih _ _ _ _ _ _ _ _ _ h)) fun h4 h =>
   tS xIa (p167_15_4 x20 x21 x22 x45 x46 x47 b1 b4) (oc h0 (oc h1 (oc h2 (oc h3 (oc h4 (oc rfl on)))))) (ih _ _ _ _ _ _ _ _ _ h)) fun h0 h =>
   tS xIa (p167_15_5 x20 x21 x22 x45 x46 x47 b1 b4) (oc h0 on) (hk4 _ _ _ _ _ h)
theorem c167_9 {N : Nat} {k4 : (List Rowd) → Int → Int → Val → Option (Bool)} (hk4 : ∀ z0 z1 z2 z3 r, k4 z0 z1 z2 z3 = some r → RS Try.f167 I167 4 (S167_4 z0 z1 z2 z3) (xBn r)) : ∀ n x20 x21 x22 x34 x35 x36 b1 b4 r, xEl N k4 n x20 x21 x22 x34 x35 x36 b1 b4 = some r → RS Try.f167 I167 9 (S167_9 x20 x21 x22 x34 x35 x36 b1 b4) (xBn r) := by
 intro n
 induction n with
 | zero => exact fun _ _ _ _ _ _ _ _ _ h => nE h
 | succ n ih =>
  exact fun x20 x21 x22 x34 x35 x36 b1 b4 r h =>
   cE h (fun h0 h => iE h fun h1 h => bE h fun r1 h2 h => cE h (fun h3 h => dS h xIa (p167_9_6 x20 x21 x22 x34 x35 x36 b1 b4 r1) (oc h0 (oc h1 (oc (xDj h2) (oc h3 on))))) fun h3 h =>
   tS xIa (p167_9_7 x20 x21 x22 x34 x35 x36 b1 b4 r1) (oc h0 (oc h1 (oc (xDj h2) (oc h3 on)))) (ih _ _ _ _ _ _ _ _ _ h)) fun h0 h =>
   tS xIa (p167_9_8 x20 x21 x22 x34 x35 x36 b1 b4) (oc h0 on) (c167_15 hk4 _ _ _ _ _ _ _ _ _ _ h)
theorem c167_4 {N : Nat} : ∀ n x20 x21 x22 b1 r, xEk N n x20 x21 x22 b1 = some r → RS Try.f167 I167 4 (S167_4 x20 x21 x22 b1) (xBn r) := by
 intro n
 induction n with
 | zero => exact fun _ _ _ _ _ h => nE h
 | succ n ih =>
  exact fun x20 x21 x22 b1 r h =>
   cE h (fun h0 h => iE h fun h1 h => cE h (fun h2 h => dS h xIa (p167_4_9 x20 x21 x22 b1) (oc h0 (oc h1 (oc h2 on)))) fun h2 h =>
   tS xIa (p167_4_10 x20 x21 x22 b1) (oc h0 (oc h1 (oc h2 on))) (c167_9 ih _ _ _ _ _ _ _ _ _ _ h)) fun h0 h =>
   dS h xIa (p167_4_11 x20 x21 x22 b1) (oc h0 on)
theorem c167_e {N : Nat} : ∀ a0 r, xFV N a0 = some r → RE Try.f167 I167 (xEj a0) (xBn r) := fun a0 r h =>
 bE h fun r1 h0 h => cE h (fun h1 h => dE h xIa (p167_e_12 a0 r1) (oc (xF4 h0) (oc h1 (oc rfl on)))) fun h1 h =>
 cE h (fun h2 h => dE h xIa (p167_e_13 a0 r1) (oc (xF4 h0) (oc h1 (oc h2 on)))) fun h2 h =>
 tE xIa (p167_e_14 a0 r1) (oc (xF4 h0) (oc h1 (oc h2 on))) (c167_4 _ _ _ _ _ _ h)
theorem xH3 {N : Nat} {a0 : Val} {r : Bool} (h : xFV N  a0 = some r) : AbC 167 (xEj a0) (xBn r) :=
 AbsCalls.of_reach xIa rfl rfl (Nat.le_of_ble_eq_true rfl) (c167_e a0 r h)
def G168 (q : Val → Option (Int)) : Prop := ∀ a0 r, q a0 = some r → AbC 168 (xEf a0) (xCN r)
noncomputable def I168 : Info := { body := (Try.f168.body).getD .skip, nt := 20, results := [.tmp 2], keep := [0, 2, 4, 6, 10, 14, 16, 18, 20, 3, 11], live := [(3, [6, 14, 16, 18])], modes := [(6, [(1, .take, false)])] }
theorem fk168 : FnOk Try.prog 168 Try.f168 I168 := ⟨Try.func168, by kernel_rfl, by kernel_rfl, by kernel_rfl, by kernel_rfl⟩
def S168_3 (x3 : Int) (x7 : List Val) (x8 x9 : Int) : St := [(6, .v false [.int .i64 x3]), (14, .v false [.sl .ro .val x7]), (16, .v false [.int .i64 x8]), (18, .v false [.int .i64 x9])]
theorem p168_3_0 (x3 : Int) (x7 : List Val) (x8 x9 r1 : Int) : rS 3 I168 (S168_3 x3 x7 x8 x9) [Y] [xCN r1] = st 3 I168 (S168_3 (if (r1 : Int) > x3 then r1 else x3) x7 x8 (W (x9 + 1))) [(decide ((x9 : Int) < x8)) = true, (0 : Int) ≤ x9 ∧ x9 < (Ln x7), AbC 168 (xEf (gD x7 (tN x9) vd)) (xCN r1)] := by kernel_rfl
theorem p168_3_1 (x3 : Int) (x7 : List Val) (x8 x9 : Int) : rS 3 I168 (S168_3 x3 x7 x8 x9) [F] [] = dn (xCN (W (x3 + 1))) [(decide ((x9 : Int) < x8)) = false] := by kernel_rfl
theorem p168_e_2 (a0 : Val) : rE I168 (xEf a0) [] [] = st 3 I168 (S168_3 0 (Val.list a0) (Ln (Val.list a0) : Int) 0) [] := by kernel_rfl
theorem c168_3 {N : Nat} {q0 : Val → Option (Int)} (g0 : G168 q0) : ∀ n x3 x7 x8 x9 r, xEI N q0 n x3 x7 x8 x9 = some r → RS Try.f168 I168 3 (S168_3 x3 x7 x8 x9) (xCN r) := by
 intro n
 induction n with
 | zero => exact fun _ _ _ _ _ h => nE h
 | succ n ih =>
  exact fun x3 x7 x8 x9 r h =>
   cE h (fun h0 h => iE h fun h1 h => bE h fun r1 h2 h => tS fk168 (p168_3_0 x3 x7 x8 x9 r1) (oc h0 (oc h1 (oc (g0 _ _ h2) on))) (ih _ _ _ _ _ h)) fun h0 h =>
   dS h fk168 (p168_3_1 x3 x7 x8 x9) (oc h0 on)
theorem c168_e {N : Nat} {q0 : Val → Option (Int)} (g0 : G168 q0) : ∀ a0 r, xGe N q0 a0 = some r → RE Try.f168 I168 (xEf a0) (xCN r) := fun a0 r h =>
 tE fk168 (p168_e_2 a0) on (c168_3 g0 _ _ _ _ _ _ h)
theorem xIb {N : Nat} {q0 : Val → Option (Int)} (g0 : G168 q0) {a0 : Val} {r : Int} (h : xGe N q0 a0 = some r) : AbC 168 (xEf a0) (xCN r) :=
 AbsCalls.of_reach fk168 rfl rfl (Nat.le_of_ble_eq_true rfl) (c168_e g0 a0 r h)
theorem xGS {N : Nat} : ∀ d, G168 (xDM N d)
 | 0 => fun _ _ h => nE h
 | d + 1 => fun _ _ h => xIb (N := N) (xGS d) h
theorem impl_DepthOf_ok {N : Nat} {a0 : Val} {r : Int} (h : xGD N a0 = some r) : AbC 168 (xEf a0) (xCN r) := xGS N _ r h
def G129 (q : Val → Option (Bool)) : Prop := ∀ a0 r, q a0 = some r → AbC 129 (xAc a0) (xAb r)
noncomputable def I129 : Info := { body := (Try.f129.body).getD .skip, nt := 185, results := [.tmp 2], keep := [0, 2, 4, 6, 10, 46, 48, 84, 120, 156, 192, 242, 248, 250, 252, 254, 294, 3, 11], live := [(15, [2, 248, 250, 252, 3])], modes := [(1, [(4, .take, false), (10, .take, false)]), (4, [(1, .take, false), (6, .take, false), (11, .take, false)]), (6, [(1, .take, false), (6, .take, false), (11, .take, false)]), (8, [(1, .take, false), (6, .take, false), (11, .take, false)]), (10, [(1, .take, false), (6, .take, false), (11, .take, false)]), (12, [(3, .take, false), (8, .take, false), (13, .take, false), (19, .take, false)]), (17, [(3, .take, false), (8, .take, false), (13, .take, false)]), (19, [(1, .take, false)]), (20, [(3, .take, false), (8, .take, false), (13, .take, false), (19, .take, false), (25, .take, false), (31, .take, false)])] }
theorem xDm : FnOk Try.prog 129 Try.f129 I129 := ⟨Try.func129, by kernel_rfl, by kernel_rfl, by kernel_rfl, by kernel_rfl⟩
def xEA (x124 : List Val) (x125 x126 : Int) (b1 : Val) : St := [(2, .v false [.ptr 1 0]), (248, .v false [.sl .ro .val x124]), (250, .v false [.int .i64 x125]), (252, .v false [.int .i64 x126]), (3, .v true [.int .i64 (Val.kind b1), .int .i64 (Val.n b1), .int .i64 (Val.step b1), .str (Val.text b1), .sl .ro .val (Val.list b1), .sl .ro .str (Val.columns b1), .sl .ro .row (Val.rows b1)])]
theorem p129_15_0 (x124 : List Val) (x125 x126 : Int) (b1 : Val) : rS 15 I129 (xEA x124 x125 x126 b1) [Y, Y, Y, Y, Y] [] = dn (xAb false) [(decide ((x126 : Int) < x125)) = true, (0 : Int) ≤ x126 ∧ x126 < (Ln x124), (((Val.kind (gD x124 (tN x126) vd)) : Int) != 1) = true, (((Val.kind (gD x124 (tN x126) vd)) : Int) != 2) = true, (((Val.kind (gD x124 (tN x126) vd)) : Int) != 3) = true, true = true] := by kernel_rfl
theorem p129_15_1 (x124 : List Val) (x125 x126 : Int) (b1 : Val) (r1 : Bool) : rS 15 I129 (xEA x124 x125 x126 b1) [Y, Y, Y, F, Y] [xAb r1] = dn (xAb false) [(decide ((x126 : Int) < x125)) = true, (0 : Int) ≤ x126 ∧ x126 < (Ln x124), (((Val.kind (gD x124 (tN x126) vd)) : Int) != 1) = true, (((Val.kind (gD x124 (tN x126) vd)) : Int) != 2) = true, (((Val.kind (gD x124 (tN x126) vd)) : Int) != 3) = false, AbC 129 (xAc (gD x124 (tN x126) vd)) (xAb r1), (!r1) = true] := by kernel_rfl
theorem p129_15_2 (x124 : List Val) (x125 x126 : Int) (b1 : Val) (r1 : Bool) : rS 15 I129 (xEA x124 x125 x126 b1) [Y, Y, Y, F, F] [xAb r1] = st 15 I129 (xEA x124 x125 (W (x126 + 1)) b1) [(decide ((x126 : Int) < x125)) = true, (0 : Int) ≤ x126 ∧ x126 < (Ln x124), (((Val.kind (gD x124 (tN x126) vd)) : Int) != 1) = true, (((Val.kind (gD x124 (tN x126) vd)) : Int) != 2) = true, (((Val.kind (gD x124 (tN x126) vd)) : Int) != 3) = false, AbC 129 (xAc (gD x124 (tN x126) vd)) (xAb r1), (!r1) = false] := by kernel_rfl
theorem p129_15_3 (x124 : List Val) (x125 x126 : Int) (b1 : Val) (r1 : Bool) : rS 15 I129 (xEA x124 x125 x126 b1) [Y, Y, F, F, Y] [xAb r1] = dn (xAb false) [(decide ((x126 : Int) < x125)) = true, (0 : Int) ≤ x126 ∧ x126 < (Ln x124), (((Val.kind (gD x124 (tN x126) vd)) : Int) != 1) = true, (((Val.kind (gD x124 (tN x126) vd)) : Int) != 2) = false, false = false, AbC 129 (xAc (gD x124 (tN x126) vd)) (xAb r1), (!r1) = true] := by kernel_rfl
theorem p129_15_4 (x124 : List Val) (x125 x126 : Int) (b1 : Val) (r1 : Bool) : rS 15 I129 (xEA x124 x125 x126 b1) [Y, Y, F, F, F] [xAb r1] = st 15 I129 (xEA x124 x125 (W (x126 + 1)) b1) [(decide ((x126 : Int) < x125)) = true, (0 : Int) ≤ x126 ∧ x126 < (Ln x124), (((Val.kind (gD x124 (tN x126) vd)) : Int) != 1) = true, (((Val.kind (gD x124 (tN x126) vd)) : Int) != 2) = false, false = false, AbC 129 (xAc (gD x124 (tN x126) vd)) (xAb r1), (!r1) = false] := by kernel_rfl
theorem p129_15_5 (x124 : List Val) (x125 x126 : Int) (b1 : Val) (r1 : Bool) : rS 15 I129 (xEA x124 x125 x126 b1) [Y, F, F, F, Y] [xAb r1] = dn (xAb false) [(decide ((x126 : Int) < x125)) = true, (0 : Int) ≤ x126 ∧ x126 < (Ln x124), (((Val.kind (gD x124 (tN x126) vd)) : Int) != 1) = false, false = false, false = false, AbC 129 (xAc (gD x124 (tN x126) vd)) (xAb r1), (!r1) = true] := by kernel_rfl
theorem p129_15_6 (x124 : List Val) (x125 x126 : Int) (b1 : Val) (r1 : Bool) : rS 15 I129 (xEA x124 x125 x126 b1) [Y, F, F, F, F] [xAb r1] = st 15 I129 (xEA x124 x125 (W (x126 + 1)) b1) [(decide ((x126 : Int) < x125)) = true, (0 : Int) ≤ x126 ∧ x126 < (Ln x124), (((Val.kind (gD x124 (tN x126) vd)) : Int) != 1) = false, false = false, false = false, AbC 129 (xAc (gD x124 (tN x126) vd)) (xAb r1), (!r1) = false] := by kernel_rfl
theorem p129_15_7 (x124 : List Val) (x125 x126 : Int) (b1 : Val) (r1 : Int) : rS 15 I129 (xEA x124 x125 x126 b1) [F, Y, Y, Y, Y, Y, Y] [xCN r1] = dn (xAb (decide ((r1 : Int) ≤ 3))) [(decide ((x126 : Int) < x125)) = false, (((Val.n b1) : Int) == 0) = true, (((Val.step b1) : Int) == 0) = true, (((Val.text b1) : Str) == []) = true, (((Ln (Val.columns b1) : Int) : Int) == 0) = true, (((Ln (Val.rows b1) : Int) : Int) == 0) = true, (decide (((Ln (Val.list b1) : Int) : Int) ≤ 8)) = true, AbC 168 (xEf b1) (xCN r1)] := by kernel_rfl
theorem p129_15_8 (x124 : List Val) (x125 x126 : Int) (b1 : Val) : rS 15 I129 (xEA x124 x125 x126 b1) [F, Y, Y, Y, Y, Y, F] [] = dn (xAb false) [(decide ((x126 : Int) < x125)) = false, (((Val.n b1) : Int) == 0) = true, (((Val.step b1) : Int) == 0) = true, (((Val.text b1) : Str) == []) = true, (((Ln (Val.columns b1) : Int) : Int) == 0) = true, (((Ln (Val.rows b1) : Int) : Int) == 0) = true, (decide (((Ln (Val.list b1) : Int) : Int) ≤ 8)) = false] := by kernel_rfl
theorem p129_15_9 (x124 : List Val) (x125 x126 : Int) (b1 : Val) : rS 15 I129 (xEA x124 x125 x126 b1) [F, Y, Y, Y, Y, F, F] [] = dn (xAb false) [(decide ((x126 : Int) < x125)) = false, (((Val.n b1) : Int) == 0) = true, (((Val.step b1) : Int) == 0) = true, (((Val.text b1) : Str) == []) = true, (((Ln (Val.columns b1) : Int) : Int) == 0) = true, (((Ln (Val.rows b1) : Int) : Int) == 0) = false, false = false] := by kernel_rfl
theorem p129_15_10 (x124 : List Val) (x125 x126 : Int) (b1 : Val) : rS 15 I129 (xEA x124 x125 x126 b1) [F, Y, Y, Y, F, F, F] [] = dn (xAb false) [(decide ((x126 : Int) < x125)) = false, (((Val.n b1) : Int) == 0) = true, (((Val.step b1) : Int) == 0) = true, (((Val.text b1) : Str) == []) = true, (((Ln (Val.columns b1) : Int) : Int) == 0) = false, false = false, false = false] := by kernel_rfl
theorem p129_15_11 (x124 : List Val) (x125 x126 : Int) (b1 : Val) : rS 15 I129 (xEA x124 x125 x126 b1) [F, Y, Y, F, F, F, F] [] = dn (xAb false) [(decide ((x126 : Int) < x125)) = false, (((Val.n b1) : Int) == 0) = true, (((Val.step b1) : Int) == 0) = true, (((Val.text b1) : Str) == []) = false, false = false, false = false, false = false] := by kernel_rfl
theorem p129_15_12 (x124 : List Val) (x125 x126 : Int) (b1 : Val) : rS 15 I129 (xEA x124 x125 x126 b1) [F, Y, F, F, F, F, F] [] = dn (xAb false) [(decide ((x126 : Int) < x125)) = false, (((Val.n b1) : Int) == 0) = true, (((Val.step b1) : Int) == 0) = false, false = false, false = false, false = false, false = false] := by kernel_rfl
theorem p129_15_13 (x124 : List Val) (x125 x126 : Int) (b1 : Val) : rS 15 I129 (xEA x124 x125 x126 b1) [F, F, F, F, F, F, F] [] = dn (xAb false) [(decide ((x126 : Int) < x125)) = false, (((Val.n b1) : Int) == 0) = false, false = false, false = false, false = false, false = false, false = false] := by kernel_rfl
theorem p129_e_14 (a0 : Val) (r1 : Bool) : rE I129 (xAc a0) [Y, Y, Y, Y, Y, Y] [xBj r1] = dn (xAb r1) [(((Ln (Val.list a0) : Int) : Int) == 0) = true, (((Ln (Val.columns a0) : Int) : Int) == 0) = true, (((Val.kind a0) : Int) == 1) = true, (((Ln (Val.rows a0) : Int) : Int) == 0) = true, (((Val.step a0) : Int) == 0) = true, (((Val.text a0) : Str) == []) = true, AbC 90 (xCr (Val.n a0)) (xBj r1)] := by kernel_rfl
theorem p129_e_15 (a0 : Val) : rE I129 (xAc a0) [Y, Y, Y, Y, Y, F] [] = dn (xAb false) [(((Ln (Val.list a0) : Int) : Int) == 0) = true, (((Ln (Val.columns a0) : Int) : Int) == 0) = true, (((Val.kind a0) : Int) == 1) = true, (((Ln (Val.rows a0) : Int) : Int) == 0) = true, (((Val.step a0) : Int) == 0) = true, (((Val.text a0) : Str) == []) = false] := by kernel_rfl
theorem p129_e_16 (a0 : Val) : rE I129 (xAc a0) [Y, Y, Y, Y, F, F] [] = dn (xAb false) [(((Ln (Val.list a0) : Int) : Int) == 0) = true, (((Ln (Val.columns a0) : Int) : Int) == 0) = true, (((Val.kind a0) : Int) == 1) = true, (((Ln (Val.rows a0) : Int) : Int) == 0) = true, (((Val.step a0) : Int) == 0) = false, false = false] := by kernel_rfl
theorem p129_e_17 (a0 : Val) : rE I129 (xAc a0) [Y, Y, Y, F, F, F] [] = dn (xAb false) [(((Ln (Val.list a0) : Int) : Int) == 0) = true, (((Ln (Val.columns a0) : Int) : Int) == 0) = true, (((Val.kind a0) : Int) == 1) = true, (((Ln (Val.rows a0) : Int) : Int) == 0) = false, false = false, false = false] := by kernel_rfl
theorem p129_e_18 (a0 : Val) (r1 : Bool) : rE I129 (xAc a0) [Y, Y, F, Y, Y, Y, Y] [xCf r1] = dn (xAb r1) [(((Ln (Val.list a0) : Int) : Int) == 0) = true, (((Ln (Val.columns a0) : Int) : Int) == 0) = true, (((Val.kind a0) : Int) == 1) = false, (((Val.kind a0) : Int) == 2) = true, (((Ln (Val.rows a0) : Int) : Int) == 0) = true, (((Val.n a0) : Int) == 0) = true, (((Val.step a0) : Int) == 0) = true, AbC 166 (xES (Val.text a0)) (xCf r1)] := by kernel_rfl
theorem p129_e_19 (a0 : Val) : rE I129 (xAc a0) [Y, Y, F, Y, Y, Y, F] [] = dn (xAb false) [(((Ln (Val.list a0) : Int) : Int) == 0) = true, (((Ln (Val.columns a0) : Int) : Int) == 0) = true, (((Val.kind a0) : Int) == 1) = false, (((Val.kind a0) : Int) == 2) = true, (((Ln (Val.rows a0) : Int) : Int) == 0) = true, (((Val.n a0) : Int) == 0) = true, (((Val.step a0) : Int) == 0) = false] := by kernel_rfl
theorem p129_e_20 (a0 : Val) : rE I129 (xAc a0) [Y, Y, F, Y, Y, F, F] [] = dn (xAb false) [(((Ln (Val.list a0) : Int) : Int) == 0) = true, (((Ln (Val.columns a0) : Int) : Int) == 0) = true, (((Val.kind a0) : Int) == 1) = false, (((Val.kind a0) : Int) == 2) = true, (((Ln (Val.rows a0) : Int) : Int) == 0) = true, (((Val.n a0) : Int) == 0) = false, false = false] := by kernel_rfl
theorem p129_e_21 (a0 : Val) : rE I129 (xAc a0) [Y, Y, F, Y, F, F, F] [] = dn (xAb false) [(((Ln (Val.list a0) : Int) : Int) == 0) = true, (((Ln (Val.columns a0) : Int) : Int) == 0) = true, (((Val.kind a0) : Int) == 1) = false, (((Val.kind a0) : Int) == 2) = true, (((Ln (Val.rows a0) : Int) : Int) == 0) = false, false = false, false = false] := by kernel_rfl
theorem p129_e_22 (a0 : Val) (r1 r2 : Bool) : rE I129 (xAc a0) [Y, Y, F, F, Y, Y, Y, Y] [xBj r1, xBj r2] = dn (xAb r2) [(((Ln (Val.list a0) : Int) : Int) == 0) = true, (((Ln (Val.columns a0) : Int) : Int) == 0) = true, (((Val.kind a0) : Int) == 1) = false, (((Val.kind a0) : Int) == 2) = false, (((Val.kind a0) : Int) == 4) = true, (((Ln (Val.rows a0) : Int) : Int) == 0) = true, (((Val.text a0) : Str) == []) = true, AbC 90 (xCr (Val.n a0)) (xBj r1), r1 = true, AbC 90 (xCr (Val.step a0)) (xBj r2)] := by kernel_rfl
theorem p129_e_23 (a0 : Val) (r1 : Bool) : rE I129 (xAc a0) [Y, Y, F, F, Y, Y, Y, F] [xBj r1] = dn (xAb false) [(((Ln (Val.list a0) : Int) : Int) == 0) = true, (((Ln (Val.columns a0) : Int) : Int) == 0) = true, (((Val.kind a0) : Int) == 1) = false, (((Val.kind a0) : Int) == 2) = false, (((Val.kind a0) : Int) == 4) = true, (((Ln (Val.rows a0) : Int) : Int) == 0) = true, (((Val.text a0) : Str) == []) = true, AbC 90 (xCr (Val.n a0)) (xBj r1), r1 = false] := by kernel_rfl
theorem p129_e_24 (a0 : Val) : rE I129 (xAc a0) [Y, Y, F, F, Y, Y, F, F] [] = dn (xAb false) [(((Ln (Val.list a0) : Int) : Int) == 0) = true, (((Ln (Val.columns a0) : Int) : Int) == 0) = true, (((Val.kind a0) : Int) == 1) = false, (((Val.kind a0) : Int) == 2) = false, (((Val.kind a0) : Int) == 4) = true, (((Ln (Val.rows a0) : Int) : Int) == 0) = true, (((Val.text a0) : Str) == []) = false, false = false] := by kernel_rfl
theorem p129_e_25 (a0 : Val) : rE I129 (xAc a0) [Y, Y, F, F, Y, F, F, F] [] = dn (xAb false) [(((Ln (Val.list a0) : Int) : Int) == 0) = true, (((Ln (Val.columns a0) : Int) : Int) == 0) = true, (((Val.kind a0) : Int) == 1) = false, (((Val.kind a0) : Int) == 2) = false, (((Val.kind a0) : Int) == 4) = true, (((Ln (Val.rows a0) : Int) : Int) == 0) = false, false = false, false = false] := by kernel_rfl
theorem p129_e_26 (a0 : Val) (r1 : Bool) : rE I129 (xAc a0) [Y, Y, F, F, F, Y, Y, Y, Y] [xBf r1] = dn (xAb r1) [(((Ln (Val.list a0) : Int) : Int) == 0) = true, (((Ln (Val.columns a0) : Int) : Int) == 0) = true, (((Val.kind a0) : Int) == 1) = false, (((Val.kind a0) : Int) == 2) = false, (((Val.kind a0) : Int) == 4) = false, (((Val.kind a0) : Int) == 6) = true, (((Ln (Val.rows a0) : Int) : Int) == 0) = true, (((Val.step a0) : Int) == 0) = true, (((Val.text a0) : Str) == []) = true, AbC 101 (xB5 (Val.n a0) 1 8) (xBf r1)] := by kernel_rfl
theorem p129_e_27 (a0 : Val) : rE I129 (xAc a0) [Y, Y, F, F, F, Y, Y, Y, F] [] = dn (xAb false) [(((Ln (Val.list a0) : Int) : Int) == 0) = true, (((Ln (Val.columns a0) : Int) : Int) == 0) = true, (((Val.kind a0) : Int) == 1) = false, (((Val.kind a0) : Int) == 2) = false, (((Val.kind a0) : Int) == 4) = false, (((Val.kind a0) : Int) == 6) = true, (((Ln (Val.rows a0) : Int) : Int) == 0) = true, (((Val.step a0) : Int) == 0) = true, (((Val.text a0) : Str) == []) = false] := by kernel_rfl
theorem p129_e_28 (a0 : Val) : rE I129 (xAc a0) [Y, Y, F, F, F, Y, Y, F, F] [] = dn (xAb false) [(((Ln (Val.list a0) : Int) : Int) == 0) = true, (((Ln (Val.columns a0) : Int) : Int) == 0) = true, (((Val.kind a0) : Int) == 1) = false, (((Val.kind a0) : Int) == 2) = false, (((Val.kind a0) : Int) == 4) = false, (((Val.kind a0) : Int) == 6) = true, (((Ln (Val.rows a0) : Int) : Int) == 0) = true, (((Val.step a0) : Int) == 0) = false, false = false] := by kernel_rfl
theorem p129_e_29 (a0 : Val) : rE I129 (xAc a0) [Y, Y, F, F, F, Y, F, F, F] [] = dn (xAb false) [(((Ln (Val.list a0) : Int) : Int) == 0) = true, (((Ln (Val.columns a0) : Int) : Int) == 0) = true, (((Val.kind a0) : Int) == 1) = false, (((Val.kind a0) : Int) == 2) = false, (((Val.kind a0) : Int) == 4) = false, (((Val.kind a0) : Int) == 6) = true, (((Ln (Val.rows a0) : Int) : Int) == 0) = false, false = false, false = false] := by kernel_rfl
theorem p129_e_30 (a0 : Val) (r1 : Bool) : rE I129 (xAc a0) [Y, Y, F, F, F, F, Y, Y, Y, Y, Y] [xBn r1] = dn (xAb r1) [(((Ln (Val.list a0) : Int) : Int) == 0) = true, (((Ln (Val.columns a0) : Int) : Int) == 0) = true, (((Val.kind a0) : Int) == 1) = false, (((Val.kind a0) : Int) == 2) = false, (((Val.kind a0) : Int) == 4) = false, (((Val.kind a0) : Int) == 6) = false, (((Val.kind a0) : Int) == 5) = true, (((Val.n a0) : Int) == 0) = true, (((Val.step a0) : Int) == 0) = true, (((Val.text a0) : Str) == []) = true, (((Ln (Val.list a0) : Int) : Int) == 0) = true, AbC 167 (xEj a0) (xBn r1)] := by kernel_rfl
theorem p129_e_31 (a0 : Val) : rE I129 (xAc a0) [Y, Y, F, F, F, F, Y, Y, Y, F, F] [] = dn (xAb false) [(((Ln (Val.list a0) : Int) : Int) == 0) = true, (((Ln (Val.columns a0) : Int) : Int) == 0) = true, (((Val.kind a0) : Int) == 1) = false, (((Val.kind a0) : Int) == 2) = false, (((Val.kind a0) : Int) == 4) = false, (((Val.kind a0) : Int) == 6) = false, (((Val.kind a0) : Int) == 5) = true, (((Val.n a0) : Int) == 0) = true, (((Val.step a0) : Int) == 0) = true, (((Val.text a0) : Str) == []) = false, false = false] := by kernel_rfl
theorem p129_e_32 (a0 : Val) : rE I129 (xAc a0) [Y, Y, F, F, F, F, Y, Y, F, F, F] [] = dn (xAb false) [(((Ln (Val.list a0) : Int) : Int) == 0) = true, (((Ln (Val.columns a0) : Int) : Int) == 0) = true, (((Val.kind a0) : Int) == 1) = false, (((Val.kind a0) : Int) == 2) = false, (((Val.kind a0) : Int) == 4) = false, (((Val.kind a0) : Int) == 6) = false, (((Val.kind a0) : Int) == 5) = true, (((Val.n a0) : Int) == 0) = true, (((Val.step a0) : Int) == 0) = false, false = false, false = false] := by kernel_rfl
theorem p129_e_33 (a0 : Val) : rE I129 (xAc a0) [Y, Y, F, F, F, F, Y, F, F, F, F] [] = dn (xAb false) [(((Ln (Val.list a0) : Int) : Int) == 0) = true, (((Ln (Val.columns a0) : Int) : Int) == 0) = true, (((Val.kind a0) : Int) == 1) = false, (((Val.kind a0) : Int) == 2) = false, (((Val.kind a0) : Int) == 4) = false, (((Val.kind a0) : Int) == 6) = false, (((Val.kind a0) : Int) == 5) = true, (((Val.n a0) : Int) == 0) = false, false = false, false = false, false = false] := by kernel_rfl
theorem p129_e_34 (a0 : Val) : rE I129 (xAc a0) [Y, Y, F, F, F, F, F, Y] [] = st 15 I129 (xEA (Val.list a0) (Ln (Val.list a0) : Int) 0 a0) [(((Ln (Val.list a0) : Int) : Int) == 0) = true, (((Ln (Val.columns a0) : Int) : Int) == 0) = true, (((Val.kind a0) : Int) == 1) = false, (((Val.kind a0) : Int) == 2) = false, (((Val.kind a0) : Int) == 4) = false, (((Val.kind a0) : Int) == 6) = false, (((Val.kind a0) : Int) == 5) = false, (((Val.kind a0) : Int) == 3) = true] := by kernel_rfl
theorem p129_e_35 (a0 : Val) : rE I129 (xAc a0) [Y, Y, F, F, F, F, F, F] [] = dn (xAb false) [(((Ln (Val.list a0) : Int) : Int) == 0) = true, (((Ln (Val.columns a0) : Int) : Int) == 0) = true, (((Val.kind a0) : Int) == 1) = false, (((Val.kind a0) : Int) == 2) = false, (((Val.kind a0) : Int) == 4) = false, (((Val.kind a0) : Int) == 6) = false, (((Val.kind a0) : Int) == 5) = false, (((Val.kind a0) : Int) == 3) = false] := by kernel_rfl
theorem p129_e_36 (a0 : Val) : rE I129 (xAc a0) [Y, F, Y, F, F, F] [] = dn (xAb false) [(((Ln (Val.list a0) : Int) : Int) == 0) = true, (((Ln (Val.columns a0) : Int) : Int) == 0) = false, (((Val.kind a0) : Int) == 1) = true, false = false, false = false, false = false] := by kernel_rfl
theorem p129_e_37 (a0 : Val) : rE I129 (xAc a0) [Y, F, F, Y, F, F, F] [] = dn (xAb false) [(((Ln (Val.list a0) : Int) : Int) == 0) = true, (((Ln (Val.columns a0) : Int) : Int) == 0) = false, (((Val.kind a0) : Int) == 1) = false, (((Val.kind a0) : Int) == 2) = true, false = false, false = false, false = false] := by kernel_rfl
theorem p129_e_38 (a0 : Val) : rE I129 (xAc a0) [Y, F, F, F, Y, F, F, F] [] = dn (xAb false) [(((Ln (Val.list a0) : Int) : Int) == 0) = true, (((Ln (Val.columns a0) : Int) : Int) == 0) = false, (((Val.kind a0) : Int) == 1) = false, (((Val.kind a0) : Int) == 2) = false, (((Val.kind a0) : Int) == 4) = true, false = false, false = false, false = false] := by kernel_rfl
theorem p129_e_39 (a0 : Val) : rE I129 (xAc a0) [Y, F, F, F, F, Y, F, F, F] [] = dn (xAb false) [(((Ln (Val.list a0) : Int) : Int) == 0) = true, (((Ln (Val.columns a0) : Int) : Int) == 0) = false, (((Val.kind a0) : Int) == 1) = false, (((Val.kind a0) : Int) == 2) = false, (((Val.kind a0) : Int) == 4) = false, (((Val.kind a0) : Int) == 6) = true, false = false, false = false, false = false] := by kernel_rfl
theorem p129_e_40 (a0 : Val) (r1 : Bool) : rE I129 (xAc a0) [Y, F, F, F, F, F, Y, Y, Y, Y, Y] [xBn r1] = dn (xAb r1) [(((Ln (Val.list a0) : Int) : Int) == 0) = true, (((Ln (Val.columns a0) : Int) : Int) == 0) = false, (((Val.kind a0) : Int) == 1) = false, (((Val.kind a0) : Int) == 2) = false, (((Val.kind a0) : Int) == 4) = false, (((Val.kind a0) : Int) == 6) = false, (((Val.kind a0) : Int) == 5) = true, (((Val.n a0) : Int) == 0) = true, (((Val.step a0) : Int) == 0) = true, (((Val.text a0) : Str) == []) = true, (((Ln (Val.list a0) : Int) : Int) == 0) = true, AbC 167 (xEj a0) (xBn r1)] := by kernel_rfl
theorem p129_e_41 (a0 : Val) : rE I129 (xAc a0) [Y, F, F, F, F, F, Y, Y, Y, F, F] [] = dn (xAb false) [(((Ln (Val.list a0) : Int) : Int) == 0) = true, (((Ln (Val.columns a0) : Int) : Int) == 0) = false, (((Val.kind a0) : Int) == 1) = false, (((Val.kind a0) : Int) == 2) = false, (((Val.kind a0) : Int) == 4) = false, (((Val.kind a0) : Int) == 6) = false, (((Val.kind a0) : Int) == 5) = true, (((Val.n a0) : Int) == 0) = true, (((Val.step a0) : Int) == 0) = true, (((Val.text a0) : Str) == []) = false, false = false] := by kernel_rfl
theorem p129_e_42 (a0 : Val) : rE I129 (xAc a0) [Y, F, F, F, F, F, Y, Y, F, F, F] [] = dn (xAb false) [(((Ln (Val.list a0) : Int) : Int) == 0) = true, (((Ln (Val.columns a0) : Int) : Int) == 0) = false, (((Val.kind a0) : Int) == 1) = false, (((Val.kind a0) : Int) == 2) = false, (((Val.kind a0) : Int) == 4) = false, (((Val.kind a0) : Int) == 6) = false, (((Val.kind a0) : Int) == 5) = true, (((Val.n a0) : Int) == 0) = true, (((Val.step a0) : Int) == 0) = false, false = false, false = false] := by kernel_rfl
theorem p129_e_43 (a0 : Val) : rE I129 (xAc a0) [Y, F, F, F, F, F, Y, F, F, F, F] [] = dn (xAb false) [(((Ln (Val.list a0) : Int) : Int) == 0) = true, (((Ln (Val.columns a0) : Int) : Int) == 0) = false, (((Val.kind a0) : Int) == 1) = false, (((Val.kind a0) : Int) == 2) = false, (((Val.kind a0) : Int) == 4) = false, (((Val.kind a0) : Int) == 6) = false, (((Val.kind a0) : Int) == 5) = true, (((Val.n a0) : Int) == 0) = false, false = false, false = false, false = false] := by kernel_rfl
theorem p129_e_44 (a0 : Val) : rE I129 (xAc a0) [Y, F, F, F, F, F, F, Y] [] = st 15 I129 (xEA (Val.list a0) (Ln (Val.list a0) : Int) 0 a0) [(((Ln (Val.list a0) : Int) : Int) == 0) = true, (((Ln (Val.columns a0) : Int) : Int) == 0) = false, (((Val.kind a0) : Int) == 1) = false, (((Val.kind a0) : Int) == 2) = false, (((Val.kind a0) : Int) == 4) = false, (((Val.kind a0) : Int) == 6) = false, (((Val.kind a0) : Int) == 5) = false, (((Val.kind a0) : Int) == 3) = true] := by kernel_rfl
theorem p129_e_45 (a0 : Val) : rE I129 (xAc a0) [Y, F, F, F, F, F, F, F] [] = dn (xAb false) [(((Ln (Val.list a0) : Int) : Int) == 0) = true, (((Ln (Val.columns a0) : Int) : Int) == 0) = false, (((Val.kind a0) : Int) == 1) = false, (((Val.kind a0) : Int) == 2) = false, (((Val.kind a0) : Int) == 4) = false, (((Val.kind a0) : Int) == 6) = false, (((Val.kind a0) : Int) == 5) = false, (((Val.kind a0) : Int) == 3) = false] := by kernel_rfl
theorem p129_e_46 (a0 : Val) : rE I129 (xAc a0) [F, F, Y, F, F, F] [] = dn (xAb false) [(((Ln (Val.list a0) : Int) : Int) == 0) = false, false = false, (((Val.kind a0) : Int) == 1) = true, false = false, false = false, false = false] := by kernel_rfl
theorem p129_e_47 (a0 : Val) : rE I129 (xAc a0) [F, F, F, Y, F, F, F] [] = dn (xAb false) [(((Ln (Val.list a0) : Int) : Int) == 0) = false, false = false, (((Val.kind a0) : Int) == 1) = false, (((Val.kind a0) : Int) == 2) = true, false = false, false = false, false = false] := by kernel_rfl
theorem p129_e_48 (a0 : Val) : rE I129 (xAc a0) [F, F, F, F, Y, F, F, F] [] = dn (xAb false) [(((Ln (Val.list a0) : Int) : Int) == 0) = false, false = false, (((Val.kind a0) : Int) == 1) = false, (((Val.kind a0) : Int) == 2) = false, (((Val.kind a0) : Int) == 4) = true, false = false, false = false, false = false] := by kernel_rfl
theorem p129_e_49 (a0 : Val) : rE I129 (xAc a0) [F, F, F, F, F, Y, F, F, F] [] = dn (xAb false) [(((Ln (Val.list a0) : Int) : Int) == 0) = false, false = false, (((Val.kind a0) : Int) == 1) = false, (((Val.kind a0) : Int) == 2) = false, (((Val.kind a0) : Int) == 4) = false, (((Val.kind a0) : Int) == 6) = true, false = false, false = false, false = false] := by kernel_rfl
theorem p129_e_50 (a0 : Val) : rE I129 (xAc a0) [F, F, F, F, F, F, Y, Y, Y, Y, F] [] = dn (xAb false) [(((Ln (Val.list a0) : Int) : Int) == 0) = false, false = false, (((Val.kind a0) : Int) == 1) = false, (((Val.kind a0) : Int) == 2) = false, (((Val.kind a0) : Int) == 4) = false, (((Val.kind a0) : Int) == 6) = false, (((Val.kind a0) : Int) == 5) = true, (((Val.n a0) : Int) == 0) = true, (((Val.step a0) : Int) == 0) = true, (((Val.text a0) : Str) == []) = true, (((Ln (Val.list a0) : Int) : Int) == 0) = false] := by kernel_rfl
theorem p129_e_51 (a0 : Val) : rE I129 (xAc a0) [F, F, F, F, F, F, Y, Y, Y, F, F] [] = dn (xAb false) [(((Ln (Val.list a0) : Int) : Int) == 0) = false, false = false, (((Val.kind a0) : Int) == 1) = false, (((Val.kind a0) : Int) == 2) = false, (((Val.kind a0) : Int) == 4) = false, (((Val.kind a0) : Int) == 6) = false, (((Val.kind a0) : Int) == 5) = true, (((Val.n a0) : Int) == 0) = true, (((Val.step a0) : Int) == 0) = true, (((Val.text a0) : Str) == []) = false, false = false] := by kernel_rfl
theorem p129_e_52 (a0 : Val) : rE I129 (xAc a0) [F, F, F, F, F, F, Y, Y, F, F, F] [] = dn (xAb false) [(((Ln (Val.list a0) : Int) : Int) == 0) = false, false = false, (((Val.kind a0) : Int) == 1) = false, (((Val.kind a0) : Int) == 2) = false, (((Val.kind a0) : Int) == 4) = false, (((Val.kind a0) : Int) == 6) = false, (((Val.kind a0) : Int) == 5) = true, (((Val.n a0) : Int) == 0) = true, (((Val.step a0) : Int) == 0) = false, false = false, false = false] := by kernel_rfl
theorem p129_e_53 (a0 : Val) : rE I129 (xAc a0) [F, F, F, F, F, F, Y, F, F, F, F] [] = dn (xAb false) [(((Ln (Val.list a0) : Int) : Int) == 0) = false, false = false, (((Val.kind a0) : Int) == 1) = false, (((Val.kind a0) : Int) == 2) = false, (((Val.kind a0) : Int) == 4) = false, (((Val.kind a0) : Int) == 6) = false, (((Val.kind a0) : Int) == 5) = true, (((Val.n a0) : Int) == 0) = false, false = false, false = false, false = false] := by kernel_rfl
theorem p129_e_54 (a0 : Val) : rE I129 (xAc a0) [F, F, F, F, F, F, F, Y] [] = st 15 I129 (xEA (Val.list a0) (Ln (Val.list a0) : Int) 0 a0) [(((Ln (Val.list a0) : Int) : Int) == 0) = false, false = false, (((Val.kind a0) : Int) == 1) = false, (((Val.kind a0) : Int) == 2) = false, (((Val.kind a0) : Int) == 4) = false, (((Val.kind a0) : Int) == 6) = false, (((Val.kind a0) : Int) == 5) = false, (((Val.kind a0) : Int) == 3) = true] := by kernel_rfl
theorem p129_e_55 (a0 : Val) : rE I129 (xAc a0) [F, F, F, F, F, F, F, F] [] = dn (xAb false) [(((Ln (Val.list a0) : Int) : Int) == 0) = false, false = false, (((Val.kind a0) : Int) == 1) = false, (((Val.kind a0) : Int) == 2) = false, (((Val.kind a0) : Int) == 4) = false, (((Val.kind a0) : Int) == 6) = false, (((Val.kind a0) : Int) == 5) = false, (((Val.kind a0) : Int) == 3) = false] := by kernel_rfl
theorem c129_15 {N : Nat} {q0 : Val → Option (Bool)} (g0 : G129 q0) : ∀ n x124 x125 x126 b1 r, xBq N q0 n x124 x125 x126 b1 = some r → RS Try.f129 I129 15 (xEA x124 x125 x126 b1) (xAb r) := by
 intro n
 induction n with
 | zero => exact fun _ _ _ _ _ h => nE h
 | succ n ih =>
  exact fun x124 x125 x126 b1 r h =>
   cE h (fun h0 h => iE h fun h1 h => cE h (fun h2 h => cE h (fun h3 h => cE h (fun h4 h => dS h xDm (p129_15_0 x124 x125 x126 b1) (oc h0 (oc h1 (oc h2 (oc h3 (oc h4 (oc rfl on))))))) fun h4 h =>
   bE h fun r1 h5 h => cE h (fun h6 h => dS h xDm (p129_15_1 x124 x125 x126 b1 r1) (oc h0 (oc h1 (oc h2 (oc h3 (oc h4 (oc (g0 _ _ h5) (oc h6 on)))))))) fun h6 h =>
   tS xDm (p129_15_2 x124 x125 x126 b1 r1) (oc h0 (oc h1 (oc h2 (oc h3 (oc h4 (oc (g0 _ _ h5) (oc h6 on))))))) (ih _ _ _ _ _ h)) fun h3 h =>
   bE h fun r1 h5 h => cE h (fun h6 h => dS h xDm (p129_15_3 x124 x125 x126 b1 r1) (oc h0 (oc h1 (oc h2 (oc h3 (oc rfl (oc (g0 _ _ h5) (oc h6 on)))))))) fun h6 h =>
   tS xDm (p129_15_4 x124 x125 x126 b1 r1) (oc h0 (oc h1 (oc h2 (oc h3 (oc rfl (oc (g0 _ _ h5) (oc h6 on))))))) (ih _ _ _ _ _ h)) fun h2 h =>
   bE h fun r1 h5 h => cE h (fun h6 h => dS h xDm (p129_15_5 x124 x125 x126 b1 r1) (oc h0 (oc h1 (oc h2 (oc rfl (oc rfl (oc (g0 _ _ h5) (oc h6 on)))))))) fun h6 h =>
   tS xDm (p129_15_6 x124 x125 x126 b1 r1) (oc h0 (oc h1 (oc h2 (oc rfl (oc rfl (oc (g0 _ _ h5) (oc h6 on))))))) (ih _ _ _ _ _ h)) fun h0 h =>
   cE h (fun h1 h => cE h (fun h2 h => cE h (fun h3 h => cE h (fun h4 h => cE h (fun h5 h => cE h (fun h6 h => bE h fun r1 h7 h => dS h xDm (p129_15_7 x124 x125 x126 b1 r1) (oc h0 (oc h1 (oc h2 (oc h3 (oc h4 (oc h5 (oc h6 (oc (impl_DepthOf_ok h7) on))))))))) fun h6 h =>
   dS h xDm (p129_15_8 x124 x125 x126 b1) (oc h0 (oc h1 (oc h2 (oc h3 (oc h4 (oc h5 (oc h6 on)))))))) fun h5 h =>
   dS h xDm (p129_15_9 x124 x125 x126 b1) (oc h0 (oc h1 (oc h2 (oc h3 (oc h4 (oc h5 (oc rfl on)))))))) fun h4 h =>
   dS h xDm (p129_15_10 x124 x125 x126 b1) (oc h0 (oc h1 (oc h2 (oc h3 (oc h4 (oc rfl (oc rfl on)))))))) fun h3 h =>
   dS h xDm (p129_15_11 x124 x125 x126 b1) (oc h0 (oc h1 (oc h2 (oc h3 (oc rfl (oc rfl (oc rfl on)))))))) fun h2 h =>
   dS h xDm (p129_15_12 x124 x125 x126 b1) (oc h0 (oc h1 (oc h2 (oc rfl (oc rfl (oc rfl (oc rfl on)))))))) fun h1 h =>
   dS h xDm (p129_15_13 x124 x125 x126 b1) (oc h0 (oc h1 (oc rfl (oc rfl (oc rfl (oc rfl (oc rfl on)))))))
theorem c129_e {N : Nat} {q0 : Val → Option (Bool)} (g0 : G129 q0) : ∀ a0 r, xDn N q0 a0 = some r → RE Try.f129 I129 (xAc a0) (xAb r) := fun a0 r h =>
 cE h (fun h0 h => cE h (fun h1 h => cE h (fun h2 h => cE h (fun h3 h => cE h (fun h4 h => cE h (fun h5 h => bE h fun r1 h6 h => dE h xDm (p129_e_14 a0 r1) (oc h0 (oc h1 (oc h2 (oc h3 (oc h4 (oc h5 (oc (xDj h6) on)))))))) fun h5 h =>
 dE h xDm (p129_e_15 a0) (oc h0 (oc h1 (oc h2 (oc h3 (oc h4 (oc h5 on))))))) fun h4 h =>
 dE h xDm (p129_e_16 a0) (oc h0 (oc h1 (oc h2 (oc h3 (oc h4 (oc rfl on))))))) fun h3 h =>
 dE h xDm (p129_e_17 a0) (oc h0 (oc h1 (oc h2 (oc h3 (oc rfl (oc rfl on))))))) fun h2 h =>
 cE h (fun h3 h => cE h (fun h4 h => cE h (fun h5 h => cE h (fun h6 h => bE h fun r1 h7 h => dE h xDm (p129_e_18 a0 r1) (oc h0 (oc h1 (oc h2 (oc h3 (oc h4 (oc h5 (oc h6 (oc (xIt h7) on))))))))) fun h6 h =>
 dE h xDm (p129_e_19 a0) (oc h0 (oc h1 (oc h2 (oc h3 (oc h4 (oc h5 (oc h6 on)))))))) fun h5 h =>
 dE h xDm (p129_e_20 a0) (oc h0 (oc h1 (oc h2 (oc h3 (oc h4 (oc h5 (oc rfl on)))))))) fun h4 h =>
 dE h xDm (p129_e_21 a0) (oc h0 (oc h1 (oc h2 (oc h3 (oc h4 (oc rfl (oc rfl on)))))))) fun h3 h =>
 cE h (fun h4 h => cE h (fun h5 h => cE h (fun h6 h => bE h fun r1 h7 h => cE h (fun h8 h => bE h fun r2 h9 h => dE h xDm (p129_e_22 a0 r1 r2) (oc h0 (oc h1 (oc h2 (oc h3 (oc h4 (oc h5 (oc h6 (oc (xDj h7) (oc h8 (oc (xDj h9) on))))))))))) fun h8 h =>
 dE h xDm (p129_e_23 a0 r1) (oc h0 (oc h1 (oc h2 (oc h3 (oc h4 (oc h5 (oc h6 (oc (xDj h7) (oc h8 on)))))))))) fun h6 h =>
 dE h xDm (p129_e_24 a0) (oc h0 (oc h1 (oc h2 (oc h3 (oc h4 (oc h5 (oc h6 (oc rfl on))))))))) fun h5 h =>
 dE h xDm (p129_e_25 a0) (oc h0 (oc h1 (oc h2 (oc h3 (oc h4 (oc h5 (oc rfl (oc rfl on))))))))) fun h4 h =>
 cE h (fun h5 h => cE h (fun h6 h => cE h (fun h7 h => cE h (fun h8 h => bE h fun r1 h9 h => dE h xDm (p129_e_26 a0 r1) (oc h0 (oc h1 (oc h2 (oc h3 (oc h4 (oc h5 (oc h6 (oc h7 (oc h8 (oc (xC8 h9) on))))))))))) fun h8 h =>
 dE h xDm (p129_e_27 a0) (oc h0 (oc h1 (oc h2 (oc h3 (oc h4 (oc h5 (oc h6 (oc h7 (oc h8 on)))))))))) fun h7 h =>
 dE h xDm (p129_e_28 a0) (oc h0 (oc h1 (oc h2 (oc h3 (oc h4 (oc h5 (oc h6 (oc h7 (oc rfl on)))))))))) fun h6 h =>
 dE h xDm (p129_e_29 a0) (oc h0 (oc h1 (oc h2 (oc h3 (oc h4 (oc h5 (oc h6 (oc rfl (oc rfl on)))))))))) fun h5 h =>
 cE h (fun h6 h => cE h (fun h7 h => cE h (fun h8 h => cE h (fun h9 h => bE h fun r1 h11 h => dE h xDm (p129_e_30 a0 r1) (oc h0 (oc h1 (oc h2 (oc h3 (oc h4 (oc h5 (oc h6 (oc h7 (oc h8 (oc h9 (oc h0 (oc (xH3 h11) on))))))))))))) fun h9 h =>
 dE h xDm (p129_e_31 a0) (oc h0 (oc h1 (oc h2 (oc h3 (oc h4 (oc h5 (oc h6 (oc h7 (oc h8 (oc h9 (oc rfl on)))))))))))) fun h8 h =>
 dE h xDm (p129_e_32 a0) (oc h0 (oc h1 (oc h2 (oc h3 (oc h4 (oc h5 (oc h6 (oc h7 (oc h8 (oc rfl (oc rfl on)))))))))))) fun h7 h =>
 dE h xDm (p129_e_33 a0) (oc h0 (oc h1 (oc h2 (oc h3 (oc h4 (oc h5 (oc h6 (oc h7 (oc rfl (oc rfl (oc rfl on)))))))))))) fun h6 h =>
 cE h (fun h7 h => tE xDm (p129_e_34 a0) (oc h0 (oc h1 (oc h2 (oc h3 (oc h4 (oc h5 (oc h6 (oc h7 on)))))))) (c129_15 g0 _ _ _ _ _ _ h)) fun h7 h =>
 dE h xDm (p129_e_35 a0) (oc h0 (oc h1 (oc h2 (oc h3 (oc h4 (oc h5 (oc h6 (oc h7 on))))))))) fun h1 h =>
 cE h (fun h2 h => dE h xDm (p129_e_36 a0) (oc h0 (oc h1 (oc h2 (oc rfl (oc rfl (oc rfl on))))))) fun h2 h =>
 cE h (fun h3 h => dE h xDm (p129_e_37 a0) (oc h0 (oc h1 (oc h2 (oc h3 (oc rfl (oc rfl (oc rfl on)))))))) fun h3 h =>
 cE h (fun h4 h => dE h xDm (p129_e_38 a0) (oc h0 (oc h1 (oc h2 (oc h3 (oc h4 (oc rfl (oc rfl (oc rfl on))))))))) fun h4 h =>
 cE h (fun h5 h => dE h xDm (p129_e_39 a0) (oc h0 (oc h1 (oc h2 (oc h3 (oc h4 (oc h5 (oc rfl (oc rfl (oc rfl on)))))))))) fun h5 h =>
 cE h (fun h6 h => cE h (fun h7 h => cE h (fun h8 h => cE h (fun h9 h => bE h fun r1 h11 h => dE h xDm (p129_e_40 a0 r1) (oc h0 (oc h1 (oc h2 (oc h3 (oc h4 (oc h5 (oc h6 (oc h7 (oc h8 (oc h9 (oc h0 (oc (xH3 h11) on))))))))))))) fun h9 h =>
 dE h xDm (p129_e_41 a0) (oc h0 (oc h1 (oc h2 (oc h3 (oc h4 (oc h5 (oc h6 (oc h7 (oc h8 (oc h9 (oc rfl on)))))))))))) fun h8 h =>
 dE h xDm (p129_e_42 a0) (oc h0 (oc h1 (oc h2 (oc h3 (oc h4 (oc h5 (oc h6 (oc h7 (oc h8 (oc rfl (oc rfl on)))))))))))) fun h7 h =>
 dE h xDm (p129_e_43 a0) (oc h0 (oc h1 (oc h2 (oc h3 (oc h4 (oc h5 (oc h6 (oc h7 (oc rfl (oc rfl (oc rfl on)))))))))))) fun h6 h =>
 cE h (fun h7 h => tE xDm (p129_e_44 a0) (oc h0 (oc h1 (oc h2 (oc h3 (oc h4 (oc h5 (oc h6 (oc h7 on)))))))) (c129_15 g0 _ _ _ _ _ _ h)) fun h7 h =>
 dE h xDm (p129_e_45 a0) (oc h0 (oc h1 (oc h2 (oc h3 (oc h4 (oc h5 (oc h6 (oc h7 on))))))))) fun h0 h =>
 cE h (fun h2 h => dE h xDm (p129_e_46 a0) (oc h0 (oc rfl (oc h2 (oc rfl (oc rfl (oc rfl on))))))) fun h2 h =>
 cE h (fun h3 h => dE h xDm (p129_e_47 a0) (oc h0 (oc rfl (oc h2 (oc h3 (oc rfl (oc rfl (oc rfl on)))))))) fun h3 h =>
 cE h (fun h4 h => dE h xDm (p129_e_48 a0) (oc h0 (oc rfl (oc h2 (oc h3 (oc h4 (oc rfl (oc rfl (oc rfl on))))))))) fun h4 h =>
 cE h (fun h5 h => dE h xDm (p129_e_49 a0) (oc h0 (oc rfl (oc h2 (oc h3 (oc h4 (oc h5 (oc rfl (oc rfl (oc rfl on)))))))))) fun h5 h =>
 cE h (fun h6 h => cE h (fun h7 h => cE h (fun h8 h => cE h (fun h9 h => dE h xDm (p129_e_50 a0) (oc h0 (oc rfl (oc h2 (oc h3 (oc h4 (oc h5 (oc h6 (oc h7 (oc h8 (oc h9 (oc h0 on)))))))))))) fun h9 h =>
 dE h xDm (p129_e_51 a0) (oc h0 (oc rfl (oc h2 (oc h3 (oc h4 (oc h5 (oc h6 (oc h7 (oc h8 (oc h9 (oc rfl on)))))))))))) fun h8 h =>
 dE h xDm (p129_e_52 a0) (oc h0 (oc rfl (oc h2 (oc h3 (oc h4 (oc h5 (oc h6 (oc h7 (oc h8 (oc rfl (oc rfl on)))))))))))) fun h7 h =>
 dE h xDm (p129_e_53 a0) (oc h0 (oc rfl (oc h2 (oc h3 (oc h4 (oc h5 (oc h6 (oc h7 (oc rfl (oc rfl (oc rfl on)))))))))))) fun h6 h =>
 cE h (fun h7 h => tE xDm (p129_e_54 a0) (oc h0 (oc rfl (oc h2 (oc h3 (oc h4 (oc h5 (oc h6 (oc h7 on)))))))) (c129_15 g0 _ _ _ _ _ _ h)) fun h7 h =>
 dE h xDm (p129_e_55 a0) (oc h0 (oc rfl (oc h2 (oc h3 (oc h4 (oc h5 (oc h6 (oc h7 on))))))))
theorem xHj {N : Nat} {q0 : Val → Option (Bool)} (g0 : G129 q0) {a0 : Val} {r : Bool} (h : xDn N q0 a0 = some r) : AbC 129 (xAc a0) (xAb r) :=
 AbsCalls.of_reach xDm rfl rfl (Nat.le_of_ble_eq_true rfl) (c129_e g0 a0 r h)
theorem xFU {N : Nat} : ∀ d, G129 (xBr N d)
 | 0 => fun _ _ h => nE h
 | d + 1 => fun _ _ h => xHj (N := N) (xFU d) h
theorem xFA {N : Nat} {a0 : Val} {r : Bool} (h : xGf N a0 = some r) : AbC 129 (xAc a0) (xAb r) := xFU N _ r h
noncomputable def I67 : Info := { body := (Try.f67.body).getD .skip, nt := 5, results := [.cell 2 31], keep := [0, 4, 5], live := [], modes := [] }
theorem fk67 : FnOk Try.prog 67 Try.f67 I67 := ⟨Try.func67, by kernel_rfl, by kernel_rfl, by kernel_rfl, by kernel_rfl⟩
theorem p67_e_0 (a0 : Int) : rE I67 (xAR a0) [] [] = dn (xAp (Val.mk 6 a0 0 [] [] [] [])) [] := by kernel_rfl
theorem c67_e {N : Nat} : ∀ a0 r, xA2 N a0 = some r → RE Try.f67 I67 (xAR a0) (xAp r) := fun a0 r h =>
 dE h fk67 (p67_e_0 a0) on
theorem xBb {N : Nat} {a0 : Int} {r : Val} (h : xA2 N  a0 = some r) : AbC 67 (xAR a0) (xAp r) :=
 AbsCalls.of_reach fk67 rfl rfl (Nat.le_of_ble_eq_true rfl) (c67_e a0 r h)
theorem xH4 {P : Program} {f : FuncId} {ags : List Arg} {r : Val × Bool × Bool} (h : AbsCalls P f ags (xBE r)) (ht : r.2.2 = true) : AbsCalls P f ags (xFj r) := by
 unfold xBE at h; rw [ht] at h; exact h
theorem xCc {P : Program} {f : FuncId} {ags : List Arg} {r : Val × Bool × Bool} (h : AbsCalls P f ags (xBE r)) (ht : r.2.2 = false) : AbsCalls P f ags (xAO r) := by
 unfold xBE at h; rw [ht] at h; exact h
theorem xCb {P : Program} {f : FuncId} {ags : List Arg} {r : Val × Bool × Bool} (h : AbsCalls P f ags (xBE r)) (ht : r.2.2 = true) (e0 : List.isEmpty (Val.list r.1) = true) (e1 : List.isEmpty (Val.columns r.1) = true) (e2 : List.isEmpty (Val.rows r.1) = true) : AbsCalls P f ags (xAX r) := by
 have h := xH4 h ht
 unfold xFj at h; rw [List.isEmpty_iff.1 e0, List.isEmpty_iff.1 e1, List.isEmpty_iff.1 e2] at h; exact h
noncomputable def I65 : Info := { body := (Try.f65.body).getD .skip, nt := 22, results := [.cell 2 31, .tmp 3], keep := [0, 4, 6, 10, 12, 14, 16, 18, 28, 36, 5, 11], live := [(2, [4, 12, 14, 16, 5])], modes := [(8, [(1, .take, false)])] }
theorem fk65 : FnOk Try.prog 65 Try.f65 I65 := ⟨Try.func65, by kernel_rfl, by kernel_rfl, by kernel_rfl, by kernel_rfl⟩
def S65_2 (x6 : List Val) (x7 x8 : Int) (b2 : Val) : St := [(4, .v false [.ptr 2 0]), (12, .v false [.sl .ro .val x6]), (14, .v false [.int .i64 x7]), (16, .v false [.int .i64 x8]), (5, .v true [.int .i64 (Val.kind b2), .int .i64 (Val.n b2), .int .i64 (Val.step b2), .str (Val.text b2), .sl .own .val (Val.list b2), .sl .own .str (Val.columns b2), .sl .own .row (Val.rows b2)])]
theorem p65_2_0 (x6 : List Val) (x7 x8 : Int) (b2 : Val) (r1 : Bool) (r2 : Val) : rS 2 I65 (S65_2 x6 x7 x8 b2) [Y, Y] [xAb r1, xAp r2] = dn (xBE (r2, true, false)) [(decide ((x8 : Int) < x7)) = true, (0 : Int) ≤ x8 ∧ x8 < (Ln x6), AbC 129 (xAc (gD x6 (tN x8) vd)) (xAb r1), (!r1) = true, AbC 67 (xAR 4) (xAp r2)] := by kernel_rfl
theorem p65_2_1 (x6 : List Val) (x7 x8 : Int) (b2 : Val) (r1 : Bool) : rS 2 I65 (S65_2 x6 x7 x8 b2) [Y, F, Y] [xAb r1] = dn (xBE ((gD x6 (tN x8) vd), true, true)) [(decide ((x8 : Int) < x7)) = true, (0 : Int) ≤ x8 ∧ x8 < (Ln x6), AbC 129 (xAc (gD x6 (tN x8) vd)) (xAb r1), (!r1) = false, (((Val.kind (gD x6 (tN x8) vd)) : Int) == 6) = true] := by kernel_rfl
theorem p65_2_2 (x6 : List Val) (x7 x8 : Int) (b2 : Val) (r1 : Bool) : rS 2 I65 (S65_2 x6 x7 x8 b2) [Y, F, F] [xAb r1] = st 2 I65 (S65_2 x6 x7 (W (x8 + 1)) b2) [(decide ((x8 : Int) < x7)) = true, (0 : Int) ≤ x8 ∧ x8 < (Ln x6), AbC 129 (xAc (gD x6 (tN x8) vd)) (xAb r1), (!r1) = false, (((Val.kind (gD x6 (tN x8) vd)) : Int) == 6) = false] := by kernel_rfl
theorem p65_2_3 (x6 : List Val) (x7 x8 : Int) (b2 : Val) : rS 2 I65 (S65_2 x6 x7 x8 b2) [F] [] = dn (xBE ((Val.mk 0 0 0 [] [] [] []), false, false)) [(decide ((x8 : Int) < x7)) = false] := by kernel_rfl
theorem p65_e_4 (a0 : List Val) : rE I65 (xAP a0) [] [] = st 2 I65 (S65_2 a0 (Ln a0 : Int) 0 (Val.mk 0 0 0 [] [] [] [])) [] := by kernel_rfl
theorem c65_2 {N : Nat} : ∀ n x6 x7 x8 b2 r, xCy N n x6 x7 x8 b2 = some r → RS Try.f65 I65 2 (S65_2 x6 x7 x8 b2) (xBE r) := by
 intro n
 induction n with
 | zero => exact fun _ _ _ _ _ h => nE h
 | succ n ih =>
  exact fun x6 x7 x8 b2 r h =>
   cE h (fun h0 h => iE h fun h1 h => bE h fun r1 h2 h => cE h (fun h3 h => bE h fun r2 h4 h => dS h fk65 (p65_2_0 x6 x7 x8 b2 r1 r2) (oc h0 (oc h1 (oc (xFA h2) (oc h3 (oc (xBb h4) on)))))) fun h3 h =>
   cE h (fun h4 h => dS h fk65 (p65_2_1 x6 x7 x8 b2 r1) (oc h0 (oc h1 (oc (xFA h2) (oc h3 (oc h4 on)))))) fun h4 h =>
   tS fk65 (p65_2_2 x6 x7 x8 b2 r1) (oc h0 (oc h1 (oc (xFA h2) (oc h3 (oc h4 on))))) (ih _ _ _ _ _ h)) fun h0 h =>
   dS h fk65 (p65_2_3 x6 x7 x8 b2) (oc h0 on)
theorem c65_e {N : Nat} : ∀ a0 r, xD8 N a0 = some r → RE Try.f65 I65 (xAP a0) (xBE r) := fun a0 r h =>
 tE fk65 (p65_e_4 a0) on (c65_2 _ _ _ _ _ _ h)
theorem xA8 {N : Nat} {a0 : List Val} {r : Val × Bool × Bool} (h : xD8 N  a0 = some r) : AbC 65 (xAP a0) (xBE r) :=
 AbsCalls.of_reach fk65 rfl rfl (Nat.le_of_ble_eq_true rfl) (c65_e a0 r h)
noncomputable def I106 : Info := { body := (Try.f106.body).getD .skip, nt := 5, results := [.cell 2 31], keep := [0, 4, 5], live := [], modes := [] }
theorem fk106 : FnOk Try.prog 106 Try.f106 I106 := ⟨Try.func106, by kernel_rfl, by kernel_rfl, by kernel_rfl, by kernel_rfl⟩
theorem p106_e_0 (a0 : Int) : rE I106 (xBM a0) [] [] = dn (xAZ (Val.mk 1 a0 0 [] [] [] [])) [] := by kernel_rfl
theorem c106_e {N : Nat} : ∀ a0 r, xCm N a0 = some r → RE Try.f106 I106 (xBM a0) (xAZ r) := fun a0 r h =>
 dE h fk106 (p106_e_0 a0) on
theorem xCC {N : Nat} {a0 : Int} {r : Val} (h : xCm N  a0 = some r) : AbC 106 (xBM a0) (xAZ r) :=
 AbsCalls.of_reach fk106 rfl rfl (Nat.le_of_ble_eq_true rfl) (c106_e a0 r h)
noncomputable def I66 : Info := { body := (Try.f66.body).getD .skip, nt := 9, results := [.cell 2 31], keep := [0, 4, 10, 5], live := [], modes := [] }
theorem fk66 : FnOk Try.prog 66 Try.f66 I66 := ⟨Try.func66, by kernel_rfl, by kernel_rfl, by kernel_rfl, by kernel_rfl⟩
theorem p66_e_0 (a0 : Int) (r1 : Bool) (r2 : Val) : rE I66 (xC1 a0) [Y] [xBj r1, xAp r2] = dn (xCa r2) [AbC 90 (xCr a0) (xBj r1), (!r1) = true, AbC 67 (xAR 5) (xAp r2)] := by kernel_rfl
theorem p66_e_1 (a0 : Int) (r1 : Bool) (r2 : Val) : rE I66 (xC1 a0) [F] [xBj r1, xAZ r2] = dn (xCa r2) [AbC 90 (xCr a0) (xBj r1), (!r1) = false, AbC 106 (xBM a0) (xAZ r2)] := by kernel_rfl
theorem c66_e {N : Nat} : ∀ a0 r, xDH N a0 = some r → RE Try.f66 I66 (xC1 a0) (xCa r) := fun a0 r h =>
 bE h fun r1 h0 h => cE h (fun h1 h => bE h fun r2 h2 h => dE h fk66 (p66_e_0 a0 r1 r2) (oc (xDj h0) (oc h1 (oc (xBb h2) on)))) fun h1 h =>
 bE h fun r2 h2 h => dE h fk66 (p66_e_1 a0 r1 r2) (oc (xDj h0) (oc h1 (oc (xCC h2) on)))
theorem xGC {N : Nat} {a0 : Int} {r : Val} (h : xDH N  a0 = some r) : AbC 66 (xC1 a0) (xCa r) :=
 AbsCalls.of_reach fk66 rfl rfl (Nat.le_of_ble_eq_true rfl) (c66_e a0 r h)
noncomputable def I143 : Info := { body := (Try.f143.body).getD .skip, nt := 12, results := [.cell 2 107], keep := [0, 2, 4, 3, 5], live := [], modes := [] }
theorem fk143 : FnOk Try.prog 143 Try.f143 I143 := ⟨Try.func143, by kernel_rfl, by kernel_rfl, by kernel_rfl, by kernel_rfl⟩
theorem p143_e_0 (a0 : Rowd) : rE I143 (xF5 a0) [] [] = dn (xFi (Rowd.mk ([] ++ (Rowd.cells a0)) ([] ++ (Rowd.frm a0)))) [0 + Ln (Rowd.cells a0) ≤ Lim, 0 + Ln (Rowd.frm a0) ≤ Lim] := by kernel_rfl
theorem c143_e {N : Nat} : ∀ a0 r, xG9 N a0 = some r → RE Try.f143 I143 (xF5 a0) (xFi r) := fun a0 r h =>
 iE h fun h0 h => iE h fun h1 h => dE h fk143 (p143_e_0 a0) (oc h0 (oc h1 on))
theorem impl_copyRow_ok {N : Nat} {a0 : Rowd} {r : Rowd} (h : xG9 N  a0 = some r) : AbC 143 (xF5 a0) (xFi r) :=
 AbsCalls.of_reach fk143 rfl rfl (Nat.le_of_ble_eq_true rfl) (c143_e a0 r h)
end Go.Ab.T
end
section
open Go.Proofs
namespace Go.Ab.T
set_option linter.unusedVariables false
set_option maxRecDepth 100000
def G89 (q : Val → Option (Val)) : Prop := ∀ a0 r, q a0 = some r → AbC 89 (xC3 a0) (xBQ r)
def G69 (q : (List Val) → Option ((List Val))) : Prop := ∀ a0 r, q a0 = some r → AbC 69 (xDc a0) (xB3 r)
noncomputable def I89 : Info := { body := (Try.f89.body).getD .skip, nt := 33, results := [.cell 2 31], keep := [0, 2, 4, 6, 10, 36, 38, 40, 42, 3, 5, 7, 11], live := [(6, [4, 6, 36, 38, 40, 5, 7])], modes := [(8, [(1, .take, false), (5, .take, false)]), (9, [(1, .take, false)]), (10, [(0, .take, false)])] }
theorem fk89 : FnOk Try.prog 89 Try.f89 I89 := ⟨Try.func89, by kernel_rfl, by kernel_rfl, by kernel_rfl, by kernel_rfl⟩
def S89_6 (x18 : List Rowd) (x19 x20 : Int) (b2 b3 : Val) : St := [(4, .v false [.ptr 2 0]), (6, .v false [.ptr 3 0]), (36, .v false [.sl .ro .row x18]), (38, .v false [.int .i64 x19]), (40, .v false [.int .i64 x20]), (5, .v true [.int .i64 (Val.kind b2), .int .i64 (Val.n b2), .int .i64 (Val.step b2), .str (Val.text b2), .sl .own .val (Val.list b2), .sl .own .str (Val.columns b2), .sl .own .row (Val.rows b2)]), (7, .v true [.int .i64 (Val.kind b3), .int .i64 (Val.n b3), .int .i64 (Val.step b3), .str (Val.text b3), .sl .own .val (Val.list b3), .sl .own .str (Val.columns b3), .sl .own .row (Val.rows b3)])]
theorem p89_6_0 (x18 : List Rowd) (x19 x20 : Int) (b2 b3 : Val) (r1 : Rowd) : rS 6 I89 (S89_6 x18 x19 x20 b2 b3) [Y] [xFi r1] = st 6 I89 (S89_6 x18 x19 (W (x20 + 1)) b2 (Val.mk (Val.kind b3) (Val.n b3) (Val.step b3) (Val.text b3) (Val.list b3) (Val.columns b3) ((Val.rows b3) ++ [r1]))) [(decide ((x20 : Int) < x19)) = true, (0 : Int) ≤ x20 ∧ x20 < (Ln x18), AbC 143 (xF5 (gD x18 (tN x20) rd)) (xFi r1), Ln (Val.rows b3) + Ln [r1] ≤ Lim] := by kernel_rfl
theorem p89_6_1 (x18 : List Rowd) (x19 x20 : Int) (b2 b3 : Val) : rS 6 I89 (S89_6 x18 x19 x20 b2 b3) [F] [] = dn (xBQ b3) [(decide ((x20 : Int) < x19)) = false] := by kernel_rfl
theorem p89_e_2 (a0 : Val) (r1 : (List Val)) : rE I89 (xC3 a0) [] [xB3 r1] = st 6 I89 (S89_6 (Val.rows a0) (Ln (Val.rows a0) : Int) 0 (Val.mk 0 0 0 [] [] [] []) (Val.mk (Val.kind a0) (Val.n a0) (Val.step a0) (Val.text a0) r1 ([] ++ (Val.columns a0)) [])) [AbC 69 (xDc (Val.list a0)) (xB3 r1), 0 + Ln (Val.columns a0) ≤ Lim] := by kernel_rfl
theorem c89_6 {N : Nat} {q0 : Val → Option (Val)} (g0 : G89 q0) {q1 : (List Val) → Option ((List Val))} (g1 : G69 q1) : ∀ n x18 x19 x20 b2 b3 r, xDr N q0 q1 n x18 x19 x20 b2 b3 = some r → RS Try.f89 I89 6 (S89_6 x18 x19 x20 b2 b3) (xBQ r) := by
 intro n
 induction n with
 | zero => exact fun _ _ _ _ _ _ h => nE h
 | succ n ih =>
  exact fun x18 x19 x20 b2 b3 r h =>
   cE h (fun h0 h => iE h fun h1 h => bE h fun r1 h2 h => iE h fun h3 h => tS fk89 (p89_6_0 x18 x19 x20 b2 b3 r1) (oc h0 (oc h1 (oc (impl_copyRow_ok h2) (oc h3 on)))) (ih _ _ _ _ _ _ h)) fun h0 h =>
   dS h fk89 (p89_6_1 x18 x19 x20 b2 b3) (oc h0 on)
theorem c89_e {N : Nat} {q0 : Val → Option (Val)} (g0 : G89 q0) {q1 : (List Val) → Option ((List Val))} (g1 : G69 q1) : ∀ a0 r, xEi N q0 q1 a0 = some r → RE Try.f89 I89 (xC3 a0) (xBQ r) := fun a0 r h =>
 bE h fun r1 h0 h => iE h fun h1 h => tE fk89 (p89_e_2 a0 r1) (oc (g1 _ _ h0) (oc h1 on)) (c89_6 g0 g1 _ _ _ _ _ _ _ h)
theorem xHW {N : Nat} {q0 : Val → Option (Val)} (g0 : G89 q0) {q1 : (List Val) → Option ((List Val))} (g1 : G69 q1) {a0 : Val} {r : Val} (h : xEi N q0 q1 a0 = some r) : AbC 89 (xC3 a0) (xBQ r) :=
 AbsCalls.of_reach fk89 rfl rfl (Nat.le_of_ble_eq_true rfl) (c89_e g0 g1 a0 r h)
noncomputable def I69 : Info := { body := (Try.f69.body).getD .skip, nt := 20, results := [.tmp 2], keep := [0, 4, 6, 10, 14, 16, 18, 20, 11], live := [(3, [6, 14, 16, 18])], modes := [(5, [(0, .take, false), (4, .take, false)]), (6, [(1, .take, false)]), (7, [(0, .take, false)])] }
theorem fk69 : FnOk Try.prog 69 Try.f69 I69 := ⟨Try.func69, by kernel_rfl, by kernel_rfl, by kernel_rfl, by kernel_rfl⟩
def S69_3 (x3 x7 : List Val) (x8 x9 : Int) : St := [(6, .v false [.sl .own .val x3]), (14, .v false [.sl .ro .val x7]), (16, .v false [.int .i64 x8]), (18, .v false [.int .i64 x9])]
theorem p69_3_0 (x3 x7 : List Val) (x8 x9 : Int) (r1 : Val) : rS 3 I69 (S69_3 x3 x7 x8 x9) [Y] [xBQ r1] = st 3 I69 (S69_3 (x3 ++ [(Val.re r1)]) x7 x8 (W (x9 + 1))) [(decide ((x9 : Int) < x8)) = true, (0 : Int) ≤ x9 ∧ x9 < (Ln x7), AbC 89 (xC3 (gD x7 (tN x9) vd)) (xBQ r1), Ln x3 + Ln [(Val.re r1)] ≤ Lim] := by kernel_rfl
theorem p69_3_1 (x3 x7 : List Val) (x8 x9 : Int) : rS 3 I69 (S69_3 x3 x7 x8 x9) [F] [] = dn (xB3 x3) [(decide ((x9 : Int) < x8)) = false] := by kernel_rfl
theorem p69_e_2 (a0 : List Val) : rE I69 (xDc a0) [] [] = st 3 I69 (S69_3 [] a0 (Ln a0 : Int) 0) [] := by kernel_rfl
theorem c69_3 {N : Nat} {q0 : Val → Option (Val)} (g0 : G89 q0) {q1 : (List Val) → Option ((List Val))} (g1 : G69 q1) : ∀ n x3 x7 x8 x9 r, xDK N q0 q1 n x3 x7 x8 x9 = some r → RS Try.f69 I69 3 (S69_3 x3 x7 x8 x9) (xB3 r) := by
 intro n
 induction n with
 | zero => exact fun _ _ _ _ _ h => nE h
 | succ n ih =>
  exact fun x3 x7 x8 x9 r h =>
   cE h (fun h0 h => iE h fun h1 h => bE h fun r1 h2 h => iE h fun h3 h => tS fk69 (p69_3_0 x3 x7 x8 x9 r1) (oc h0 (oc h1 (oc (g0 _ _ h2) (oc h3 on)))) (ih _ _ _ _ _ h)) fun h0 h =>
   dS h fk69 (p69_3_1 x3 x7 x8 x9) (oc h0 on)
theorem c69_e {N : Nat} {q0 : Val → Option (Val)} (g0 : G89 q0) {q1 : (List Val) → Option ((List Val))} (g1 : G69 q1) : ∀ a0 r, xDT N q0 q1 a0 = some r → RE Try.f69 I69 (xDc a0) (xB3 r) := fun a0 r h =>
 tE fk69 (p69_e_2 a0) on (c69_3 g0 g1 _ _ _ _ _ _ h)
theorem xHG {N : Nat} {q0 : Val → Option (Val)} (g0 : G89 q0) {q1 : (List Val) → Option ((List Val))} (g1 : G69 q1) {a0 : List Val} {r : (List Val)} (h : xDT N q0 q1 a0 = some r) : AbC 69 (xDc a0) (xB3 r) :=
 AbsCalls.of_reach fk69 rfl rfl (Nat.le_of_ble_eq_true rfl) (c69_e g0 g1 a0 r h)
theorem xGE {N : Nat} : ∀ d, G89 (xA1 N d).c_impl_copyValue ∧ G69 (xA1 N d).c_impl_copyValues := by
 intro d
 induction d with
 | zero => exact ⟨fun _ _ h => nE h, fun _ _ h => nE h⟩
 | succ d ih =>
  obtain ⟨ih0, ih1⟩ := ih
  exact ⟨fun _ _ h => xHW (N := N) ih0 ih1 h, fun _ _ h => xHG (N := N) ih0 ih1 h⟩
theorem xHq {N : Nat} {a0 : Val} {r : Val} (h : xGu N a0 = some r) : AbC 89 (xC3 a0) (xBQ r) := (xGE N).1 _ r h
theorem impl_copyValues_ok {N : Nat} {a0 : List Val} {r : (List Val)} (h : xGW N a0 = some r) : AbC 69 (xDc a0) (xB3 r) := (xGE N).2 _ r h
end Go.Ab.T
end
section
open Go.Proofs
namespace Go.Ab.T
set_option linter.unusedVariables false
set_option maxRecDepth 100000
noncomputable def I29 : Info := { body := (Try.f29.body).getD .skip, nt := 6, results := [.tmp 2], keep := [0, 4], live := [], modes := [] }
theorem fk29 : FnOk Try.prog 29 Try.f29 I29 := ⟨Try.func29, by kernel_rfl, by kernel_rfl, by kernel_rfl, by kernel_rfl⟩
theorem p29_e_0 (a0 : List Int) : rE I29 (xBt a0) [] [] = dn (xAB (decide (((Ln a0 : Int) : Int) > 1048576))) [] := by kernel_rfl
theorem c29_e {N : Nat} : ∀ a0 r, laws_big N a0 = some r → RE Try.f29 I29 (xBt a0) (xAB r) := fun a0 r h =>
 dE h fk29 (p29_e_0 a0) on
theorem xBD {N : Nat} {a0 : List Int} {r : Bool} (h : laws_big N  a0 = some r) : AbC 29 (xBt a0) (xAB r) :=
 AbsCalls.of_reach fk29 rfl rfl (Nat.le_of_ble_eq_true rfl) (c29_e a0 r h)
noncomputable def I94 : Info := { body := (Try.f94.body).getD .skip, nt := 32, results := [.tmp 2], keep := [0, 4, 6, 8, 30, 63], live := [(3, [0, 6, 8])], modes := [(3, [(4, .take, false)])] }
theorem fk94 : FnOk Try.prog 94 Try.f94 I94 := ⟨Try.func94, by kernel_rfl, by kernel_rfl, by kernel_rfl, by kernel_rfl⟩
def S94_3 (x0 : List Int) (x3 x4 : Int) : St := [(0, .v false [.sl .ro .byte x0]), (6, .v false [.int .i64 x3]), (8, .v false [.int .i64 x4])]
theorem p94_3_0 (x0 : List Int) (x3 x4 : Int) : rS 3 I94 (S94_3 x0 x3 x4) [Y, Y] [] = st 3 I94 (S94_3 x0 (andI .i64 (W ((W ((W (x3 * 131)) + (W ((gD x0 (tN x4) Ty.byte.dflt))))) + 7)) 1073741823) (W (x4 + 1))) [(decide ((x4 : Int) < (Ln x0 : Int))) = true, (decide ((x4 : Int) < 4000)) = true, (0 : Int) ≤ x4 ∧ x4 < (Ln x0)] := by kernel_rfl
theorem p94_3_1 (x0 : List Int) (x3 x4 : Int) : rS 3 I94 (S94_3 x0 x3 x4) [Y, F] [] = dn (xE0 (Cur.mk x0 0 x3)) [(decide ((x4 : Int) < (Ln x0 : Int))) = true, (decide ((x4 : Int) < 4000)) = false] := by kernel_rfl
theorem p94_3_2 (x0 : List Int) (x3 x4 : Int) : rS 3 I94 (S94_3 x0 x3 x4) [F, F] [] = dn (xE0 (Cur.mk x0 0 x3)) [(decide ((x4 : Int) < (Ln x0 : Int))) = false, false = false] := by kernel_rfl
theorem p94_e_3 (a0 : List Int) : rE I94 (xGN a0) [] [] = st 3 I94 (S94_3 a0 (W (26583 + (Ln a0 : Int))) 0) [] := by kernel_rfl
theorem c94_3 {N : Nat} : ∀ n x0 x3 x4 r, xFy N n x0 x3 x4 = some r → RS Try.f94 I94 3 (S94_3 x0 x3 x4) (xE0 r) := by
 intro n
 induction n with
 | zero => exact fun _ _ _ _ h => nE h
 | succ n ih =>
  exact fun x0 x3 x4 r h =>
   cE h (fun h0 h => cE h (fun h1 h => iE h fun h2 h => tS fk94 (p94_3_0 x0 x3 x4) (oc h0 (oc h1 (oc h2 on))) (ih _ _ _ _ h)) fun h1 h =>
   dS h fk94 (p94_3_1 x0 x3 x4) (oc h0 (oc h1 on))) fun h0 h =>
   dS h fk94 (p94_3_2 x0 x3 x4) (oc h0 (oc rfl on))
theorem c94_e {N : Nat} : ∀ a0 r, xGP N a0 = some r → RE Try.f94 I94 (xGN a0) (xE0 r) := fun a0 r h =>
 tE fk94 (p94_e_3 a0) on (c94_3 _ _ _ _ _ h)
theorem spec_l1New_ok {N : Nat} {a0 : List Int} {r : Cur} (h : xGP N  a0 = some r) : AbC 94 (xGN a0) (xE0 r) :=
 AbsCalls.of_reach fk94 rfl rfl (Nat.le_of_ble_eq_true rfl) (c94_e a0 r h)
noncomputable def I147 : Info := { body := (Try.f147.body).getD .skip, nt := 58, results := [.tmp 2], keep := [0, 4, 6, 68, 1], live := [], modes := [], ext := [0] }
theorem fk147 : FnOk Try.prog 147 Try.f147 I147 := ⟨Try.func147, by kernel_rfl, by kernel_rfl, by kernel_rfl, by kernel_rfl⟩
theorem p147_e_0 (a0 : Cur) : rE I147 (xDz a0) [Y] [] = dn (xB6 ((andI .i64 (W ((andI .i64 (xorI .i64 (Int.fdiv (W ((W ((Cur.h a0) * 6364136223846793005)) + 1442695040888963407)) ((2 : Int) ^ (tN 33))) (Int.fdiv (W ((W ((Cur.h a0) * 6364136223846793005)) + 1442695040888963407)) ((2 : Int) ^ (tN 45)))) 255) + (W ((gD (Cur.b a0) (tN (Cur.i a0)) Ty.byte.dflt))))) 255), (Cur.mk (Cur.b a0) (W ((Cur.i a0) + 1)) (W ((W ((Cur.h a0) * 6364136223846793005)) + 1442695040888963407))))) [(0 : Int) ≤ 33 ∧ (33 : Int) < 64, (0 : Int) ≤ 45 ∧ (45 : Int) < 64, (decide (((Cur.i a0) : Int) < (Ln (Cur.b a0) : Int))) = true, (0 : Int) ≤ (Cur.i a0) ∧ (Cur.i a0) < (Ln (Cur.b a0))] := by kernel_rfl
theorem p147_e_1 (a0 : Cur) : rE I147 (xDz a0) [F] [] = dn (xB6 ((andI .i64 (xorI .i64 (Int.fdiv (W ((W ((Cur.h a0) * 6364136223846793005)) + 1442695040888963407)) ((2 : Int) ^ (tN 33))) (Int.fdiv (W ((W ((Cur.h a0) * 6364136223846793005)) + 1442695040888963407)) ((2 : Int) ^ (tN 45)))) 255), (Cur.mk (Cur.b a0) (Cur.i a0) (W ((W ((Cur.h a0) * 6364136223846793005)) + 1442695040888963407))))) [(0 : Int) ≤ 33 ∧ (33 : Int) < 64, (0 : Int) ≤ 45 ∧ (45 : Int) < 64, (decide (((Cur.i a0) : Int) < (Ln (Cur.b a0) : Int))) = false] := by kernel_rfl
theorem c147_e {N : Nat} : ∀ a0 r, xEY N a0 = some r → RE Try.f147 I147 (xDz a0) (xB6 r) := fun a0 r h =>
 cE h (fun h2 h => iE h fun h3 h => dE h fk147 (p147_e_0 a0) (oc (by decide) (oc (by decide) (oc h2 (oc h3 on))))) fun h2 h =>
 dE h fk147 (p147_e_1 a0) (oc (by decide) (oc (by decide) (oc h2 on)))
theorem xFF {N : Nat} {a0 : Cur} {r : Int × Cur} (h : xEY N  a0 = some r) : AbC 147 (xDz a0) (xB6 r) :=
 AbsCalls.of_reach fk147 rfl rfl (Nat.le_of_ble_eq_true rfl) (c147_e a0 r h)
noncomputable def I104 : Info := { body := (Try.f104.body).getD .skip, nt := 37, results := [.tmp 4], keep := [0, 2, 8, 10, 12, 14, 16, 20, 24, 1], live := [], modes := [(9, [(0, .take, false), (2, .take, false), (5, .take, false), (8, .take, false)])], ext := [0] }
theorem fk104 : FnOk Try.prog 104 Try.f104 I104 := ⟨Try.func104, by kernel_rfl, by kernel_rfl, by kernel_rfl, by kernel_rfl⟩
theorem p104_e_0 (a0 : Cur) (a1 : Int) : rE I104 (xAu a0 a1) [Y] [] = dn (xAd (0, a0)) [(decide ((a1 : Int) ≤ 0)) = true] := by kernel_rfl
theorem p104_e_1 (a0 : Cur) (a1 : Int) (r1 : Int × Cur) : rE I104 (xAu a0 a1) [F, Y] [xB6 r1] = dn (xAd ((Int.tmod r1.1 a1), r1.2)) [(decide ((a1 : Int) ≤ 0)) = false, (decide ((a1 : Int) ≤ 256)) = true, AbC 147 (xDz a0) (xB6 r1), a1 ≠ (0 : Int)] := by kernel_rfl
theorem p104_e_2 (a0 : Cur) (a1 : Int) (r1 : Int × Cur) (r2 : Int × Cur) (r3 : Int × Cur) (r4 : Int × Cur) : rE I104 (xAu a0 a1) [F, F] [xB6 r1, xB6 r2, xB6 r3, xB6 r4] = dn (xAd ((Int.tmod (W ((W ((W ((W (r1.1 * 16777216)) + (W (r2.1 * 65536)))) + (W (r3.1 * 256)))) + r4.1)) a1), r4.2)) [(decide ((a1 : Int) ≤ 0)) = false, (decide ((a1 : Int) ≤ 256)) = false, AbC 147 (xDz a0) (xB6 r1), AbC 147 (xDz r1.2) (xB6 r2), AbC 147 (xDz r2.2) (xB6 r3), AbC 147 (xDz r3.2) (xB6 r4), a1 ≠ (0 : Int)] := by kernel_rfl
theorem c104_e {N : Nat} : ∀ a0 a1 r, xBy N a0 a1 = some r → RE Try.f104 I104 (xAu a0 a1) (xAd r) := fun a0 a1 r h =>
 cE h (fun h0 h => dE h fk104 (p104_e_0 a0 a1) (oc h0 on)) fun h0 h =>
 cE h (fun h1 h => bE h fun r1 h2 h => iE h fun h3 h => dE h fk104 (p104_e_1 a0 a1 r1) (oc h0 (oc h1 (oc (xFF h2) (oc h3 on))))) fun h1 h =>
 bE h fun r1 h2 h => bE h fun r2 h3 h => bE h fun r3 h4 h => bE h fun r4 h5 h => iE h fun h6 h => dE h fk104 (p104_e_2 a0 a1 r1 r2 r3 r4) (oc h0 (oc h1 (oc (xFF h2) (oc (xFF h3) (oc (xFF h4) (oc (xFF h5) (oc h6 on)))))))
theorem xAy {N : Nat} {a0 : Cur} {a1 : Int} {r : Int × Cur} (h : xBy N  a0 a1 = some r) : AbC 104 (xAu a0 a1) (xAd r) :=
 AbsCalls.of_reach fk104 rfl rfl (Nat.le_of_ble_eq_true rfl) (c104_e a0 a1 r h)
noncomputable def I103 : Info := { body := (Try.f103.body).getD .skip, nt := 9, results := [.tmp 4], keep := [0, 2, 8, 1], live := [], modes := [], ext := [0] }
theorem fk103 : FnOk Try.prog 103 Try.f103 I103 := ⟨Try.func103, by kernel_rfl, by kernel_rfl, by kernel_rfl, by kernel_rfl⟩
theorem p103_e_0 (a0 : Cur) (a1 : Int) (r1 : Int × Cur) : rE I103 (xBA a0 a1) [] [xAd r1] = dn (xAM (((r1.1 : Int) == 0), r1.2)) [AbC 104 (xAu a0 a1) (xAd r1)] := by kernel_rfl
theorem c103_e {N : Nat} : ∀ a0 a1 r, xDP N a0 a1 = some r → RE Try.f103 I103 (xBA a0 a1) (xAM r) := fun a0 a1 r h =>
 bE h fun r1 h0 h => dE h fk103 (p103_e_0 a0 a1 r1) (oc (xAy h0) on)
theorem xBU {N : Nat} {a0 : Cur} {a1 : Int} {r : Bool × Cur} (h : xDP N  a0 a1 = some r) : AbC 103 (xBA a0 a1) (xAM r) :=
 AbsCalls.of_reach fk103 rfl rfl (Nat.le_of_ble_eq_true rfl) (c103_e a0 a1 r h)
noncomputable def I145 : Info := { body := (Try.f145.body).getD .skip, nt := 12, results := [.tmp 4], keep := [0, 2, 8, 1], live := [], modes := [], ext := [0] }
theorem fk145 : FnOk Try.prog 145 Try.f145 I145 := ⟨Try.func145, by kernel_rfl, by kernel_rfl, by kernel_rfl, by kernel_rfl⟩
theorem p145_e_0 (a0 : Cur) (a1 : List Int) (r1 : Int × Cur) : rE I145 (xEM a0 a1) [] [xAd r1] = dn (xDx ((gD a1 (tN r1.1) Ty.int.dflt), r1.2)) [AbC 104 (xAu a0 (Ln a1 : Int)) (xAd r1), (0 : Int) ≤ r1.1 ∧ r1.1 < (Ln a1)] := by kernel_rfl
theorem c145_e {N : Nat} : ∀ a0 a1 r, xEF N a0 a1 = some r → RE Try.f145 I145 (xEM a0 a1) (xDx r) := fun a0 a1 r h =>
 bE h fun r1 h0 h => iE h fun h1 h => dE h fk145 (p145_e_0 a0 a1 r1) (oc (xAy h0) (oc h1 on))
theorem xHz {N : Nat} {a0 : Cur} {a1 : List Int} {r : Int × Cur} (h : xEF N  a0 a1 = some r) : AbC 145 (xEM a0 a1) (xDx r) :=
 AbsCalls.of_reach fk145 rfl rfl (Nat.le_of_ble_eq_true rfl) (c145_e a0 a1 r h)
noncomputable def I96 : Info := { body := (Try.f96.body).getD .skip, nt := 12, results := [.tmp 4], keep := [0, 2, 8, 1], live := [], modes := [], ext := [0] }
theorem fk96 : FnOk Try.prog 96 Try.f96 I96 := ⟨Try.func96, by kernel_rfl, by kernel_rfl, by kernel_rfl, by kernel_rfl⟩
theorem p96_e_0 (a0 : Cur) (a1 : List Str) (r1 : Int × Cur) : rE I96 (xE6 a0 a1) [] [xAd r1] = dn (xDB ((gD a1 (tN r1.1) Ty.str.dflt), r1.2)) [AbC 104 (xAu a0 (Ln a1 : Int)) (xAd r1), (0 : Int) ≤ r1.1 ∧ r1.1 < (Ln a1)] := by kernel_rfl
theorem c96_e {N : Nat} : ∀ a0 a1 r, xFm N a0 a1 = some r → RE Try.f96 I96 (xE6 a0 a1) (xDB r) := fun a0 a1 r h =>
 bE h fun r1 h0 h => iE h fun h1 h => dE h fk96 (p96_e_0 a0 a1 r1) (oc (xAy h0) (oc h1 on))
theorem xHm {N : Nat} {a0 : Cur} {a1 : List Str} {r : Str × Cur} (h : xFm N  a0 a1 = some r) : AbC 96 (xE6 a0 a1) (xDB r) :=
 AbsCalls.of_reach fk96 rfl rfl (Nat.le_of_ble_eq_true rfl) (c96_e a0 a1 r h)
noncomputable def I97 : Info := { body := (Try.f97.body).getD .skip, nt := 11, results := [.tmp 2], keep := [0, 4, 8, 1], live := [], modes := [(2, [(1, .cp, true)])], ext := [0] }
theorem fk97 : FnOk Try.prog 97 Try.f97 I97 := ⟨Try.func97, by kernel_rfl, by kernel_rfl, by kernel_rfl, by kernel_rfl⟩
theorem p97_e_0 (a0 : Cur) (r1 : Bool × Cur) (r2 : Int × Cur) : rE I97 (xCk a0) [Y] [xAM r1, xDx r2] = dn (xBi (r2.1, r2.2)) [AbC 103 (xBA a0 12) (xAM r1), r1.1 = true, AbC 145 (xEM r1.2 [1000000000, (-1000000000), 999999999, 500000000, 40000]) (xDx r2)] := by kernel_rfl
theorem p97_e_1 (a0 : Cur) (r1 : Bool × Cur) (r2 : Int × Cur) : rE I97 (xCk a0) [F] [xAM r1, xAd r2] = dn (xBi ((W (r2.1 - 3)), r2.2)) [AbC 103 (xBA a0 12) (xAM r1), r1.1 = false, AbC 104 (xAu r1.2 12) (xAd r2)] := by kernel_rfl
theorem c97_e {N : Nat} : ∀ a0 r, xC6 N a0 = some r → RE Try.f97 I97 (xCk a0) (xBi r) := fun a0 r h =>
 bE h fun r1 h0 h => cE h (fun h1 h => bE h fun r2 h2 h => dE h fk97 (p97_e_0 a0 r1 r2) (oc (xBU h0) (oc h1 (oc (xHz h2) on)))) fun h1 h =>
 bE h fun r2 h2 h => dE h fk97 (p97_e_1 a0 r1 r2) (oc (xBU h0) (oc h1 (oc (xAy h2) on)))
theorem xDg {N : Nat} {a0 : Cur} {r : Int × Cur} (h : xC6 N  a0 = some r) : AbC 97 (xCk a0) (xBi r) :=
 AbsCalls.of_reach fk97 rfl rfl (Nat.le_of_ble_eq_true rfl) (c97_e a0 r h)
end Go.Ab.T
end
section
open Go.Proofs
namespace Go.Ab.T
set_option linter.unusedVariables false
set_option maxRecDepth 100000
noncomputable def I38 : Info := { body := (Try.f38.body).getD .skip, nt := 8, results := [.tmp 4], keep := [0, 2, 4, 6, 8, 5, 7], live := [], modes := [] }
theorem fk38 : FnOk Try.prog 38 Try.f38 I38 := ⟨Try.func38, by kernel_rfl, by kernel_rfl, by kernel_rfl, by kernel_rfl⟩
theorem p38_e_0 (a0 a1 : Val) (r1 : Bool) : rE I38 (xAe a0 a1) [] [xBa r1] = dn (xAa r1) [AbC 107 (xBP a0 a1 true) (xBa r1)] := by kernel_rfl
theorem c38_e {N : Nat} : ∀ a0 a1 r, xAI N a0 a1 = some r → RE Try.f38 I38 (xAe a0 a1) (xAa r) := fun a0 a1 r h =>
 bE h fun r1 h0 h => dE h fk38 (p38_e_0 a0 a1 r1) (oc (xIl h0) on)
theorem xAf {N : Nat} {a0 : Val} {a1 : Val} {r : Bool} (h : xAI N  a0 a1 = some r) : AbC 38 (xAe a0 a1) (xAa r) :=
 AbsCalls.of_reach fk38 rfl rfl (Nat.le_of_ble_eq_true rfl) (c38_e a0 a1 r h)
noncomputable def I157 : Info := { body := (Try.f157.body).getD .skip, nt := 6, results := [.tmp 2], keep := [0, 4, 1], live := [], modes := [(1, [(1, .cp, true)])], ext := [0] }
theorem fk157 : FnOk Try.prog 157 Try.f157 I157 := ⟨Try.func157, by kernel_rfl, by kernel_rfl, by kernel_rfl, by kernel_rfl⟩
theorem p157_e_0 (a0 : Cur) (r1 : Str × Cur) : rE I157 (xFa a0) [] [xDB r1] = dn (xDD (r1.1, r1.2)) [AbC 96 (xE6 a0 [[], [97], [98], [97, 98], [104, 101, 108, 108, 111], [116, 119, 101, 110, 116, 121, 32, 99, 104, 97, 114, 97, 99, 116, 101, 114, 115, 32, 111, 107], [110, 105, 110, 101, 116, 101, 101, 110, 32, 99, 104, 97, 114, 97, 99, 116, 101, 114, 46]]) (xDB r1)] := by kernel_rfl
theorem c157_e {N : Nat} : ∀ a0 r, xFS N a0 = some r → RE Try.f157 I157 (xFa a0) (xDD r) := fun a0 r h =>
 bE h fun r1 h0 h => dE h fk157 (p157_e_0 a0 r1) (oc (xHm h0) on)
theorem xHn {N : Nat} {a0 : Cur} {r : Str × Cur} (h : xFS N  a0 = some r) : AbC 157 (xFa a0) (xDD r) :=
 AbsCalls.of_reach fk157 rfl rfl (Nat.le_of_ble_eq_true rfl) (c157_e a0 r h)
def G158 (q : Cur → Int → Option (Val × Cur)) : Prop := ∀ a0 a1 r, q a0 a1 = some r → AbC 158 (xCM a0 a1) (xBL r)
def G181 (q : Cur → Int → Option (Val × Cur)) : Prop := ∀ a0 a1 r, q a0 a1 = some r → AbC 181 (xCA a0 a1) (xB9 r)
noncomputable def I158 : Info := { body := (Try.f158.body).getD .skip, nt := 26, results := [.cell 4 31], keep := [0, 2, 8, 10, 12, 14, 28, 1, 9, 11], live := [(4, [0, 2, 8, 10, 12, 14, 1, 9, 11])], modes := [(2, [(1, .cp, true)]), (4, [(1, .take, false)]), (6, [(1, .take, false), (6, .take, false)]), (7, [(0, .take, false)])], ext := [0] }
theorem fk158 : FnOk Try.prog 158 Try.f158 I158 := ⟨Try.func158, by kernel_rfl, by kernel_rfl, by kernel_rfl, by kernel_rfl⟩
def S158_4 (x1 x6 x7 : Int) (b0 : Cur) (b4 b5 : Val) : St := [(0, .v false [.ptr 0 0]), (2, .v false [.int .i64 x1]), (8, .v false [.ptr 4 0]), (10, .v false [.ptr 5 0]), (12, .v false [.int .i64 x6]), (14, .v false [.int .i64 x7]), (1, .v true [.sl .ro .byte (Cur.b b0), .int .i64 (Cur.i b0), .int .i64 (Cur.h b0)]), (9, .v true [.int .i64 (Val.kind b4), .int .i64 (Val.n b4), .int .i64 (Val.step b4), .str (Val.text b4), .sl .own .val (Val.list b4), .sl .own .str (Val.columns b4), .sl .own .row (Val.rows b4)]), (11, .v true [.int .i64 (Val.kind b5), .int .i64 (Val.n b5), .int .i64 (Val.step b5), .str (Val.text b5), .sl .own .val (Val.list b5), .sl .own .str (Val.columns b5), .sl .own .row (Val.rows b5)])]
theorem p158_4_0 (x1 x6 x7 : Int) (b0 : Cur) (b4 b5 : Val) (r1 : Val × Cur) : rS 4 I158 (S158_4 x1 x6 x7 b0 b4 b5) [Y] [xB9 r1] = st 4 I158 (S158_4 x1 x6 (W (x7 + 1)) r1.2 b4 (Val.mk (Val.kind b5) (Val.n b5) (Val.step b5) (Val.text b5) ((Val.list b5) ++ [(Val.re r1.1)]) (Val.columns b5) (Val.rows b5))) [(decide ((x7 : Int) < x6)) = true, AbC 181 (xCA b0 x1) (xB9 r1), Ln (Val.list b5) + Ln [(Val.re r1.1)] ≤ Lim] := by kernel_rfl
theorem p158_4_1 (x1 x6 x7 : Int) (b0 : Cur) (b4 b5 : Val) : rS 4 I158 (S158_4 x1 x6 x7 b0 b4 b5) [F] [] = dn (xBL (b5, b0)) [(decide ((x7 : Int) < x6)) = false] := by kernel_rfl
theorem p158_e_2 (a0 : Cur) (a1 : Int) (r1 : Int × Cur) : rE I158 (xCM a0 a1) [] [xDx r1] = st 4 I158 (S158_4 a1 r1.1 0 r1.2 (Val.mk 0 0 0 [] [] [] []) (Val.mk 3 0 0 [] [] [] [])) [AbC 145 (xEM a0 [0, 1, 2, 3, 3, 4, 5, 8]) (xDx r1)] := by kernel_rfl
theorem c158_4 {N : Nat} {q0 : Cur → Int → Option (Val × Cur)} (g0 : G158 q0) {q1 : Cur → Int → Option (Val × Cur)} (g1 : G181 q1) : ∀ n x1 x6 x7 b0 b4 b5 r, xDL N q0 q1 n x1 x6 x7 b0 b4 b5 = some r → RS Try.f158 I158 4 (S158_4 x1 x6 x7 b0 b4 b5) (xBL r) := by
 intro n
 induction n with
 | zero => exact fun _ _ _ _ _ _ _ h => nE h
 | succ n ih =>
  exact fun x1 x6 x7 b0 b4 b5 r h =>
   cE h (fun h0 h => bE h fun r1 h1 h => iE h fun h2 h => tS fk158 (p158_4_0 x1 x6 x7 b0 b4 b5 r1) (oc h0 (oc (g1 _ _ _ h1) (oc h2 on))) (ih _ _ _ _ _ _ _ h)) fun h0 h =>
   dS h fk158 (p158_4_1 x1 x6 x7 b0 b4 b5) (oc h0 on)
theorem c158_e {N : Nat} {q0 : Cur → Int → Option (Val × Cur)} (g0 : G158 q0) {q1 : Cur → Int → Option (Val × Cur)} (g1 : G181 q1) : ∀ a0 a1 r, xDU N q0 q1 a0 a1 = some r → RE Try.f158 I158 (xCM a0 a1) (xBL r) := fun a0 a1 r h =>
 bE h fun r1 h0 h => tE fk158 (p158_e_2 a0 a1 r1) (oc (xHz h0) on) (c158_4 g0 g1 _ _ _ _ _ _ _ _ h)
theorem xHM {N : Nat} {q0 : Cur → Int → Option (Val × Cur)} (g0 : G158 q0) {q1 : Cur → Int → Option (Val × Cur)} (g1 : G181 q1) {a0 : Cur} {a1 : Int} {r : Val × Cur} (h : xDU N q0 q1 a0 a1 = some r) : AbC 158 (xCM a0 a1) (xBL r) :=
 AbsCalls.of_reach fk158 rfl rfl (Nat.le_of_ble_eq_true rfl) (c158_e g0 g1 a0 a1 r h)
noncomputable def I181 : Info := { body := (Try.f181.body).getD .skip, nt := 23, results := [.cell 4 31], keep := [0, 2, 8, 20, 32, 1, 9], live := [], modes := [(1, [(2, .take, false)])], ext := [0] }
theorem fk181 : FnOk Try.prog 181 Try.f181 I181 := ⟨Try.func181, by kernel_rfl, by kernel_rfl, by kernel_rfl, by kernel_rfl⟩
theorem p181_e_0 (a0 : Cur) (a1 : Int) (r1 : Bool × Cur) (r2 : Val × Cur) : rE I181 (xCA a0 a1) [Y, Y] [xAM r1, xBL r2] = dn (xB9 (r2.1, r2.2)) [(decide ((a1 : Int) > 1)) = true, AbC 103 (xBA a0 4) (xAM r1), r1.1 = true, AbC 158 (xCM r1.2 (W (a1 - 1))) (xBL r2)] := by kernel_rfl
theorem p181_e_1 (a0 : Cur) (a1 : Int) (r1 : Bool × Cur) (r2 : Bool × Cur) (r3 : Str × Cur) (r4 : Val) : rE I181 (xCA a0 a1) [Y, F, Y] [xAM r1, xAM r2, xDD r3, xB0 r4] = dn (xB9 (r4, r3.2)) [(decide ((a1 : Int) > 1)) = true, AbC 103 (xBA a0 4) (xAM r1), r1.1 = false, AbC 103 (xBA r1.2 4) (xAM r2), r2.1 = true, AbC 157 (xFa r2.2) (xDD r3), AbC 127 (xDw r3.1) (xB0 r4)] := by kernel_rfl
theorem p181_e_2 (a0 : Cur) (a1 : Int) (r1 : Bool × Cur) (r2 : Bool × Cur) (r3 : Int × Cur) (r4 : Val) : rE I181 (xCA a0 a1) [Y, F, F] [xAM r1, xAM r2, xBi r3, xAj r4] = dn (xB9 (r4, r3.2)) [(decide ((a1 : Int) > 1)) = true, AbC 103 (xBA a0 4) (xAM r1), r1.1 = false, AbC 103 (xBA r1.2 4) (xAM r2), r2.1 = false, AbC 97 (xCk r2.2) (xBi r3), AbC 51 (xAJ r3.1) (xAj r4)] := by kernel_rfl
theorem p181_e_3 (a0 : Cur) (a1 : Int) (r1 : Bool × Cur) (r2 : Str × Cur) (r3 : Val) : rE I181 (xCA a0 a1) [F, F, Y] [xAM r1, xDD r2, xB0 r3] = dn (xB9 (r3, r2.2)) [(decide ((a1 : Int) > 1)) = false, false = false, AbC 103 (xBA a0 4) (xAM r1), r1.1 = true, AbC 157 (xFa r1.2) (xDD r2), AbC 127 (xDw r2.1) (xB0 r3)] := by kernel_rfl
theorem p181_e_4 (a0 : Cur) (a1 : Int) (r1 : Bool × Cur) (r2 : Int × Cur) (r3 : Val) : rE I181 (xCA a0 a1) [F, F, F] [xAM r1, xBi r2, xAj r3] = dn (xB9 (r3, r2.2)) [(decide ((a1 : Int) > 1)) = false, false = false, AbC 103 (xBA a0 4) (xAM r1), r1.1 = false, AbC 97 (xCk r1.2) (xBi r2), AbC 51 (xAJ r2.1) (xAj r3)] := by kernel_rfl
theorem c181_e {N : Nat} {q0 : Cur → Int → Option (Val × Cur)} (g0 : G158 q0) {q1 : Cur → Int → Option (Val × Cur)} (g1 : G181 q1) : ∀ a0 a1 r, xDV N q0 q1 a0 a1 = some r → RE Try.f181 I181 (xCA a0 a1) (xB9 r) := fun a0 a1 r h =>
 cE h (fun h0 h => bE h fun r1 h1 h => cE h (fun h2 h => bE h fun r2 h3 h => dE h fk181 (p181_e_0 a0 a1 r1 r2) (oc h0 (oc (xBU h1) (oc h2 (oc (g0 _ _ _ h3) on))))) fun h2 h =>
 bE h fun r2 h3 h => cE h (fun h4 h => bE h fun r3 h5 h => bE h fun r4 h6 h => dE h fk181 (p181_e_1 a0 a1 r1 r2 r3 r4) (oc h0 (oc (xBU h1) (oc h2 (oc (xBU h3) (oc h4 (oc (xHn h5) (oc (xFu h6) on)))))))) fun h4 h =>
 bE h fun r3 h5 h => bE h fun r4 h6 h => dE h fk181 (p181_e_2 a0 a1 r1 r2 r3 r4) (oc h0 (oc (xBU h1) (oc h2 (oc (xBU h3) (oc h4 (oc (xDg h5) (oc (xAQ h6) on)))))))) fun h0 h =>
 bE h fun r1 h2 h => cE h (fun h3 h => bE h fun r2 h4 h => bE h fun r3 h5 h => dE h fk181 (p181_e_3 a0 a1 r1 r2 r3) (oc h0 (oc rfl (oc (xBU h2) (oc h3 (oc (xHn h4) (oc (xFu h5) on))))))) fun h3 h =>
 bE h fun r2 h4 h => bE h fun r3 h5 h => dE h fk181 (p181_e_4 a0 a1 r1 r2 r3) (oc h0 (oc rfl (oc (xBU h2) (oc h3 (oc (xDg h4) (oc (xAQ h5) on))))))
theorem xHN {N : Nat} {q0 : Cur → Int → Option (Val × Cur)} (g0 : G158 q0) {q1 : Cur → Int → Option (Val × Cur)} (g1 : G181 q1) {a0 : Cur} {a1 : Int} {r : Val × Cur} (h : xDV N q0 q1 a0 a1 = some r) : AbC 181 (xCA a0 a1) (xB9 r) :=
 AbsCalls.of_reach fk181 rfl rfl (Nat.le_of_ble_eq_true rfl) (c181_e g0 g1 a0 a1 r h)
theorem xHX {N : Nat} : ∀ d, G158 (xA0 N d).c_spec_l3DrawList ∧ G181 (xA0 N d).c_spec_l3Element2 := by
 intro d
 induction d with
 | zero => exact ⟨fun _ _ _ h => nE h, fun _ _ _ h => nE h⟩
 | succ d ih =>
  obtain ⟨ih0, ih1⟩ := ih
  exact ⟨fun _ _ _ h => xHM (N := N) ih0 ih1 h, fun _ _ _ h => xHN (N := N) ih0 ih1 h⟩
theorem xHf {N : Nat} {a0 : Cur} {a1 : Int} {r : Val × Cur} (h : xGc N a0 a1 = some r) : AbC 158 (xCM a0 a1) (xBL r) := (xHX N).1 _ _ r h
noncomputable def I159 : Info := { body := (Try.f159.body).getD .skip, nt := 23, results := [.cell 2 31], keep := [0, 4, 6, 8, 10, 22, 1, 5, 7], live := [(4, [0, 4, 6, 8, 10, 1, 5, 7])], modes := [(4, [(1, .take, false)]), (6, [(1, .take, false), (6, .take, false)]), (7, [(0, .take, false)])], ext := [0] }
theorem fk159 : FnOk Try.prog 159 Try.f159 I159 := ⟨Try.func159, by kernel_rfl, by kernel_rfl, by kernel_rfl, by kernel_rfl⟩
def S159_4 (x4 x5 : Int) (b0 : Cur) (b2 b3 : Val) : St := [(0, .v false [.ptr 0 0]), (4, .v false [.ptr 2 0]), (6, .v false [.ptr 3 0]), (8, .v false [.int .i64 x4]), (10, .v false [.int .i64 x5]), (1, .v true [.sl .ro .byte (Cur.b b0), .int .i64 (Cur.i b0), .int .i64 (Cur.h b0)]), (5, .v true [.int .i64 (Val.kind b2), .int .i64 (Val.n b2), .int .i64 (Val.step b2), .str (Val.text b2), .sl .own .val (Val.list b2), .sl .own .str (Val.columns b2), .sl .own .row (Val.rows b2)]), (7, .v true [.int .i64 (Val.kind b3), .int .i64 (Val.n b3), .int .i64 (Val.step b3), .str (Val.text b3), .sl .own .val (Val.list b3), .sl .own .str (Val.columns b3), .sl .own .row (Val.rows b3)])]
theorem p159_4_0 (x4 x5 : Int) (b0 : Cur) (b2 b3 : Val) (r1 : Int × Cur) (r2 : Val) : rS 4 I159 (S159_4 x4 x5 b0 b2 b3) [Y] [xBi r1, xAj r2] = st 4 I159 (S159_4 x4 (W (x5 + 1)) r1.2 b2 (Val.mk (Val.kind b3) (Val.n b3) (Val.step b3) (Val.text b3) ((Val.list b3) ++ [(Val.re r2)]) (Val.columns b3) (Val.rows b3))) [(decide ((x5 : Int) < x4)) = true, AbC 97 (xCk b0) (xBi r1), AbC 51 (xAJ r1.1) (xAj r2), Ln (Val.list b3) + Ln [(Val.re r2)] ≤ Lim] := by kernel_rfl
theorem p159_4_1 (x4 x5 : Int) (b0 : Cur) (b2 b3 : Val) : rS 4 I159 (S159_4 x4 x5 b0 b2 b3) [F] [] = dn (xC7 (b3, b0)) [(decide ((x5 : Int) < x4)) = false] := by kernel_rfl
theorem p159_e_2 (a0 : Cur) (r1 : Int × Cur) : rE I159 (xEO a0) [] [xAd r1] = st 4 I159 (S159_4 r1.1 0 r1.2 (Val.mk 0 0 0 [] [] [] []) (Val.mk 3 0 0 [] [] [] [])) [AbC 104 (xAu a0 9) (xAd r1)] := by kernel_rfl
theorem c159_4 {N : Nat} : ∀ n x4 x5 b0 b2 b3 r, xEc N n x4 x5 b0 b2 b3 = some r → RS Try.f159 I159 4 (S159_4 x4 x5 b0 b2 b3) (xC7 r) := by
 intro n
 induction n with
 | zero => exact fun _ _ _ _ _ _ h => nE h
 | succ n ih =>
  exact fun x4 x5 b0 b2 b3 r h =>
   cE h (fun h0 h => bE h fun r1 h1 h => bE h fun r2 h2 h => iE h fun h3 h => tS fk159 (p159_4_0 x4 x5 b0 b2 b3 r1 r2) (oc h0 (oc (xDg h1) (oc (xAQ h2) (oc h3 on)))) (ih _ _ _ _ _ _ h)) fun h0 h =>
   dS h fk159 (p159_4_1 x4 x5 b0 b2 b3) (oc h0 on)
theorem c159_e {N : Nat} : ∀ a0 r, xFI N a0 = some r → RE Try.f159 I159 (xEO a0) (xC7 r) := fun a0 r h =>
 bE h fun r1 h0 h => tE fk159 (p159_e_2 a0 r1) (oc (xAy h0) on) (c159_4 _ _ _ _ _ _ _ h)
theorem xHA {N : Nat} {a0 : Cur} {r : Val × Cur} (h : xFI N  a0 = some r) : AbC 159 (xEO a0) (xC7 r) :=
 AbsCalls.of_reach fk159 rfl rfl (Nat.le_of_ble_eq_true rfl) (c159_e a0 r h)
noncomputable def I125 : Info := { body := (Try.f125.body).getD .skip, nt := 8, results := [.cell 4 31], keep := [0, 2, 8, 9], live := [], modes := [] }
theorem fk125 : FnOk Try.prog 125 Try.f125 I125 := ⟨Try.func125, by kernel_rfl, by kernel_rfl, by kernel_rfl, by kernel_rfl⟩
theorem p125_e_0 (a0 a1 : Int) : rE I125 (xDu a0 a1) [] [] = dn (xCj (Val.mk 4 a0 a1 [] [] [] [])) [] := by kernel_rfl
theorem c125_e {N : Nat} : ∀ a0 a1 r, xEv N a0 a1 = some r → RE Try.f125 I125 (xDu a0 a1) (xCj r) := fun a0 a1 r h =>
 dE h fk125 (p125_e_0 a0 a1) on
theorem xFQ {N : Nat} {a0 : Int} {a1 : Int} {r : Val} (h : xEv N  a0 a1 = some r) : AbC 125 (xDu a0 a1) (xCj r) :=
 AbsCalls.of_reach fk125 rfl rfl (Nat.le_of_ble_eq_true rfl) (c125_e a0 a1 r h)
noncomputable def I182 : Info := { body := (Try.f182.body).getD .skip, nt := 31, results := [.tmp 2], keep := [0, 4, 6, 8, 10, 12, 24, 1], live := [(5, [0, 6, 8, 10, 12, 1])], modes := [(5, [(1, .take, false)]), (7, [(0, .take, false)]), (9, [(0, .take, false)])], ext := [0] }
theorem fk182 : FnOk Try.prog 182 Try.f182 I182 := ⟨Try.func182, by kernel_rfl, by kernel_rfl, by kernel_rfl, by kernel_rfl⟩
def S182_5 (x3 : List Org) (x4 x5 x6 : Int) (b0 : Cur) : St := [(0, .v false [.ptr 0 0]), (6, .v false [.sl .own .org x3]), (8, .v false [.int .i64 x4]), (10, .v false [.int .i64 x5]), (12, .v false [.int .i64 x6]), (1, .v true [.sl .ro .byte (Cur.b b0), .int .i64 (Cur.i b0), .int .i64 (Cur.h b0)])]
theorem p182_5_0 (x3 : List Org) (x4 x5 x6 : Int) (b0 : Cur) (r1 : Int × Cur) (r2 : Int × Cur) : rS 5 I182 (S182_5 x3 x4 x5 x6 b0) [Y] [xAd r1, xAd r2] = st 5 I182 (S182_5 (x3 ++ [(Org.mk x4 (W (x6 + (W (r1.1 * 2)))))]) (W ((W (x4 + 1)) + r2.1)) x5 (W (x6 + 1)) r2.2) [(decide ((x6 : Int) < x5)) = true, AbC 104 (xAu b0 2) (xAd r1), Ln x3 + Ln [(Org.mk x4 (W (x6 + (W (r1.1 * 2)))))] ≤ Lim, AbC 104 (xAu r1.2 2) (xAd r2)] := by kernel_rfl
theorem p182_5_1 (x3 : List Org) (x4 x5 x6 : Int) (b0 : Cur) : rS 5 I182 (S182_5 x3 x4 x5 x6 b0) [F] [] = dn (xE9 (x3, b0)) [(decide ((x6 : Int) < x5)) = false] := by kernel_rfl
theorem p182_e_2 (a0 : Cur) (r1 : Int × Cur) : rE I182 (xGA a0) [] [xAd r1] = st 5 I182 (S182_5 [] 1 r1.1 0 r1.2) [AbC 104 (xAu a0 3) (xAd r1)] := by kernel_rfl
theorem c182_5 {N : Nat} : ∀ n x3 x4 x5 x6 b0 r, xE8 N n x3 x4 x5 x6 b0 = some r → RS Try.f182 I182 5 (S182_5 x3 x4 x5 x6 b0) (xE9 r) := by
 intro n
 induction n with
 | zero => exact fun _ _ _ _ _ _ h => nE h
 | succ n ih =>
  exact fun x3 x4 x5 x6 b0 r h =>
   cE h (fun h0 h => bE h fun r1 h1 h => iE h fun h2 h => bE h fun r2 h3 h => tS fk182 (p182_5_0 x3 x4 x5 x6 b0 r1 r2) (oc h0 (oc (xAy h1) (oc h2 (oc (xAy h3) on)))) (ih _ _ _ _ _ _ h)) fun h0 h =>
   dS h fk182 (p182_5_1 x3 x4 x5 x6 b0) (oc h0 on)
theorem c182_e {N : Nat} : ∀ a0 r, xHO N a0 = some r → RE Try.f182 I182 (xGA a0) (xE9 r) := fun a0 r h =>
 bE h fun r1 h0 h => tE fk182 (p182_e_2 a0 r1) (oc (xAy h0) on) (c182_5 _ _ _ _ _ _ _ h)
theorem spec_l3From_ok {N : Nat} {a0 : Cur} {r : (List Org) × Cur} (h : xHO N  a0 = some r) : AbC 182 (xGA a0) (xE9 r) :=
 AbsCalls.of_reach fk182 rfl rfl (Nat.le_of_ble_eq_true rfl) (c182_e a0 r h)
noncomputable def I160 : Info := { body := (Try.f160.body).getD .skip, nt := 58, results := [.cell 2 31], keep := [0, 4, 6, 8, 10, 12, 14, 16, 18, 42, 66, 82, 1, 5, 11, 17], live := [(10, [0, 4, 8, 10, 12, 14, 1, 5, 11]), (14, [0, 4, 8, 10, 12, 14, 16, 18, 1, 5, 11, 17])], modes := [(3, [(1, .take, false)]), (5, [(1, .ref, false)]), (6, [(1, .take, false), (2, .take, false)]), (10, [(1, .take, false)]), (16, [(1, .take, false)]), (17, [(1, .take, false), (2, .take, false), (4, .take, false)]), (18, [(0, .take, false)])], ext := [0] }
theorem fk160 : FnOk Try.prog 160 Try.f160 I160 := ⟨Try.func160, by kernel_rfl, by kernel_rfl, by kernel_rfl, by kernel_rfl⟩
def xIn (x4 x6 x7 : Int) (b0 : Cur) (b2 b5 : Val) : St := [(0, .v false [.ptr 0 0]), (4, .v false [.ptr 2 0]), (8, .v false [.int .i64 x4]), (10, .v false [.ptr 5 0]), (12, .v false [.int .i64 x6]), (14, .v false [.int .i64 x7]), (1, .v true [.sl .ro .byte (Cur.b b0), .int .i64 (Cur.i b0), .int .i64 (Cur.h b0)]), (5, .v true [.int .i64 (Val.kind b2), .int .i64 (Val.n b2), .int .i64 (Val.step b2), .str (Val.text b2), .sl .own .val (Val.list b2), .sl .own .str (Val.columns b2), .sl .own .row (Val.rows b2)]), (11, .v true [.int .i64 (Val.kind b5), .int .i64 (Val.n b5), .int .i64 (Val.step b5), .str (Val.text b5), .sl .own .val (Val.list b5), .sl .own .str (Val.columns b5), .sl .own .row (Val.rows b5)])]
def S160_14 (x4 x6 x7 x9 : Int) (b0 : Cur) (b2 b5 : Val) (b8 : Rowd) : St := [(0, .v false [.ptr 0 0]), (4, .v false [.ptr 2 0]), (8, .v false [.int .i64 x4]), (10, .v false [.ptr 5 0]), (12, .v false [.int .i64 x6]), (14, .v false [.int .i64 x7]), (16, .v false [.ptr 8 0]), (18, .v false [.int .i64 x9]), (1, .v true [.sl .ro .byte (Cur.b b0), .int .i64 (Cur.i b0), .int .i64 (Cur.h b0)]), (5, .v true [.int .i64 (Val.kind b2), .int .i64 (Val.n b2), .int .i64 (Val.step b2), .str (Val.text b2), .sl .own .val (Val.list b2), .sl .own .str (Val.columns b2), .sl .own .row (Val.rows b2)]), (11, .v true [.int .i64 (Val.kind b5), .int .i64 (Val.n b5), .int .i64 (Val.step b5), .str (Val.text b5), .sl .own .val (Val.list b5), .sl .own .str (Val.columns b5), .sl .own .row (Val.rows b5)]), (17, .v true [.sl .own .int (Rowd.cells b8), .sl .own .org (Rowd.frm b8)])]
theorem p160_14_0 (x4 x6 x7 x9 : Int) (b0 : Cur) (b2 b5 : Val) (b8 : Rowd) (r1 : Int × Cur) : rS 14 I160 (S160_14 x4 x6 x7 x9 b0 b2 b5 b8) [Y] [xBi r1] = st 14 I160 (S160_14 x4 x6 x7 (W (x9 + 1)) r1.2 b2 b5 (Rowd.mk ((Rowd.cells b8) ++ [r1.1]) (Rowd.frm b8))) [(decide ((x9 : Int) < x4)) = true, AbC 97 (xCk b0) (xBi r1), Ln (Rowd.cells b8) + Ln [r1.1] ≤ Lim] := by kernel_rfl
theorem p160_14_1 (x4 x6 x7 x9 : Int) (b0 : Cur) (b2 b5 : Val) (b8 : Rowd) : rS 14 I160 (S160_14 x4 x6 x7 x9 b0 b2 b5 b8) [F] [] = st 10 I160 (xIn x4 x6 (W (x7 + 1)) b0 b2 (Val.mk (Val.kind b5) (Val.n b5) (Val.step b5) (Val.text b5) (Val.list b5) (Val.columns b5) ((Val.rows b5) ++ [b8]))) [(decide ((x9 : Int) < x4)) = false, Ln (Val.rows b5) + Ln [b8] ≤ Lim] := by kernel_rfl
theorem p160_10_2 (x4 x6 x7 : Int) (b0 : Cur) (b2 b5 : Val) (r1 : (List Org) × Cur) : rS 10 I160 (xIn x4 x6 x7 b0 b2 b5) [Y] [xE9 r1] = st 14 I160 (S160_14 x4 x6 x7 0 r1.2 b2 b5 (Rowd.mk [] r1.1)) [(decide ((x7 : Int) < x6)) = true, AbC 182 (xGA b0) (xE9 r1)] := by kernel_rfl
theorem p160_10_3 (x4 x6 x7 : Int) (b0 : Cur) (b2 b5 : Val) : rS 10 I160 (xIn x4 x6 x7 b0 b2 b5) [F] [] = dn (xCF (b5, b0)) [(decide ((x7 : Int) < x6)) = false] := by kernel_rfl
theorem p160_e_4 (a0 : Cur) (r1 : Int × Cur) (r2 : Bool × Cur) (r3 : Int × Cur) : rE I160 (xEs a0) [Y] [xAd r1, xAM r2, xAd r3] = st 10 I160 (xIn 1 r3.1 0 r3.2 (Val.mk 0 0 0 [] [] [] []) (Val.mk 5 0 0 [] [] (List.take (tN 1) ((fun (z8 : List Str) => List.set z8 (tN 0) [120]) ([] ++ (List.take (tN (W (1 + r1.1))) ([[97], [98], [99], [120]] : List Str))))) [])) [AbC 104 (xAu a0 3) (xAd r1), (0 : Int) ≤ (W (1 + r1.1)) ∧ (W (1 + r1.1)) ≤ (Ln ([[97], [98], [99], [120]] : List Str)), 0 + Ln (List.take (tN (W (1 + r1.1))) ([[97], [98], [99], [120]] : List Str)) ≤ Lim, AbC 103 (xBA r1.2 5) (xAM r2), r2.1 = true, (0 : Int) ≤ 0 ∧ (0 : Int) < (Ln ([] ++ (List.take (tN (W (1 + r1.1))) ([[97], [98], [99], [120]] : List Str)))), (0 : Int) ≤ 1 ∧ (1 : Int) ≤ (Ln ((fun (z8 : List Str) => List.set z8 (tN 0) [120]) ([] ++ (List.take (tN (W (1 + r1.1))) ([[97], [98], [99], [120]] : List Str))))), AbC 104 (xAu r2.2 6) (xAd r3)] := by kernel_rfl
theorem p160_e_5 (a0 : Cur) (r1 : Int × Cur) (r2 : Bool × Cur) (r3 : Int × Cur) : rE I160 (xEs a0) [F] [xAd r1, xAM r2, xAd r3] = st 10 I160 (xIn (W (1 + r1.1)) r3.1 0 r3.2 (Val.mk 0 0 0 [] [] [] []) (Val.mk 5 0 0 [] [] ([] ++ (List.take (tN (W (1 + r1.1))) ([[97], [98], [99], [120]] : List Str))) [])) [AbC 104 (xAu a0 3) (xAd r1), (0 : Int) ≤ (W (1 + r1.1)) ∧ (W (1 + r1.1)) ≤ (Ln ([[97], [98], [99], [120]] : List Str)), 0 + Ln (List.take (tN (W (1 + r1.1))) ([[97], [98], [99], [120]] : List Str)) ≤ Lim, AbC 103 (xBA r1.2 5) (xAM r2), r2.1 = false, AbC 104 (xAu r2.2 6) (xAd r3)] := by kernel_rfl
theorem c160_14 {N : Nat} {k10 : Int → Int → Int → Cur → Val → Val → Option (Val × Cur)} (hk10 : ∀ z0 z1 z2 z3 z4 z5 r, k10 z0 z1 z2 z3 z4 z5 = some r → RS Try.f160 I160 10 (xIn z0 z1 z2 z3 z4 z5) (xCF r)) : ∀ n x4 x6 x7 x9 b0 b2 b5 b8 r, xDi N k10 n x4 x6 x7 x9 b0 b2 b5 b8 = some r → RS Try.f160 I160 14 (S160_14 x4 x6 x7 x9 b0 b2 b5 b8) (xCF r) := by
 intro n
 induction n with
 | zero => exact fun _ _ _ _ _ _ _ _ _ h => nE h
 | succ n ih =>
  exact fun x4 x6 x7 x9 b0 b2 b5 b8 r h =>
   cE h (fun h0 h => bE h fun r1 h1 h => iE h fun h2 h => tS fk160 (p160_14_0 x4 x6 x7 x9 b0 b2 b5 b8 r1) (oc h0 (oc (xDg h1) (oc h2 on))) (ih _ _ _ _ _ _ _ _ _ h)) fun h0 h =>
   iE h fun h1 h => tS fk160 (p160_14_1 x4 x6 x7 x9 b0 b2 b5 b8) (oc h0 (oc h1 on)) (hk10 _ _ _ _ _ _ _ h)
theorem c160_10 {N : Nat} : ∀ n x4 x6 x7 b0 b2 b5 r, xBX N n x4 x6 x7 b0 b2 b5 = some r → RS Try.f160 I160 10 (xIn x4 x6 x7 b0 b2 b5) (xCF r) := by
 intro n
 induction n with
 | zero => exact fun _ _ _ _ _ _ _ h => nE h
 | succ n ih =>
  exact fun x4 x6 x7 b0 b2 b5 r h =>
   cE h (fun h0 h => bE h fun r1 h1 h => tS fk160 (p160_10_2 x4 x6 x7 b0 b2 b5 r1) (oc h0 (oc (spec_l3From_ok h1) on)) (c160_14 ih _ _ _ _ _ _ _ _ _ _ h)) fun h0 h =>
   dS h fk160 (p160_10_3 x4 x6 x7 b0 b2 b5) (oc h0 on)
theorem c160_e {N : Nat} : ∀ a0 r, xE5 N a0 = some r → RE Try.f160 I160 (xEs a0) (xCF r) := fun a0 r h =>
 bE h fun r1 h0 h => iE h fun h1 h => iE h fun h2 h => bE h fun r2 h3 h => cE h (fun h4 h => iE h fun h5 h => iE h fun h6 h => bE h fun r3 h7 h => tE fk160 (p160_e_4 a0 r1 r2 r3) (oc (xAy h0) (oc h1 (oc h2 (oc (xBU h3) (oc h4 (oc h5 (oc h6 (oc (xAy h7) on)))))))) (c160_10 _ _ _ _ _ _ _ _ h)) fun h4 h =>
 bE h fun r3 h5 h => tE fk160 (p160_e_5 a0 r1 r2 r3) (oc (xAy h0) (oc h1 (oc h2 (oc (xBU h3) (oc h4 (oc (xAy h5) on)))))) (c160_10 _ _ _ _ _ _ _ _ h)
theorem xIE {N : Nat} {a0 : Cur} {r : Val × Cur} (h : xE5 N  a0 = some r) : AbC 160 (xEs a0) (xCF r) :=
 AbsCalls.of_reach fk160 rfl rfl (Nat.le_of_ble_eq_true rfl) (c160_e a0 r h)
noncomputable def I115 : Info := { body := (Try.f115.body).getD .skip, nt := 40, results := [.cell 2 31], keep := [0, 4, 8, 10, 24, 34, 42, 50, 64, 1, 5], live := [], modes := [], ext := [0] }
theorem fk115 : FnOk Try.prog 115 Try.f115 I115 := ⟨Try.func115, by kernel_rfl, by kernel_rfl, by kernel_rfl, by kernel_rfl⟩
theorem p115_e_0 (a0 : Cur) (r1 : Int × Cur) (r2 : Int × Cur) (r3 : Val) : rE I115 (xBv a0) [Y, Y] [xAd r1, xBi r2, xAj r3] = dn (xAT (r3, r2.2)) [AbC 104 (xAu a0 10) (xAd r1), ((r1.1 : Int) == 0) = true, ((r1.1 : Int) == 0) = true, AbC 97 (xCk r1.2) (xBi r2), AbC 51 (xAJ r2.1) (xAj r3)] := by kernel_rfl
theorem p115_e_1 (a0 : Cur) (r1 : Int × Cur) (r2 : Int × Cur) (r3 : Val) : rE I115 (xBv a0) [F, Y, Y] [xAd r1, xBi r2, xAj r3] = dn (xAT (r3, r2.2)) [AbC 104 (xAu a0 10) (xAd r1), ((r1.1 : Int) == 0) = false, ((r1.1 : Int) == 1) = true, ((r1.1 : Int) == 1) = true, AbC 97 (xCk r1.2) (xBi r2), AbC 51 (xAJ r2.1) (xAj r3)] := by kernel_rfl
theorem p115_e_2 (a0 : Cur) (r1 : Int × Cur) (r2 : Int × Cur) (r3 : Val) : rE I115 (xBv a0) [F, F, Y] [xAd r1, xBi r2, xAj r3] = dn (xAT (r3, r2.2)) [AbC 104 (xAu a0 10) (xAd r1), ((r1.1 : Int) == 0) = false, ((r1.1 : Int) == 1) = false, ((r1.1 : Int) == 2) = true, AbC 97 (xCk r1.2) (xBi r2), AbC 51 (xAJ r2.1) (xAj r3)] := by kernel_rfl
theorem p115_e_3 (a0 : Cur) (r1 : Int × Cur) (r2 : Str × Cur) (r3 : Val) : rE I115 (xBv a0) [F, F, F, Y] [xAd r1, xDD r2, xB0 r3] = dn (xAT (r3, r2.2)) [AbC 104 (xAu a0 10) (xAd r1), ((r1.1 : Int) == 0) = false, ((r1.1 : Int) == 1) = false, ((r1.1 : Int) == 2) = false, ((r1.1 : Int) == 3) = true, AbC 157 (xFa r1.2) (xDD r2), AbC 127 (xDw r2.1) (xB0 r3)] := by kernel_rfl
theorem p115_e_4 (a0 : Cur) (r1 : Int × Cur) (r2 : Val × Cur) : rE I115 (xBv a0) [F, F, F, F, Y] [xAd r1, xBL r2] = dn (xAT (r2.1, r2.2)) [AbC 104 (xAu a0 10) (xAd r1), ((r1.1 : Int) == 0) = false, ((r1.1 : Int) == 1) = false, ((r1.1 : Int) == 2) = false, ((r1.1 : Int) == 3) = false, ((r1.1 : Int) == 4) = true, AbC 158 (xCM r1.2 3) (xBL r2)] := by kernel_rfl
theorem p115_e_5 (a0 : Cur) (r1 : Int × Cur) (r2 : Val × Cur) : rE I115 (xBv a0) [F, F, F, F, F, Y] [xAd r1, xC7 r2] = dn (xAT (r2.1, r2.2)) [AbC 104 (xAu a0 10) (xAd r1), ((r1.1 : Int) == 0) = false, ((r1.1 : Int) == 1) = false, ((r1.1 : Int) == 2) = false, ((r1.1 : Int) == 3) = false, ((r1.1 : Int) == 4) = false, ((r1.1 : Int) == 5) = true, AbC 159 (xEO r1.2) (xC7 r2)] := by kernel_rfl
theorem p115_e_6 (a0 : Cur) (r1 : Int × Cur) (r2 : Int × Cur) (r3 : Int × Cur) (r4 : Val) : rE I115 (xBv a0) [F, F, F, F, F, F, Y] [xAd r1, xBi r2, xBi r3, xCj r4] = dn (xAT (r4, r3.2)) [AbC 104 (xAu a0 10) (xAd r1), ((r1.1 : Int) == 0) = false, ((r1.1 : Int) == 1) = false, ((r1.1 : Int) == 2) = false, ((r1.1 : Int) == 3) = false, ((r1.1 : Int) == 4) = false, ((r1.1 : Int) == 5) = false, ((r1.1 : Int) == 6) = true, AbC 97 (xCk r1.2) (xBi r2), AbC 97 (xCk r2.2) (xBi r3), AbC 125 (xDu r2.1 r3.1) (xCj r4)] := by kernel_rfl
theorem p115_e_7 (a0 : Cur) (r1 : Int × Cur) (r2 : Int × Cur) (r3 : Val) : rE I115 (xBv a0) [F, F, F, F, F, F, F, Y] [xAd r1, xAd r2, xAg r3] = dn (xAT (r3, r2.2)) [AbC 104 (xAu a0 10) (xAd r1), ((r1.1 : Int) == 0) = false, ((r1.1 : Int) == 1) = false, ((r1.1 : Int) == 2) = false, ((r1.1 : Int) == 3) = false, ((r1.1 : Int) == 4) = false, ((r1.1 : Int) == 5) = false, ((r1.1 : Int) == 6) = false, ((r1.1 : Int) == 7) = true, AbC 104 (xAu r1.2 8) (xAd r2), AbC 44 (xAA (W (1 + r2.1))) (xAg r3)] := by kernel_rfl
theorem p115_e_8 (a0 : Cur) (r1 : Int × Cur) (r2 : Val × Cur) : rE I115 (xBv a0) [F, F, F, F, F, F, F, F] [xAd r1, xCF r2] = dn (xAT (r2.1, r2.2)) [AbC 104 (xAu a0 10) (xAd r1), ((r1.1 : Int) == 0) = false, ((r1.1 : Int) == 1) = false, ((r1.1 : Int) == 2) = false, ((r1.1 : Int) == 3) = false, ((r1.1 : Int) == 4) = false, ((r1.1 : Int) == 5) = false, ((r1.1 : Int) == 6) = false, ((r1.1 : Int) == 7) = false, AbC 160 (xEs r1.2) (xCF r2)] := by kernel_rfl
theorem c115_e {N : Nat} : ∀ a0 r, xGp N a0 = some r → RE Try.f115 I115 (xBv a0) (xAT r) := fun a0 r h =>
 bE h fun r1 h0 h => cE h (fun h1 h => bE h fun r2 h3 h => bE h fun r3 h4 h => dE h fk115 (p115_e_0 a0 r1 r2 r3) (oc (xAy h0) (oc h1 (oc h1 (oc (xDg h3) (oc (xAQ h4) on)))))) fun h1 h =>
 cE h (fun h2 h => bE h fun r2 h4 h => bE h fun r3 h5 h => dE h fk115 (p115_e_1 a0 r1 r2 r3) (oc (xAy h0) (oc h1 (oc h2 (oc h2 (oc (xDg h4) (oc (xAQ h5) on))))))) fun h2 h =>
 cE h (fun h3 h => bE h fun r2 h4 h => bE h fun r3 h5 h => dE h fk115 (p115_e_2 a0 r1 r2 r3) (oc (xAy h0) (oc h1 (oc h2 (oc h3 (oc (xDg h4) (oc (xAQ h5) on))))))) fun h3 h =>
 cE h (fun h4 h => bE h fun r2 h5 h => bE h fun r3 h6 h => dE h fk115 (p115_e_3 a0 r1 r2 r3) (oc (xAy h0) (oc h1 (oc h2 (oc h3 (oc h4 (oc (xHn h5) (oc (xFu h6) on)))))))) fun h4 h =>
 cE h (fun h5 h => bE h fun r2 h6 h => dE h fk115 (p115_e_4 a0 r1 r2) (oc (xAy h0) (oc h1 (oc h2 (oc h3 (oc h4 (oc h5 (oc (xHf h6) on)))))))) fun h5 h =>
 cE h (fun h6 h => bE h fun r2 h7 h => dE h fk115 (p115_e_5 a0 r1 r2) (oc (xAy h0) (oc h1 (oc h2 (oc h3 (oc h4 (oc h5 (oc h6 (oc (xHA h7) on))))))))) fun h6 h =>
 cE h (fun h7 h => bE h fun r2 h8 h => bE h fun r3 h9 h => bE h fun r4 h10 h => dE h fk115 (p115_e_6 a0 r1 r2 r3 r4) (oc (xAy h0) (oc h1 (oc h2 (oc h3 (oc h4 (oc h5 (oc h6 (oc h7 (oc (xDg h8) (oc (xDg h9) (oc (xFQ h10) on)))))))))))) fun h7 h =>
 cE h (fun h8 h => bE h fun r2 h9 h => bE h fun r3 h10 h => dE h fk115 (p115_e_7 a0 r1 r2 r3) (oc (xAy h0) (oc h1 (oc h2 (oc h3 (oc h4 (oc h5 (oc h6 (oc h7 (oc h8 (oc (xAy h9) (oc (xAH h10) on)))))))))))) fun h8 h =>
 bE h fun r2 h9 h => dE h fk115 (p115_e_8 a0 r1 r2) (oc (xAy h0) (oc h1 (oc h2 (oc h3 (oc h4 (oc h5 (oc h6 (oc h7 (oc h8 (oc (xIE h9) on))))))))))
theorem xDC {N : Nat} {a0 : Cur} {r : Val × Cur} (h : xGp N  a0 = some r) : AbC 115 (xBv a0) (xAT r) :=
 AbsCalls.of_reach fk115 rfl rfl (Nat.le_of_ble_eq_true rfl) (c115_e a0 r h)
end Go.Ab.T
end
section
open Go.Proofs
namespace Go.Ab.T
set_option linter.unusedVariables false
set_option maxRecDepth 100000
noncomputable def I188 : Info := { body := (Try.f188.body).getD .skip, nt := 6, results := [.tmp 2], keep := [0, 4, 1], live := [], modes := [(1, [(1, .cp, true)])], ext := [0] }
theorem fk188 : FnOk Try.prog 188 Try.f188 I188 := ⟨Try.func188, by kernel_rfl, by kernel_rfl, by kernel_rfl, by kernel_rfl⟩
theorem p188_e_0 (a0 : Cur) (r1 : Str × Cur) : rE I188 (xGx a0) [] [xDB r1] = dn (xFG (r1.1, r1.2)) [AbC 96 (xE6 a0 [[97], [98], [99], [100], [120], [121], [116], [117]]) (xDB r1)] := by kernel_rfl
theorem c188_e {N : Nat} : ∀ a0 r, xIB N a0 = some r → RE Try.f188 I188 (xGx a0) (xFG r) := fun a0 r h =>
 bE h fun r1 h0 h => dE h fk188 (p188_e_0 a0 r1) (oc (xHm h0) on)
theorem spec_l2Name_ok {N : Nat} {a0 : Cur} {r : Str × Cur} (h : xIB N  a0 = some r) : AbC 188 (xGx a0) (xFG r) :=
 AbsCalls.of_reach fk188 rfl rfl (Nat.le_of_ble_eq_true rfl) (c188_e a0 r h)
noncomputable def I183 : Info := { body := (Try.f183.body).getD .skip, nt := 10, results := [.tmp 2], keep := [0, 4, 8, 1], live := [], modes := [(3, [(1, .cp, true)])], ext := [0] }
theorem fk183 : FnOk Try.prog 183 Try.f183 I183 := ⟨Try.func183, by kernel_rfl, by kernel_rfl, by kernel_rfl, by kernel_rfl⟩
theorem p183_e_0 (a0 : Cur) (r1 : Bool × Cur) (r2 : Str × Cur) : rE I183 (xF9 a0) [Y] [xAM r1, xFG r2] = dn (xFz (r2.1, r2.2)) [AbC 103 (xBA a0 2) (xAM r1), r1.1 = true, AbC 188 (xGx r1.2) (xFG r2)] := by kernel_rfl
theorem p183_e_1 (a0 : Cur) (r1 : Bool × Cur) (r2 : Str × Cur) : rE I183 (xF9 a0) [F] [xAM r1, xDB r2] = dn (xFz (r2.1, r2.2)) [AbC 103 (xBA a0 2) (xAM r1), r1.1 = false, AbC 96 (xE6 r1.2 [[], [49, 97], [97, 49], [97, 98, 99, 100, 101, 102, 103, 104], [97, 98, 99, 100, 101, 102, 103, 104, 105], [108, 101, 116], [116, 97, 98, 108, 101], [115, 117, 109], [115, 117, 109, 115], [65], [97, 95, 98], [108, 101, 110]]) (xDB r2)] := by kernel_rfl
theorem c183_e {N : Nat} : ∀ a0 r, xH8 N a0 = some r → RE Try.f183 I183 (xF9 a0) (xFz r) := fun a0 r h =>
 bE h fun r1 h0 h => cE h (fun h1 h => bE h fun r2 h2 h => dE h fk183 (p183_e_0 a0 r1 r2) (oc (xBU h0) (oc h1 (oc (spec_l2Name_ok h2) on)))) fun h1 h =>
 bE h fun r2 h2 h => dE h fk183 (p183_e_1 a0 r1 r2) (oc (xBU h0) (oc h1 (oc (xHm h2) on)))
theorem spec_l2Any_ok {N : Nat} {a0 : Cur} {r : Str × Cur} (h : xH8 N  a0 = some r) : AbC 183 (xF9 a0) (xFz r) :=
 AbsCalls.of_reach fk183 rfl rfl (Nat.le_of_ble_eq_true rfl) (c183_e a0 r h)
noncomputable def I161 : Info := { body := (Try.f161.body).getD .skip, nt := 59, results := [.cell 2 31], keep := [0, 4, 6, 14, 16, 28, 40, 50, 68, 92, 110, 1, 5, 7], live := [], modes := [(10, [(1, .take, false), (5, .take, false)]), (12, [(1, .take, false), (8, .take, false)]), (14, [(1, .take, false)]), (17, [(0, .take, false)])], ext := [0] }
theorem fk161 : FnOk Try.prog 161 Try.f161 I161 := ⟨Try.func161, by kernel_rfl, by kernel_rfl, by kernel_rfl, by kernel_rfl⟩
theorem p161_e_0 (a0 : Cur) (r1 : Val × Cur) (r2 : Int × Cur) : rE I161 (xCG a0) [Y] [xAT r1, xAd r2] = dn (xB8 ((Val.mk (Val.kind r1.1) (W ((Val.n r1.1) + 1000000000)) (Val.step r1.1) (Val.text r1.1) (Val.list r1.1) (Val.columns r1.1) (Val.rows r1.1)), r2.2)) [AbC 115 (xBv a0) (xAT r1), AbC 104 (xAu r1.2 16) (xAd r2), ((r2.1 : Int) == 0) = true] := by kernel_rfl
theorem p161_e_1 (a0 : Cur) (r1 : Val × Cur) (r2 : Int × Cur) : rE I161 (xCG a0) [F, Y] [xAT r1, xAd r2] = dn (xB8 ((Val.mk (Val.kind r1.1) (Val.n r1.1) (Val.step r1.1) ((Val.text r1.1) ++ [120, 34, 121]) (Val.list r1.1) (Val.columns r1.1) (Val.rows r1.1)), r2.2)) [AbC 115 (xBv a0) (xAT r1), AbC 104 (xAu r1.2 16) (xAd r2), ((r2.1 : Int) == 0) = false, ((r2.1 : Int) == 1) = true, Ln (Val.text r1.1) + Ln [120, 34, 121] ≤ Lim] := by kernel_rfl
theorem p161_e_2 (a0 : Cur) (r1 : Val × Cur) (r2 : Int × Cur) (r3 : Int × Cur) : rE I161 (xCG a0) [F, F, Y] [xAT r1, xAd r2, xAd r3] = dn (xB8 ((Val.mk r3.1 (Val.n r1.1) (Val.step r1.1) (Val.text r1.1) (Val.list r1.1) (Val.columns r1.1) (Val.rows r1.1)), r3.2)) [AbC 115 (xBv a0) (xAT r1), AbC 104 (xAu r1.2 16) (xAd r2), ((r2.1 : Int) == 0) = false, ((r2.1 : Int) == 1) = false, ((r2.1 : Int) == 2) = true, AbC 104 (xAu r2.2 8) (xAd r3)] := by kernel_rfl
theorem p161_e_3 (a0 : Cur) (r1 : Val × Cur) (r2 : Int × Cur) (r3 : Val × Cur) : rE I161 (xCG a0) [F, F, F, Y] [xAT r1, xAd r2, xAT r3] = dn (xB8 ((Val.mk (Val.kind r1.1) (Val.n r1.1) (Val.step r1.1) (Val.text r1.1) ((Val.list r1.1) ++ [(Val.re r3.1)]) (Val.columns r1.1) (Val.rows r1.1)), r3.2)) [AbC 115 (xBv a0) (xAT r1), AbC 104 (xAu r1.2 16) (xAd r2), ((r2.1 : Int) == 0) = false, ((r2.1 : Int) == 1) = false, ((r2.1 : Int) == 2) = false, ((r2.1 : Int) == 3) = true, AbC 115 (xBv r2.2) (xAT r3), Ln (Val.list r1.1) + Ln [(Val.re r3.1)] ≤ Lim] := by kernel_rfl
theorem p161_e_4 (a0 : Cur) (r1 : Val × Cur) (r2 : Int × Cur) : rE I161 (xCG a0) [F, F, F, F, Y] [xAT r1, xAd r2] = dn (xB8 ((Val.mk (Val.kind r1.1) (Val.n r1.1) (Val.step r1.1) (Val.text r1.1) (Val.list r1.1) (Val.columns r1.1) ((Val.rows r1.1) ++ [(Rowd.mk [1] [(Org.mk 2 1), (Org.mk 1 1)])])), r2.2)) [AbC 115 (xBv a0) (xAT r1), AbC 104 (xAu r1.2 16) (xAd r2), ((r2.1 : Int) == 0) = false, ((r2.1 : Int) == 1) = false, ((r2.1 : Int) == 2) = false, ((r2.1 : Int) == 3) = false, ((r2.1 : Int) == 4) = true, Ln (Val.rows r1.1) + Ln [(Rowd.mk [1] [(Org.mk 2 1), (Org.mk 1 1)])] ≤ Lim] := by kernel_rfl
theorem p161_e_5 (a0 : Cur) (r1 : Val × Cur) (r2 : Int × Cur) (r3 : Str × Cur) : rE I161 (xCG a0) [F, F, F, F, F, Y] [xAT r1, xAd r2, xFz r3] = dn (xB8 ((Val.mk (Val.kind r1.1) (Val.n r1.1) (Val.step r1.1) (Val.text r1.1) (Val.list r1.1) ((Val.columns r1.1) ++ [r3.1]) (Val.rows r1.1)), r3.2)) [AbC 115 (xBv a0) (xAT r1), AbC 104 (xAu r1.2 16) (xAd r2), ((r2.1 : Int) == 0) = false, ((r2.1 : Int) == 1) = false, ((r2.1 : Int) == 2) = false, ((r2.1 : Int) == 3) = false, ((r2.1 : Int) == 4) = false, ((r2.1 : Int) == 5) = true, AbC 183 (xF9 r2.2) (xFz r3), Ln (Val.columns r1.1) + Ln [r3.1] ≤ Lim] := by kernel_rfl
theorem p161_e_6 (a0 : Cur) (r1 : Val × Cur) (r2 : Int × Cur) : rE I161 (xCG a0) [F, F, F, F, F, F, Y] [xAT r1, xAd r2] = dn (xB8 ((Val.mk (Val.kind r1.1) (Val.n r1.1) 7 (Val.text r1.1) (Val.list r1.1) (Val.columns r1.1) (Val.rows r1.1)), r2.2)) [AbC 115 (xBv a0) (xAT r1), AbC 104 (xAu r1.2 16) (xAd r2), ((r2.1 : Int) == 0) = false, ((r2.1 : Int) == 1) = false, ((r2.1 : Int) == 2) = false, ((r2.1 : Int) == 3) = false, ((r2.1 : Int) == 4) = false, ((r2.1 : Int) == 5) = false, ((r2.1 : Int) == 6) = true] := by kernel_rfl
theorem p161_e_7 (a0 : Cur) (r1 : Val × Cur) (r2 : Int × Cur) : rE I161 (xCG a0) [F, F, F, F, F, F, F] [xAT r1, xAd r2] = dn (xB8 (r1.1, r2.2)) [AbC 115 (xBv a0) (xAT r1), AbC 104 (xAu r1.2 16) (xAd r2), ((r2.1 : Int) == 0) = false, ((r2.1 : Int) == 1) = false, ((r2.1 : Int) == 2) = false, ((r2.1 : Int) == 3) = false, ((r2.1 : Int) == 4) = false, ((r2.1 : Int) == 5) = false, ((r2.1 : Int) == 6) = false] := by kernel_rfl
theorem c161_e {N : Nat} : ∀ a0 r, xGm N a0 = some r → RE Try.f161 I161 (xCG a0) (xB8 r) := fun a0 r h =>
 bE h fun r1 h0 h => bE h fun r2 h1 h => cE h (fun h2 h => dE h fk161 (p161_e_0 a0 r1 r2) (oc (xDC h0) (oc (xAy h1) (oc h2 on)))) fun h2 h =>
 cE h (fun h3 h => iE h fun h4 h => dE h fk161 (p161_e_1 a0 r1 r2) (oc (xDC h0) (oc (xAy h1) (oc h2 (oc h3 (oc h4 on)))))) fun h3 h =>
 cE h (fun h4 h => bE h fun r3 h5 h => dE h fk161 (p161_e_2 a0 r1 r2 r3) (oc (xDC h0) (oc (xAy h1) (oc h2 (oc h3 (oc h4 (oc (xAy h5) on))))))) fun h4 h =>
 cE h (fun h5 h => bE h fun r3 h6 h => iE h fun h7 h => dE h fk161 (p161_e_3 a0 r1 r2 r3) (oc (xDC h0) (oc (xAy h1) (oc h2 (oc h3 (oc h4 (oc h5 (oc (xDC h6) (oc h7 on))))))))) fun h5 h =>
 cE h (fun h6 h => iE h fun h7 h => dE h fk161 (p161_e_4 a0 r1 r2) (oc (xDC h0) (oc (xAy h1) (oc h2 (oc h3 (oc h4 (oc h5 (oc h6 (oc h7 on))))))))) fun h6 h =>
 cE h (fun h7 h => bE h fun r3 h8 h => iE h fun h9 h => dE h fk161 (p161_e_5 a0 r1 r2 r3) (oc (xDC h0) (oc (xAy h1) (oc h2 (oc h3 (oc h4 (oc h5 (oc h6 (oc h7 (oc (spec_l2Any_ok h8) (oc h9 on))))))))))) fun h7 h =>
 cE h (fun h8 h => dE h fk161 (p161_e_6 a0 r1 r2) (oc (xDC h0) (oc (xAy h1) (oc h2 (oc h3 (oc h4 (oc h5 (oc h6 (oc h7 (oc h8 on)))))))))) fun h8 h =>
 dE h fk161 (p161_e_7 a0 r1 r2) (oc (xDC h0) (oc (xAy h1) (oc h2 (oc h3 (oc h4 (oc h5 (oc h6 (oc h7 (oc h8 on)))))))))
theorem xIj {N : Nat} {a0 : Cur} {r : Val × Cur} (h : xGm N  a0 = some r) : AbC 161 (xCG a0) (xB8 r) :=
 AbsCalls.of_reach fk161 rfl rfl (Nat.le_of_ble_eq_true rfl) (c161_e a0 r h)
noncomputable def I116 : Info := { body := (Try.f116.body).getD .skip, nt := 11, results := [.cell 2 31], keep := [0, 4, 8, 1, 5], live := [], modes := [], ext := [0] }
theorem fk116 : FnOk Try.prog 116 Try.f116 I116 := ⟨Try.func116, by kernel_rfl, by kernel_rfl, by kernel_rfl, by kernel_rfl⟩
theorem p116_e_0 (a0 : Cur) (r1 : Bool × Cur) (r2 : Val × Cur) : rE I116 (xFo a0) [Y] [xAM r1, xB8 r2] = dn (xEQ (r2.1, r2.2)) [AbC 103 (xBA a0 8) (xAM r1), r1.1 = true, AbC 161 (xCG r1.2) (xB8 r2)] := by kernel_rfl
theorem p116_e_1 (a0 : Cur) (r1 : Bool × Cur) (r2 : Int × Cur) (r3 : Val) : rE I116 (xFo a0) [F] [xAM r1, xAd r2, xAj r3] = dn (xEQ (r3, r2.2)) [AbC 103 (xBA a0 8) (xAM r1), r1.1 = false, AbC 104 (xAu r1.2 12) (xAd r2), AbC 51 (xAJ (W (r2.1 - 1))) (xAj r3)] := by kernel_rfl
theorem c116_e {N : Nat} : ∀ a0 r, xGH N a0 = some r → RE Try.f116 I116 (xFo a0) (xEQ r) := fun a0 r h =>
 bE h fun r1 h0 h => cE h (fun h1 h => bE h fun r2 h2 h => dE h fk116 (p116_e_0 a0 r1 r2) (oc (xBU h0) (oc h1 (oc (xIj h2) on)))) fun h1 h =>
 bE h fun r2 h2 h => bE h fun r3 h3 h => dE h fk116 (p116_e_1 a0 r1 r2 r3) (oc (xBU h0) (oc h1 (oc (xAy h2) (oc (xAQ h3) on))))
theorem spec_l6Count_ok {N : Nat} {a0 : Cur} {r : Val × Cur} (h : xGH N  a0 = some r) : AbC 116 (xFo a0) (xEQ r) :=
 AbsCalls.of_reach fk116 rfl rfl (Nat.le_of_ble_eq_true rfl) (c116_e a0 r h)
noncomputable def I117 : Info := { body := (Try.f117.body).getD .skip, nt := 22, results := [.cell 2 31], keep := [0, 4, 8, 10, 18, 26, 1, 5], live := [], modes := [], ext := [0] }
theorem fk117 : FnOk Try.prog 117 Try.f117 I117 := ⟨Try.func117, by kernel_rfl, by kernel_rfl, by kernel_rfl, by kernel_rfl⟩
theorem p117_e_0 (a0 : Cur) (r1 : Int × Cur) (r2 : Val × Cur) : rE I117 (xEH a0) [Y] [xAd r1, xC7 r2] = dn (xD7 (r2.1, r2.2)) [AbC 104 (xAu a0 5) (xAd r1), ((r1.1 : Int) == 0) = true, AbC 159 (xEO r1.2) (xC7 r2)] := by kernel_rfl
theorem p117_e_1 (a0 : Cur) (r1 : Int × Cur) (r2 : Val × Cur) : rE I117 (xEH a0) [F, Y] [xAd r1, xBL r2] = dn (xD7 (r2.1, r2.2)) [AbC 104 (xAu a0 5) (xAd r1), ((r1.1 : Int) == 0) = false, ((r1.1 : Int) == 1) = true, AbC 158 (xCM r1.2 3) (xBL r2)] := by kernel_rfl
theorem p117_e_2 (a0 : Cur) (r1 : Int × Cur) (r2 : Int × Cur) (r3 : Int × Cur) (r4 : Val) : rE I117 (xEH a0) [F, F, Y] [xAd r1, xBi r2, xBi r3, xCj r4] = dn (xD7 (r4, r3.2)) [AbC 104 (xAu a0 5) (xAd r1), ((r1.1 : Int) == 0) = false, ((r1.1 : Int) == 1) = false, ((r1.1 : Int) == 2) = true, AbC 97 (xCk r1.2) (xBi r2), AbC 97 (xCk r2.2) (xBi r3), AbC 125 (xDu r2.1 r3.1) (xCj r4)] := by kernel_rfl
theorem p117_e_3 (a0 : Cur) (r1 : Int × Cur) (r2 : Val × Cur) : rE I117 (xEH a0) [F, F, F] [xAd r1, xB8 r2] = dn (xD7 (r2.1, r2.2)) [AbC 104 (xAu a0 5) (xAd r1), ((r1.1 : Int) == 0) = false, ((r1.1 : Int) == 1) = false, ((r1.1 : Int) == 2) = false, AbC 161 (xCG r1.2) (xB8 r2)] := by kernel_rfl
theorem c117_e {N : Nat} : ∀ a0 r, xG6 N a0 = some r → RE Try.f117 I117 (xEH a0) (xD7 r) := fun a0 r h =>
 bE h fun r1 h0 h => cE h (fun h1 h => bE h fun r2 h2 h => dE h fk117 (p117_e_0 a0 r1 r2) (oc (xAy h0) (oc h1 (oc (xHA h2) on)))) fun h1 h =>
 cE h (fun h2 h => bE h fun r2 h3 h => dE h fk117 (p117_e_1 a0 r1 r2) (oc (xAy h0) (oc h1 (oc h2 (oc (xHf h3) on))))) fun h2 h =>
 cE h (fun h3 h => bE h fun r2 h4 h => bE h fun r3 h5 h => bE h fun r4 h6 h => dE h fk117 (p117_e_2 a0 r1 r2 r3 r4) (oc (xAy h0) (oc h1 (oc h2 (oc h3 (oc (xDg h4) (oc (xDg h5) (oc (xFQ h6) on)))))))) fun h3 h =>
 bE h fun r2 h4 h => dE h fk117 (p117_e_3 a0 r1 r2) (oc (xAy h0) (oc h1 (oc h2 (oc h3 (oc (xIj h4) on)))))
theorem spec_l6Draw_ok {N : Nat} {a0 : Cur} {r : Val × Cur} (h : xG6 N  a0 = some r) : AbC 117 (xEH a0) (xD7 r) :=
 AbsCalls.of_reach fk117 rfl rfl (Nat.le_of_ble_eq_true rfl) (c117_e a0 r h)
noncomputable def I45 : Info := { body := (Try.f45.body).getD .skip, nt := 11, results := [.cell 2 31, .cell 3 31], keep := [0, 4, 6, 8, 5, 7, 13], live := [], modes := [] }
theorem fk45 : FnOk Try.prog 45 Try.f45 I45 := ⟨Try.func45, by kernel_rfl, by kernel_rfl, by kernel_rfl, by kernel_rfl⟩
theorem p45_e_0 (a0 : List Int) (r1 : Cur) (r2 : Val × Cur) (r3 : Val × Cur) : rE I45 (xAD a0) [] [xE0 r1, xEQ r2, xD7 r3] = dn (xAh (r2.1, r3.1)) [AbC 94 (xGN a0) (xE0 r1), AbC 116 (xFo r1) (xEQ r2), AbC 117 (xEH r2.2) (xD7 r3)] := by kernel_rfl
theorem c45_e {N : Nat} : ∀ a0 r, xF6 N a0 = some r → RE Try.f45 I45 (xAD a0) (xAh r) := fun a0 r h =>
 bE h fun r1 h0 h => bE h fun r2 h1 h => bE h fun r3 h2 h => dE h fk45 (p45_e_0 a0 r1 r2 r3) (oc (spec_l1New_ok h0) (oc (spec_l6Count_ok h1) (oc (spec_l6Draw_ok h2) on)))
theorem xAK {N : Nat} {a0 : List Int} {r : Val × Val} (h : xF6 N  a0 = some r) : AbC 45 (xAD a0) (xAh r) :=
 AbsCalls.of_reach fk45 rfl rfl (Nat.le_of_ble_eq_true rfl) (c45_e a0 r h)
theorem xA6 {P : Program} {f : FuncId} {ags : List Arg} {r : Val × Bool × Bool} (h : AbsCalls P f ags (xBh r)) (ht : r.2.2 = true) : AbsCalls P f ags (xAm r) := by
 unfold xBh at h; rw [ht] at h; exact h
theorem xAY {P : Program} {f : FuncId} {ags : List Arg} {r : Val × Bool × Bool} (h : AbsCalls P f ags (xBh r)) (ht : r.2.2 = false) : AbsCalls P f ags (xAk r) := by
 unfold xBh at h; rw [ht] at h; exact h
noncomputable def I118 : Info := { body := (Try.f118.body).getD .skip, nt := 31, results := [.cell 4 31, .tmp 5], keep := [0, 2, 4, 6, 8, 10, 12, 14, 30, 5, 7, 9, 13], live := [], modes := [(1, [(3, .take, true), (4, .take, false)]), (2, [(0, .take, false)]), (3, [(0, .take, false)]), (4, [(4, .take, false), (8, .take, false)])] }
theorem fk118 : FnOk Try.prog 118 Try.f118 I118 := ⟨Try.func118, by kernel_rfl, by kernel_rfl, by kernel_rfl, by kernel_rfl⟩
theorem p118_e_0 (a0 a1 : Val) (r1 : Val × Bool × Bool) : rE I118 (xAi a0 a1) [Y] [xAX r1] = dn (xBh ((Val.mk (Val.kind r1.1) (Val.n r1.1) (Val.step r1.1) (Val.text r1.1) [] [] []), true, true)) [AbC 65 (xAP [(Val.re a0), (Val.re a1)]) (xAX r1), r1.2.1 = true] := by kernel_rfl
theorem p118_e_1 (a0 a1 : Val) (r1 : Val × Bool × Bool) (r2 : Val) : rE I118 (xAi a0 a1) [F, Y] [xAX r1, xAp r2] = dn (xBh (r2, true, false)) [AbC 65 (xAP [(Val.re a0), (Val.re a1)]) (xAX r1), r1.2.1 = false, AbC 67 (xAR 4) (xAp r2), (((Val.kind a0) : Int) != 1) = true] := by kernel_rfl
theorem p118_e_2 (a0 a1 : Val) (r1 : Val × Bool × Bool) (r2 : Val) : rE I118 (xAi a0 a1) [F, F, Y] [xAX r1, xAp r2] = dn (xBh (r2, (((Val.kind a1) : Int) != 4), false)) [AbC 65 (xAP [(Val.re a0), (Val.re a1)]) (xAX r1), r1.2.1 = false, AbC 67 (xAR 4) (xAp r2), (((Val.kind a0) : Int) != 1) = false, (((Val.kind a1) : Int) != 3) = true] := by kernel_rfl
theorem p118_e_3 (a0 a1 : Val) (r1 : Val × Bool × Bool) (r2 : Val) : rE I118 (xAi a0 a1) [F, F, F] [xAX r1, xAp r2] = dn (xBh (r2, false, false)) [AbC 65 (xAP [(Val.re a0), (Val.re a1)]) (xAX r1), r1.2.1 = false, AbC 67 (xAR 4) (xAp r2), (((Val.kind a0) : Int) != 1) = false, (((Val.kind a1) : Int) != 3) = false] := by kernel_rfl
theorem p118_e_4 (a0 a1 : Val) (r1 : Val × Bool × Bool) : rE I118 (xAi a0 a1) [Y] [xAO r1] = dn (xBh (r1.1, true, false)) [AbC 65 (xAP [(Val.re a0), (Val.re a1)]) (xAO r1), r1.2.1 = true] := by kernel_rfl
theorem p118_e_5 (a0 a1 : Val) (r1 : Val × Bool × Bool) (r2 : Val) : rE I118 (xAi a0 a1) [F, Y] [xAO r1, xAp r2] = dn (xBh (r2, true, false)) [AbC 65 (xAP [(Val.re a0), (Val.re a1)]) (xAO r1), r1.2.1 = false, AbC 67 (xAR 4) (xAp r2), (((Val.kind a0) : Int) != 1) = true] := by kernel_rfl
theorem p118_e_6 (a0 a1 : Val) (r1 : Val × Bool × Bool) (r2 : Val) : rE I118 (xAi a0 a1) [F, F, Y] [xAO r1, xAp r2] = dn (xBh (r2, (((Val.kind a1) : Int) != 4), false)) [AbC 65 (xAP [(Val.re a0), (Val.re a1)]) (xAO r1), r1.2.1 = false, AbC 67 (xAR 4) (xAp r2), (((Val.kind a0) : Int) != 1) = false, (((Val.kind a1) : Int) != 3) = true] := by kernel_rfl
theorem p118_e_7 (a0 a1 : Val) (r1 : Val × Bool × Bool) (r2 : Val) : rE I118 (xAi a0 a1) [F, F, F] [xAO r1, xAp r2] = dn (xBh (r2, false, false)) [AbC 65 (xAP [(Val.re a0), (Val.re a1)]) (xAO r1), r1.2.1 = false, AbC 67 (xAR 4) (xAp r2), (((Val.kind a0) : Int) != 1) = false, (((Val.kind a1) : Int) != 3) = false] := by kernel_rfl
theorem c118_e {N : Nat} : ∀ a0 a1 r, xDd N a0 a1 = some r → RE Try.f118 I118 (xAi a0 a1) (xBh r) := fun a0 a1 r h =>
 bE h fun r1 h0 h => cE h (fun h1 h => iE h fun h2 h => iE h fun h3 h => iE h fun h4 h => cE h (fun h5 h => dE h fk118 (p118_e_0 a0 a1 r1) (oc (xCb (xA8 h0) h1 h2 h3 h4) (oc h5 on))) fun h5 h =>
 bE h fun r2 h6 h => cE h (fun h7 h => dE h fk118 (p118_e_1 a0 a1 r1 r2) (oc (xCb (xA8 h0) h1 h2 h3 h4) (oc h5 (oc (xBb h6) (oc h7 on))))) fun h7 h =>
 cE h (fun h8 h => dE h fk118 (p118_e_2 a0 a1 r1 r2) (oc (xCb (xA8 h0) h1 h2 h3 h4) (oc h5 (oc (xBb h6) (oc h7 (oc h8 on)))))) fun h8 h =>
 dE h fk118 (p118_e_3 a0 a1 r1 r2) (oc (xCb (xA8 h0) h1 h2 h3 h4) (oc h5 (oc (xBb h6) (oc h7 (oc h8 on)))))) fun h1 h =>
 cE h (fun h2 h => dE h fk118 (p118_e_4 a0 a1 r1) (oc (xCc (xA8 h0) h1) (oc h2 on))) fun h2 h =>
 bE h fun r2 h3 h => cE h (fun h4 h => dE h fk118 (p118_e_5 a0 a1 r1 r2) (oc (xCc (xA8 h0) h1) (oc h2 (oc (xBb h3) (oc h4 on))))) fun h4 h =>
 cE h (fun h5 h => dE h fk118 (p118_e_6 a0 a1 r1 r2) (oc (xCc (xA8 h0) h1) (oc h2 (oc (xBb h3) (oc h4 (oc h5 on)))))) fun h5 h =>
 dE h fk118 (p118_e_7 a0 a1 r1 r2) (oc (xCc (xA8 h0) h1) (oc h2 (oc (xBb h3) (oc h4 (oc h5 on)))))
theorem xAq {N : Nat} {a0 : Val} {a1 : Val} {r : Val × Bool × Bool} (h : xDd N  a0 a1 = some r) : AbC 118 (xAi a0 a1) (xBh r) :=
 AbsCalls.of_reach fk118 rfl rfl (Nat.le_of_ble_eq_true rfl) (c118_e a0 a1 r h)
noncomputable def I119 : Info := { body := (Try.f119.body).getD .skip, nt := 6, results := [.cell 2 31], keep := [0, 4, 5], live := [], modes := [] }
theorem fk119 : FnOk Try.prog 119 Try.f119 I119 := ⟨Try.func119, by kernel_rfl, by kernel_rfl, by kernel_rfl, by kernel_rfl⟩
theorem p119_e_0 (a0 : List Val) (r1 : (List Val)) : rE I119 (xDq a0) [] [xB3 r1] = dn (xBZ (Val.mk 3 0 0 [] r1 [] [])) [AbC 69 (xDc a0) (xB3 r1)] := by kernel_rfl
theorem c119_e {N : Nat} : ∀ a0 r, xDZ N a0 = some r → RE Try.f119 I119 (xDq a0) (xBZ r) := fun a0 r h =>
 bE h fun r1 h0 h => dE h fk119 (p119_e_0 a0 r1) (oc (impl_copyValues_ok h0) on)
theorem xFq {N : Nat} {a0 : List Val} {r : Val} (h : xDZ N  a0 = some r) : AbC 119 (xDq a0) (xBZ r) :=
 AbsCalls.of_reach fk119 rfl rfl (Nat.le_of_ble_eq_true rfl) (c119_e a0 r h)
theorem xFC {P : Program} {f : FuncId} {ags : List Arg} {r : Val × Bool} (h : AbsCalls P f ags (xBT r)) (ht : r.2 = true) : AbsCalls P f ags (xCO r) := by
 unfold xBT at h; rw [ht] at h; exact h
theorem xD0 {P : Program} {f : FuncId} {ags : List Arg} {r : Val × Bool} (h : AbsCalls P f ags (xBT r)) (ht : r.2 = false) : AbsCalls P f ags (xBz r) := by
 unfold xBT at h; rw [ht] at h; exact h
theorem xHk {P : Program} {f : FuncId} {ags : List Arg} {r : Val × Bool} (h : AbsCalls P f ags (xBT r)) (ht : r.2 = true) (e0 : List.isEmpty (Val.list r.1) = true) (e1 : List.isEmpty (Val.columns r.1) = true) (e2 : List.isEmpty (Val.rows r.1) = true) : AbsCalls P f ags (xEC r) := by
 have h := xFC h ht
 unfold xCO at h; rw [List.isEmpty_iff.1 e0, List.isEmpty_iff.1 e1, List.isEmpty_iff.1 e2] at h; exact h
noncomputable def I50 : Info := { body := (Try.f50.body).getD .skip, nt := 53, results := [.cell 4 31], keep := [0, 2, 4, 6, 8, 10, 12, 26, 30, 66, 5, 7, 9, 11], live := [], modes := [(1, [(3, .take, false)]), (2, [(0, .take, false)]), (3, [(0, .take, false)]), (4, [(3, .take, false), (7, .take, false)])] }
theorem fk50 : FnOk Try.prog 50 Try.f50 I50 := ⟨Try.func50, by kernel_rfl, by kernel_rfl, by kernel_rfl, by kernel_rfl⟩
theorem p50_e_0 (a0 a1 : Val) (r1 : Val × Bool × Bool) : rE I50 (xBc a0 a1) [Y] [xAm r1] = dn (xBT (r1.1, true)) [AbC 118 (xAi a0 a1) (xAm r1), r1.2.1 = true] := by kernel_rfl
theorem p50_e_1 (a0 a1 : Val) (r1 : Val × Bool × Bool) (r2 : Val) : rE I50 (xBc a0 a1) [F, Y, Y] [xAm r1, xAp r2] = dn (xBT (r2, false)) [AbC 118 (xAi a0 a1) (xAm r1), r1.2.1 = false, (decide (((Val.n a0) : Int) < 0)) = true, true = true, AbC 67 (xAR 5) (xAp r2)] := by kernel_rfl
theorem p50_e_2 (a0 a1 : Val) (r1 : Val × Bool × Bool) (r2 : Val) : rE I50 (xBc a0 a1) [F, F, Y, Y] [xAm r1, xAp r2] = dn (xBT (r2, false)) [AbC 118 (xAi a0 a1) (xAm r1), r1.2.1 = false, (decide (((Val.n a0) : Int) < 0)) = false, (((Val.kind a1) : Int) == 3) = true, (decide (((Val.n a0) : Int) ≥ (Ln (Val.list a1) : Int))) = true, AbC 67 (xAR 5) (xAp r2)] := by kernel_rfl
theorem p50_e_3 (a0 a1 : Val) (r1 : Val × Bool × Bool) (r2 : Val) : rE I50 (xBc a0 a1) [F, F, Y, F, Y] [xAm r1, xBQ r2] = dn (xBT (r2, false)) [AbC 118 (xAi a0 a1) (xAm r1), r1.2.1 = false, (decide (((Val.n a0) : Int) < 0)) = false, (((Val.kind a1) : Int) == 3) = true, (decide (((Val.n a0) : Int) ≥ (Ln (Val.list a1) : Int))) = false, (((Val.kind a1) : Int) == 3) = true, (0 : Int) ≤ (Val.n a0) ∧ (Val.n a0) < (Ln (Val.list a1)), AbC 89 (xC3 (gD (Val.list a1) (tN (Val.n a0)) vd)) (xBQ r2)] := by kernel_rfl
theorem p50_e_4 (a0 a1 : Val) (r1 : Val × Bool × Bool) (r2 : Val) : rE I50 (xBc a0 a1) [F, F, F, F, F] [xAm r1, xCa r2] = dn (xBT (r2, false)) [AbC 118 (xAi a0 a1) (xAm r1), r1.2.1 = false, (decide (((Val.n a0) : Int) < 0)) = false, (((Val.kind a1) : Int) == 3) = false, false = false, (((Val.kind a1) : Int) == 3) = false, AbC 66 (xC1 (W ((Val.n a1) + (W ((Val.n a0) * (Val.step a1)))))) (xCa r2)] := by kernel_rfl
theorem p50_e_5 (a0 a1 : Val) (r1 : Val × Bool × Bool) : rE I50 (xBc a0 a1) [Y] [xAk r1] = dn (xBT (r1.1, false)) [AbC 118 (xAi a0 a1) (xAk r1), r1.2.1 = true] := by kernel_rfl
theorem p50_e_6 (a0 a1 : Val) (r1 : Val × Bool × Bool) (r2 : Val) : rE I50 (xBc a0 a1) [F, Y, Y] [xAk r1, xAp r2] = dn (xBT (r2, false)) [AbC 118 (xAi a0 a1) (xAk r1), r1.2.1 = false, (decide (((Val.n a0) : Int) < 0)) = true, true = true, AbC 67 (xAR 5) (xAp r2)] := by kernel_rfl
theorem p50_e_7 (a0 a1 : Val) (r1 : Val × Bool × Bool) (r2 : Val) : rE I50 (xBc a0 a1) [F, F, Y, Y] [xAk r1, xAp r2] = dn (xBT (r2, false)) [AbC 118 (xAi a0 a1) (xAk r1), r1.2.1 = false, (decide (((Val.n a0) : Int) < 0)) = false, (((Val.kind a1) : Int) == 3) = true, (decide (((Val.n a0) : Int) ≥ (Ln (Val.list a1) : Int))) = true, AbC 67 (xAR 5) (xAp r2)] := by kernel_rfl
theorem p50_e_8 (a0 a1 : Val) (r1 : Val × Bool × Bool) (r2 : Val) : rE I50 (xBc a0 a1) [F, F, Y, F, Y] [xAk r1, xBQ r2] = dn (xBT (r2, false)) [AbC 118 (xAi a0 a1) (xAk r1), r1.2.1 = false, (decide (((Val.n a0) : Int) < 0)) = false, (((Val.kind a1) : Int) == 3) = true, (decide (((Val.n a0) : Int) ≥ (Ln (Val.list a1) : Int))) = false, (((Val.kind a1) : Int) == 3) = true, (0 : Int) ≤ (Val.n a0) ∧ (Val.n a0) < (Ln (Val.list a1)), AbC 89 (xC3 (gD (Val.list a1) (tN (Val.n a0)) vd)) (xBQ r2)] := by kernel_rfl
theorem p50_e_9 (a0 a1 : Val) (r1 : Val × Bool × Bool) (r2 : Val) : rE I50 (xBc a0 a1) [F, F, F, F, F] [xAk r1, xCa r2] = dn (xBT (r2, false)) [AbC 118 (xAi a0 a1) (xAk r1), r1.2.1 = false, (decide (((Val.n a0) : Int) < 0)) = false, (((Val.kind a1) : Int) == 3) = false, false = false, (((Val.kind a1) : Int) == 3) = false, AbC 66 (xC1 (W ((Val.n a1) + (W ((Val.n a0) * (Val.step a1)))))) (xCa r2)] := by kernel_rfl
theorem c50_e {N : Nat} : ∀ a0 a1 r, xC2 N a0 a1 = some r → RE Try.f50 I50 (xBc a0 a1) (xBT r) := fun a0 a1 r h =>
 bE h fun r1 h0 h => cE h (fun h1 h => cE h (fun h2 h => dE h fk50 (p50_e_0 a0 a1 r1) (oc (xA6 (xAq h0) h1) (oc h2 on))) fun h2 h =>
 cE h (fun h3 h => bE h fun r2 h5 h => dE h fk50 (p50_e_1 a0 a1 r1 r2) (oc (xA6 (xAq h0) h1) (oc h2 (oc h3 (oc rfl (oc (xBb h5) on)))))) fun h3 h =>
 cE h (fun h4 h => cE h (fun h5 h => bE h fun r2 h6 h => dE h fk50 (p50_e_2 a0 a1 r1 r2) (oc (xA6 (xAq h0) h1) (oc h2 (oc h3 (oc h4 (oc h5 (oc (xBb h6) on))))))) fun h5 h =>
 iE h fun h7 h => bE h fun r2 h8 h => dE h fk50 (p50_e_3 a0 a1 r1 r2) (oc (xA6 (xAq h0) h1) (oc h2 (oc h3 (oc h4 (oc h5 (oc h4 (oc h7 (oc (xHq h8) on))))))))) fun h4 h =>
 bE h fun r2 h7 h => dE h fk50 (p50_e_4 a0 a1 r1 r2) (oc (xA6 (xAq h0) h1) (oc h2 (oc h3 (oc h4 (oc rfl (oc h4 (oc (xGC h7) on)))))))) fun h1 h =>
 cE h (fun h2 h => dE h fk50 (p50_e_5 a0 a1 r1) (oc (xAY (xAq h0) h1) (oc h2 on))) fun h2 h =>
 cE h (fun h3 h => bE h fun r2 h5 h => dE h fk50 (p50_e_6 a0 a1 r1 r2) (oc (xAY (xAq h0) h1) (oc h2 (oc h3 (oc rfl (oc (xBb h5) on)))))) fun h3 h =>
 cE h (fun h4 h => cE h (fun h5 h => bE h fun r2 h6 h => dE h fk50 (p50_e_7 a0 a1 r1 r2) (oc (xAY (xAq h0) h1) (oc h2 (oc h3 (oc h4 (oc h5 (oc (xBb h6) on))))))) fun h5 h =>
 iE h fun h7 h => bE h fun r2 h8 h => dE h fk50 (p50_e_8 a0 a1 r1 r2) (oc (xAY (xAq h0) h1) (oc h2 (oc h3 (oc h4 (oc h5 (oc h4 (oc h7 (oc (xHq h8) on))))))))) fun h4 h =>
 bE h fun r2 h7 h => dE h fk50 (p50_e_9 a0 a1 r1 r2) (oc (xAY (xAq h0) h1) (oc h2 (oc h3 (oc h4 (oc rfl (oc h4 (oc (xGC h7) on)))))))
theorem xCg {N : Nat} {a0 : Val} {a1 : Val} {r : Val × Bool} (h : xC2 N  a0 a1 = some r) : AbC 50 (xBc a0 a1) (xBT r) :=
 AbsCalls.of_reach fk50 rfl rfl (Nat.le_of_ble_eq_true rfl) (c50_e a0 a1 r h)
theorem impl_TakeOf_toR {P : Program} {f : FuncId} {ags : List Arg} {r : Val × Bool} (h : AbsCalls P f ags (xBG r)) (ht : r.2 = true) : AbsCalls P f ags (xGV r) := by
 unfold xBG at h; rw [ht] at h; exact h
theorem xCq {P : Program} {f : FuncId} {ags : List Arg} {r : Val × Bool} (h : AbsCalls P f ags (xBG r)) (ht : r.2 = false) : AbsCalls P f ags (xAW r) := by
 unfold xBG at h; rw [ht] at h; exact h
theorem xCp {P : Program} {f : FuncId} {ags : List Arg} {r : Val × Bool} (h : AbsCalls P f ags (xBG r)) (ht : r.2 = true) (e0 : List.isEmpty (Val.list r.1) = true) (e1 : List.isEmpty (Val.columns r.1) = true) (e2 : List.isEmpty (Val.rows r.1) = true) : AbsCalls P f ags (xA4 r) := by
 have h := impl_TakeOf_toR h ht
 unfold xGV at h; rw [List.isEmpty_iff.1 e0, List.isEmpty_iff.1 e1, List.isEmpty_iff.1 e2] at h; exact h
noncomputable def I46 : Info := { body := (Try.f46.body).getD .skip, nt := 58, results := [.cell 4 31], keep := [0, 2, 4, 6, 8, 10, 12, 14, 16, 18, 32, 42, 50, 80, 98, 5, 7, 9, 11, 15, 19], live := [(10, [4, 6, 8, 14, 16, 5, 7, 9, 15])], modes := [(1, [(3, .take, false)]), (2, [(0, .take, false)]), (3, [(0, .take, false)]), (12, [(3, .take, true)]), (14, [(0, .take, false)]), (15, [(1, .take, false), (2, .take, false), (4, .take, false)]), (16, [(0, .take, false)])] }
theorem fk46 : FnOk Try.prog 46 Try.f46 I46 := ⟨Try.func46, by kernel_rfl, by kernel_rfl, by kernel_rfl, by kernel_rfl⟩
def S46_10 (x8 : Int) (b2 b3 b4 b7 : Val) : St := [(4, .v false [.ptr 2 0]), (6, .v false [.ptr 3 0]), (8, .v false [.ptr 4 0]), (14, .v false [.ptr 7 0]), (16, .v false [.int .i64 x8]), (5, .v true [.int .i64 (Val.kind b2), .int .i64 (Val.n b2), .int .i64 (Val.step b2), .str (Val.text b2), .sl .ro .val (Val.list b2), .sl .ro .str (Val.columns b2), .sl .ro .row (Val.rows b2)]), (7, .v true [.int .i64 (Val.kind b3), .int .i64 (Val.n b3), .int .i64 (Val.step b3), .str (Val.text b3), .sl .ro .val (Val.list b3), .sl .ro .str (Val.columns b3), .sl .ro .row (Val.rows b3)]), (9, .v true [.int .i64 (Val.kind b4), .int .i64 (Val.n b4), .int .i64 (Val.step b4), .str (Val.text b4), .sl .own .val (Val.list b4), .sl .own .str (Val.columns b4), .sl .own .row (Val.rows b4)]), (15, .v true [.int .i64 (Val.kind b7), .int .i64 (Val.n b7), .int .i64 (Val.step b7), .str (Val.text b7), .sl .own .val (Val.list b7), .sl .own .str (Val.columns b7), .sl .own .row (Val.rows b7)])]
theorem p46_10_0 (x8 : Int) (b2 b3 b4 b7 r1 : Val) (r2 : Val × Bool) : rS 10 I46 (S46_10 x8 b2 b3 b4 b7) [Y, Y] [xAZ r1, xEC r2] = dn (xBG ((Val.mk (Val.kind r2.1) (Val.n r2.1) (Val.step r2.1) (Val.text r2.1) [] [] []), true)) [(decide ((x8 : Int) < (Val.n b2))) = true, AbC 106 (xBM x8) (xAZ r1), AbC 50 (xBc r1 b3) (xEC r2), (((Val.kind r2.1) : Int) == 6) = true] := by kernel_rfl
theorem p46_10_1 (x8 : Int) (b2 b3 b4 b7 r1 : Val) (r2 : Val × Bool) : rS 10 I46 (S46_10 x8 b2 b3 b4 b7) [Y, Y] [xAZ r1, xBz r2] = dn (xBG (r2.1, false)) [(decide ((x8 : Int) < (Val.n b2))) = true, AbC 106 (xBM x8) (xAZ r1), AbC 50 (xBc r1 b3) (xBz r2), (((Val.kind r2.1) : Int) == 6) = true] := by kernel_rfl
theorem p46_10_2 (x8 : Int) (b2 b3 b4 b7 r1 : Val) (r2 : Val × Bool) : rS 10 I46 (S46_10 x8 b2 b3 b4 b7) [Y, F] [xAZ r1, xBz r2] = st 10 I46 (S46_10 (W (x8 + 1)) b2 b3 b4 (Val.mk (Val.kind b7) (Val.n b7) (Val.step b7) (Val.text b7) ((Val.list b7) ++ [(Val.re r2.1)]) (Val.columns b7) (Val.rows b7))) [(decide ((x8 : Int) < (Val.n b2))) = true, AbC 106 (xBM x8) (xAZ r1), AbC 50 (xBc r1 b3) (xBz r2), (((Val.kind r2.1) : Int) == 6) = false, Ln (Val.list b7) + Ln [(Val.re r2.1)] ≤ Lim] := by kernel_rfl
theorem p46_10_3 (x8 : Int) (b2 b3 b4 b7 : Val) : rS 10 I46 (S46_10 x8 b2 b3 b4 b7) [F] [] = dn (xBG (b7, false)) [(decide ((x8 : Int) < (Val.n b2))) = false] := by kernel_rfl
theorem p46_e_4 (a0 a1 : Val) (r1 : Val × Bool × Bool) : rE I46 (xAL a0 a1) [Y] [xAm r1] = dn (xBG (r1.1, true)) [AbC 118 (xAi a0 a1) (xAm r1), r1.2.1 = true] := by kernel_rfl
theorem p46_e_5 (a0 a1 : Val) (r1 : Val × Bool × Bool) (r2 : Bool) (r3 : Val) : rE I46 (xAL a0 a1) [F, Y] [xAm r1, xBf r2, xAp r3] = dn (xBG (r3, false)) [AbC 118 (xAi a0 a1) (xAm r1), r1.2.1 = false, AbC 101 (xB5 (Val.n a0) 0 8) (xBf r2), (!r2) = true, AbC 67 (xAR 5) (xAp r3)] := by kernel_rfl
theorem p46_e_6 (a0 a1 : Val) (r1 : Val × Bool × Bool) (r2 : Bool) (r3 : Val) : rE I46 (xAL a0 a1) [F, F, Y] [xAm r1, xBf r2, xBZ r3] = dn (xBG (r3, false)) [AbC 118 (xAi a0 a1) (xAm r1), r1.2.1 = false, AbC 101 (xB5 (Val.n a0) 0 8) (xBf r2), (!r2) = false, (((Val.kind a1) : Int) == 3) = true, (0 : Int) ≤ (if ((Ln (Val.list a1) : Int) : Int) < (Val.n a0) then (Ln (Val.list a1) : Int) else (Val.n a0)) ∧ (if ((Ln (Val.list a1) : Int) : Int) < (Val.n a0) then (Ln (Val.list a1) : Int) else (Val.n a0)) ≤ (Ln (Val.list a1)), AbC 119 (xDq (List.take (tN (if ((Ln (Val.list a1) : Int) : Int) < (Val.n a0) then (Ln (Val.list a1) : Int) else (Val.n a0))) (Val.list a1))) (xBZ r3)] := by kernel_rfl
theorem p46_e_7 (a0 a1 : Val) (r1 : Val × Bool × Bool) : rE I46 (xAL a0 a1) [Y] [xAk r1] = dn (xBG (r1.1, false)) [AbC 118 (xAi a0 a1) (xAk r1), r1.2.1 = true] := by kernel_rfl
theorem p46_e_8 (a0 a1 : Val) (r1 : Val × Bool × Bool) (r2 : Bool) (r3 : Val) : rE I46 (xAL a0 a1) [F, Y] [xAk r1, xBf r2, xAp r3] = dn (xBG (r3, false)) [AbC 118 (xAi a0 a1) (xAk r1), r1.2.1 = false, AbC 101 (xB5 (Val.n a0) 0 8) (xBf r2), (!r2) = true, AbC 67 (xAR 5) (xAp r3)] := by kernel_rfl
theorem p46_e_9 (a0 a1 : Val) (r1 : Val × Bool × Bool) (r2 : Bool) (r3 : Val) : rE I46 (xAL a0 a1) [F, F, Y] [xAk r1, xBf r2, xBZ r3] = dn (xBG (r3, false)) [AbC 118 (xAi a0 a1) (xAk r1), r1.2.1 = false, AbC 101 (xB5 (Val.n a0) 0 8) (xBf r2), (!r2) = false, (((Val.kind a1) : Int) == 3) = true, (0 : Int) ≤ (if ((Ln (Val.list a1) : Int) : Int) < (Val.n a0) then (Ln (Val.list a1) : Int) else (Val.n a0)) ∧ (if ((Ln (Val.list a1) : Int) : Int) < (Val.n a0) then (Ln (Val.list a1) : Int) else (Val.n a0)) ≤ (Ln (Val.list a1)), AbC 119 (xDq (List.take (tN (if ((Ln (Val.list a1) : Int) : Int) < (Val.n a0) then (Ln (Val.list a1) : Int) else (Val.n a0))) (Val.list a1))) (xBZ r3)] := by kernel_rfl
theorem p46_e_10 (a0 a1 : Val) (r1 : Val × Bool × Bool) (r2 : Bool) : rE I46 (xAL a0 a1) [F, F, F] [xAk r1, xBf r2] = st 10 I46 (S46_10 0 a0 a1 (Val.mk 0 0 0 [] [] [] []) (Val.mk 3 0 0 [] [] [] [])) [AbC 118 (xAi a0 a1) (xAk r1), r1.2.1 = false, AbC 101 (xB5 (Val.n a0) 0 8) (xBf r2), (!r2) = false, (((Val.kind a1) : Int) == 3) = false] := by kernel_rfl
theorem c46_10 {N : Nat} : ∀ n x8 b2 b3 b4 b7 r, xEJ N n x8 b2 b3 b4 b7 = some r → RS Try.f46 I46 10 (S46_10 x8 b2 b3 b4 b7) (xBG r) := by
 intro n
 induction n with
 | zero => exact fun _ _ _ _ _ _ h => nE h
 | succ n ih =>
  exact fun x8 b2 b3 b4 b7 r h =>
   cE h (fun h0 h => bE h fun r1 h1 h => bE h fun r2 h2 h => cE h (fun h3 h => iE h fun h4 h => iE h fun h5 h => iE h fun h6 h => cE h (fun h7 h => dS h fk46 (p46_10_0 x8 b2 b3 b4 b7 r1 r2) (oc h0 (oc (xCC h1) (oc (xHk (xCg h2) h3 h4 h5 h6) (oc h7 on))))) fun h7 h =>
   iE h fun h8 h => nE h) fun h3 h =>
   cE h (fun h4 h => dS h fk46 (p46_10_1 x8 b2 b3 b4 b7 r1 r2) (oc h0 (oc (xCC h1) (oc (xD0 (xCg h2) h3) (oc h4 on))))) fun h4 h =>
   iE h fun h5 h => tS fk46 (p46_10_2 x8 b2 b3 b4 b7 r1 r2) (oc h0 (oc (xCC h1) (oc (xD0 (xCg h2) h3) (oc h4 (oc h5 on))))) (ih _ _ _ _ _ _ h)) fun h0 h =>
   dS h fk46 (p46_10_3 x8 b2 b3 b4 b7) (oc h0 on)
theorem c46_e {N : Nat} : ∀ a0 a1 r, xFh N a0 a1 = some r → RE Try.f46 I46 (xAL a0 a1) (xBG r) := fun a0 a1 r h =>
 bE h fun r1 h0 h => cE h (fun h1 h => cE h (fun h2 h => dE h fk46 (p46_e_4 a0 a1 r1) (oc (xA6 (xAq h0) h1) (oc h2 on))) fun h2 h =>
 bE h fun r2 h3 h => cE h (fun h4 h => bE h fun r3 h5 h => dE h fk46 (p46_e_5 a0 a1 r1 r2 r3) (oc (xA6 (xAq h0) h1) (oc h2 (oc (xC8 h3) (oc h4 (oc (xBb h5) on)))))) fun h4 h =>
 cE h (fun h5 h => iE h fun h6 h => bE h fun r3 h7 h => dE h fk46 (p46_e_6 a0 a1 r1 r2 r3) (oc (xA6 (xAq h0) h1) (oc h2 (oc (xC8 h3) (oc h4 (oc h5 (oc h6 (oc (xFq h7) on)))))))) fun h5 h =>
 nE h) fun h1 h =>
 cE h (fun h2 h => dE h fk46 (p46_e_7 a0 a1 r1) (oc (xAY (xAq h0) h1) (oc h2 on))) fun h2 h =>
 bE h fun r2 h3 h => cE h (fun h4 h => bE h fun r3 h5 h => dE h fk46 (p46_e_8 a0 a1 r1 r2 r3) (oc (xAY (xAq h0) h1) (oc h2 (oc (xC8 h3) (oc h4 (oc (xBb h5) on)))))) fun h4 h =>
 cE h (fun h5 h => iE h fun h6 h => bE h fun r3 h7 h => dE h fk46 (p46_e_9 a0 a1 r1 r2 r3) (oc (xAY (xAq h0) h1) (oc h2 (oc (xC8 h3) (oc h4 (oc h5 (oc h6 (oc (xFq h7) on)))))))) fun h5 h =>
 tE fk46 (p46_e_10 a0 a1 r1 r2) (oc (xAY (xAq h0) h1) (oc h2 (oc (xC8 h3) (oc h4 (oc h5 on))))) (c46_10 _ _ _ _ _ _ _ h)
theorem xBe {N : Nat} {a0 : Val} {a1 : Val} {r : Val × Bool} (h : xFh N  a0 a1 = some r) : AbC 46 (xAL a0 a1) (xBG r) :=
 AbsCalls.of_reach fk46 rfl rfl (Nat.le_of_ble_eq_true rfl) (c46_e a0 a1 r h)
noncomputable def I120 : Info := { body := (Try.f120.body).getD .skip, nt := 8, results := [.cell 4 31], keep := [0, 2, 8, 9], live := [], modes := [] }
theorem fk120 : FnOk Try.prog 120 Try.f120 I120 := ⟨Try.func120, by kernel_rfl, by kernel_rfl, by kernel_rfl, by kernel_rfl⟩
theorem p120_e_0 (a0 a1 : Int) : rE I120 (xCX a0 a1) [] [] = dn (xBN (Val.mk 4 a0 a1 [] [] [] [])) [] := by kernel_rfl
theorem c120_e {N : Nat} : ∀ a0 a1 r, xDN N a0 a1 = some r → RE Try.f120 I120 (xCX a0 a1) (xBN r) := fun a0 a1 r h =>
 dE h fk120 (p120_e_0 a0 a1) on
theorem xEU {N : Nat} {a0 : Int} {a1 : Int} {r : Val} (h : xDN N  a0 a1 = some r) : AbC 120 (xCX a0 a1) (xBN r) :=
 AbsCalls.of_reach fk120 rfl rfl (Nat.le_of_ble_eq_true rfl) (c120_e a0 a1 r h)
theorem impl_SkipOf_toR {P : Program} {f : FuncId} {ags : List Arg} {r : Val × Bool} (h : AbsCalls P f ags (xBm r)) (ht : r.2 = true) : AbsCalls P f ags (xGU r) := by
 unfold xBm at h; rw [ht] at h; exact h
theorem xCo {P : Program} {f : FuncId} {ags : List Arg} {r : Val × Bool} (h : AbsCalls P f ags (xBm r)) (ht : r.2 = false) : AbsCalls P f ags (xAV r) := by
 unfold xBm at h; rw [ht] at h; exact h
theorem xCn {P : Program} {f : FuncId} {ags : List Arg} {r : Val × Bool} (h : AbsCalls P f ags (xBm r)) (ht : r.2 = true) (e0 : List.isEmpty (Val.list r.1) = true) (e1 : List.isEmpty (Val.columns r.1) = true) (e2 : List.isEmpty (Val.rows r.1) = true) : AbsCalls P f ags (xA3 r) := by
 have h := impl_SkipOf_toR h ht
 unfold xGU at h; rw [List.isEmpty_iff.1 e0, List.isEmpty_iff.1 e1, List.isEmpty_iff.1 e2] at h; exact h
noncomputable def I47 : Info := { body := (Try.f47.body).getD .skip, nt := 45, results := [.cell 4 31], keep := [0, 2, 4, 6, 8, 10, 12, 14, 28, 36, 44, 76, 5, 7, 9, 11, 15], live := [], modes := [(1, [(3, .take, false)]), (2, [(0, .take, false)]), (3, [(0, .take, false)]), (10, [(0, .take, false)])] }
theorem fk47 : FnOk Try.prog 47 Try.f47 I47 := ⟨Try.func47, by kernel_rfl, by kernel_rfl, by kernel_rfl, by kernel_rfl⟩
theorem p47_e_0 (a0 a1 : Val) (r1 : Val × Bool × Bool) : rE I47 (xAx a0 a1) [Y] [xAm r1] = dn (xBm (r1.1, true)) [AbC 118 (xAi a0 a1) (xAm r1), r1.2.1 = true] := by kernel_rfl
theorem p47_e_1 (a0 a1 : Val) (r1 : Val × Bool × Bool) (r2 : Val) : rE I47 (xAx a0 a1) [F, Y] [xAm r1, xAp r2] = dn (xBm (r2, false)) [AbC 118 (xAi a0 a1) (xAm r1), r1.2.1 = false, (decide (((Val.n a0) : Int) < 0)) = true, AbC 67 (xAR 5) (xAp r2)] := by kernel_rfl
theorem p47_e_2 (a0 a1 : Val) (r1 : Val × Bool × Bool) (r2 : Val) : rE I47 (xAx a0 a1) [F, F, Y] [xAm r1, xBZ r2] = dn (xBm (r2, false)) [AbC 118 (xAi a0 a1) (xAm r1), r1.2.1 = false, (decide (((Val.n a0) : Int) < 0)) = false, (((Val.kind a1) : Int) == 3) = true, (0 : Int) ≤ (if ((Ln (Val.list a1) : Int) : Int) < (Val.n a0) then (Ln (Val.list a1) : Int) else (Val.n a0)) ∧ (if ((Ln (Val.list a1) : Int) : Int) < (Val.n a0) then (Ln (Val.list a1) : Int) else (Val.n a0)) ≤ (Ln (Val.list a1)), AbC 119 (xDq (List.drop (tN (if ((Ln (Val.list a1) : Int) : Int) < (Val.n a0) then (Ln (Val.list a1) : Int) else (Val.n a0))) (Val.list a1))) (xBZ r2)] := by kernel_rfl
theorem p47_e_3 (a0 a1 : Val) (r1 : Val × Bool × Bool) (r2 : Val × Bool) : rE I47 (xAx a0 a1) [F, F, F, Y] [xAm r1, xCO r2] = dn (xBm (r2.1, true)) [AbC 118 (xAi a0 a1) (xAm r1), r1.2.1 = false, (decide (((Val.n a0) : Int) < 0)) = false, (((Val.kind a1) : Int) == 3) = false, AbC 50 (xBc a0 a1) (xCO r2), (((Val.kind r2.1) : Int) == 6) = true] := by kernel_rfl
theorem p47_e_4 (a0 a1 : Val) (r1 : Val × Bool × Bool) (r2 : Val × Bool) (r3 : Val) : rE I47 (xAx a0 a1) [F, F, F, F] [xAm r1, xCO r2, xBN r3] = dn (xBm (r3, false)) [AbC 118 (xAi a0 a1) (xAm r1), r1.2.1 = false, (decide (((Val.n a0) : Int) < 0)) = false, (((Val.kind a1) : Int) == 3) = false, AbC 50 (xBc a0 a1) (xCO r2), (((Val.kind r2.1) : Int) == 6) = false, AbC 120 (xCX (Val.n r2.1) (Val.step a1)) (xBN r3)] := by kernel_rfl
theorem p47_e_5 (a0 a1 : Val) (r1 : Val × Bool × Bool) (r2 : Val × Bool) : rE I47 (xAx a0 a1) [F, F, F, Y] [xAm r1, xBz r2] = dn (xBm (r2.1, false)) [AbC 118 (xAi a0 a1) (xAm r1), r1.2.1 = false, (decide (((Val.n a0) : Int) < 0)) = false, (((Val.kind a1) : Int) == 3) = false, AbC 50 (xBc a0 a1) (xBz r2), (((Val.kind r2.1) : Int) == 6) = true] := by kernel_rfl
theorem p47_e_6 (a0 a1 : Val) (r1 : Val × Bool × Bool) (r2 : Val × Bool) (r3 : Val) : rE I47 (xAx a0 a1) [F, F, F, F] [xAm r1, xBz r2, xBN r3] = dn (xBm (r3, false)) [AbC 118 (xAi a0 a1) (xAm r1), r1.2.1 = false, (decide (((Val.n a0) : Int) < 0)) = false, (((Val.kind a1) : Int) == 3) = false, AbC 50 (xBc a0 a1) (xBz r2), (((Val.kind r2.1) : Int) == 6) = false, AbC 120 (xCX (Val.n r2.1) (Val.step a1)) (xBN r3)] := by kernel_rfl
theorem p47_e_7 (a0 a1 : Val) (r1 : Val × Bool × Bool) : rE I47 (xAx a0 a1) [Y] [xAk r1] = dn (xBm (r1.1, false)) [AbC 118 (xAi a0 a1) (xAk r1), r1.2.1 = true] := by kernel_rfl
theorem p47_e_8 (a0 a1 : Val) (r1 : Val × Bool × Bool) (r2 : Val) : rE I47 (xAx a0 a1) [F, Y] [xAk r1, xAp r2] = dn (xBm (r2, false)) [AbC 118 (xAi a0 a1) (xAk r1), r1.2.1 = false, (decide (((Val.n a0) : Int) < 0)) = true, AbC 67 (xAR 5) (xAp r2)] := by kernel_rfl
theorem p47_e_9 (a0 a1 : Val) (r1 : Val × Bool × Bool) (r2 : Val) : rE I47 (xAx a0 a1) [F, F, Y] [xAk r1, xBZ r2] = dn (xBm (r2, false)) [AbC 118 (xAi a0 a1) (xAk r1), r1.2.1 = false, (decide (((Val.n a0) : Int) < 0)) = false, (((Val.kind a1) : Int) == 3) = true, (0 : Int) ≤ (if ((Ln (Val.list a1) : Int) : Int) < (Val.n a0) then (Ln (Val.list a1) : Int) else (Val.n a0)) ∧ (if ((Ln (Val.list a1) : Int) : Int) < (Val.n a0) then (Ln (Val.list a1) : Int) else (Val.n a0)) ≤ (Ln (Val.list a1)), AbC 119 (xDq (List.drop (tN (if ((Ln (Val.list a1) : Int) : Int) < (Val.n a0) then (Ln (Val.list a1) : Int) else (Val.n a0))) (Val.list a1))) (xBZ r2)] := by kernel_rfl
theorem p47_e_10 (a0 a1 : Val) (r1 : Val × Bool × Bool) (r2 : Val × Bool) : rE I47 (xAx a0 a1) [F, F, F, Y] [xAk r1, xCO r2] = dn (xBm (r2.1, true)) [AbC 118 (xAi a0 a1) (xAk r1), r1.2.1 = false, (decide (((Val.n a0) : Int) < 0)) = false, (((Val.kind a1) : Int) == 3) = false, AbC 50 (xBc a0 a1) (xCO r2), (((Val.kind r2.1) : Int) == 6) = true] := by kernel_rfl
theorem p47_e_11 (a0 a1 : Val) (r1 : Val × Bool × Bool) (r2 : Val × Bool) (r3 : Val) : rE I47 (xAx a0 a1) [F, F, F, F] [xAk r1, xCO r2, xBN r3] = dn (xBm (r3, false)) [AbC 118 (xAi a0 a1) (xAk r1), r1.2.1 = false, (decide (((Val.n a0) : Int) < 0)) = false, (((Val.kind a1) : Int) == 3) = false, AbC 50 (xBc a0 a1) (xCO r2), (((Val.kind r2.1) : Int) == 6) = false, AbC 120 (xCX (Val.n r2.1) (Val.step a1)) (xBN r3)] := by kernel_rfl
theorem p47_e_12 (a0 a1 : Val) (r1 : Val × Bool × Bool) (r2 : Val × Bool) : rE I47 (xAx a0 a1) [F, F, F, Y] [xAk r1, xBz r2] = dn (xBm (r2.1, false)) [AbC 118 (xAi a0 a1) (xAk r1), r1.2.1 = false, (decide (((Val.n a0) : Int) < 0)) = false, (((Val.kind a1) : Int) == 3) = false, AbC 50 (xBc a0 a1) (xBz r2), (((Val.kind r2.1) : Int) == 6) = true] := by kernel_rfl
theorem p47_e_13 (a0 a1 : Val) (r1 : Val × Bool × Bool) (r2 : Val × Bool) (r3 : Val) : rE I47 (xAx a0 a1) [F, F, F, F] [xAk r1, xBz r2, xBN r3] = dn (xBm (r3, false)) [AbC 118 (xAi a0 a1) (xAk r1), r1.2.1 = false, (decide (((Val.n a0) : Int) < 0)) = false, (((Val.kind a1) : Int) == 3) = false, AbC 50 (xBc a0 a1) (xBz r2), (((Val.kind r2.1) : Int) == 6) = false, AbC 120 (xCX (Val.n r2.1) (Val.step a1)) (xBN r3)] := by kernel_rfl
theorem c47_e {N : Nat} : ∀ a0 a1 r, xET N a0 a1 = some r → RE Try.f47 I47 (xAx a0 a1) (xBm r) := fun a0 a1 r h =>
 bE h fun r1 h0 h => cE h (fun h1 h => cE h (fun h2 h => dE h fk47 (p47_e_0 a0 a1 r1) (oc (xA6 (xAq h0) h1) (oc h2 on))) fun h2 h =>
 cE h (fun h3 h => bE h fun r2 h4 h => dE h fk47 (p47_e_1 a0 a1 r1 r2) (oc (xA6 (xAq h0) h1) (oc h2 (oc h3 (oc (xBb h4) on))))) fun h3 h =>
 cE h (fun h4 h => iE h fun h5 h => bE h fun r2 h6 h => dE h fk47 (p47_e_2 a0 a1 r1 r2) (oc (xA6 (xAq h0) h1) (oc h2 (oc h3 (oc h4 (oc h5 (oc (xFq h6) on))))))) fun h4 h =>
 bE h fun r2 h5 h => cE h (fun h6 h => cE h (fun h7 h => dE h fk47 (p47_e_3 a0 a1 r1 r2) (oc (xA6 (xAq h0) h1) (oc h2 (oc h3 (oc h4 (oc (xFC (xCg h5) h6) (oc h7 on))))))) fun h7 h =>
 bE h fun r3 h8 h => dE h fk47 (p47_e_4 a0 a1 r1 r2 r3) (oc (xA6 (xAq h0) h1) (oc h2 (oc h3 (oc h4 (oc (xFC (xCg h5) h6) (oc h7 (oc (xEU h8) on)))))))) fun h6 h =>
 cE h (fun h7 h => dE h fk47 (p47_e_5 a0 a1 r1 r2) (oc (xA6 (xAq h0) h1) (oc h2 (oc h3 (oc h4 (oc (xD0 (xCg h5) h6) (oc h7 on))))))) fun h7 h =>
 bE h fun r3 h8 h => dE h fk47 (p47_e_6 a0 a1 r1 r2 r3) (oc (xA6 (xAq h0) h1) (oc h2 (oc h3 (oc h4 (oc (xD0 (xCg h5) h6) (oc h7 (oc (xEU h8) on)))))))) fun h1 h =>
 cE h (fun h2 h => dE h fk47 (p47_e_7 a0 a1 r1) (oc (xAY (xAq h0) h1) (oc h2 on))) fun h2 h =>
 cE h (fun h3 h => bE h fun r2 h4 h => dE h fk47 (p47_e_8 a0 a1 r1 r2) (oc (xAY (xAq h0) h1) (oc h2 (oc h3 (oc (xBb h4) on))))) fun h3 h =>
 cE h (fun h4 h => iE h fun h5 h => bE h fun r2 h6 h => dE h fk47 (p47_e_9 a0 a1 r1 r2) (oc (xAY (xAq h0) h1) (oc h2 (oc h3 (oc h4 (oc h5 (oc (xFq h6) on))))))) fun h4 h =>
 bE h fun r2 h5 h => cE h (fun h6 h => cE h (fun h7 h => dE h fk47 (p47_e_10 a0 a1 r1 r2) (oc (xAY (xAq h0) h1) (oc h2 (oc h3 (oc h4 (oc (xFC (xCg h5) h6) (oc h7 on))))))) fun h7 h =>
 bE h fun r3 h8 h => dE h fk47 (p47_e_11 a0 a1 r1 r2 r3) (oc (xAY (xAq h0) h1) (oc h2 (oc h3 (oc h4 (oc (xFC (xCg h5) h6) (oc h7 (oc (xEU h8) on)))))))) fun h6 h =>
 cE h (fun h7 h => dE h fk47 (p47_e_12 a0 a1 r1 r2) (oc (xAY (xAq h0) h1) (oc h2 (oc h3 (oc h4 (oc (xD0 (xCg h5) h6) (oc h7 on))))))) fun h7 h =>
 bE h fun r3 h8 h => dE h fk47 (p47_e_13 a0 a1 r1 r2 r3) (oc (xAY (xAq h0) h1) (oc h2 (oc h3 (oc h4 (oc (xD0 (xCg h5) h6) (oc h7 (oc (xEU h8) on)))))))
theorem xBd {N : Nat} {a0 : Val} {a1 : Val} {r : Val × Bool} (h : xET N  a0 a1 = some r) : AbC 47 (xAx a0 a1) (xBm r) :=
 AbsCalls.of_reach fk47 rfl rfl (Nat.le_of_ble_eq_true rfl) (c47_e a0 a1 r h)
noncomputable def I121 : Info := { body := (Try.f121.body).getD .skip, nt := 32, results := [.cell 4 31, .tmp 5], keep := [0, 2, 4, 6, 8, 10, 12, 14, 30, 58, 5, 7, 9, 13], live := [], modes := [(1, [(4, .take, false)]), (2, [(0, .take, false)]), (3, [(0, .take, false)]), (4, [(3, .take, false), (7, .take, false)])] }
theorem fk121 : FnOk Try.prog 121 Try.f121 I121 := ⟨Try.func121, by kernel_rfl, by kernel_rfl, by kernel_rfl, by kernel_rfl⟩
theorem p121_e_0 (a0 a1 : Val) (r1 : Val × Bool) : rE I121 (xBw a0 a1) [Y] [xAr r1] = dn (xAN (r1.1, true)) [AbC 56 (xA9 [(Val.re a0), (Val.re a1)]) (xAr r1), r1.2 = true] := by kernel_rfl
theorem p121_e_1 (a0 a1 : Val) (r1 : Val × Bool) (r2 : Val) : rE I121 (xBw a0 a1) [F, Y, Y] [xAr r1, xAg r2] = dn (xAN (r2, true)) [AbC 56 (xA9 [(Val.re a0), (Val.re a1)]) (xAr r1), r1.2 = false, (((Val.kind a0) : Int) != 1) = true, true = true, AbC 44 (xAA 4) (xAg r2)] := by kernel_rfl
theorem p121_e_2 (a0 a1 : Val) (r1 : Val × Bool) (r2 : Val) : rE I121 (xBw a0 a1) [F, F, Y, Y] [xAr r1, xAg r2] = dn (xAN (r2, true)) [AbC 56 (xA9 [(Val.re a0), (Val.re a1)]) (xAr r1), r1.2 = false, (((Val.kind a0) : Int) != 1) = false, (((Val.kind a1) : Int) != 3) = true, (((Val.kind a1) : Int) != 4) = true, AbC 44 (xAA 4) (xAg r2)] := by kernel_rfl
theorem p121_e_3 (a0 a1 : Val) (r1 : Val × Bool) : rE I121 (xBw a0 a1) [F, F, Y, F] [xAr r1] = dn (xAN ((Val.mk 0 0 0 [] [] [] []), false)) [AbC 56 (xA9 [(Val.re a0), (Val.re a1)]) (xAr r1), r1.2 = false, (((Val.kind a0) : Int) != 1) = false, (((Val.kind a1) : Int) != 3) = true, (((Val.kind a1) : Int) != 4) = false] := by kernel_rfl
theorem p121_e_4 (a0 a1 : Val) (r1 : Val × Bool) : rE I121 (xBw a0 a1) [F, F, F, F] [xAr r1] = dn (xAN ((Val.mk 0 0 0 [] [] [] []), false)) [AbC 56 (xA9 [(Val.re a0), (Val.re a1)]) (xAr r1), r1.2 = false, (((Val.kind a0) : Int) != 1) = false, (((Val.kind a1) : Int) != 3) = false, false = false] := by kernel_rfl
theorem c121_e {N : Nat} : ∀ a0 a1 r, xFT N a0 a1 = some r → RE Try.f121 I121 (xBw a0 a1) (xAN r) := fun a0 a1 r h =>
 bE h fun r1 h0 h => cE h (fun h1 h => dE h fk121 (p121_e_0 a0 a1 r1) (oc (xBl h0) (oc h1 on))) fun h1 h =>
 cE h (fun h2 h => bE h fun r2 h4 h => dE h fk121 (p121_e_1 a0 a1 r1 r2) (oc (xBl h0) (oc h1 (oc h2 (oc rfl (oc (xAH h4) on)))))) fun h2 h =>
 cE h (fun h3 h => cE h (fun h4 h => bE h fun r2 h5 h => dE h fk121 (p121_e_2 a0 a1 r1 r2) (oc (xBl h0) (oc h1 (oc h2 (oc h3 (oc h4 (oc (xAH h5) on))))))) fun h4 h =>
 dE h fk121 (p121_e_3 a0 a1 r1) (oc (xBl h0) (oc h1 (oc h2 (oc h3 (oc h4 on)))))) fun h3 h =>
 dE h fk121 (p121_e_4 a0 a1 r1) (oc (xBl h0) (oc h1 (oc h2 (oc h3 (oc rfl on)))))
theorem xCx {N : Nat} {a0 : Val} {a1 : Val} {r : Val × Bool} (h : xFT N  a0 a1 = some r) : AbC 121 (xBw a0 a1) (xAN r) :=
 AbsCalls.of_reach fk121 rfl rfl (Nat.le_of_ble_eq_true rfl) (c121_e a0 a1 r h)
noncomputable def I122 : Info := { body := (Try.f122.body).getD .skip, nt := 51, results := [.cell 4 31], keep := [0, 2, 4, 6, 8, 10, 12, 26, 60, 68, 5, 7, 9, 11], live := [], modes := [(1, [(3, .take, false)]), (2, [(0, .take, false)]), (3, [(0, .take, false)]), (4, [(3, .take, false), (7, .take, false)])] }
theorem fk122 : FnOk Try.prog 122 Try.f122 I122 := ⟨Try.func122, by kernel_rfl, by kernel_rfl, by kernel_rfl, by kernel_rfl⟩
theorem p122_e_0 (a0 a1 : Val) (r1 : Val × Bool) : rE I122 (xCH a0 a1) [Y] [xAN r1] = dn (xBF r1.1) [AbC 121 (xBw a0 a1) (xAN r1), r1.2 = true] := by kernel_rfl
theorem p122_e_1 (a0 a1 : Val) (r1 : Val × Bool) (r2 : Val) : rE I122 (xCH a0 a1) [F, Y, Y] [xAN r1, xAg r2] = dn (xBF r2) [AbC 121 (xBw a0 a1) (xAN r1), r1.2 = false, (decide (((Val.n a0) : Int) < 0)) = true, true = true, AbC 44 (xAA 5) (xAg r2)] := by kernel_rfl
theorem p122_e_2 (a0 a1 : Val) (r1 : Val × Bool) (r2 : Val) : rE I122 (xCH a0 a1) [F, F, Y, Y] [xAN r1, xAg r2] = dn (xBF r2) [AbC 121 (xBw a0 a1) (xAN r1), r1.2 = false, (decide (((Val.n a0) : Int) < 0)) = false, (((Val.kind a1) : Int) == 3) = true, (decide (((Val.n a0) : Int) ≥ (Ln (Val.list a1) : Int))) = true, AbC 44 (xAA 5) (xAg r2)] := by kernel_rfl
theorem p122_e_3 (a0 a1 : Val) (r1 : Val × Bool) (r2 : Val) : rE I122 (xCH a0 a1) [F, F, Y, F, Y] [xAN r1, xCu r2] = dn (xBF r2) [AbC 121 (xBw a0 a1) (xAN r1), r1.2 = false, (decide (((Val.n a0) : Int) < 0)) = false, (((Val.kind a1) : Int) == 3) = true, (decide (((Val.n a0) : Int) ≥ (Ln (Val.list a1) : Int))) = false, (((Val.kind a1) : Int) == 3) = true, (0 : Int) ≤ (Val.n a0) ∧ (Val.n a0) < (Ln (Val.list a1)), AbC 84 (xD5 (gD (Val.list a1) (tN (Val.n a0)) vd)) (xCu r2)] := by kernel_rfl
theorem p122_e_4 (a0 a1 : Val) (r1 : Val × Bool) (r2 : Val) : rE I122 (xCH a0 a1) [F, F, F, F, F] [xAN r1, xBs r2] = dn (xBF r2) [AbC 121 (xBw a0 a1) (xAN r1), r1.2 = false, (decide (((Val.n a0) : Int) < 0)) = false, (((Val.kind a1) : Int) == 3) = false, false = false, (((Val.kind a1) : Int) == 3) = false, AbC 61 (xCe (W ((Val.n a1) + (W ((Val.n a0) * (Val.step a1)))))) (xBs r2)] := by kernel_rfl
theorem c122_e {N : Nat} : ∀ a0 a1 r, xDs N a0 a1 = some r → RE Try.f122 I122 (xCH a0 a1) (xBF r) := fun a0 a1 r h =>
 bE h fun r1 h0 h => cE h (fun h1 h => dE h fk122 (p122_e_0 a0 a1 r1) (oc (xCx h0) (oc h1 on))) fun h1 h =>
 cE h (fun h2 h => bE h fun r2 h4 h => dE h fk122 (p122_e_1 a0 a1 r1 r2) (oc (xCx h0) (oc h1 (oc h2 (oc rfl (oc (xAH h4) on)))))) fun h2 h =>
 cE h (fun h3 h => cE h (fun h4 h => bE h fun r2 h5 h => dE h fk122 (p122_e_2 a0 a1 r1 r2) (oc (xCx h0) (oc h1 (oc h2 (oc h3 (oc h4 (oc (xAH h5) on))))))) fun h4 h =>
 iE h fun h6 h => bE h fun r2 h7 h => dE h fk122 (p122_e_3 a0 a1 r1 r2) (oc (xCx h0) (oc h1 (oc h2 (oc h3 (oc h4 (oc h3 (oc h6 (oc (xIk h7) on))))))))) fun h3 h =>
 bE h fun r2 h6 h => dE h fk122 (p122_e_4 a0 a1 r1 r2) (oc (xCx h0) (oc h1 (oc h2 (oc h3 (oc rfl (oc h3 (oc (xEw h6) on)))))))
theorem xFt {N : Nat} {a0 : Val} {a1 : Val} {r : Val} (h : xDs N  a0 a1 = some r) : AbC 122 (xCH a0 a1) (xBF r) :=
 AbsCalls.of_reach fk122 rfl rfl (Nat.le_of_ble_eq_true rfl) (c122_e a0 a1 r h)
noncomputable def I48 : Info := { body := (Try.f48.body).getD .skip, nt := 56, results := [.cell 4 31], keep := [0, 2, 4, 6, 8, 10, 12, 14, 16, 18, 32, 42, 54, 78, 94, 5, 7, 9, 11, 15, 19], live := [(8, [4, 6, 8, 14, 16, 5, 7, 9, 15])], modes := [(1, [(3, .take, false)]), (2, [(0, .take, false)]), (3, [(0, .take, false)]), (10, [(3, .take, false)]), (11, [(0, .take, false)]), (14, [(0, .take, false)]), (15, [(1, .take, false), (2, .take, false), (4, .take, false)]), (16, [(0, .take, false)])] }
theorem fk48 : FnOk Try.prog 48 Try.f48 I48 := ⟨Try.func48, by kernel_rfl, by kernel_rfl, by kernel_rfl, by kernel_rfl⟩
def S48_8 (x8 : Int) (b2 b3 b4 b7 : Val) : St := [(4, .v false [.ptr 2 0]), (6, .v false [.ptr 3 0]), (8, .v false [.ptr 4 0]), (14, .v false [.ptr 7 0]), (16, .v false [.int .i64 x8]), (5, .v true [.int .i64 (Val.kind b2), .int .i64 (Val.n b2), .int .i64 (Val.step b2), .str (Val.text b2), .sl .ro .val (Val.list b2), .sl .ro .str (Val.columns b2), .sl .ro .row (Val.rows b2)]), (7, .v true [.int .i64 (Val.kind b3), .int .i64 (Val.n b3), .int .i64 (Val.step b3), .str (Val.text b3), .sl .ro .val (Val.list b3), .sl .ro .str (Val.columns b3), .sl .ro .row (Val.rows b3)]), (9, .v true [.int .i64 (Val.kind b4), .int .i64 (Val.n b4), .int .i64 (Val.step b4), .str (Val.text b4), .sl .own .val (Val.list b4), .sl .own .str (Val.columns b4), .sl .own .row (Val.rows b4)]), (15, .v true [.int .i64 (Val.kind b7), .int .i64 (Val.n b7), .int .i64 (Val.step b7), .str (Val.text b7), .sl .own .val (Val.list b7), .sl .own .str (Val.columns b7), .sl .own .row (Val.rows b7)])]
theorem p48_8_0 (x8 : Int) (b2 b3 b4 b7 : Val) : rS 8 I48 (S48_8 x8 b2 b3 b4 b7) [Y, Y, Y] [] = dn (xAl b7) [(decide ((x8 : Int) < (Val.n b2))) = true, (((Val.kind b3) : Int) == 3) = true, ((x8 : Int) == (Ln (Val.list b3) : Int)) = true] := by kernel_rfl
theorem p48_8_1 (x8 : Int) (b2 b3 b4 b7 r1 r2 : Val) : rS 8 I48 (S48_8 x8 b2 b3 b4 b7) [Y, Y, F, Y] [xAj r1, xBF r2] = dn (xAl r2) [(decide ((x8 : Int) < (Val.n b2))) = true, (((Val.kind b3) : Int) == 3) = true, ((x8 : Int) == (Ln (Val.list b3) : Int)) = false, AbC 51 (xAJ x8) (xAj r1), AbC 122 (xCH r1 b3) (xBF r2), (((Val.kind r2) : Int) == 6) = true] := by kernel_rfl
theorem p48_8_2 (x8 : Int) (b2 b3 b4 b7 r1 r2 : Val) : rS 8 I48 (S48_8 x8 b2 b3 b4 b7) [Y, Y, F, F] [xAj r1, xBF r2] = st 8 I48 (S48_8 (W (x8 + 1)) b2 b3 b4 (Val.mk (Val.kind b7) (Val.n b7) (Val.step b7) (Val.text b7) ((Val.list b7) ++ [(Val.re r2)]) (Val.columns b7) (Val.rows b7))) [(decide ((x8 : Int) < (Val.n b2))) = true, (((Val.kind b3) : Int) == 3) = true, ((x8 : Int) == (Ln (Val.list b3) : Int)) = false, AbC 51 (xAJ x8) (xAj r1), AbC 122 (xCH r1 b3) (xBF r2), (((Val.kind r2) : Int) == 6) = false, Ln (Val.list b7) + Ln [(Val.re r2)] ≤ Lim] := by kernel_rfl
theorem p48_8_3 (x8 : Int) (b2 b3 b4 b7 r1 r2 : Val) : rS 8 I48 (S48_8 x8 b2 b3 b4 b7) [Y, F, F, Y] [xAj r1, xBF r2] = dn (xAl r2) [(decide ((x8 : Int) < (Val.n b2))) = true, (((Val.kind b3) : Int) == 3) = false, false = false, AbC 51 (xAJ x8) (xAj r1), AbC 122 (xCH r1 b3) (xBF r2), (((Val.kind r2) : Int) == 6) = true] := by kernel_rfl
theorem p48_8_4 (x8 : Int) (b2 b3 b4 b7 r1 r2 : Val) : rS 8 I48 (S48_8 x8 b2 b3 b4 b7) [Y, F, F, F] [xAj r1, xBF r2] = st 8 I48 (S48_8 (W (x8 + 1)) b2 b3 b4 (Val.mk (Val.kind b7) (Val.n b7) (Val.step b7) (Val.text b7) ((Val.list b7) ++ [(Val.re r2)]) (Val.columns b7) (Val.rows b7))) [(decide ((x8 : Int) < (Val.n b2))) = true, (((Val.kind b3) : Int) == 3) = false, false = false, AbC 51 (xAJ x8) (xAj r1), AbC 122 (xCH r1 b3) (xBF r2), (((Val.kind r2) : Int) == 6) = false, Ln (Val.list b7) + Ln [(Val.re r2)] ≤ Lim] := by kernel_rfl
theorem p48_8_5 (x8 : Int) (b2 b3 b4 b7 : Val) : rS 8 I48 (S48_8 x8 b2 b3 b4 b7) [F] [] = dn (xAl b7) [(decide ((x8 : Int) < (Val.n b2))) = false] := by kernel_rfl
theorem p48_e_6 (a0 a1 : Val) (r1 : Val × Bool) : rE I48 (xAS a0 a1) [Y] [xAN r1] = dn (xAl r1.1) [AbC 121 (xBw a0 a1) (xAN r1), r1.2 = true] := by kernel_rfl
theorem p48_e_7 (a0 a1 : Val) (r1 : Val × Bool) (r2 : Bool) (r3 : Val) : rE I48 (xAS a0 a1) [F, Y] [xAN r1, xCz r2, xAg r3] = dn (xAl r3) [AbC 121 (xBw a0 a1) (xAN r1), r1.2 = false, AbC 108 (xD3 (Val.n a0) 0 8) (xCz r2), (!r2) = true, AbC 44 (xAA 5) (xAg r3)] := by kernel_rfl
theorem p48_e_8 (a0 a1 : Val) (r1 : Val × Bool) (r2 : Bool) : rE I48 (xAS a0 a1) [F, F] [xAN r1, xCz r2] = st 8 I48 (S48_8 0 a0 a1 (Val.mk 0 0 0 [] [] [] []) (Val.mk 3 0 0 [] [] [] [])) [AbC 121 (xBw a0 a1) (xAN r1), r1.2 = false, AbC 108 (xD3 (Val.n a0) 0 8) (xCz r2), (!r2) = false] := by kernel_rfl
theorem c48_8 {N : Nat} : ∀ n x8 b2 b3 b4 b7 r, xCR N n x8 b2 b3 b4 b7 = some r → RS Try.f48 I48 8 (S48_8 x8 b2 b3 b4 b7) (xAl r) := by
 intro n
 induction n with
 | zero => exact fun _ _ _ _ _ _ h => nE h
 | succ n ih =>
  exact fun x8 b2 b3 b4 b7 r h =>
   cE h (fun h0 h => cE h (fun h1 h => cE h (fun h2 h => dS h fk48 (p48_8_0 x8 b2 b3 b4 b7) (oc h0 (oc h1 (oc h2 on)))) fun h2 h =>
   bE h fun r1 h3 h => bE h fun r2 h4 h => cE h (fun h5 h => dS h fk48 (p48_8_1 x8 b2 b3 b4 b7 r1 r2) (oc h0 (oc h1 (oc h2 (oc (xAQ h3) (oc (xFt h4) (oc h5 on))))))) fun h5 h =>
   iE h fun h6 h => tS fk48 (p48_8_2 x8 b2 b3 b4 b7 r1 r2) (oc h0 (oc h1 (oc h2 (oc (xAQ h3) (oc (xFt h4) (oc h5 (oc h6 on))))))) (ih _ _ _ _ _ _ h)) fun h1 h =>
   bE h fun r1 h3 h => bE h fun r2 h4 h => cE h (fun h5 h => dS h fk48 (p48_8_3 x8 b2 b3 b4 b7 r1 r2) (oc h0 (oc h1 (oc rfl (oc (xAQ h3) (oc (xFt h4) (oc h5 on))))))) fun h5 h =>
   iE h fun h6 h => tS fk48 (p48_8_4 x8 b2 b3 b4 b7 r1 r2) (oc h0 (oc h1 (oc rfl (oc (xAQ h3) (oc (xFt h4) (oc h5 (oc h6 on))))))) (ih _ _ _ _ _ _ h)) fun h0 h =>
   dS h fk48 (p48_8_5 x8 b2 b3 b4 b7) (oc h0 on)
theorem c48_e {N : Nat} : ∀ a0 a1 r, xDv N a0 a1 = some r → RE Try.f48 I48 (xAS a0 a1) (xAl r) := fun a0 a1 r h =>
 bE h fun r1 h0 h => cE h (fun h1 h => dE h fk48 (p48_e_6 a0 a1 r1) (oc (xCx h0) (oc h1 on))) fun h1 h =>
 bE h fun r2 h2 h => cE h (fun h3 h => bE h fun r3 h4 h => dE h fk48 (p48_e_7 a0 a1 r1 r2 r3) (oc (xCx h0) (oc h1 (oc (xFY h2) (oc h3 (oc (xAH h4) on)))))) fun h3 h =>
 tE fk48 (p48_e_8 a0 a1 r1 r2) (oc (xCx h0) (oc h1 (oc (xFY h2) (oc h3 on)))) (c48_8 _ _ _ _ _ _ _ h)
theorem xBg {N : Nat} {a0 : Val} {a1 : Val} {r : Val} (h : xDv N  a0 a1 = some r) : AbC 48 (xAS a0 a1) (xAl r) :=
 AbsCalls.of_reach fk48 rfl rfl (Nat.le_of_ble_eq_true rfl) (c48_e a0 a1 r h)
noncomputable def I124 : Info := { body := (Try.f124.body).getD .skip, nt := 10, results := [.tmp 4], keep := [0, 2, 8, 14], live := [], modes := [] }
theorem fk124 : FnOk Try.prog 124 Try.f124 I124 := ⟨Try.func124, by kernel_rfl, by kernel_rfl, by kernel_rfl, by kernel_rfl⟩
theorem p124_e_0 (a0 a1 : Int) : rE I124 (xF8 a0 a1) [Y] [] = dn (xFx a0) [(decide ((a0 : Int) < a1)) = true] := by kernel_rfl
theorem p124_e_1 (a0 a1 : Int) : rE I124 (xF8 a0 a1) [F] [] = dn (xFx a1) [(decide ((a0 : Int) < a1)) = false] := by kernel_rfl
theorem c124_e {N : Nat} : ∀ a0 a1 r, xHy N a0 a1 = some r → RE Try.f124 I124 (xF8 a0 a1) (xFx r) := fun a0 a1 r h =>
 cE h (fun h0 h => dE h fk124 (p124_e_0 a0 a1) (oc h0 on)) fun h0 h =>
 dE h fk124 (p124_e_1 a0 a1) (oc h0 on)
theorem spec_l1Min_ok {N : Nat} {a0 : Int} {a1 : Int} {r : Int} (h : xHy N  a0 a1 = some r) : AbC 124 (xF8 a0 a1) (xFx r) :=
 AbsCalls.of_reach fk124 rfl rfl (Nat.le_of_ble_eq_true rfl) (c124_e a0 a1 r h)
noncomputable def I49 : Info := { body := (Try.f49.body).getD .skip, nt := 45, results := [.cell 4 31], keep := [0, 2, 4, 6, 8, 10, 12, 14, 28, 36, 44, 76, 5, 7, 9, 11, 15], live := [], modes := [(1, [(3, .take, false)]), (2, [(0, .take, false)]), (3, [(0, .take, false)]), (10, [(0, .take, false)])] }
theorem fk49 : FnOk Try.prog 49 Try.f49 I49 := ⟨Try.func49, by kernel_rfl, by kernel_rfl, by kernel_rfl, by kernel_rfl⟩
theorem p49_e_0 (a0 a1 : Val) (r1 : Val × Bool) : rE I49 (xA5 a0 a1) [Y] [xAN r1] = dn (xAs r1.1) [AbC 121 (xBw a0 a1) (xAN r1), r1.2 = true] := by kernel_rfl
theorem p49_e_1 (a0 a1 : Val) (r1 : Val × Bool) (r2 : Val) : rE I49 (xA5 a0 a1) [F, Y] [xAN r1, xAg r2] = dn (xAs r2) [AbC 121 (xBw a0 a1) (xAN r1), r1.2 = false, (decide (((Val.n a0) : Int) < 0)) = true, AbC 44 (xAA 5) (xAg r2)] := by kernel_rfl
theorem p49_e_2 (a0 a1 : Val) (r1 : Val × Bool) (r2 : Int) (r3 : Val) : rE I49 (xA5 a0 a1) [F, F, Y] [xAN r1, xFx r2, xC4 r3] = dn (xAs r3) [AbC 121 (xBw a0 a1) (xAN r1), r1.2 = false, (decide (((Val.n a0) : Int) < 0)) = false, (((Val.kind a1) : Int) == 3) = true, AbC 124 (xF8 (Val.n a0) (Ln (Val.list a1) : Int)) (xFx r2), (0 : Int) ≤ r2 ∧ r2 ≤ (Ln (Val.list a1)), AbC 123 (xEL (List.drop (tN r2) (Val.list a1))) (xC4 r3)] := by kernel_rfl
theorem p49_e_3 (a0 a1 : Val) (r1 : Val × Bool) (r2 : Val) : rE I49 (xA5 a0 a1) [F, F, F, Y] [xAN r1, xBF r2] = dn (xAs r2) [AbC 121 (xBw a0 a1) (xAN r1), r1.2 = false, (decide (((Val.n a0) : Int) < 0)) = false, (((Val.kind a1) : Int) == 3) = false, AbC 122 (xCH a0 a1) (xBF r2), (((Val.kind r2) : Int) == 6) = true] := by kernel_rfl
theorem p49_e_4 (a0 a1 : Val) (r1 : Val × Bool) (r2 r3 : Val) : rE I49 (xA5 a0 a1) [F, F, F, F] [xAN r1, xBF r2, xCj r3] = dn (xAs r3) [AbC 121 (xBw a0 a1) (xAN r1), r1.2 = false, (decide (((Val.n a0) : Int) < 0)) = false, (((Val.kind a1) : Int) == 3) = false, AbC 122 (xCH a0 a1) (xBF r2), (((Val.kind r2) : Int) == 6) = false, AbC 125 (xDu (Val.n r2) (Val.step a1)) (xCj r3)] := by kernel_rfl
theorem c49_e {N : Nat} : ∀ a0 a1 r, xDt N a0 a1 = some r → RE Try.f49 I49 (xA5 a0 a1) (xAs r) := fun a0 a1 r h =>
 bE h fun r1 h0 h => cE h (fun h1 h => dE h fk49 (p49_e_0 a0 a1 r1) (oc (xCx h0) (oc h1 on))) fun h1 h =>
 cE h (fun h2 h => bE h fun r2 h3 h => dE h fk49 (p49_e_1 a0 a1 r1 r2) (oc (xCx h0) (oc h1 (oc h2 (oc (xAH h3) on))))) fun h2 h =>
 cE h (fun h3 h => bE h fun r2 h4 h => iE h fun h5 h => bE h fun r3 h6 h => dE h fk49 (p49_e_2 a0 a1 r1 r2 r3) (oc (xCx h0) (oc h1 (oc h2 (oc h3 (oc (spec_l1Min_ok h4) (oc h5 (oc (xHv h6) on)))))))) fun h3 h =>
 bE h fun r2 h4 h => cE h (fun h5 h => dE h fk49 (p49_e_3 a0 a1 r1 r2) (oc (xCx h0) (oc h1 (oc h2 (oc h3 (oc (xFt h4) (oc h5 on))))))) fun h5 h =>
 bE h fun r3 h6 h => dE h fk49 (p49_e_4 a0 a1 r1 r2 r3) (oc (xCx h0) (oc h1 (oc h2 (oc h3 (oc (xFt h4) (oc h5 (oc (xFQ h6) on)))))))
theorem xBu {N : Nat} {a0 : Val} {a1 : Val} {r : Val} (h : xDt N  a0 a1 = some r) : AbC 49 (xA5 a0 a1) (xAs r) :=
 AbsCalls.of_reach fk49 rfl rfl (Nat.le_of_ble_eq_true rfl) (c49_e a0 a1 r h)
theorem impl_LengthOf_toR {P : Program} {f : FuncId} {ags : List Arg} {r : Val × Bool} (h : AbsCalls P f ags (xBC r)) (ht : r.2 = true) : AbsCalls P f ags (xGh r) := by
 unfold xBC at h; rw [ht] at h; exact h
theorem impl_LengthOf_toO {P : Program} {f : FuncId} {ags : List Arg} {r : Val × Bool} (h : AbsCalls P f ags (xBC r)) (ht : r.2 = false) : AbsCalls P f ags (xFp r) := by
 unfold xBC at h; rw [ht] at h; exact h
theorem impl_LengthOf_toE {P : Program} {f : FuncId} {ags : List Arg} {r : Val × Bool} (h : AbsCalls P f ags (xBC r)) (ht : r.2 = true) (e0 : List.isEmpty (Val.list r.1) = true) (e1 : List.isEmpty (Val.columns r.1) = true) (e2 : List.isEmpty (Val.rows r.1) = true) : AbsCalls P f ags (xGg r) := by
 have h := impl_LengthOf_toR h ht
 unfold xGh at h; rw [List.isEmpty_iff.1 e0, List.isEmpty_iff.1 e1, List.isEmpty_iff.1 e2] at h; exact h
noncomputable def I52 : Info := { body := (Try.f52.body).getD .skip, nt := 28, results := [.cell 2 31], keep := [0, 2, 4, 6, 8, 22, 28, 30, 42, 3, 5, 7], live := [], modes := [(1, [(2, .take, true), (3, .take, false)]), (2, [(0, .take, false)]), (3, [(0, .take, false)])] }
theorem fk52 : FnOk Try.prog 52 Try.f52 I52 := ⟨Try.func52, by kernel_rfl, by kernel_rfl, by kernel_rfl, by kernel_rfl⟩
theorem p52_e_0 (a0 : Val) (r1 : Val × Bool × Bool) : rE I52 (xBY a0) [Y] [xAX r1] = dn (xBC ((Val.mk (Val.kind r1.1) (Val.n r1.1) (Val.step r1.1) (Val.text r1.1) [] [] []), true)) [AbC 65 (xAP [(Val.re a0)]) (xAX r1), r1.2.1 = true] := by kernel_rfl
theorem p52_e_1 (a0 : Val) (r1 : Val × Bool × Bool) (r2 : Val) : rE I52 (xBY a0) [F, Y] [xAX r1, xAZ r2] = dn (xBC (r2, false)) [AbC 65 (xAP [(Val.re a0)]) (xAX r1), r1.2.1 = false, (((Val.kind a0) : Int) == 3) = true, AbC 106 (xBM (Ln (Val.list a0) : Int)) (xAZ r2)] := by kernel_rfl
theorem p52_e_2 (a0 : Val) (r1 : Val × Bool × Bool) (r2 : Val) : rE I52 (xBY a0) [F, F, Y] [xAX r1, xAZ r2] = dn (xBC (r2, false)) [AbC 65 (xAP [(Val.re a0)]) (xAX r1), r1.2.1 = false, (((Val.kind a0) : Int) == 3) = false, (((Val.kind a0) : Int) == 2) = true, AbC 106 (xBM (Ln (Val.text a0) : Int)) (xAZ r2)] := by kernel_rfl
theorem p52_e_3 (a0 : Val) (r1 : Val × Bool × Bool) (r2 : Val) : rE I52 (xBY a0) [F, F, F] [xAX r1, xAp r2] = dn (xBC (r2, false)) [AbC 65 (xAP [(Val.re a0)]) (xAX r1), r1.2.1 = false, (((Val.kind a0) : Int) == 3) = false, (((Val.kind a0) : Int) == 2) = false, AbC 67 (xAR 4) (xAp r2)] := by kernel_rfl
theorem p52_e_4 (a0 : Val) (r1 : Val × Bool × Bool) : rE I52 (xBY a0) [Y] [xAO r1] = dn (xBC (r1.1, false)) [AbC 65 (xAP [(Val.re a0)]) (xAO r1), r1.2.1 = true] := by kernel_rfl
theorem p52_e_5 (a0 : Val) (r1 : Val × Bool × Bool) (r2 : Val) : rE I52 (xBY a0) [F, Y] [xAO r1, xAZ r2] = dn (xBC (r2, false)) [AbC 65 (xAP [(Val.re a0)]) (xAO r1), r1.2.1 = false, (((Val.kind a0) : Int) == 3) = true, AbC 106 (xBM (Ln (Val.list a0) : Int)) (xAZ r2)] := by kernel_rfl
theorem p52_e_6 (a0 : Val) (r1 : Val × Bool × Bool) (r2 : Val) : rE I52 (xBY a0) [F, F, Y] [xAO r1, xAZ r2] = dn (xBC (r2, false)) [AbC 65 (xAP [(Val.re a0)]) (xAO r1), r1.2.1 = false, (((Val.kind a0) : Int) == 3) = false, (((Val.kind a0) : Int) == 2) = true, AbC 106 (xBM (Ln (Val.text a0) : Int)) (xAZ r2)] := by kernel_rfl
theorem p52_e_7 (a0 : Val) (r1 : Val × Bool × Bool) (r2 : Val) : rE I52 (xBY a0) [F, F, F] [xAO r1, xAp r2] = dn (xBC (r2, false)) [AbC 65 (xAP [(Val.re a0)]) (xAO r1), r1.2.1 = false, (((Val.kind a0) : Int) == 3) = false, (((Val.kind a0) : Int) == 2) = false, AbC 67 (xAR 4) (xAp r2)] := by kernel_rfl
theorem c52_e {N : Nat} : ∀ a0 r, xF2 N a0 = some r → RE Try.f52 I52 (xBY a0) (xBC r) := fun a0 r h =>
 bE h fun r1 h0 h => cE h (fun h1 h => iE h fun h2 h => iE h fun h3 h => iE h fun h4 h => cE h (fun h5 h => dE h fk52 (p52_e_0 a0 r1) (oc (xCb (xA8 h0) h1 h2 h3 h4) (oc h5 on))) fun h5 h =>
 cE h (fun h6 h => bE h fun r2 h7 h => dE h fk52 (p52_e_1 a0 r1 r2) (oc (xCb (xA8 h0) h1 h2 h3 h4) (oc h5 (oc h6 (oc (xCC h7) on))))) fun h6 h =>
 cE h (fun h7 h => bE h fun r2 h8 h => dE h fk52 (p52_e_2 a0 r1 r2) (oc (xCb (xA8 h0) h1 h2 h3 h4) (oc h5 (oc h6 (oc h7 (oc (xCC h8) on)))))) fun h7 h =>
 bE h fun r2 h8 h => dE h fk52 (p52_e_3 a0 r1 r2) (oc (xCb (xA8 h0) h1 h2 h3 h4) (oc h5 (oc h6 (oc h7 (oc (xBb h8) on)))))) fun h1 h =>
 cE h (fun h2 h => dE h fk52 (p52_e_4 a0 r1) (oc (xCc (xA8 h0) h1) (oc h2 on))) fun h2 h =>
 cE h (fun h3 h => bE h fun r2 h4 h => dE h fk52 (p52_e_5 a0 r1 r2) (oc (xCc (xA8 h0) h1) (oc h2 (oc h3 (oc (xCC h4) on))))) fun h3 h =>
 cE h (fun h4 h => bE h fun r2 h5 h => dE h fk52 (p52_e_6 a0 r1 r2) (oc (xCc (xA8 h0) h1) (oc h2 (oc h3 (oc h4 (oc (xCC h5) on)))))) fun h4 h =>
 bE h fun r2 h5 h => dE h fk52 (p52_e_7 a0 r1 r2) (oc (xCc (xA8 h0) h1) (oc h2 (oc h3 (oc h4 (oc (xBb h5) on)))))
theorem xHQ {N : Nat} {a0 : Val} {r : Val × Bool} (h : xF2 N  a0 = some r) : AbC 52 (xBY a0) (xBC r) :=
 AbsCalls.of_reach fk52 rfl rfl (Nat.le_of_ble_eq_true rfl) (c52_e a0 r h)
noncomputable def I9 : Info := { body := (Try.f9.body).getD .skip, nt := 78, results := [.tmp 2], keep := [0, 4, 6, 8, 10, 12, 14, 18, 68, 84, 96, 106, 132, 7, 9, 11, 13], live := [(13, [8, 10, 12, 14, 9, 11, 13])], modes := [(3, [(2, .take, false)]), (4, [(2, .take, true)]), (5, [(2, .take, true)]), (6, [(6, .take, false)]), (8, [(3, .take, false)]), (15, [(3, .take, true)]), (17, [(1, .take, true)])], casts := [(13, [(13, 4, true), (13, 5, true), (13, 6, true), (11, 4, true), (11, 5, true), (11, 6, true)])] }
theorem fk9 : FnOk Try.prog 9 Try.f9 I9 := ⟨Try.func9, by kernel_rfl, by kernel_rfl, by kernel_rfl, by kernel_rfl⟩
def S9_13 (x7 : Int) (b4 b5 b6 : Val) : St := [(8, .v false [.ptr 4 0]), (10, .v false [.ptr 5 0]), (12, .v false [.ptr 6 0]), (14, .v false [.int .i64 x7]), (9, .v true [.int .i64 (Val.kind b4), .int .i64 (Val.n b4), .int .i64 (Val.step b4), .str (Val.text b4), .sl .own .val (Val.list b4), .sl .own .str (Val.columns b4), .sl .own .row (Val.rows b4)]), (11, .v true [.int .i64 (Val.kind b5), .int .i64 (Val.n b5), .int .i64 (Val.step b5), .str (Val.text b5), .sl .ro .val (Val.list b5), .sl .ro .str (Val.columns b5), .sl .ro .row (Val.rows b5)]), (13, .v true [.int .i64 (Val.kind b6), .int .i64 (Val.n b6), .int .i64 (Val.step b6), .str (Val.text b6), .sl .ro .val (Val.list b6), .sl .ro .str (Val.columns b6), .sl .ro .row (Val.rows b6)])]
theorem p9_13_0 (x7 : Int) (b4 b5 b6 r1 : Val) (r2 : Val × Bool) (r3 : Bool) : rS 13 I9 (S9_13 x7 b4 b5 b6) [Y, Y] [xAj r1, xEC r2, xAa r3] = dn (xAz false) [(decide ((x7 : Int) < (Ln (Val.list b5) : Int))) = true, AbC 51 (xAJ x7) (xAj r1), AbC 50 (xBc r1 b4) (xEC r2), (0 : Int) ≤ x7 ∧ x7 < (Ln (Val.list b5)), AbC 38 (xAe (Val.mk (Val.kind r2.1) (Val.n r2.1) (Val.step r2.1) (Val.text r2.1) [] [] []) (gD (Val.list b5) (tN x7) vd)) (xAa r3), (!r3) = true] := by kernel_rfl
theorem p9_13_1 (x7 : Int) (b4 b5 b6 r1 : Val) (r2 : Val × Bool) (r3 : Bool) : rS 13 I9 (S9_13 x7 b4 b5 b6) [Y, F] [xAj r1, xEC r2, xAa r3] = st 13 I9 (S9_13 (W (x7 + 1)) b4 b5 b6) [(decide ((x7 : Int) < (Ln (Val.list b5) : Int))) = true, AbC 51 (xAJ x7) (xAj r1), AbC 50 (xBc r1 b4) (xEC r2), (0 : Int) ≤ x7 ∧ x7 < (Ln (Val.list b5)), AbC 38 (xAe (Val.mk (Val.kind r2.1) (Val.n r2.1) (Val.step r2.1) (Val.text r2.1) [] [] []) (gD (Val.list b5) (tN x7) vd)) (xAa r3), (!r3) = false] := by kernel_rfl
theorem p9_13_2 (x7 : Int) (b4 b5 b6 r1 : Val) (r2 : Val × Bool) (r3 : Bool) : rS 13 I9 (S9_13 x7 b4 b5 b6) [Y, Y] [xAj r1, xBz r2, xAa r3] = dn (xAz false) [(decide ((x7 : Int) < (Ln (Val.list b5) : Int))) = true, AbC 51 (xAJ x7) (xAj r1), AbC 50 (xBc r1 b4) (xBz r2), (0 : Int) ≤ x7 ∧ x7 < (Ln (Val.list b5)), AbC 38 (xAe r2.1 (gD (Val.list b5) (tN x7) vd)) (xAa r3), (!r3) = true] := by kernel_rfl
theorem p9_13_3 (x7 : Int) (b4 b5 b6 r1 : Val) (r2 : Val × Bool) (r3 : Bool) : rS 13 I9 (S9_13 x7 b4 b5 b6) [Y, F] [xAj r1, xBz r2, xAa r3] = st 13 I9 (S9_13 (W (x7 + 1)) b4 b5 b6) [(decide ((x7 : Int) < (Ln (Val.list b5) : Int))) = true, AbC 51 (xAJ x7) (xAj r1), AbC 50 (xBc r1 b4) (xBz r2), (0 : Int) ≤ x7 ∧ x7 < (Ln (Val.list b5)), AbC 38 (xAe r2.1 (gD (Val.list b5) (tN x7) vd)) (xAa r3), (!r3) = false] := by kernel_rfl
theorem p9_13_4 (x7 : Int) (b4 b5 b6 : Val) (r1 : Val × Bool) (r2 : Val) (r3 : Bool) : rS 13 I9 (S9_13 x7 b4 b5 b6) [F] [xGg r1, xAj r2, xAa r3] = dn (xAz r3) [(decide ((x7 : Int) < (Ln (Val.list b5) : Int))) = false, AbC 52 (xBY b4) (xGg r1), AbC 51 (xAJ (W ((Ln (Val.list b5) : Int) + (Ln (Val.list b6) : Int)))) (xAj r2), AbC 38 (xAe (Val.mk (Val.kind r1.1) (Val.n r1.1) (Val.step r1.1) (Val.text r1.1) [] [] []) r2) (xAa r3)] := by kernel_rfl
theorem p9_13_5 (x7 : Int) (b4 b5 b6 : Val) (r1 : Val × Bool) (r2 : Val) (r3 : Bool) : rS 13 I9 (S9_13 x7 b4 b5 b6) [F] [xFp r1, xAj r2, xAa r3] = dn (xAz r3) [(decide ((x7 : Int) < (Ln (Val.list b5) : Int))) = false, AbC 52 (xBY b4) (xFp r1), AbC 51 (xAJ (W ((Ln (Val.list b5) : Int) + (Ln (Val.list b6) : Int)))) (xAj r2), AbC 38 (xAe r1.1 r2) (xAa r3)] := by kernel_rfl
theorem p9_e_6 (a0 : List Int) (r1 : Bool) : rE I9 (xAC a0) [Y] [xAB r1] = dn (xAz true) [AbC 29 (xBt a0) (xAB r1), r1 = true] := by kernel_rfl
theorem p9_e_7 (a0 : List Int) (r1 : Bool) (r2 : Val × Val) (r3 : Val × Bool) (r4 : Val × Bool) (r5 : Val) (r6 : Bool) : rE I9 (xAC a0) [F, Y, Y] [xAB r1, xAh r2, xA4 r3, xA3 r4, xAl r5, xAa r6] = dn (xAz false) [AbC 29 (xBt a0) (xAB r1), r1 = false, AbC 45 (xAD a0) (xAh r2), AbC 46 (xAL r2.1 r2.2) (xA4 r3), AbC 47 (xAx r2.1 r2.2) (xA3 r4), AbC 48 (xAS r2.1 r2.2) (xAl r5), AbC 38 (xAe (Val.mk (Val.kind r3.1) (Val.n r3.1) (Val.step r3.1) (Val.text r3.1) [] [] []) r5) (xAa r6), (!r6) = true, true = true] := by kernel_rfl
theorem p9_e_8 (a0 : List Int) (r1 : Bool) (r2 : Val × Val) (r3 : Val × Bool) (r4 : Val × Bool) (r5 : Val) (r6 : Bool) (r7 : Val) (r8 : Bool) : rE I9 (xAC a0) [F, F, Y] [xAB r1, xAh r2, xA4 r3, xA3 r4, xAl r5, xAa r6, xAs r7, xAa r8] = dn (xAz false) [AbC 29 (xBt a0) (xAB r1), r1 = false, AbC 45 (xAD a0) (xAh r2), AbC 46 (xAL r2.1 r2.2) (xA4 r3), AbC 47 (xAx r2.1 r2.2) (xA3 r4), AbC 48 (xAS r2.1 r2.2) (xAl r5), AbC 38 (xAe (Val.mk (Val.kind r3.1) (Val.n r3.1) (Val.step r3.1) (Val.text r3.1) [] [] []) r5) (xAa r6), (!r6) = false, AbC 49 (xA5 r2.1 r2.2) (xAs r7), AbC 38 (xAe (Val.mk (Val.kind r4.1) (Val.n r4.1) (Val.step r4.1) (Val.text r4.1) [] [] []) r7) (xAa r8), (!r8) = true] := by kernel_rfl
theorem p9_e_9 (a0 : List Int) (r1 : Bool) (r2 : Val × Val) (r3 : Val × Bool) (r4 : Val × Bool) (r5 : Val) (r6 : Bool) (r7 : Val) (r8 : Bool) : rE I9 (xAC a0) [F, F, F, Y, Y] [xAB r1, xAh r2, xA4 r3, xA3 r4, xAl r5, xAa r6, xAs r7, xAa r8] = dn (xAz true) [AbC 29 (xBt a0) (xAB r1), r1 = false, AbC 45 (xAD a0) (xAh r2), AbC 46 (xAL r2.1 r2.2) (xA4 r3), AbC 47 (xAx r2.1 r2.2) (xA3 r4), AbC 48 (xAS r2.1 r2.2) (xAl r5), AbC 38 (xAe (Val.mk (Val.kind r3.1) (Val.n r3.1) (Val.step r3.1) (Val.text r3.1) [] [] []) r5) (xAa r6), (!r6) = false, AbC 49 (xA5 r2.1 r2.2) (xAs r7), AbC 38 (xAe (Val.mk (Val.kind r4.1) (Val.n r4.1) (Val.step r4.1) (Val.text r4.1) [] [] []) r7) (xAa r8), (!r8) = false, (((Val.kind r3.1) : Int) != 3) = true, true = true] := by kernel_rfl
theorem p9_e_10 (a0 : List Int) (r1 : Bool) (r2 : Val × Val) (r3 : Val × Bool) (r4 : Val × Bool) (r5 : Val) (r6 : Bool) (r7 : Val) (r8 : Bool) : rE I9 (xAC a0) [F, F, F, F, Y] [xAB r1, xAh r2, xA4 r3, xA3 r4, xAl r5, xAa r6, xAs r7, xAa r8] = dn (xAz true) [AbC 29 (xBt a0) (xAB r1), r1 = false, AbC 45 (xAD a0) (xAh r2), AbC 46 (xAL r2.1 r2.2) (xA4 r3), AbC 47 (xAx r2.1 r2.2) (xA3 r4), AbC 48 (xAS r2.1 r2.2) (xAl r5), AbC 38 (xAe (Val.mk (Val.kind r3.1) (Val.n r3.1) (Val.step r3.1) (Val.text r3.1) [] [] []) r5) (xAa r6), (!r6) = false, AbC 49 (xA5 r2.1 r2.2) (xAs r7), AbC 38 (xAe (Val.mk (Val.kind r4.1) (Val.n r4.1) (Val.step r4.1) (Val.text r4.1) [] [] []) r7) (xAa r8), (!r8) = false, (((Val.kind r3.1) : Int) != 3) = false, (((Val.kind r4.1) : Int) != 3) = true] := by kernel_rfl
theorem p9_e_11 (a0 : List Int) (r1 : Bool) (r2 : Val × Val) (r3 : Val × Bool) (r4 : Val × Bool) (r5 : Val) (r6 : Bool) (r7 : Val) (r8 : Bool) (r9 : Val) (r10 : Bool) : rE I9 (xAC a0) [F, F, F, F, F, Y] [xAB r1, xAh r2, xA4 r3, xA3 r4, xAl r5, xAa r6, xAs r7, xAa r8, xAn r9, xAa r10] = dn (xAz false) [AbC 29 (xBt a0) (xAB r1), r1 = false, AbC 45 (xAD a0) (xAh r2), AbC 46 (xAL r2.1 r2.2) (xA4 r3), AbC 47 (xAx r2.1 r2.2) (xA3 r4), AbC 48 (xAS r2.1 r2.2) (xAl r5), AbC 38 (xAe (Val.mk (Val.kind r3.1) (Val.n r3.1) (Val.step r3.1) (Val.text r3.1) [] [] []) r5) (xAa r6), (!r6) = false, AbC 49 (xA5 r2.1 r2.2) (xAs r7), AbC 38 (xAe (Val.mk (Val.kind r4.1) (Val.n r4.1) (Val.step r4.1) (Val.text r4.1) [] [] []) r7) (xAa r8), (!r8) = false, (((Val.kind r3.1) : Int) != 3) = false, (((Val.kind r4.1) : Int) != 3) = false, AbC 11 (xAw 1 (Val.mk (Val.kind r3.1) (Val.n r3.1) (Val.step r3.1) (Val.text r3.1) [] [] []) (Val.mk (Val.kind r4.1) (Val.n r4.1) (Val.step r4.1) (Val.text r4.1) [] [] [])) (xAn r9), AbC 38 (xAe r9 r2.2) (xAa r10), (!r10) = true] := by kernel_rfl
theorem p9_e_12 (a0 : List Int) (r1 : Bool) (r2 : Val × Val) (r3 : Val × Bool) (r4 : Val × Bool) (r5 : Val) (r6 : Bool) (r7 : Val) (r8 : Bool) (r9 : Val) (r10 : Bool) : rE I9 (xAC a0) [F, F, F, F, F, F] [xAB r1, xAh r2, xA4 r3, xA3 r4, xAl r5, xAa r6, xAs r7, xAa r8, xAn r9, xAa r10] = st 13 I9 (S9_13 0 r2.2 (Val.mk (Val.kind r3.1) (Val.n r3.1) (Val.step r3.1) (Val.text r3.1) [] [] []) (Val.mk (Val.kind r4.1) (Val.n r4.1) (Val.step r4.1) (Val.text r4.1) [] [] [])) [AbC 29 (xBt a0) (xAB r1), r1 = false, AbC 45 (xAD a0) (xAh r2), AbC 46 (xAL r2.1 r2.2) (xA4 r3), AbC 47 (xAx r2.1 r2.2) (xA3 r4), AbC 48 (xAS r2.1 r2.2) (xAl r5), AbC 38 (xAe (Val.mk (Val.kind r3.1) (Val.n r3.1) (Val.step r3.1) (Val.text r3.1) [] [] []) r5) (xAa r6), (!r6) = false, AbC 49 (xA5 r2.1 r2.2) (xAs r7), AbC 38 (xAe (Val.mk (Val.kind r4.1) (Val.n r4.1) (Val.step r4.1) (Val.text r4.1) [] [] []) r7) (xAa r8), (!r8) = false, (((Val.kind r3.1) : Int) != 3) = false, (((Val.kind r4.1) : Int) != 3) = false, AbC 11 (xAw 1 (Val.mk (Val.kind r3.1) (Val.n r3.1) (Val.step r3.1) (Val.text r3.1) [] [] []) (Val.mk (Val.kind r4.1) (Val.n r4.1) (Val.step r4.1) (Val.text r4.1) [] [] [])) (xAn r9), AbC 38 (xAe r9 r2.2) (xAa r10), (!r10) = false] := by kernel_rfl
theorem p9_e_13 (a0 : List Int) (r1 : Bool) (r2 : Val × Val) (r3 : Val × Bool) (r4 : Val × Bool) (r5 : Val) (r6 : Bool) : rE I9 (xAC a0) [F, Y, Y] [xAB r1, xAh r2, xA4 r3, xAV r4, xAl r5, xAa r6] = dn (xAz false) [AbC 29 (xBt a0) (xAB r1), r1 = false, AbC 45 (xAD a0) (xAh r2), AbC 46 (xAL r2.1 r2.2) (xA4 r3), AbC 47 (xAx r2.1 r2.2) (xAV r4), AbC 48 (xAS r2.1 r2.2) (xAl r5), AbC 38 (xAe (Val.mk (Val.kind r3.1) (Val.n r3.1) (Val.step r3.1) (Val.text r3.1) [] [] []) r5) (xAa r6), (!r6) = true, true = true] := by kernel_rfl
theorem p9_e_14 (a0 : List Int) (r1 : Bool) (r2 : Val × Val) (r3 : Val × Bool) (r4 : Val × Bool) (r5 : Val) (r6 : Bool) (r7 : Val) (r8 : Bool) : rE I9 (xAC a0) [F, F, Y] [xAB r1, xAh r2, xA4 r3, xAV r4, xAl r5, xAa r6, xAs r7, xAa r8] = dn (xAz false) [AbC 29 (xBt a0) (xAB r1), r1 = false, AbC 45 (xAD a0) (xAh r2), AbC 46 (xAL r2.1 r2.2) (xA4 r3), AbC 47 (xAx r2.1 r2.2) (xAV r4), AbC 48 (xAS r2.1 r2.2) (xAl r5), AbC 38 (xAe (Val.mk (Val.kind r3.1) (Val.n r3.1) (Val.step r3.1) (Val.text r3.1) [] [] []) r5) (xAa r6), (!r6) = false, AbC 49 (xA5 r2.1 r2.2) (xAs r7), AbC 38 (xAe r4.1 r7) (xAa r8), (!r8) = true] := by kernel_rfl
theorem p9_e_15 (a0 : List Int) (r1 : Bool) (r2 : Val × Val) (r3 : Val × Bool) (r4 : Val × Bool) (r5 : Val) (r6 : Bool) (r7 : Val) (r8 : Bool) : rE I9 (xAC a0) [F, F, F, Y, Y] [xAB r1, xAh r2, xA4 r3, xAV r4, xAl r5, xAa r6, xAs r7, xAa r8] = dn (xAz true) [AbC 29 (xBt a0) (xAB r1), r1 = false, AbC 45 (xAD a0) (xAh r2), AbC 46 (xAL r2.1 r2.2) (xA4 r3), AbC 47 (xAx r2.1 r2.2) (xAV r4), AbC 48 (xAS r2.1 r2.2) (xAl r5), AbC 38 (xAe (Val.mk (Val.kind r3.1) (Val.n r3.1) (Val.step r3.1) (Val.text r3.1) [] [] []) r5) (xAa r6), (!r6) = false, AbC 49 (xA5 r2.1 r2.2) (xAs r7), AbC 38 (xAe r4.1 r7) (xAa r8), (!r8) = false, (((Val.kind r3.1) : Int) != 3) = true, true = true] := by kernel_rfl
theorem p9_e_16 (a0 : List Int) (r1 : Bool) (r2 : Val × Val) (r3 : Val × Bool) (r4 : Val × Bool) (r5 : Val) (r6 : Bool) (r7 : Val) (r8 : Bool) : rE I9 (xAC a0) [F, F, F, F, Y] [xAB r1, xAh r2, xA4 r3, xAV r4, xAl r5, xAa r6, xAs r7, xAa r8] = dn (xAz true) [AbC 29 (xBt a0) (xAB r1), r1 = false, AbC 45 (xAD a0) (xAh r2), AbC 46 (xAL r2.1 r2.2) (xA4 r3), AbC 47 (xAx r2.1 r2.2) (xAV r4), AbC 48 (xAS r2.1 r2.2) (xAl r5), AbC 38 (xAe (Val.mk (Val.kind r3.1) (Val.n r3.1) (Val.step r3.1) (Val.text r3.1) [] [] []) r5) (xAa r6), (!r6) = false, AbC 49 (xA5 r2.1 r2.2) (xAs r7), AbC 38 (xAe r4.1 r7) (xAa r8), (!r8) = false, (((Val.kind r3.1) : Int) != 3) = false, (((Val.kind r4.1) : Int) != 3) = true] := by kernel_rfl
theorem p9_e_17 (a0 : List Int) (r1 : Bool) (r2 : Val × Val) (r3 : Val × Bool) (r4 : Val × Bool) (r5 : Val) (r6 : Bool) (r7 : Val) (r8 : Bool) (r9 : Val) (r10 : Bool) : rE I9 (xAC a0) [F, F, F, F, F, Y] [xAB r1, xAh r2, xA4 r3, xAV r4, xAl r5, xAa r6, xAs r7, xAa r8, xAn r9, xAa r10] = dn (xAz false) [AbC 29 (xBt a0) (xAB r1), r1 = false, AbC 45 (xAD a0) (xAh r2), AbC 46 (xAL r2.1 r2.2) (xA4 r3), AbC 47 (xAx r2.1 r2.2) (xAV r4), AbC 48 (xAS r2.1 r2.2) (xAl r5), AbC 38 (xAe (Val.mk (Val.kind r3.1) (Val.n r3.1) (Val.step r3.1) (Val.text r3.1) [] [] []) r5) (xAa r6), (!r6) = false, AbC 49 (xA5 r2.1 r2.2) (xAs r7), AbC 38 (xAe r4.1 r7) (xAa r8), (!r8) = false, (((Val.kind r3.1) : Int) != 3) = false, (((Val.kind r4.1) : Int) != 3) = false, AbC 11 (xAw 1 (Val.mk (Val.kind r3.1) (Val.n r3.1) (Val.step r3.1) (Val.text r3.1) [] [] []) r4.1) (xAn r9), AbC 38 (xAe r9 r2.2) (xAa r10), (!r10) = true] := by kernel_rfl
theorem p9_e_18 (a0 : List Int) (r1 : Bool) (r2 : Val × Val) (r3 : Val × Bool) (r4 : Val × Bool) (r5 : Val) (r6 : Bool) (r7 : Val) (r8 : Bool) (r9 : Val) (r10 : Bool) : rE I9 (xAC a0) [F, F, F, F, F, F] [xAB r1, xAh r2, xA4 r3, xAV r4, xAl r5, xAa r6, xAs r7, xAa r8, xAn r9, xAa r10] = st 13 I9 (S9_13 0 r2.2 (Val.mk (Val.kind r3.1) (Val.n r3.1) (Val.step r3.1) (Val.text r3.1) [] [] []) r4.1) [AbC 29 (xBt a0) (xAB r1), r1 = false, AbC 45 (xAD a0) (xAh r2), AbC 46 (xAL r2.1 r2.2) (xA4 r3), AbC 47 (xAx r2.1 r2.2) (xAV r4), AbC 48 (xAS r2.1 r2.2) (xAl r5), AbC 38 (xAe (Val.mk (Val.kind r3.1) (Val.n r3.1) (Val.step r3.1) (Val.text r3.1) [] [] []) r5) (xAa r6), (!r6) = false, AbC 49 (xA5 r2.1 r2.2) (xAs r7), AbC 38 (xAe r4.1 r7) (xAa r8), (!r8) = false, (((Val.kind r3.1) : Int) != 3) = false, (((Val.kind r4.1) : Int) != 3) = false, AbC 11 (xAw 1 (Val.mk (Val.kind r3.1) (Val.n r3.1) (Val.step r3.1) (Val.text r3.1) [] [] []) r4.1) (xAn r9), AbC 38 (xAe r9 r2.2) (xAa r10), (!r10) = false] := by kernel_rfl
theorem p9_e_19 (a0 : List Int) (r1 : Bool) (r2 : Val × Val) (r3 : Val × Bool) (r4 : Val × Bool) (r5 : Val) (r6 : Bool) : rE I9 (xAC a0) [F, Y, Y] [xAB r1, xAh r2, xAW r3, xA3 r4, xAl r5, xAa r6] = dn (xAz false) [AbC 29 (xBt a0) (xAB r1), r1 = false, AbC 45 (xAD a0) (xAh r2), AbC 46 (xAL r2.1 r2.2) (xAW r3), AbC 47 (xAx r2.1 r2.2) (xA3 r4), AbC 48 (xAS r2.1 r2.2) (xAl r5), AbC 38 (xAe r3.1 r5) (xAa r6), (!r6) = true, true = true] := by kernel_rfl
theorem p9_e_20 (a0 : List Int) (r1 : Bool) (r2 : Val × Val) (r3 : Val × Bool) (r4 : Val × Bool) (r5 : Val) (r6 : Bool) (r7 : Val) (r8 : Bool) : rE I9 (xAC a0) [F, F, Y] [xAB r1, xAh r2, xAW r3, xA3 r4, xAl r5, xAa r6, xAs r7, xAa r8] = dn (xAz false) [AbC 29 (xBt a0) (xAB r1), r1 = false, AbC 45 (xAD a0) (xAh r2), AbC 46 (xAL r2.1 r2.2) (xAW r3), AbC 47 (xAx r2.1 r2.2) (xA3 r4), AbC 48 (xAS r2.1 r2.2) (xAl r5), AbC 38 (xAe r3.1 r5) (xAa r6), (!r6) = false, AbC 49 (xA5 r2.1 r2.2) (xAs r7), AbC 38 (xAe (Val.mk (Val.kind r4.1) (Val.n r4.1) (Val.step r4.1) (Val.text r4.1) [] [] []) r7) (xAa r8), (!r8) = true] := by kernel_rfl
theorem p9_e_21 (a0 : List Int) (r1 : Bool) (r2 : Val × Val) (r3 : Val × Bool) (r4 : Val × Bool) (r5 : Val) (r6 : Bool) (r7 : Val) (r8 : Bool) : rE I9 (xAC a0) [F, F, F, Y, Y] [xAB r1, xAh r2, xAW r3, xA3 r4, xAl r5, xAa r6, xAs r7, xAa r8] = dn (xAz true) [AbC 29 (xBt a0) (xAB r1), r1 = false, AbC 45 (xAD a0) (xAh r2), AbC 46 (xAL r2.1 r2.2) (xAW r3), AbC 47 (xAx r2.1 r2.2) (xA3 r4), AbC 48 (xAS r2.1 r2.2) (xAl r5), AbC 38 (xAe r3.1 r5) (xAa r6), (!r6) = false, AbC 49 (xA5 r2.1 r2.2) (xAs r7), AbC 38 (xAe (Val.mk (Val.kind r4.1) (Val.n r4.1) (Val.step r4.1) (Val.text r4.1) [] [] []) r7) (xAa r8), (!r8) = false, (((Val.kind r3.1) : Int) != 3) = true, true = true] := by kernel_rfl
theorem p9_e_22 (a0 : List Int) (r1 : Bool) (r2 : Val × Val) (r3 : Val × Bool) (r4 : Val × Bool) (r5 : Val) (r6 : Bool) (r7 : Val) (r8 : Bool) : rE I9 (xAC a0) [F, F, F, F, Y] [xAB r1, xAh r2, xAW r3, xA3 r4, xAl r5, xAa r6, xAs r7, xAa r8] = dn (xAz true) [AbC 29 (xBt a0) (xAB r1), r1 = false, AbC 45 (xAD a0) (xAh r2), AbC 46 (xAL r2.1 r2.2) (xAW r3), AbC 47 (xAx r2.1 r2.2) (xA3 r4), AbC 48 (xAS r2.1 r2.2) (xAl r5), AbC 38 (xAe r3.1 r5) (xAa r6), (!r6) = false, AbC 49 (xA5 r2.1 r2.2) (xAs r7), AbC 38 (xAe (Val.mk (Val.kind r4.1) (Val.n r4.1) (Val.step r4.1) (Val.text r4.1) [] [] []) r7) (xAa r8), (!r8) = false, (((Val.kind r3.1) : Int) != 3) = false, (((Val.kind r4.1) : Int) != 3) = true] := by kernel_rfl
theorem p9_e_23 (a0 : List Int) (r1 : Bool) (r2 : Val × Val) (r3 : Val × Bool) (r4 : Val × Bool) (r5 : Val) (r6 : Bool) (r7 : Val) (r8 : Bool) (r9 : Val) (r10 : Bool) : rE I9 (xAC a0) [F, F, F, F, F, Y] [xAB r1, xAh r2, xAW r3, xA3 r4, xAl r5, xAa r6, xAs r7, xAa r8, xAn r9, xAa r10] = dn (xAz false) [AbC 29 (xBt a0) (xAB r1), r1 = false, AbC 45 (xAD a0) (xAh r2), AbC 46 (xAL r2.1 r2.2) (xAW r3), AbC 47 (xAx r2.1 r2.2) (xA3 r4), AbC 48 (xAS r2.1 r2.2) (xAl r5), AbC 38 (xAe r3.1 r5) (xAa r6), (!r6) = false, AbC 49 (xA5 r2.1 r2.2) (xAs r7), AbC 38 (xAe (Val.mk (Val.kind r4.1) (Val.n r4.1) (Val.step r4.1) (Val.text r4.1) [] [] []) r7) (xAa r8), (!r8) = false, (((Val.kind r3.1) : Int) != 3) = false, (((Val.kind r4.1) : Int) != 3) = false, AbC 11 (xAw 1 r3.1 (Val.mk (Val.kind r4.1) (Val.n r4.1) (Val.step r4.1) (Val.text r4.1) [] [] [])) (xAn r9), AbC 38 (xAe r9 r2.2) (xAa r10), (!r10) = true] := by kernel_rfl
theorem p9_e_24 (a0 : List Int) (r1 : Bool) (r2 : Val × Val) (r3 : Val × Bool) (r4 : Val × Bool) (r5 : Val) (r6 : Bool) (r7 : Val) (r8 : Bool) (r9 : Val) (r10 : Bool) : rE I9 (xAC a0) [F, F, F, F, F, F] [xAB r1, xAh r2, xAW r3, xA3 r4, xAl r5, xAa r6, xAs r7, xAa r8, xAn r9, xAa r10] = st 13 I9 (S9_13 0 r2.2 r3.1 (Val.mk (Val.kind r4.1) (Val.n r4.1) (Val.step r4.1) (Val.text r4.1) [] [] [])) [AbC 29 (xBt a0) (xAB r1), r1 = false, AbC 45 (xAD a0) (xAh r2), AbC 46 (xAL r2.1 r2.2) (xAW r3), AbC 47 (xAx r2.1 r2.2) (xA3 r4), AbC 48 (xAS r2.1 r2.2) (xAl r5), AbC 38 (xAe r3.1 r5) (xAa r6), (!r6) = false, AbC 49 (xA5 r2.1 r2.2) (xAs r7), AbC 38 (xAe (Val.mk (Val.kind r4.1) (Val.n r4.1) (Val.step r4.1) (Val.text r4.1) [] [] []) r7) (xAa r8), (!r8) = false, (((Val.kind r3.1) : Int) != 3) = false, (((Val.kind r4.1) : Int) != 3) = false, AbC 11 (xAw 1 r3.1 (Val.mk (Val.kind r4.1) (Val.n r4.1) (Val.step r4.1) (Val.text r4.1) [] [] [])) (xAn r9), AbC 38 (xAe r9 r2.2) (xAa r10), (!r10) = false] := by kernel_rfl
theorem p9_e_25 (a0 : List Int) (r1 : Bool) (r2 : Val × Val) (r3 : Val × Bool) (r4 : Val × Bool) (r5 : Val) (r6 : Bool) : rE I9 (xAC a0) [F, Y, Y] [xAB r1, xAh r2, xAW r3, xAV r4, xAl r5, xAa r6] = dn (xAz false) [AbC 29 (xBt a0) (xAB r1), r1 = false, AbC 45 (xAD a0) (xAh r2), AbC 46 (xAL r2.1 r2.2) (xAW r3), AbC 47 (xAx r2.1 r2.2) (xAV r4), AbC 48 (xAS r2.1 r2.2) (xAl r5), AbC 38 (xAe r3.1 r5) (xAa r6), (!r6) = true, true = true] := by kernel_rfl
theorem p9_e_26 (a0 : List Int) (r1 : Bool) (r2 : Val × Val) (r3 : Val × Bool) (r4 : Val × Bool) (r5 : Val) (r6 : Bool) (r7 : Val) (r8 : Bool) : rE I9 (xAC a0) [F, F, Y] [xAB r1, xAh r2, xAW r3, xAV r4, xAl r5, xAa r6, xAs r7, xAa r8] = dn (xAz false) [AbC 29 (xBt a0) (xAB r1), r1 = false, AbC 45 (xAD a0) (xAh r2), AbC 46 (xAL r2.1 r2.2) (xAW r3), AbC 47 (xAx r2.1 r2.2) (xAV r4), AbC 48 (xAS r2.1 r2.2) (xAl r5), AbC 38 (xAe r3.1 r5) (xAa r6), (!r6) = false, AbC 49 (xA5 r2.1 r2.2) (xAs r7), AbC 38 (xAe r4.1 r7) (xAa r8), (!r8) = true] := by kernel_rfl
theorem p9_e_27 (a0 : List Int) (r1 : Bool) (r2 : Val × Val) (r3 : Val × Bool) (r4 : Val × Bool) (r5 : Val) (r6 : Bool) (r7 : Val) (r8 : Bool) : rE I9 (xAC a0) [F, F, F, Y, Y] [xAB r1, xAh r2, xAW r3, xAV r4, xAl r5, xAa r6, xAs r7, xAa r8] = dn (xAz true) [AbC 29 (xBt a0) (xAB r1), r1 = false, AbC 45 (xAD a0) (xAh r2), AbC 46 (xAL r2.1 r2.2) (xAW r3), AbC 47 (xAx r2.1 r2.2) (xAV r4), AbC 48 (xAS r2.1 r2.2) (xAl r5), AbC 38 (xAe r3.1 r5) (xAa r6), (!r6) = false, AbC 49 (xA5 r2.1 r2.2) (xAs r7), AbC 38 (xAe r4.1 r7) (xAa r8), (!r8) = false, (((Val.kind r3.1) : Int) != 3) = true, true = true] := by kernel_rfl
theorem p9_e_28 (a0 : List Int) (r1 : Bool) (r2 : Val × Val) (r3 : Val × Bool) (r4 : Val × Bool) (r5 : Val) (r6 : Bool) (r7 : Val) (r8 : Bool) : rE I9 (xAC a0) [F, F, F, F, Y] [xAB r1, xAh r2, xAW r3, xAV r4, xAl r5, xAa r6, xAs r7, xAa r8] = dn (xAz true) [AbC 29 (xBt a0) (xAB r1), r1 = false, AbC 45 (xAD a0) (xAh r2), AbC 46 (xAL r2.1 r2.2) (xAW r3), AbC 47 (xAx r2.1 r2.2) (xAV r4), AbC 48 (xAS r2.1 r2.2) (xAl r5), AbC 38 (xAe r3.1 r5) (xAa r6), (!r6) = false, AbC 49 (xA5 r2.1 r2.2) (xAs r7), AbC 38 (xAe r4.1 r7) (xAa r8), (!r8) = false, (((Val.kind r3.1) : Int) != 3) = false, (((Val.kind r4.1) : Int) != 3) = true] := by kernel_rfl
theorem p9_e_29 (a0 : List Int) (r1 : Bool) (r2 : Val × Val) (r3 : Val × Bool) (r4 : Val × Bool) (r5 : Val) (r6 : Bool) (r7 : Val) (r8 : Bool) (r9 : Val) (r10 : Bool) : rE I9 (xAC a0) [F, F, F, F, F, Y] [xAB r1, xAh r2, xAW r3, xAV r4, xAl r5, xAa r6, xAs r7, xAa r8, xAn r9, xAa r10] = dn (xAz false) [AbC 29 (xBt a0) (xAB r1), r1 = false, AbC 45 (xAD a0) (xAh r2), AbC 46 (xAL r2.1 r2.2) (xAW r3), AbC 47 (xAx r2.1 r2.2) (xAV r4), AbC 48 (xAS r2.1 r2.2) (xAl r5), AbC 38 (xAe r3.1 r5) (xAa r6), (!r6) = false, AbC 49 (xA5 r2.1 r2.2) (xAs r7), AbC 38 (xAe r4.1 r7) (xAa r8), (!r8) = false, (((Val.kind r3.1) : Int) != 3) = false, (((Val.kind r4.1) : Int) != 3) = false, AbC 11 (xAw 1 r3.1 r4.1) (xAn r9), AbC 38 (xAe r9 r2.2) (xAa r10), (!r10) = true] := by kernel_rfl
theorem p9_e_30 (a0 : List Int) (r1 : Bool) (r2 : Val × Val) (r3 : Val × Bool) (r4 : Val × Bool) (r5 : Val) (r6 : Bool) (r7 : Val) (r8 : Bool) (r9 : Val) (r10 : Bool) : rE I9 (xAC a0) [F, F, F, F, F, F] [xAB r1, xAh r2, xAW r3, xAV r4, xAl r5, xAa r6, xAs r7, xAa r8, xAn r9, xAa r10] = st 13 I9 (S9_13 0 r2.2 r3.1 r4.1) [AbC 29 (xBt a0) (xAB r1), r1 = false, AbC 45 (xAD a0) (xAh r2), AbC 46 (xAL r2.1 r2.2) (xAW r3), AbC 47 (xAx r2.1 r2.2) (xAV r4), AbC 48 (xAS r2.1 r2.2) (xAl r5), AbC 38 (xAe r3.1 r5) (xAa r6), (!r6) = false, AbC 49 (xA5 r2.1 r2.2) (xAs r7), AbC 38 (xAe r4.1 r7) (xAa r8), (!r8) = false, (((Val.kind r3.1) : Int) != 3) = false, (((Val.kind r4.1) : Int) != 3) = false, AbC 11 (xAw 1 r3.1 r4.1) (xAn r9), AbC 38 (xAe r9 r2.2) (xAa r10), (!r10) = false] := by kernel_rfl
theorem c9_13 {N : Nat} : ∀ n x7 b4 b5 b6 r, xBo N n x7 b4 b5 b6 = some r → RS Try.f9 I9 13 (S9_13 x7 b4 b5 b6) (xAz r) := by
 intro n
 induction n with
 | zero => exact fun _ _ _ _ _ h => nE h
 | succ n ih =>
  exact fun x7 b4 b5 b6 r h =>
   cE h (fun h0 h => bE h fun r1 h1 h => bE h fun r2 h2 h => cE h (fun h3 h => iE h fun h4 h => iE h fun h5 h => iE h fun h6 h => iE h fun h7 h => bE h fun r3 h8 h => cE h (fun h9 h => dS h fk9 (p9_13_0 x7 b4 b5 b6 r1 r2 r3) (oc h0 (oc (xAQ h1) (oc (xHk (xCg h2) h3 h4 h5 h6) (oc h7 (oc (xAf h8) (oc h9 on))))))) fun h9 h =>
   tS fk9 (p9_13_1 x7 b4 b5 b6 r1 r2 r3) (oc h0 (oc (xAQ h1) (oc (xHk (xCg h2) h3 h4 h5 h6) (oc h7 (oc (xAf h8) (oc h9 on)))))) (ih _ _ _ _ _ h)) fun h3 h =>
   iE h fun h4 h => bE h fun r3 h5 h => cE h (fun h6 h => dS h fk9 (p9_13_2 x7 b4 b5 b6 r1 r2 r3) (oc h0 (oc (xAQ h1) (oc (xD0 (xCg h2) h3) (oc h4 (oc (xAf h5) (oc h6 on))))))) fun h6 h =>
   tS fk9 (p9_13_3 x7 b4 b5 b6 r1 r2 r3) (oc h0 (oc (xAQ h1) (oc (xD0 (xCg h2) h3) (oc h4 (oc (xAf h5) (oc h6 on)))))) (ih _ _ _ _ _ h)) fun h0 h =>
   bE h fun r1 h1 h => cE h (fun h2 h => iE h fun h3 h => iE h fun h4 h => iE h fun h5 h => bE h fun r2 h6 h => bE h fun r3 h7 h => dS h fk9 (p9_13_4 x7 b4 b5 b6 r1 r2 r3) (oc h0 (oc (impl_LengthOf_toE (xHQ h1) h2 h3 h4 h5) (oc (xAQ h6) (oc (xAf h7) on))))) fun h2 h =>
   bE h fun r2 h3 h => bE h fun r3 h4 h => dS h fk9 (p9_13_5 x7 b4 b5 b6 r1 r2 r3) (oc h0 (oc (impl_LengthOf_toO (xHQ h1) h2) (oc (xAQ h3) (oc (xAf h4) on))))
theorem c9_e {N : Nat} : ∀ a0 r, xFk N a0 = some r → RE Try.f9 I9 (xAC a0) (xAz r) := fun a0 r h =>
 bE h fun r1 h0 h => cE h (fun h1 h => dE h fk9 (p9_e_6 a0 r1) (oc (xBD h0) (oc h1 on))) fun h1 h =>
 bE h fun r2 h2 h => bE h fun r3 h3 h => cE h (fun h4 h => iE h fun h5 h => iE h fun h6 h => iE h fun h7 h => bE h fun r4 h8 h => cE h (fun h9 h => iE h fun h10 h => iE h fun h11 h => iE h fun h12 h => bE h fun r5 h13 h => bE h fun r6 h14 h => cE h (fun h15 h => dE h fk9 (p9_e_7 a0 r1 r2 r3 r4 r5 r6) (oc (xBD h0) (oc h1 (oc (xAK h2) (oc (xCp (xBe h3) h4 h5 h6 h7) (oc (xCn (xBd h8) h9 h10 h11 h12) (oc (xBg h13) (oc (xAf h14) (oc h15 (oc rfl on)))))))))) fun h15 h =>
 bE h fun r7 h16 h => bE h fun r8 h17 h => cE h (fun h18 h => dE h fk9 (p9_e_8 a0 r1 r2 r3 r4 r5 r6 r7 r8) (oc (xBD h0) (oc h1 (oc (xAK h2) (oc (xCp (xBe h3) h4 h5 h6 h7) (oc (xCn (xBd h8) h9 h10 h11 h12) (oc (xBg h13) (oc (xAf h14) (oc h15 (oc (xBu h16) (oc (xAf h17) (oc h18 on)))))))))))) fun h18 h =>
 cE h (fun h19 h => dE h fk9 (p9_e_9 a0 r1 r2 r3 r4 r5 r6 r7 r8) (oc (xBD h0) (oc h1 (oc (xAK h2) (oc (xCp (xBe h3) h4 h5 h6 h7) (oc (xCn (xBd h8) h9 h10 h11 h12) (oc (xBg h13) (oc (xAf h14) (oc h15 (oc (xBu h16) (oc (xAf h17) (oc h18 (oc h19 (oc rfl on)))))))))))))) fun h19 h =>
 cE h (fun h20 h => dE h fk9 (p9_e_10 a0 r1 r2 r3 r4 r5 r6 r7 r8) (oc (xBD h0) (oc h1 (oc (xAK h2) (oc (xCp (xBe h3) h4 h5 h6 h7) (oc (xCn (xBd h8) h9 h10 h11 h12) (oc (xBg h13) (oc (xAf h14) (oc h15 (oc (xBu h16) (oc (xAf h17) (oc h18 (oc h19 (oc h20 on)))))))))))))) fun h20 h =>
 bE h fun r9 h21 h => bE h fun r10 h22 h => cE h (fun h23 h => dE h fk9 (p9_e_11 a0 r1 r2 r3 r4 r5 r6 r7 r8 r9 r10) (oc (xBD h0) (oc h1 (oc (xAK h2) (oc (xCp (xBe h3) h4 h5 h6 h7) (oc (xCn (xBd h8) h9 h10 h11 h12) (oc (xBg h13) (oc (xAf h14) (oc h15 (oc (xBu h16) (oc (xAf h17) (oc h18 (oc h19 (oc h20 (oc (xCd h21) (oc (xAf h22) (oc h23 on))))))))))))))))) fun h23 h =>
 tE fk9 (p9_e_12 a0 r1 r2 r3 r4 r5 r6 r7 r8 r9 r10) (oc (xBD h0) (oc h1 (oc (xAK h2) (oc (xCp (xBe h3) h4 h5 h6 h7) (oc (xCn (xBd h8) h9 h10 h11 h12) (oc (xBg h13) (oc (xAf h14) (oc h15 (oc (xBu h16) (oc (xAf h17) (oc h18 (oc h19 (oc h20 (oc (xCd h21) (oc (xAf h22) (oc h23 on)))))))))))))))) (c9_13 _ _ _ _ _ _ h)) fun h9 h =>
 bE h fun r5 h10 h => bE h fun r6 h11 h => cE h (fun h12 h => dE h fk9 (p9_e_13 a0 r1 r2 r3 r4 r5 r6) (oc (xBD h0) (oc h1 (oc (xAK h2) (oc (xCp (xBe h3) h4 h5 h6 h7) (oc (xCo (xBd h8) h9) (oc (xBg h10) (oc (xAf h11) (oc h12 (oc rfl on)))))))))) fun h12 h =>
 bE h fun r7 h13 h => bE h fun r8 h14 h => cE h (fun h15 h => dE h fk9 (p9_e_14 a0 r1 r2 r3 r4 r5 r6 r7 r8) (oc (xBD h0) (oc h1 (oc (xAK h2) (oc (xCp (xBe h3) h4 h5 h6 h7) (oc (xCo (xBd h8) h9) (oc (xBg h10) (oc (xAf h11) (oc h12 (oc (xBu h13) (oc (xAf h14) (oc h15 on)))))))))))) fun h15 h =>
 cE h (fun h16 h => dE h fk9 (p9_e_15 a0 r1 r2 r3 r4 r5 r6 r7 r8) (oc (xBD h0) (oc h1 (oc (xAK h2) (oc (xCp (xBe h3) h4 h5 h6 h7) (oc (xCo (xBd h8) h9) (oc (xBg h10) (oc (xAf h11) (oc h12 (oc (xBu h13) (oc (xAf h14) (oc h15 (oc h16 (oc rfl on)))))))))))))) fun h16 h =>
 cE h (fun h17 h => dE h fk9 (p9_e_16 a0 r1 r2 r3 r4 r5 r6 r7 r8) (oc (xBD h0) (oc h1 (oc (xAK h2) (oc (xCp (xBe h3) h4 h5 h6 h7) (oc (xCo (xBd h8) h9) (oc (xBg h10) (oc (xAf h11) (oc h12 (oc (xBu h13) (oc (xAf h14) (oc h15 (oc h16 (oc h17 on)))))))))))))) fun h17 h =>
 bE h fun r9 h18 h => bE h fun r10 h19 h => cE h (fun h20 h => dE h fk9 (p9_e_17 a0 r1 r2 r3 r4 r5 r6 r7 r8 r9 r10) (oc (xBD h0) (oc h1 (oc (xAK h2) (oc (xCp (xBe h3) h4 h5 h6 h7) (oc (xCo (xBd h8) h9) (oc (xBg h10) (oc (xAf h11) (oc h12 (oc (xBu h13) (oc (xAf h14) (oc h15 (oc h16 (oc h17 (oc (xCd h18) (oc (xAf h19) (oc h20 on))))))))))))))))) fun h20 h =>
 tE fk9 (p9_e_18 a0 r1 r2 r3 r4 r5 r6 r7 r8 r9 r10) (oc (xBD h0) (oc h1 (oc (xAK h2) (oc (xCp (xBe h3) h4 h5 h6 h7) (oc (xCo (xBd h8) h9) (oc (xBg h10) (oc (xAf h11) (oc h12 (oc (xBu h13) (oc (xAf h14) (oc h15 (oc h16 (oc h17 (oc (xCd h18) (oc (xAf h19) (oc h20 on)))))))))))))))) (c9_13 _ _ _ _ _ _ h)) fun h4 h =>
 bE h fun r4 h5 h => cE h (fun h6 h => iE h fun h7 h => iE h fun h8 h => iE h fun h9 h => bE h fun r5 h10 h => bE h fun r6 h11 h => cE h (fun h12 h => dE h fk9 (p9_e_19 a0 r1 r2 r3 r4 r5 r6) (oc (xBD h0) (oc h1 (oc (xAK h2) (oc (xCq (xBe h3) h4) (oc (xCn (xBd h5) h6 h7 h8 h9) (oc (xBg h10) (oc (xAf h11) (oc h12 (oc rfl on)))))))))) fun h12 h =>
 bE h fun r7 h13 h => bE h fun r8 h14 h => cE h (fun h15 h => dE h fk9 (p9_e_20 a0 r1 r2 r3 r4 r5 r6 r7 r8) (oc (xBD h0) (oc h1 (oc (xAK h2) (oc (xCq (xBe h3) h4) (oc (xCn (xBd h5) h6 h7 h8 h9) (oc (xBg h10) (oc (xAf h11) (oc h12 (oc (xBu h13) (oc (xAf h14) (oc h15 on)))))))))))) fun h15 h =>
 cE h (fun h16 h => dE h fk9 (p9_e_21 a0 r1 r2 r3 r4 r5 r6 r7 r8) (oc (xBD h0) (oc h1 (oc (xAK h2) (oc (xCq (xBe h3) h4) (oc (xCn (xBd h5) h6 h7 h8 h9) (oc (xBg h10) (oc (xAf h11) (oc h12 (oc (xBu h13) (oc (xAf h14) (oc h15 (oc h16 (oc rfl on)))))))))))))) fun h16 h =>
 cE h (fun h17 h => dE h fk9 (p9_e_22 a0 r1 r2 r3 r4 r5 r6 r7 r8) (oc (xBD h0) (oc h1 (oc (xAK h2) (oc (xCq (xBe h3) h4) (oc (xCn (xBd h5) h6 h7 h8 h9) (oc (xBg h10) (oc (xAf h11) (oc h12 (oc (xBu h13) (oc (xAf h14) (oc h15 (oc h16 (oc h17 on)))))))))))))) fun h17 h =>
 bE h fun r9 h18 h => bE h fun r10 h19 h => cE h (fun h20 h => dE h fk9 (p9_e_23 a0 r1 r2 r3 r4 r5 r6 r7 r8 r9 r10) (oc (xBD h0) (oc h1 (oc (xAK h2) (oc (xCq (xBe h3) h4) (oc (xCn (xBd h5) h6 h7 h8 h9) (oc (xBg h10) (oc (xAf h11) (oc h12 (oc (xBu h13) (oc (xAf h14) (oc h15 (oc h16 (oc h17 (oc (xCd h18) (oc (xAf h19) (oc h20 on))))))))))))))))) fun h20 h =>
 tE fk9 (p9_e_24 a0 r1 r2 r3 r4 r5 r6 r7 r8 r9 r10) (oc (xBD h0) (oc h1 (oc (xAK h2) (oc (xCq (xBe h3) h4) (oc (xCn (xBd h5) h6 h7 h8 h9) (oc (xBg h10) (oc (xAf h11) (oc h12 (oc (xBu h13) (oc (xAf h14) (oc h15 (oc h16 (oc h17 (oc (xCd h18) (oc (xAf h19) (oc h20 on)))))))))))))))) (c9_13 _ _ _ _ _ _ h)) fun h6 h =>
 bE h fun r5 h7 h => bE h fun r6 h8 h => cE h (fun h9 h => dE h fk9 (p9_e_25 a0 r1 r2 r3 r4 r5 r6) (oc (xBD h0) (oc h1 (oc (xAK h2) (oc (xCq (xBe h3) h4) (oc (xCo (xBd h5) h6) (oc (xBg h7) (oc (xAf h8) (oc h9 (oc rfl on)))))))))) fun h9 h =>
 bE h fun r7 h10 h => bE h fun r8 h11 h => cE h (fun h12 h => dE h fk9 (p9_e_26 a0 r1 r2 r3 r4 r5 r6 r7 r8) (oc (xBD h0) (oc h1 (oc (xAK h2) (oc (xCq (xBe h3) h4) (oc (xCo (xBd h5) h6) (oc (xBg h7) (oc (xAf h8) (oc h9 (oc (xBu h10) (oc (xAf h11) (oc h12 on)))))))))))) fun h12 h =>
 cE h (fun h13 h => dE h fk9 (p9_e_27 a0 r1 r2 r3 r4 r5 r6 r7 r8) (oc (xBD h0) (oc h1 (oc (xAK h2) (oc (xCq (xBe h3) h4) (oc (xCo (xBd h5) h6) (oc (xBg h7) (oc (xAf h8) (oc h9 (oc (xBu h10) (oc (xAf h11) (oc h12 (oc h13 (oc rfl on)))))))))))))) fun h13 h =>
 cE h (fun h14 h => dE h fk9 (p9_e_28 a0 r1 r2 r3 r4 r5 r6 r7 r8) (oc (xBD h0) (oc h1 (oc (xAK h2) (oc (xCq (xBe h3) h4) (oc (xCo (xBd h5) h6) (oc (xBg h7) (oc (xAf h8) (oc h9 (oc (xBu h10) (oc (xAf h11) (oc h12 (oc h13 (oc h14 on)))))))))))))) fun h14 h =>
 bE h fun r9 h15 h => bE h fun r10 h16 h => cE h (fun h17 h => dE h fk9 (p9_e_29 a0 r1 r2 r3 r4 r5 r6 r7 r8 r9 r10) (oc (xBD h0) (oc h1 (oc (xAK h2) (oc (xCq (xBe h3) h4) (oc (xCo (xBd h5) h6) (oc (xBg h7) (oc (xAf h8) (oc h9 (oc (xBu h10) (oc (xAf h11) (oc h12 (oc h13 (oc h14 (oc (xCd h15) (oc (xAf h16) (oc h17 on))))))))))))))))) fun h17 h =>
 tE fk9 (p9_e_30 a0 r1 r2 r3 r4 r5 r6 r7 r8 r9 r10) (oc (xBD h0) (oc h1 (oc (xAK h2) (oc (xCq (xBe h3) h4) (oc (xCo (xBd h5) h6) (oc (xBg h7) (oc (xAf h8) (oc h9 (oc (xBu h10) (oc (xAf h11) (oc h12 (oc h13 (oc h14 (oc (xCd h15) (oc (xAf h16) (oc h17 on)))))))))))))))) (c9_13 _ _ _ _ _ _ h)
theorem laws_FnTakeSkip_ok {N : Nat} {a0 : List Int} {r : Bool} (h : xFk N  a0 = some r) : AbC 9 (xAC a0) (xAz r) :=
 AbsCalls.of_reach fk9 rfl rfl (Nat.le_of_ble_eq_true rfl) (c9_e a0 r h)
end Go.Ab.T
end
section
namespace Go.Ab
set_option linter.unusedVariables false
def Big (p : Nat → Prop) : Prop := ∃ k, ∀ N, k ≤ N → p N
def Big2 (p : Nat → Nat → Prop) : Prop := ∃ k, ∀ N n, k ≤ N → k ≤ n → p N n
theorem Big.imp {p q : Nat → Prop} (h : Big p) (f : ∀ N, p N → q N) : Big q := h.elim fun k hk => ⟨k, fun N hN => f N (hk N hN)⟩
theorem Big2.imp {p q : Nat → Nat → Prop} (h : Big2 p) (f : ∀ N n, p N n → q N n) : Big2 q := h.elim fun k hk => ⟨k, fun N n h1 h2 => f N n (hk N n h1 h2)⟩
theorem Big.of {p : Nat → Prop} (h : ∀ N, p N) : Big p := ⟨0, fun N _ => h N⟩
theorem Big2.of {p : Nat → Nat → Prop} (h : ∀ N n, p N n) : Big2 p := ⟨0, fun N n _ _ => h N n⟩
theorem Big.and {p q : Nat → Prop} (h : Big p) (h' : Big q) : Big fun N => p N ∧ q N := by
  obtain ⟨a, ha⟩ := h; obtain ⟨b, hb⟩ := h'
  exact ⟨max a b, fun N hN => ⟨ha N (by omega), hb N (by omega)⟩⟩
theorem Big2.and {p q : Nat → Nat → Prop} (h : Big2 p) (h' : Big2 q) : Big2 fun N n => p N n ∧ q N n := by
  obtain ⟨a, ha⟩ := h; obtain ⟨b, hb⟩ := h'
  exact ⟨max a b, fun N n h1 h2 => ⟨ha N n (by omega) (by omega), hb N n (by omega) (by omega)⟩⟩
theorem Big.two {p : Nat → Prop} (h : Big p) : Big2 fun N _ => p N := h.elim fun k hk => ⟨k, fun N _ h _ => hk N h⟩
theorem Big2.diag {p : Nat → Nat → Prop} (h : Big2 p) : Big fun N => p N N := h.elim fun k hk => ⟨k, fun N h => hk N N h h⟩
theorem Big2.succ {p : Nat → Nat → Prop} (h : Big2 fun N n => p N (n + 1)) : Big2 p := by
  obtain ⟨k, hk⟩ := h
  refine ⟨k + 1, fun N n h1 h2 => ?_⟩
  obtain ⟨m, rfl⟩ : ∃ m, n = m + 1 := ⟨n - 1, by omega⟩
  exact hk N m (by omega) (by omega)
theorem Big.list {α : Type} {p : α → Nat → Prop} {l : List α} (h : ∀ x ∈ l, Big (p x)) : Big fun N => ∀ x ∈ l, p x N := by
  induction l with
  | nil => exact .of fun N x hx => by cases hx
  | cons a l ih =>
    refine ((h a List.mem_cons_self).and (ih fun x hx => h x (List.mem_cons_of_mem _ hx))).imp fun N ⟨h1, h2⟩ x hx => ?_
    rcases List.mem_cons.1 hx with rfl | hx
    · exact h1
    · exact h2 x hx
theorem Big2.list {α : Type} {p : α → Nat → Nat → Prop} {l : List α} (h : ∀ x ∈ l, Big2 (p x)) : Big2 fun N n => ∀ x ∈ l, p x N n := by
  induction l with
  | nil => exact .of fun N n x hx => by cases hx
  | cons a l ih =>
    refine ((h a List.mem_cons_self).and (ih fun x hx => h x (List.mem_cons_of_mem _ hx))).imp fun N n ⟨h1, h2⟩ x hx => ?_
    rcases List.mem_cons.1 hx with rfl | hx
    · exact h1
    · exact h2 x hx
theorem Big.get {p : Nat → Prop} (h : Big p) : ∃ N, p N := h.elim fun k hk => ⟨k, hk k (Nat.le_refl k)⟩
def I64 (x : Int) : Prop := -9223372036854775808 ≤ x ∧ x ≤ 9223372036854775807
theorem wrap_i64_def (x : Int) : IntKind.i64.wrap x = if x % 18446744073709551616 ≥ 9223372036854775808 then x % 18446744073709551616 - 18446744073709551616 else x % 18446744073709551616 := by
  show (if (true && decide (x % 18446744073709551616 ≥ 9223372036854775808)) = true then x % 18446744073709551616 - 18446744073709551616 else x % 18446744073709551616) = _
  simp only [Bool.true_and, decide_eq_true_eq]
theorem xDF {x : Int} (h1 : -9223372036854775808 ≤ x) (h2 : x ≤ 9223372036854775807) : IntKind.i64.wrap x = x := by
  rw [wrap_i64_def]
  split <;> omega
theorem i64_wrap (x : Int) : I64 (IntKind.i64.wrap x) := by
  rw [wrap_i64_def]
  unfold I64
  split <;> omega
theorem drop_cons {α : Type} {xs : List α} {i : Nat} {x : α} {l : List α} (h : xs.drop i = x :: l) : i < xs.length ∧ xs[i]? = some x ∧ xs.drop (i + 1) = l := by
  have h1 : i < xs.length := by
    rcases Nat.lt_or_ge i xs.length with h1 | h1
    · exact h1
    · rw [List.drop_eq_nil_of_le h1] at h; cases h
  rw [List.drop_eq_getElem_cons h1] at h
  cases h
  exact ⟨h1, by simp [h1], rfl⟩
theorem drop_nil {α : Type} {xs : List α} {i : Nat} (h : xs.drop i = []) : xs.length ≤ i := by simpa using h
end Go.Ab
end
section
namespace Go.Ab
set_option linter.unusedVariables false
inductive DK (K : Nat) : D → Prop where
  | int {k n} (h : (Lit.int k n).wf = true) : DK K (.int k n)
  | bool (b) : DK K (.bool b)
  | str {s : Str} (h : s.length ≤ K) : DK K (.str s)
  | sl {sz rows} (h : rows.length ≤ K) (hr : ∀ r ∈ rows, ∀ x ∈ r, DK K x) : DK K (.sl sz rows)
theorem DK.mono {K M : Nat} (hKM : K ≤ M) {d : D} (h : DK K d) : DK M d := by
  induction h with
  | int h => exact .int h
  | bool b => exact .bool b
  | str h => exact .str (by omega)
  | sl h _ ih => exact .sl (by omega) ih
theorem wf_i64 {n : Int} : (Lit.int .i64 n).wf = true ↔ I64 n := by
  show (decide (_ ≤ n) && decide (n ≤ _)) = true ↔ _
  rw [Bool.and_eq_true, decide_eq_true_eq, decide_eq_true_eq]
  exact Iff.rfl
theorem DK.i64 {K : Nat} {n : Int} : DK K (.int .i64 n) ↔ I64 n := ⟨fun h => by cases h with | int h => exact wf_i64.1 h, fun h => .int (wf_i64.2 h)⟩
theorem DK.str_iff {K : Nat} {s : Str} : DK K (.str s) ↔ s.length ≤ K := ⟨fun h => by cases h; assumption, .str⟩
theorem DK.sl_iff {K sz : Nat} {α : Type} {f : α → List D} {xs : List α} : DK K (.sl sz (xs.map f)) ↔ xs.length ≤ K ∧ ∀ x ∈ xs, ∀ d ∈ f x, DK K d := by
  constructor
  · intro h
    cases h with
    | sl h hr => exact ⟨by simpa using h, fun x hx => hr _ (List.mem_map_of_mem hx)⟩
  · rintro ⟨h, hr⟩
    refine .sl (by simpa using h) fun r hr' => ?_
    obtain ⟨x, hx, rfl⟩ := List.mem_map.1 hr'
    exact hr x hx
def LFit {α : Type} (K : Nat) (p : α → Prop) (l : List α) : Prop := l.length ≤ K ∧ ∀ x ∈ l, p x
def Ty.Fit (K : Nat) (T : Ty) (x : T.den) : Prop := ∀ d ∈ T.toD x, DK K d
def Org.Fit (o : Org) : Prop := I64 o.cell ∧ I64 o.row
def Rowd.Fit (K : Nat) (r : Rowd) : Prop := LFit K I64 r.cells ∧ LFit K Org.Fit r.frm
def Str.Fit (K : Nat) (s : Str) : Prop := s.length ≤ K
def Val.Fit (K : Nat) (v : Val) : Prop := ∀ d ∈ Val.toD v, DK K d
def Fil.Fit (K : Nat) (v : Fil) : Prop := Str.Fit K v.name ∧ I64 v.n
theorem rowd_fit {K : Nat} {r : Rowd} : (∀ d ∈ Rowd.toD r, DK K d) ↔ r.Fit K := by
  simp only [Rowd.toD, List.mem_cons, List.not_mem_nil, or_false, forall_eq_or_imp, forall_eq, DK.sl_iff, DK.i64, Rowd.Fit, LFit, Org.Fit]
theorem fil_fit {K : Nat} {r : Fil} : Ty.Fit K .fil r ↔ r.Fit K := by
  simp only [Ty.Fit, Ty.toD, List.mem_cons, List.not_mem_nil, or_false, forall_eq_or_imp, forall_eq, DK.str_iff, DK.i64, Fil.Fit, Str.Fit]
theorem Val.fit_iff {K : Nat} {v : Val} : v.Fit K ↔ I64 v.kind ∧ I64 v.n ∧ I64 v.step ∧ Str.Fit K v.text ∧ LFit K (Val.Fit K) v.list ∧ LFit K (Str.Fit K) v.columns ∧ LFit K (Rowd.Fit K) v.rows := by
  cases v
  simp only [Val.Fit, Val.toD, Val.toDs_eq, List.mem_cons, List.not_mem_nil, or_false, forall_eq_or_imp, forall_eq, DK.sl_iff, DK.i64, DK.str_iff, Str.Fit, LFit, Val.kind, Val.n, Val.step, Val.text, Val.list, Val.columns, Val.rows, rowd_fit]
theorem sizeOf_mem_list {l : List Val} {x : Val} (h : x ∈ l) (k n s : Int) (t : Str) (c : List Str) (r : List Rowd) : SizeOf.sizeOf x < SizeOf.sizeOf (Val.mk k n s t l c r) := by
  have := List.sizeOf_lt_of_mem h
  simp only [Val.mk.sizeOf_spec]
  omega
theorem Val.ind {p : Val → Prop} (h : ∀ k n s t l c r, (∀ x ∈ l, p x) → p (.mk k n s t l c r)) : ∀ v, p v
  | .mk k n s t l c r => h k n s t l c r fun x hx => Val.ind h x
termination_by v => SizeOf.sizeOf v
decreasing_by exact sizeOf_mem_list hx k n s t c r
end Go.Ab
end
section
namespace Go.Ab
set_option linter.unusedVariables false
theorem xF1 {α σ ρ : Type} {L : Nat → Int → σ → Option ρ} (x0 : List α) (g : List α → σ → ρ) (Inv : Nat → σ → Prop)
    (hnil : ∀ n s, Inv x0.length s → L (n + 1) (x0.length : Nat) s = some (g [] s))
    (hcons : ∀ i x l s, x0.drop i = x :: l → i < x0.length → x0[i]? = some x → Inv i s →
      (∃ s', Inv (i + 1) s' ∧ g (x :: l) s = g l s' ∧ ∀ n, L (n + 1) (i : Nat) s = L n ((i + 1 : Nat) : Int) s') ∨ (∀ n, L (n + 1) (i : Nat) s = some (g (x :: l) s))) :
    ∀ n i s, Inv i s → i ≤ x0.length → x0.length < n + i → L n (i : Nat) s = some (g (x0.drop i) s) := by
  intro n
  induction n with
  | zero => intro i s _ h1 h2; omega
  | succ n ih =>
    intro i s hs hi hn
    cases hd : x0.drop i with
    | nil =>
      have := drop_nil hd
      obtain rfl : i = x0.length := by omega
      exact hnil n s hs
    | cons x l =>
      obtain ⟨h1, h2, h3⟩ := drop_cons hd
      rcases hcons i x l s hd h1 h2 hs with ⟨s', h4, h5, h6⟩ | h
      · rw [h6, ih (i + 1) s' h4 (by omega) (by omega), h3, h5]
      · exact h n
theorem xBB {α : Type} {xs : List α} {i : Nat} {x : α} (h : xs[i]? = some x) (d : α) : xs.getD i d = x := by simp [List.getD, h]
theorem xA7 {i : Nat} {len : Nat} (h : i < len) (hl : len ≤ 9223372036854775807) : IntKind.i64.wrap ((i : Int) + 1) = ((i + 1 : Nat) : Int) := by
  rw [xDF (by omega) (by omega)]; omega
section
variable {α : Type} {d : α}
theorem eqLoop {L : Nat → Int → Option Bool} {x0 : List α} (hend : ∀ n, L (n + 1) (x0.length : Nat) = some true)
    (hcons : ∀ (i : Nat) x n, i < x0.length → x0[i]? = some x → x ∈ x0 → L (n + 1) (i : Nat) = L n ((i + 1 : Nat) : Int)) {n : Nat} (hn : x0.length < n) : L n 0 = some true := by
  have key := xF1 (σ := Unit) (L := fun n i _ => L n i) x0 (fun _ _ => true) (fun _ _ => True) (fun n _ _ => hend n)
    (fun i x r s hd hi hx _ => .inl ⟨(), trivial, rfl, fun n => hcons i x n hi hx (List.mem_of_getElem? hx)⟩) n 0 () trivial (by omega) (by omega)
  exact key
end
end Go.Ab
end
section
namespace Go.Ab
set_option linter.unusedVariables false
theorem vk (a b c : Int) (t : Str) (l : List Val) (k : List Str) (r : List Rowd) : (Val.mk a b c t l k r).kind = a := rfl
theorem vn (a b c : Int) (t : Str) (l : List Val) (k : List Str) (r : List Rowd) : (Val.mk a b c t l k r).n = b := rfl
theorem vs (a b c : Int) (t : Str) (l : List Val) (k : List Str) (r : List Rowd) : (Val.mk a b c t l k r).step = c := rfl
theorem vt (a b c : Int) (t : Str) (l : List Val) (k : List Str) (r : List Rowd) : (Val.mk a b c t l k r).text = t := rfl
theorem vl (a b c : Int) (t : Str) (l : List Val) (k : List Str) (r : List Rowd) : (Val.mk a b c t l k r).list = l := rfl
theorem vc (a b c : Int) (t : Str) (l : List Val) (k : List Str) (r : List Rowd) : (Val.mk a b c t l k r).columns = k := rfl
theorem vr (a b c : Int) (t : Str) (l : List Val) (k : List Str) (r : List Rowd) : (Val.mk a b c t l k r).rows = r := rfl
theorem ek (a b : Int) (t : Str) (l : List Exp) : (Exp.mk a b t l).kind = a := rfl
theorem en (a b : Int) (t : Str) (l : List Exp) : (Exp.mk a b t l).n = b := rfl
theorem ea (a b : Int) (t : Str) (l : List Exp) : (Exp.mk a b t l).args = l := rfl
theorem xHp (n : Nat) : Big fun N => n < N := ⟨n + 1, fun N h => by omega⟩
end Go.Ab
end
