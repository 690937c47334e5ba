/- The statement FnKeepAdd holds: plain functions, certificates, laws. Conditions: none. -/
import Derived.Test.YthbobcapimmnhaaDoorL2
import Derived.Test.YthbobcapimmnhaaDoorFnKeepAddP0
set_option linter.all false
section
open Go.Proofs
namespace Go.Ab.T
set_option linter.unusedVariables false
set_option maxRecDepth 100000
variable [Inhabited Lb]
def G62 (q : Val → Option (Bool)) : Prop := ∀ a0 r, q a0 = some r → AbC 62 (xAs a0) (xAl r)
noncomputable def I62 : Info := { body := (Tryd.f62.body).getD .skip, nt := 185, results := [.tmp 2], keep := [0, 2, 4, 6, 10, 46, 48, 84, 120, 156, 192, 242, 248, 250, 252, 254, 294, 3, 11], live := [(15, [2, 248, 250, 252, 3])], modes := [(1, [(4, .take, false), (10, .take, false)]), (4, [(1, .take, false), (6, .take, false), (11, .take, false)]), (6, [(1, .take, false), (6, .take, false), (11, .take, false)]), (8, [(1, .take, false), (6, .take, false), (11, .take, false)]), (10, [(1, .take, false), (6, .take, false), (11, .take, false)]), (12, [(3, .take, false), (8, .take, false), (13, .take, false), (19, .take, false)]), (17, [(3, .take, false), (8, .take, false), (13, .take, false)]), (19, [(1, .take, false)]), (20, [(3, .take, false), (8, .take, false), (13, .take, false), (19, .take, false), (25, .take, false), (31, .take, false)])] }
theorem fk62 : FnOk Tryd.prog 62 Tryd.f62 I62 := ⟨Tryd.func62, by kernel_rfl, by kernel_rfl, by kernel_rfl, by kernel_rfl⟩
def xFh (x124 : List Val) (x125 x126 : Int) (b1 : Val) : St := [(2, .v false [.ptr 1 0]), (248, .v false [.sl .ro .val x124]), (250, .v false [.int .i64 x125]), (252, .v false [.int .i64 x126]), (3, .v true [.int .i64 (Val.kind b1), .int .i64 (Val.n b1), .int .i64 (Val.step b1), .str (Val.text b1), .sl .ro .val (Val.list b1), .sl .ro .str (Val.columns b1), .sl .ro .row (Val.rows b1)])]
theorem p62_15_0 (x124 : List Val) (x125 x126 : Int) (b1 : Val) : rS 15 I62 (xFh x124 x125 x126 b1) [Y, Y, Y, Y, Y] [] = dn (xAl false) [(decide ((x126 : Int) < x125)) = true, (0 : Int) ≤ x126 ∧ x126 < (Ln x124), (((Val.kind (gD x124 (tN x126) vd)) : Int) != 1) = true, (((Val.kind (gD x124 (tN x126) vd)) : Int) != 2) = true, (((Val.kind (gD x124 (tN x126) vd)) : Int) != 3) = true, true = true] := by kernel_rfl
theorem p62_15_1 (x124 : List Val) (x125 x126 : Int) (b1 : Val) (r1 : Bool) : rS 15 I62 (xFh x124 x125 x126 b1) [Y, Y, Y, F, Y] [xAl r1] = dn (xAl false) [(decide ((x126 : Int) < x125)) = true, (0 : Int) ≤ x126 ∧ x126 < (Ln x124), (((Val.kind (gD x124 (tN x126) vd)) : Int) != 1) = true, (((Val.kind (gD x124 (tN x126) vd)) : Int) != 2) = true, (((Val.kind (gD x124 (tN x126) vd)) : Int) != 3) = false, AbC 62 (xAs (gD x124 (tN x126) vd)) (xAl r1), (!r1) = true] := by kernel_rfl
theorem p62_15_2 (x124 : List Val) (x125 x126 : Int) (b1 : Val) (r1 : Bool) : rS 15 I62 (xFh x124 x125 x126 b1) [Y, Y, Y, F, F] [xAl r1] = st 15 I62 (xFh x124 x125 (W (x126 + 1)) b1) [(decide ((x126 : Int) < x125)) = true, (0 : Int) ≤ x126 ∧ x126 < (Ln x124), (((Val.kind (gD x124 (tN x126) vd)) : Int) != 1) = true, (((Val.kind (gD x124 (tN x126) vd)) : Int) != 2) = true, (((Val.kind (gD x124 (tN x126) vd)) : Int) != 3) = false, AbC 62 (xAs (gD x124 (tN x126) vd)) (xAl r1), (!r1) = false] := by kernel_rfl
theorem p62_15_3 (x124 : List Val) (x125 x126 : Int) (b1 : Val) (r1 : Bool) : rS 15 I62 (xFh x124 x125 x126 b1) [Y, Y, F, F, Y] [xAl r1] = dn (xAl false) [(decide ((x126 : Int) < x125)) = true, (0 : Int) ≤ x126 ∧ x126 < (Ln x124), (((Val.kind (gD x124 (tN x126) vd)) : Int) != 1) = true, (((Val.kind (gD x124 (tN x126) vd)) : Int) != 2) = false, false = false, AbC 62 (xAs (gD x124 (tN x126) vd)) (xAl r1), (!r1) = true] := by kernel_rfl
theorem p62_15_4 (x124 : List Val) (x125 x126 : Int) (b1 : Val) (r1 : Bool) : rS 15 I62 (xFh x124 x125 x126 b1) [Y, Y, F, F, F] [xAl r1] = st 15 I62 (xFh x124 x125 (W (x126 + 1)) b1) [(decide ((x126 : Int) < x125)) = true, (0 : Int) ≤ x126 ∧ x126 < (Ln x124), (((Val.kind (gD x124 (tN x126) vd)) : Int) != 1) = true, (((Val.kind (gD x124 (tN x126) vd)) : Int) != 2) = false, false = false, AbC 62 (xAs (gD x124 (tN x126) vd)) (xAl r1), (!r1) = false] := by kernel_rfl
theorem p62_15_5 (x124 : List Val) (x125 x126 : Int) (b1 : Val) (r1 : Bool) : rS 15 I62 (xFh x124 x125 x126 b1) [Y, F, F, F, Y] [xAl r1] = dn (xAl false) [(decide ((x126 : Int) < x125)) = true, (0 : Int) ≤ x126 ∧ x126 < (Ln x124), (((Val.kind (gD x124 (tN x126) vd)) : Int) != 1) = false, false = false, false = false, AbC 62 (xAs (gD x124 (tN x126) vd)) (xAl r1), (!r1) = true] := by kernel_rfl
theorem p62_15_6 (x124 : List Val) (x125 x126 : Int) (b1 : Val) (r1 : Bool) : rS 15 I62 (xFh x124 x125 x126 b1) [Y, F, F, F, F] [xAl r1] = st 15 I62 (xFh x124 x125 (W (x126 + 1)) b1) [(decide ((x126 : Int) < x125)) = true, (0 : Int) ≤ x126 ∧ x126 < (Ln x124), (((Val.kind (gD x124 (tN x126) vd)) : Int) != 1) = false, false = false, false = false, AbC 62 (xAs (gD x124 (tN x126) vd)) (xAl r1), (!r1) = false] := by kernel_rfl
theorem p62_15_7 (x124 : List Val) (x125 x126 : Int) (b1 : Val) (r1 : Int) : rS 15 I62 (xFh x124 x125 x126 b1) [F, Y, Y, Y, Y, Y, Y] [xCJ r1] = dn (xAl (decide ((r1 : Int) ≤ 3))) [(decide ((x126 : Int) < x125)) = false, (((Val.n b1) : Int) == 0) = true, (((Val.step b1) : Int) == 0) = true, (((Val.text b1) : Str) == []) = true, (((Ln (Val.columns b1) : Int) : Int) == 0) = true, (((Ln (Val.rows b1) : Int) : Int) == 0) = true, (decide (((Ln (Val.list b1) : Int) : Int) ≤ 8)) = true, AbC 76 (xDU b1) (xCJ r1)] := by kernel_rfl
theorem p62_15_8 (x124 : List Val) (x125 x126 : Int) (b1 : Val) : rS 15 I62 (xFh x124 x125 x126 b1) [F, Y, Y, Y, Y, Y, F] [] = dn (xAl false) [(decide ((x126 : Int) < x125)) = false, (((Val.n b1) : Int) == 0) = true, (((Val.step b1) : Int) == 0) = true, (((Val.text b1) : Str) == []) = true, (((Ln (Val.columns b1) : Int) : Int) == 0) = true, (((Ln (Val.rows b1) : Int) : Int) == 0) = true, (decide (((Ln (Val.list b1) : Int) : Int) ≤ 8)) = false] := by kernel_rfl
theorem p62_15_9 (x124 : List Val) (x125 x126 : Int) (b1 : Val) : rS 15 I62 (xFh x124 x125 x126 b1) [F, Y, Y, Y, Y, F, F] [] = dn (xAl false) [(decide ((x126 : Int) < x125)) = false, (((Val.n b1) : Int) == 0) = true, (((Val.step b1) : Int) == 0) = true, (((Val.text b1) : Str) == []) = true, (((Ln (Val.columns b1) : Int) : Int) == 0) = true, (((Ln (Val.rows b1) : Int) : Int) == 0) = false, false = false] := by kernel_rfl
theorem p62_15_10 (x124 : List Val) (x125 x126 : Int) (b1 : Val) : rS 15 I62 (xFh x124 x125 x126 b1) [F, Y, Y, Y, F, F, F] [] = dn (xAl false) [(decide ((x126 : Int) < x125)) = false, (((Val.n b1) : Int) == 0) = true, (((Val.step b1) : Int) == 0) = true, (((Val.text b1) : Str) == []) = true, (((Ln (Val.columns b1) : Int) : Int) == 0) = false, false = false, false = false] := by kernel_rfl
theorem p62_15_11 (x124 : List Val) (x125 x126 : Int) (b1 : Val) : rS 15 I62 (xFh x124 x125 x126 b1) [F, Y, Y, F, F, F, F] [] = dn (xAl false) [(decide ((x126 : Int) < x125)) = false, (((Val.n b1) : Int) == 0) = true, (((Val.step b1) : Int) == 0) = true, (((Val.text b1) : Str) == []) = false, false = false, false = false, false = false] := by kernel_rfl
theorem p62_15_12 (x124 : List Val) (x125 x126 : Int) (b1 : Val) : rS 15 I62 (xFh x124 x125 x126 b1) [F, Y, F, F, F, F, F] [] = dn (xAl false) [(decide ((x126 : Int) < x125)) = false, (((Val.n b1) : Int) == 0) = true, (((Val.step b1) : Int) == 0) = false, false = false, false = false, false = false, false = false] := by kernel_rfl
theorem p62_15_13 (x124 : List Val) (x125 x126 : Int) (b1 : Val) : rS 15 I62 (xFh x124 x125 x126 b1) [F, F, F, F, F, F, F] [] = dn (xAl false) [(decide ((x126 : Int) < x125)) = false, (((Val.n b1) : Int) == 0) = false, false = false, false = false, false = false, false = false, false = false] := by kernel_rfl
theorem p62_e_14 (a0 : Val) (r1 : Bool) : rE I62 (xAs a0) [Y, Y, Y, Y, Y, Y] [xBp r1] = dn (xAl r1) [(((Ln (Val.list a0) : Int) : Int) == 0) = true, (((Ln (Val.columns a0) : Int) : Int) == 0) = true, (((Val.kind a0) : Int) == 1) = true, (((Ln (Val.rows a0) : Int) : Int) == 0) = true, (((Val.step a0) : Int) == 0) = true, (((Val.text a0) : Str) == []) = true, AbC 23 (xCg (Val.n a0)) (xBp r1)] := by kernel_rfl
theorem p62_e_15 (a0 : Val) : rE I62 (xAs a0) [Y, Y, Y, Y, Y, F] [] = dn (xAl false) [(((Ln (Val.list a0) : Int) : Int) == 0) = true, (((Ln (Val.columns a0) : Int) : Int) == 0) = true, (((Val.kind a0) : Int) == 1) = true, (((Ln (Val.rows a0) : Int) : Int) == 0) = true, (((Val.step a0) : Int) == 0) = true, (((Val.text a0) : Str) == []) = false] := by kernel_rfl
theorem p62_e_16 (a0 : Val) : rE I62 (xAs a0) [Y, Y, Y, Y, F, F] [] = dn (xAl false) [(((Ln (Val.list a0) : Int) : Int) == 0) = true, (((Ln (Val.columns a0) : Int) : Int) == 0) = true, (((Val.kind a0) : Int) == 1) = true, (((Ln (Val.rows a0) : Int) : Int) == 0) = true, (((Val.step a0) : Int) == 0) = false, false = false] := by kernel_rfl
theorem p62_e_17 (a0 : Val) : rE I62 (xAs a0) [Y, Y, Y, F, F, F] [] = dn (xAl false) [(((Ln (Val.list a0) : Int) : Int) == 0) = true, (((Ln (Val.columns a0) : Int) : Int) == 0) = true, (((Val.kind a0) : Int) == 1) = true, (((Ln (Val.rows a0) : Int) : Int) == 0) = false, false = false, false = false] := by kernel_rfl
theorem p62_e_18 (a0 : Val) (r1 : Bool) : rE I62 (xAs a0) [Y, Y, F, Y, Y, Y, Y] [xCa r1] = dn (xAl r1) [(((Ln (Val.list a0) : Int) : Int) == 0) = true, (((Ln (Val.columns a0) : Int) : Int) == 0) = true, (((Val.kind a0) : Int) == 1) = false, (((Val.kind a0) : Int) == 2) = true, (((Ln (Val.rows a0) : Int) : Int) == 0) = true, (((Val.n a0) : Int) == 0) = true, (((Val.step a0) : Int) == 0) = true, AbC 74 (xEA (Val.text a0)) (xCa r1)] := by kernel_rfl
theorem p62_e_19 (a0 : Val) : rE I62 (xAs a0) [Y, Y, F, Y, Y, Y, F] [] = dn (xAl false) [(((Ln (Val.list a0) : Int) : Int) == 0) = true, (((Ln (Val.columns a0) : Int) : Int) == 0) = true, (((Val.kind a0) : Int) == 1) = false, (((Val.kind a0) : Int) == 2) = true, (((Ln (Val.rows a0) : Int) : Int) == 0) = true, (((Val.n a0) : Int) == 0) = true, (((Val.step a0) : Int) == 0) = false] := by kernel_rfl
theorem p62_e_20 (a0 : Val) : rE I62 (xAs a0) [Y, Y, F, Y, Y, F, F] [] = dn (xAl false) [(((Ln (Val.list a0) : Int) : Int) == 0) = true, (((Ln (Val.columns a0) : Int) : Int) == 0) = true, (((Val.kind a0) : Int) == 1) = false, (((Val.kind a0) : Int) == 2) = true, (((Ln (Val.rows a0) : Int) : Int) == 0) = true, (((Val.n a0) : Int) == 0) = false, false = false] := by kernel_rfl
theorem p62_e_21 (a0 : Val) : rE I62 (xAs a0) [Y, Y, F, Y, F, F, F] [] = dn (xAl false) [(((Ln (Val.list a0) : Int) : Int) == 0) = true, (((Ln (Val.columns a0) : Int) : Int) == 0) = true, (((Val.kind a0) : Int) == 1) = false, (((Val.kind a0) : Int) == 2) = true, (((Ln (Val.rows a0) : Int) : Int) == 0) = false, false = false, false = false] := by kernel_rfl
theorem p62_e_22 (a0 : Val) (r1 r2 : Bool) : rE I62 (xAs a0) [Y, Y, F, F, Y, Y, Y, Y] [xBp r1, xBp r2] = dn (xAl r2) [(((Ln (Val.list a0) : Int) : Int) == 0) = true, (((Ln (Val.columns a0) : Int) : Int) == 0) = true, (((Val.kind a0) : Int) == 1) = false, (((Val.kind a0) : Int) == 2) = false, (((Val.kind a0) : Int) == 4) = true, (((Ln (Val.rows a0) : Int) : Int) == 0) = true, (((Val.text a0) : Str) == []) = true, AbC 23 (xCg (Val.n a0)) (xBp r1), r1 = true, AbC 23 (xCg (Val.step a0)) (xBp r2)] := by kernel_rfl
theorem p62_e_23 (a0 : Val) (r1 : Bool) : rE I62 (xAs a0) [Y, Y, F, F, Y, Y, Y, F] [xBp r1] = dn (xAl false) [(((Ln (Val.list a0) : Int) : Int) == 0) = true, (((Ln (Val.columns a0) : Int) : Int) == 0) = true, (((Val.kind a0) : Int) == 1) = false, (((Val.kind a0) : Int) == 2) = false, (((Val.kind a0) : Int) == 4) = true, (((Ln (Val.rows a0) : Int) : Int) == 0) = true, (((Val.text a0) : Str) == []) = true, AbC 23 (xCg (Val.n a0)) (xBp r1), r1 = false] := by kernel_rfl
theorem p62_e_24 (a0 : Val) : rE I62 (xAs a0) [Y, Y, F, F, Y, Y, F, F] [] = dn (xAl false) [(((Ln (Val.list a0) : Int) : Int) == 0) = true, (((Ln (Val.columns a0) : Int) : Int) == 0) = true, (((Val.kind a0) : Int) == 1) = false, (((Val.kind a0) : Int) == 2) = false, (((Val.kind a0) : Int) == 4) = true, (((Ln (Val.rows a0) : Int) : Int) == 0) = true, (((Val.text a0) : Str) == []) = false, false = false] := by kernel_rfl
theorem p62_e_25 (a0 : Val) : rE I62 (xAs a0) [Y, Y, F, F, Y, F, F, F] [] = dn (xAl false) [(((Ln (Val.list a0) : Int) : Int) == 0) = true, (((Ln (Val.columns a0) : Int) : Int) == 0) = true, (((Val.kind a0) : Int) == 1) = false, (((Val.kind a0) : Int) == 2) = false, (((Val.kind a0) : Int) == 4) = true, (((Ln (Val.rows a0) : Int) : Int) == 0) = false, false = false, false = false] := by kernel_rfl
theorem p62_e_26 (a0 : Val) (r1 : Bool) : rE I62 (xAs a0) [Y, Y, F, F, F, Y, Y, Y, Y] [xB4 r1] = dn (xAl r1) [(((Ln (Val.list a0) : Int) : Int) == 0) = true, (((Ln (Val.columns a0) : Int) : Int) == 0) = true, (((Val.kind a0) : Int) == 1) = false, (((Val.kind a0) : Int) == 2) = false, (((Val.kind a0) : Int) == 4) = false, (((Val.kind a0) : Int) == 6) = true, (((Ln (Val.rows a0) : Int) : Int) == 0) = true, (((Val.step a0) : Int) == 0) = true, (((Val.text a0) : Str) == []) = true, AbC 45 (xDl (Val.n a0) 1 8) (xB4 r1)] := by kernel_rfl
theorem p62_e_27 (a0 : Val) : rE I62 (xAs a0) [Y, Y, F, F, F, Y, Y, Y, F] [] = dn (xAl false) [(((Ln (Val.list a0) : Int) : Int) == 0) = true, (((Ln (Val.columns a0) : Int) : Int) == 0) = true, (((Val.kind a0) : Int) == 1) = false, (((Val.kind a0) : Int) == 2) = false, (((Val.kind a0) : Int) == 4) = false, (((Val.kind a0) : Int) == 6) = true, (((Ln (Val.rows a0) : Int) : Int) == 0) = true, (((Val.step a0) : Int) == 0) = true, (((Val.text a0) : Str) == []) = false] := by kernel_rfl
theorem p62_e_28 (a0 : Val) : rE I62 (xAs a0) [Y, Y, F, F, F, Y, Y, F, F] [] = dn (xAl false) [(((Ln (Val.list a0) : Int) : Int) == 0) = true, (((Ln (Val.columns a0) : Int) : Int) == 0) = true, (((Val.kind a0) : Int) == 1) = false, (((Val.kind a0) : Int) == 2) = false, (((Val.kind a0) : Int) == 4) = false, (((Val.kind a0) : Int) == 6) = true, (((Ln (Val.rows a0) : Int) : Int) == 0) = true, (((Val.step a0) : Int) == 0) = false, false = false] := by kernel_rfl
theorem p62_e_29 (a0 : Val) : rE I62 (xAs a0) [Y, Y, F, F, F, Y, F, F, F] [] = dn (xAl false) [(((Ln (Val.list a0) : Int) : Int) == 0) = true, (((Ln (Val.columns a0) : Int) : Int) == 0) = true, (((Val.kind a0) : Int) == 1) = false, (((Val.kind a0) : Int) == 2) = false, (((Val.kind a0) : Int) == 4) = false, (((Val.kind a0) : Int) == 6) = true, (((Ln (Val.rows a0) : Int) : Int) == 0) = false, false = false, false = false] := by kernel_rfl
theorem p62_e_30 (a0 : Val) (r1 : Bool) : rE I62 (xAs a0) [Y, Y, F, F, F, F, Y, Y, Y, Y, Y] [xBv r1] = dn (xAl r1) [(((Ln (Val.list a0) : Int) : Int) == 0) = true, (((Ln (Val.columns a0) : Int) : Int) == 0) = true, (((Val.kind a0) : Int) == 1) = false, (((Val.kind a0) : Int) == 2) = false, (((Val.kind a0) : Int) == 4) = false, (((Val.kind a0) : Int) == 6) = false, (((Val.kind a0) : Int) == 5) = true, (((Val.n a0) : Int) == 0) = true, (((Val.step a0) : Int) == 0) = true, (((Val.text a0) : Str) == []) = true, (((Ln (Val.list a0) : Int) : Int) == 0) = true, AbC 75 (xDY a0) (xBv r1)] := by kernel_rfl
theorem p62_e_31 (a0 : Val) : rE I62 (xAs a0) [Y, Y, F, F, F, F, Y, Y, Y, F, F] [] = dn (xAl false) [(((Ln (Val.list a0) : Int) : Int) == 0) = true, (((Ln (Val.columns a0) : Int) : Int) == 0) = true, (((Val.kind a0) : Int) == 1) = false, (((Val.kind a0) : Int) == 2) = false, (((Val.kind a0) : Int) == 4) = false, (((Val.kind a0) : Int) == 6) = false, (((Val.kind a0) : Int) == 5) = true, (((Val.n a0) : Int) == 0) = true, (((Val.step a0) : Int) == 0) = true, (((Val.text a0) : Str) == []) = false, false = false] := by kernel_rfl
theorem p62_e_32 (a0 : Val) : rE I62 (xAs a0) [Y, Y, F, F, F, F, Y, Y, F, F, F] [] = dn (xAl false) [(((Ln (Val.list a0) : Int) : Int) == 0) = true, (((Ln (Val.columns a0) : Int) : Int) == 0) = true, (((Val.kind a0) : Int) == 1) = false, (((Val.kind a0) : Int) == 2) = false, (((Val.kind a0) : Int) == 4) = false, (((Val.kind a0) : Int) == 6) = false, (((Val.kind a0) : Int) == 5) = true, (((Val.n a0) : Int) == 0) = true, (((Val.step a0) : Int) == 0) = false, false = false, false = false] := by kernel_rfl
theorem p62_e_33 (a0 : Val) : rE I62 (xAs a0) [Y, Y, F, F, F, F, Y, F, F, F, F] [] = dn (xAl false) [(((Ln (Val.list a0) : Int) : Int) == 0) = true, (((Ln (Val.columns a0) : Int) : Int) == 0) = true, (((Val.kind a0) : Int) == 1) = false, (((Val.kind a0) : Int) == 2) = false, (((Val.kind a0) : Int) == 4) = false, (((Val.kind a0) : Int) == 6) = false, (((Val.kind a0) : Int) == 5) = true, (((Val.n a0) : Int) == 0) = false, false = false, false = false, false = false] := by kernel_rfl
theorem p62_e_34 (a0 : Val) : rE I62 (xAs a0) [Y, Y, F, F, F, F, F, Y] [] = st 15 I62 (xFh (Val.list a0) (Ln (Val.list a0) : Int) 0 a0) [(((Ln (Val.list a0) : Int) : Int) == 0) = true, (((Ln (Val.columns a0) : Int) : Int) == 0) = true, (((Val.kind a0) : Int) == 1) = false, (((Val.kind a0) : Int) == 2) = false, (((Val.kind a0) : Int) == 4) = false, (((Val.kind a0) : Int) == 6) = false, (((Val.kind a0) : Int) == 5) = false, (((Val.kind a0) : Int) == 3) = true] := by kernel_rfl
theorem p62_e_35 (a0 : Val) : rE I62 (xAs a0) [Y, Y, F, F, F, F, F, F] [] = dn (xAl false) [(((Ln (Val.list a0) : Int) : Int) == 0) = true, (((Ln (Val.columns a0) : Int) : Int) == 0) = true, (((Val.kind a0) : Int) == 1) = false, (((Val.kind a0) : Int) == 2) = false, (((Val.kind a0) : Int) == 4) = false, (((Val.kind a0) : Int) == 6) = false, (((Val.kind a0) : Int) == 5) = false, (((Val.kind a0) : Int) == 3) = false] := by kernel_rfl
theorem p62_e_36 (a0 : Val) : rE I62 (xAs a0) [Y, F, Y, F, F, F] [] = dn (xAl false) [(((Ln (Val.list a0) : Int) : Int) == 0) = true, (((Ln (Val.columns a0) : Int) : Int) == 0) = false, (((Val.kind a0) : Int) == 1) = true, false = false, false = false, false = false] := by kernel_rfl
theorem p62_e_37 (a0 : Val) : rE I62 (xAs a0) [Y, F, F, Y, F, F, F] [] = dn (xAl false) [(((Ln (Val.list a0) : Int) : Int) == 0) = true, (((Ln (Val.columns a0) : Int) : Int) == 0) = false, (((Val.kind a0) : Int) == 1) = false, (((Val.kind a0) : Int) == 2) = true, false = false, false = false, false = false] := by kernel_rfl
theorem p62_e_38 (a0 : Val) : rE I62 (xAs a0) [Y, F, F, F, Y, F, F, F] [] = dn (xAl false) [(((Ln (Val.list a0) : Int) : Int) == 0) = true, (((Ln (Val.columns a0) : Int) : Int) == 0) = false, (((Val.kind a0) : Int) == 1) = false, (((Val.kind a0) : Int) == 2) = false, (((Val.kind a0) : Int) == 4) = true, false = false, false = false, false = false] := by kernel_rfl
theorem p62_e_39 (a0 : Val) : rE I62 (xAs a0) [Y, F, F, F, F, Y, F, F, F] [] = dn (xAl false) [(((Ln (Val.list a0) : Int) : Int) == 0) = true, (((Ln (Val.columns a0) : Int) : Int) == 0) = false, (((Val.kind a0) : Int) == 1) = false, (((Val.kind a0) : Int) == 2) = false, (((Val.kind a0) : Int) == 4) = false, (((Val.kind a0) : Int) == 6) = true, false = false, false = false, false = false] := by kernel_rfl
theorem p62_e_40 (a0 : Val) (r1 : Bool) : rE I62 (xAs a0) [Y, F, F, F, F, F, Y, Y, Y, Y, Y] [xBv r1] = dn (xAl r1) [(((Ln (Val.list a0) : Int) : Int) == 0) = true, (((Ln (Val.columns a0) : Int) : Int) == 0) = false, (((Val.kind a0) : Int) == 1) = false, (((Val.kind a0) : Int) == 2) = false, (((Val.kind a0) : Int) == 4) = false, (((Val.kind a0) : Int) == 6) = false, (((Val.kind a0) : Int) == 5) = true, (((Val.n a0) : Int) == 0) = true, (((Val.step a0) : Int) == 0) = true, (((Val.text a0) : Str) == []) = true, (((Ln (Val.list a0) : Int) : Int) == 0) = true, AbC 75 (xDY a0) (xBv r1)] := by kernel_rfl
theorem p62_e_41 (a0 : Val) : rE I62 (xAs a0) [Y, F, F, F, F, F, Y, Y, Y, F, F] [] = dn (xAl false) [(((Ln (Val.list a0) : Int) : Int) == 0) = true, (((Ln (Val.columns a0) : Int) : Int) == 0) = false, (((Val.kind a0) : Int) == 1) = false, (((Val.kind a0) : Int) == 2) = false, (((Val.kind a0) : Int) == 4) = false, (((Val.kind a0) : Int) == 6) = false, (((Val.kind a0) : Int) == 5) = true, (((Val.n a0) : Int) == 0) = true, (((Val.step a0) : Int) == 0) = true, (((Val.text a0) : Str) == []) = false, false = false] := by kernel_rfl
theorem p62_e_42 (a0 : Val) : rE I62 (xAs a0) [Y, F, F, F, F, F, Y, Y, F, F, F] [] = dn (xAl false) [(((Ln (Val.list a0) : Int) : Int) == 0) = true, (((Ln (Val.columns a0) : Int) : Int) == 0) = false, (((Val.kind a0) : Int) == 1) = false, (((Val.kind a0) : Int) == 2) = false, (((Val.kind a0) : Int) == 4) = false, (((Val.kind a0) : Int) == 6) = false, (((Val.kind a0) : Int) == 5) = true, (((Val.n a0) : Int) == 0) = true, (((Val.step a0) : Int) == 0) = false, false = false, false = false] := by kernel_rfl
theorem p62_e_43 (a0 : Val) : rE I62 (xAs a0) [Y, F, F, F, F, F, Y, F, F, F, F] [] = dn (xAl false) [(((Ln (Val.list a0) : Int) : Int) == 0) = true, (((Ln (Val.columns a0) : Int) : Int) == 0) = false, (((Val.kind a0) : Int) == 1) = false, (((Val.kind a0) : Int) == 2) = false, (((Val.kind a0) : Int) == 4) = false, (((Val.kind a0) : Int) == 6) = false, (((Val.kind a0) : Int) == 5) = true, (((Val.n a0) : Int) == 0) = false, false = false, false = false, false = false] := by kernel_rfl
theorem p62_e_44 (a0 : Val) : rE I62 (xAs a0) [Y, F, F, F, F, F, F, Y] [] = st 15 I62 (xFh (Val.list a0) (Ln (Val.list a0) : Int) 0 a0) [(((Ln (Val.list a0) : Int) : Int) == 0) = true, (((Ln (Val.columns a0) : Int) : Int) == 0) = false, (((Val.kind a0) : Int) == 1) = false, (((Val.kind a0) : Int) == 2) = false, (((Val.kind a0) : Int) == 4) = false, (((Val.kind a0) : Int) == 6) = false, (((Val.kind a0) : Int) == 5) = false, (((Val.kind a0) : Int) == 3) = true] := by kernel_rfl
theorem p62_e_45 (a0 : Val) : rE I62 (xAs a0) [Y, F, F, F, F, F, F, F] [] = dn (xAl false) [(((Ln (Val.list a0) : Int) : Int) == 0) = true, (((Ln (Val.columns a0) : Int) : Int) == 0) = false, (((Val.kind a0) : Int) == 1) = false, (((Val.kind a0) : Int) == 2) = false, (((Val.kind a0) : Int) == 4) = false, (((Val.kind a0) : Int) == 6) = false, (((Val.kind a0) : Int) == 5) = false, (((Val.kind a0) : Int) == 3) = false] := by kernel_rfl
theorem p62_e_46 (a0 : Val) : rE I62 (xAs a0) [F, F, Y, F, F, F] [] = dn (xAl false) [(((Ln (Val.list a0) : Int) : Int) == 0) = false, false = false, (((Val.kind a0) : Int) == 1) = true, false = false, false = false, false = false] := by kernel_rfl
theorem p62_e_47 (a0 : Val) : rE I62 (xAs a0) [F, F, F, Y, F, F, F] [] = dn (xAl false) [(((Ln (Val.list a0) : Int) : Int) == 0) = false, false = false, (((Val.kind a0) : Int) == 1) = false, (((Val.kind a0) : Int) == 2) = true, false = false, false = false, false = false] := by kernel_rfl
theorem p62_e_48 (a0 : Val) : rE I62 (xAs a0) [F, F, F, F, Y, F, F, F] [] = dn (xAl false) [(((Ln (Val.list a0) : Int) : Int) == 0) = false, false = false, (((Val.kind a0) : Int) == 1) = false, (((Val.kind a0) : Int) == 2) = false, (((Val.kind a0) : Int) == 4) = true, false = false, false = false, false = false] := by kernel_rfl
theorem p62_e_49 (a0 : Val) : rE I62 (xAs a0) [F, F, F, F, F, Y, F, F, F] [] = dn (xAl false) [(((Ln (Val.list a0) : Int) : Int) == 0) = false, false = false, (((Val.kind a0) : Int) == 1) = false, (((Val.kind a0) : Int) == 2) = false, (((Val.kind a0) : Int) == 4) = false, (((Val.kind a0) : Int) == 6) = true, false = false, false = false, false = false] := by kernel_rfl
theorem p62_e_50 (a0 : Val) : rE I62 (xAs a0) [F, F, F, F, F, F, Y, Y, Y, Y, F] [] = dn (xAl false) [(((Ln (Val.list a0) : Int) : Int) == 0) = false, false = false, (((Val.kind a0) : Int) == 1) = false, (((Val.kind a0) : Int) == 2) = false, (((Val.kind a0) : Int) == 4) = false, (((Val.kind a0) : Int) == 6) = false, (((Val.kind a0) : Int) == 5) = true, (((Val.n a0) : Int) == 0) = true, (((Val.step a0) : Int) == 0) = true, (((Val.text a0) : Str) == []) = true, (((Ln (Val.list a0) : Int) : Int) == 0) = false] := by kernel_rfl
theorem p62_e_51 (a0 : Val) : rE I62 (xAs a0) [F, F, F, F, F, F, Y, Y, Y, F, F] [] = dn (xAl false) [(((Ln (Val.list a0) : Int) : Int) == 0) = false, false = false, (((Val.kind a0) : Int) == 1) = false, (((Val.kind a0) : Int) == 2) = false, (((Val.kind a0) : Int) == 4) = false, (((Val.kind a0) : Int) == 6) = false, (((Val.kind a0) : Int) == 5) = true, (((Val.n a0) : Int) == 0) = true, (((Val.step a0) : Int) == 0) = true, (((Val.text a0) : Str) == []) = false, false = false] := by kernel_rfl
theorem p62_e_52 (a0 : Val) : rE I62 (xAs a0) [F, F, F, F, F, F, Y, Y, F, F, F] [] = dn (xAl false) [(((Ln (Val.list a0) : Int) : Int) == 0) = false, false = false, (((Val.kind a0) : Int) == 1) = false, (((Val.kind a0) : Int) == 2) = false, (((Val.kind a0) : Int) == 4) = false, (((Val.kind a0) : Int) == 6) = false, (((Val.kind a0) : Int) == 5) = true, (((Val.n a0) : Int) == 0) = true, (((Val.step a0) : Int) == 0) = false, false = false, false = false] := by kernel_rfl
theorem p62_e_53 (a0 : Val) : rE I62 (xAs a0) [F, F, F, F, F, F, Y, F, F, F, F] [] = dn (xAl false) [(((Ln (Val.list a0) : Int) : Int) == 0) = false, false = false, (((Val.kind a0) : Int) == 1) = false, (((Val.kind a0) : Int) == 2) = false, (((Val.kind a0) : Int) == 4) = false, (((Val.kind a0) : Int) == 6) = false, (((Val.kind a0) : Int) == 5) = true, (((Val.n a0) : Int) == 0) = false, false = false, false = false, false = false] := by kernel_rfl
theorem p62_e_54 (a0 : Val) : rE I62 (xAs a0) [F, F, F, F, F, F, F, Y] [] = st 15 I62 (xFh (Val.list a0) (Ln (Val.list a0) : Int) 0 a0) [(((Ln (Val.list a0) : Int) : Int) == 0) = false, false = false, (((Val.kind a0) : Int) == 1) = false, (((Val.kind a0) : Int) == 2) = false, (((Val.kind a0) : Int) == 4) = false, (((Val.kind a0) : Int) == 6) = false, (((Val.kind a0) : Int) == 5) = false, (((Val.kind a0) : Int) == 3) = true] := by kernel_rfl
theorem p62_e_55 (a0 : Val) : rE I62 (xAs a0) [F, F, F, F, F, F, F, F] [] = dn (xAl false) [(((Ln (Val.list a0) : Int) : Int) == 0) = false, false = false, (((Val.kind a0) : Int) == 1) = false, (((Val.kind a0) : Int) == 2) = false, (((Val.kind a0) : Int) == 4) = false, (((Val.kind a0) : Int) == 6) = false, (((Val.kind a0) : Int) == 5) = false, (((Val.kind a0) : Int) == 3) = false] := by kernel_rfl
theorem c62_15 {N : Nat} {q0 : Val → Option (Bool)} (g0 : G62 q0) : ∀ n x124 x125 x126 b1 r, xBx N q0 n x124 x125 x126 b1 = some r → RS Tryd.f62 I62 15 (xFh x124 x125 x126 b1) (xAl r) := by
 intro n
 induction n with
 | zero => exact fun _ _ _ _ _ h => nE h
 | succ n ih =>
  exact fun x124 x125 x126 b1 r h =>
   cE h (fun h0 h => iE h fun h1 h => cE h (fun h2 h => cE h (fun h3 h => cE h (fun h4 h => dS h fk62 (p62_15_0 x124 x125 x126 b1) (oc h0 (oc h1 (oc h2 (oc h3 (oc h4 (oc rfl on))))))) fun h4 h =>
   bE h fun r1 h5 h => cE h (fun h6 h => dS h fk62 (p62_15_1 x124 x125 x126 b1 r1) (oc h0 (oc h1 (oc h2 (oc h3 (oc h4 (oc (g0 _ _ h5) (oc h6 on)))))))) fun h6 h =>
   tS fk62 (p62_15_2 x124 x125 x126 b1 r1) (oc h0 (oc h1 (oc h2 (oc h3 (oc h4 (oc (g0 _ _ h5) (oc h6 on))))))) (ih _ _ _ _ _ h)) fun h3 h =>
   bE h fun r1 h5 h => cE h (fun h6 h => dS h fk62 (p62_15_3 x124 x125 x126 b1 r1) (oc h0 (oc h1 (oc h2 (oc h3 (oc rfl (oc (g0 _ _ h5) (oc h6 on)))))))) fun h6 h =>
   tS fk62 (p62_15_4 x124 x125 x126 b1 r1) (oc h0 (oc h1 (oc h2 (oc h3 (oc rfl (oc (g0 _ _ h5) (oc h6 on))))))) (ih _ _ _ _ _ h)) fun h2 h =>
   bE h fun r1 h5 h => cE h (fun h6 h => dS h fk62 (p62_15_5 x124 x125 x126 b1 r1) (oc h0 (oc h1 (oc h2 (oc rfl (oc rfl (oc (g0 _ _ h5) (oc h6 on)))))))) fun h6 h =>
   tS fk62 (p62_15_6 x124 x125 x126 b1 r1) (oc h0 (oc h1 (oc h2 (oc rfl (oc rfl (oc (g0 _ _ h5) (oc h6 on))))))) (ih _ _ _ _ _ h)) fun h0 h =>
   cE h (fun h1 h => cE h (fun h2 h => cE h (fun h3 h => cE h (fun h4 h => cE h (fun h5 h => cE h (fun h6 h => bE h fun r1 h7 h => dS h fk62 (p62_15_7 x124 x125 x126 b1 r1) (oc h0 (oc h1 (oc h2 (oc h3 (oc h4 (oc h5 (oc h6 (oc (impl_DepthOf_ok h7) on))))))))) fun h6 h =>
   dS h fk62 (p62_15_8 x124 x125 x126 b1) (oc h0 (oc h1 (oc h2 (oc h3 (oc h4 (oc h5 (oc h6 on)))))))) fun h5 h =>
   dS h fk62 (p62_15_9 x124 x125 x126 b1) (oc h0 (oc h1 (oc h2 (oc h3 (oc h4 (oc h5 (oc rfl on)))))))) fun h4 h =>
   dS h fk62 (p62_15_10 x124 x125 x126 b1) (oc h0 (oc h1 (oc h2 (oc h3 (oc h4 (oc rfl (oc rfl on)))))))) fun h3 h =>
   dS h fk62 (p62_15_11 x124 x125 x126 b1) (oc h0 (oc h1 (oc h2 (oc h3 (oc rfl (oc rfl (oc rfl on)))))))) fun h2 h =>
   dS h fk62 (p62_15_12 x124 x125 x126 b1) (oc h0 (oc h1 (oc h2 (oc rfl (oc rfl (oc rfl (oc rfl on)))))))) fun h1 h =>
   dS h fk62 (p62_15_13 x124 x125 x126 b1) (oc h0 (oc h1 (oc rfl (oc rfl (oc rfl (oc rfl (oc rfl on)))))))
theorem c62_e {N : Nat} {q0 : Val → Option (Bool)} (g0 : G62 q0) : ∀ a0 r, xDa N q0 a0 = some r → RE Tryd.f62 I62 (xAs a0) (xAl r) := fun a0 r h =>
 cE h (fun h0 h => cE h (fun h1 h => cE h (fun h2 h => cE h (fun h3 h => cE h (fun h4 h => cE h (fun h5 h => bE h fun r1 h6 h => dE h fk62 (p62_e_14 a0 r1) (oc h0 (oc h1 (oc h2 (oc h3 (oc h4 (oc h5 (oc (xC6 h6) on)))))))) fun h5 h =>
 dE h fk62 (p62_e_15 a0) (oc h0 (oc h1 (oc h2 (oc h3 (oc h4 (oc h5 on))))))) fun h4 h =>
 dE h fk62 (p62_e_16 a0) (oc h0 (oc h1 (oc h2 (oc h3 (oc h4 (oc rfl on))))))) fun h3 h =>
 dE h fk62 (p62_e_17 a0) (oc h0 (oc h1 (oc h2 (oc h3 (oc rfl (oc rfl on))))))) fun h2 h =>
 cE h (fun h3 h => cE h (fun h4 h => cE h (fun h5 h => cE h (fun h6 h => bE h fun r1 h7 h => dE h fk62 (p62_e_18 a0 r1) (oc h0 (oc h1 (oc h2 (oc h3 (oc h4 (oc h5 (oc h6 (oc (xHN h7) on))))))))) fun h6 h =>
 dE h fk62 (p62_e_19 a0) (oc h0 (oc h1 (oc h2 (oc h3 (oc h4 (oc h5 (oc h6 on)))))))) fun h5 h =>
 dE h fk62 (p62_e_20 a0) (oc h0 (oc h1 (oc h2 (oc h3 (oc h4 (oc h5 (oc rfl on)))))))) fun h4 h =>
 dE h fk62 (p62_e_21 a0) (oc h0 (oc h1 (oc h2 (oc h3 (oc h4 (oc rfl (oc rfl on)))))))) fun h3 h =>
 cE h (fun h4 h => cE h (fun h5 h => cE h (fun h6 h => bE h fun r1 h7 h => cE h (fun h8 h => bE h fun r2 h9 h => dE h fk62 (p62_e_22 a0 r1 r2) (oc h0 (oc h1 (oc h2 (oc h3 (oc h4 (oc h5 (oc h6 (oc (xC6 h7) (oc h8 (oc (xC6 h9) on))))))))))) fun h8 h =>
 dE h fk62 (p62_e_23 a0 r1) (oc h0 (oc h1 (oc h2 (oc h3 (oc h4 (oc h5 (oc h6 (oc (xC6 h7) (oc h8 on)))))))))) fun h6 h =>
 dE h fk62 (p62_e_24 a0) (oc h0 (oc h1 (oc h2 (oc h3 (oc h4 (oc h5 (oc h6 (oc rfl on))))))))) fun h5 h =>
 dE h fk62 (p62_e_25 a0) (oc h0 (oc h1 (oc h2 (oc h3 (oc h4 (oc h5 (oc rfl (oc rfl on))))))))) fun h4 h =>
 cE h (fun h5 h => cE h (fun h6 h => cE h (fun h7 h => cE h (fun h8 h => bE h fun r1 h9 h => dE h fk62 (p62_e_26 a0 r1) (oc h0 (oc h1 (oc h2 (oc h3 (oc h4 (oc h5 (oc h6 (oc h7 (oc h8 (oc (xFj h9) on))))))))))) fun h8 h =>
 dE h fk62 (p62_e_27 a0) (oc h0 (oc h1 (oc h2 (oc h3 (oc h4 (oc h5 (oc h6 (oc h7 (oc h8 on)))))))))) fun h7 h =>
 dE h fk62 (p62_e_28 a0) (oc h0 (oc h1 (oc h2 (oc h3 (oc h4 (oc h5 (oc h6 (oc h7 (oc rfl on)))))))))) fun h6 h =>
 dE h fk62 (p62_e_29 a0) (oc h0 (oc h1 (oc h2 (oc h3 (oc h4 (oc h5 (oc h6 (oc rfl (oc rfl on)))))))))) fun h5 h =>
 cE h (fun h6 h => cE h (fun h7 h => cE h (fun h8 h => cE h (fun h9 h => bE h fun r1 h11 h => dE h fk62 (p62_e_30 a0 r1) (oc h0 (oc h1 (oc h2 (oc h3 (oc h4 (oc h5 (oc h6 (oc h7 (oc h8 (oc h9 (oc h0 (oc (xHu h11) on))))))))))))) fun h9 h =>
 dE h fk62 (p62_e_31 a0) (oc h0 (oc h1 (oc h2 (oc h3 (oc h4 (oc h5 (oc h6 (oc h7 (oc h8 (oc h9 (oc rfl on)))))))))))) fun h8 h =>
 dE h fk62 (p62_e_32 a0) (oc h0 (oc h1 (oc h2 (oc h3 (oc h4 (oc h5 (oc h6 (oc h7 (oc h8 (oc rfl (oc rfl on)))))))))))) fun h7 h =>
 dE h fk62 (p62_e_33 a0) (oc h0 (oc h1 (oc h2 (oc h3 (oc h4 (oc h5 (oc h6 (oc h7 (oc rfl (oc rfl (oc rfl on)))))))))))) fun h6 h =>
 cE h (fun h7 h => tE fk62 (p62_e_34 a0) (oc h0 (oc h1 (oc h2 (oc h3 (oc h4 (oc h5 (oc h6 (oc h7 on)))))))) (c62_15 g0 _ _ _ _ _ _ h)) fun h7 h =>
 dE h fk62 (p62_e_35 a0) (oc h0 (oc h1 (oc h2 (oc h3 (oc h4 (oc h5 (oc h6 (oc h7 on))))))))) fun h1 h =>
 cE h (fun h2 h => dE h fk62 (p62_e_36 a0) (oc h0 (oc h1 (oc h2 (oc rfl (oc rfl (oc rfl on))))))) fun h2 h =>
 cE h (fun h3 h => dE h fk62 (p62_e_37 a0) (oc h0 (oc h1 (oc h2 (oc h3 (oc rfl (oc rfl (oc rfl on)))))))) fun h3 h =>
 cE h (fun h4 h => dE h fk62 (p62_e_38 a0) (oc h0 (oc h1 (oc h2 (oc h3 (oc h4 (oc rfl (oc rfl (oc rfl on))))))))) fun h4 h =>
 cE h (fun h5 h => dE h fk62 (p62_e_39 a0) (oc h0 (oc h1 (oc h2 (oc h3 (oc h4 (oc h5 (oc rfl (oc rfl (oc rfl on)))))))))) fun h5 h =>
 cE h (fun h6 h => cE h (fun h7 h => cE h (fun h8 h => cE h (fun h9 h => bE h fun r1 h11 h => dE h fk62 (p62_e_40 a0 r1) (oc h0 (oc h1 (oc h2 (oc h3 (oc h4 (oc h5 (oc h6 (oc h7 (oc h8 (oc h9 (oc h0 (oc (xHu h11) on))))))))))))) fun h9 h =>
 dE h fk62 (p62_e_41 a0) (oc h0 (oc h1 (oc h2 (oc h3 (oc h4 (oc h5 (oc h6 (oc h7 (oc h8 (oc h9 (oc rfl on)))))))))))) fun h8 h =>
 dE h fk62 (p62_e_42 a0) (oc h0 (oc h1 (oc h2 (oc h3 (oc h4 (oc h5 (oc h6 (oc h7 (oc h8 (oc rfl (oc rfl on)))))))))))) fun h7 h =>
 dE h fk62 (p62_e_43 a0) (oc h0 (oc h1 (oc h2 (oc h3 (oc h4 (oc h5 (oc h6 (oc h7 (oc rfl (oc rfl (oc rfl on)))))))))))) fun h6 h =>
 cE h (fun h7 h => tE fk62 (p62_e_44 a0) (oc h0 (oc h1 (oc h2 (oc h3 (oc h4 (oc h5 (oc h6 (oc h7 on)))))))) (c62_15 g0 _ _ _ _ _ _ h)) fun h7 h =>
 dE h fk62 (p62_e_45 a0) (oc h0 (oc h1 (oc h2 (oc h3 (oc h4 (oc h5 (oc h6 (oc h7 on))))))))) fun h0 h =>
 cE h (fun h2 h => dE h fk62 (p62_e_46 a0) (oc h0 (oc rfl (oc h2 (oc rfl (oc rfl (oc rfl on))))))) fun h2 h =>
 cE h (fun h3 h => dE h fk62 (p62_e_47 a0) (oc h0 (oc rfl (oc h2 (oc h3 (oc rfl (oc rfl (oc rfl on)))))))) fun h3 h =>
 cE h (fun h4 h => dE h fk62 (p62_e_48 a0) (oc h0 (oc rfl (oc h2 (oc h3 (oc h4 (oc rfl (oc rfl (oc rfl on))))))))) fun h4 h =>
 cE h (fun h5 h => dE h fk62 (p62_e_49 a0) (oc h0 (oc rfl (oc h2 (oc h3 (oc h4 (oc h5 (oc rfl (oc rfl (oc rfl on)))))))))) fun h5 h =>
 cE h (fun h6 h => cE h (fun h7 h => cE h (fun h8 h => cE h (fun h9 h => dE h fk62 (p62_e_50 a0) (oc h0 (oc rfl (oc h2 (oc h3 (oc h4 (oc h5 (oc h6 (oc h7 (oc h8 (oc h9 (oc h0 on)))))))))))) fun h9 h =>
 dE h fk62 (p62_e_51 a0) (oc h0 (oc rfl (oc h2 (oc h3 (oc h4 (oc h5 (oc h6 (oc h7 (oc h8 (oc h9 (oc rfl on)))))))))))) fun h8 h =>
 dE h fk62 (p62_e_52 a0) (oc h0 (oc rfl (oc h2 (oc h3 (oc h4 (oc h5 (oc h6 (oc h7 (oc h8 (oc rfl (oc rfl on)))))))))))) fun h7 h =>
 dE h fk62 (p62_e_53 a0) (oc h0 (oc rfl (oc h2 (oc h3 (oc h4 (oc h5 (oc h6 (oc h7 (oc rfl (oc rfl (oc rfl on)))))))))))) fun h6 h =>
 cE h (fun h7 h => tE fk62 (p62_e_54 a0) (oc h0 (oc rfl (oc h2 (oc h3 (oc h4 (oc h5 (oc h6 (oc h7 on)))))))) (c62_15 g0 _ _ _ _ _ _ h)) fun h7 h =>
 dE h fk62 (p62_e_55 a0) (oc h0 (oc rfl (oc h2 (oc h3 (oc h4 (oc h5 (oc h6 (oc h7 on))))))))
theorem xGT {N : Nat} {q0 : Val → Option (Bool)} (g0 : G62 q0) {a0 : Val} {r : Bool} (h : xDa N q0 a0 = some r) : AbC 62 (xAs a0) (xAl r) :=
 AbsCalls.of_reach fk62 rfl rfl (Nat.le_of_ble_eq_true rfl) (c62_e g0 a0 r h)
theorem xFE {N : Nat} : ∀ d, G62 (xBy N d)
 | 0 => fun _ _ h => nE h
 | d + 1 => fun _ _ h => xGT (N := N) (xFE d) h
theorem xFd {N : Nat} {a0 : Val} {r : Bool} (h : xFV N a0 = some r) : AbC 62 (xAs a0) (xAl r) := xFE N _ r h
noncomputable def I21 : Info := { body := (Tryd.f21.body).getD .skip, nt := 5, results := [.cell 2 28], keep := [0, 4, 5], live := [], modes := [] }
theorem fk21 : FnOk Tryd.prog 21 Tryd.f21 I21 := ⟨Tryd.func21, by kernel_rfl, by kernel_rfl, by kernel_rfl, by kernel_rfl⟩
theorem p21_e_0 (a0 : Int) : rE I21 (xBi a0) [] [] = dn (xAO (Val.mk 6 a0 0 [] [] [] [])) [] := by kernel_rfl
theorem c21_e {N : Nat} : ∀ a0 r, xA5 N a0 = some r → RE Tryd.f21 I21 (xBi a0) (xAO r) := fun a0 r h =>
 dE h fk21 (p21_e_0 a0) on
theorem xBt {N : Nat} {a0 : Int} {r : Val} (h : xA5 N  a0 = some r) : AbC 21 (xBi a0) (xAO r) :=
 AbsCalls.of_reach fk21 rfl rfl (Nat.le_of_ble_eq_true rfl) (c21_e a0 r h)
theorem xGg {P : Program} {f : FuncId} {ags : List Arg} {r : Val × Bool × Bool} (h : AbsCalls P f ags (xBM r)) (ht : r.2.2 = true) : AbsCalls P f ags (xCW r) := by
 unfold xBM at h; rw [ht] at h; exact h
theorem xGf {P : Program} {f : FuncId} {ags : List Arg} {r : Val × Bool × Bool} (h : AbsCalls P f ags (xBM r)) (ht : r.2.2 = false) : AbsCalls P f ags (xCV r) := by
 unfold xBM at h; rw [ht] at h; exact h
noncomputable def I39 : Info := { body := (Tryd.f39.body).getD .skip, nt := 22, results := [.cell 2 28, .tmp 3], keep := [0, 4, 6, 10, 12, 14, 16, 18, 28, 36, 5, 11], live := [(2, [4, 12, 14, 16, 5])], modes := [(8, [(1, .take, false)])] }
theorem fk39 : FnOk Tryd.prog 39 Tryd.f39 I39 := ⟨Tryd.func39, by kernel_rfl, by kernel_rfl, by kernel_rfl, by kernel_rfl⟩
def S39_2 (x6 : List Val) (x7 x8 : Int) (b2 : Val) : St := [(4, .v false [.ptr 2 0]), (12, .v false [.sl .ro .val x6]), (14, .v false [.int .i64 x7]), (16, .v false [.int .i64 x8]), (5, .v true [.int .i64 (Val.kind b2), .int .i64 (Val.n b2), .int .i64 (Val.step b2), .str (Val.text b2), .sl .own .val (Val.list b2), .sl .own .str (Val.columns b2), .sl .own .row (Val.rows b2)])]
theorem p39_2_0 (x6 : List Val) (x7 x8 : Int) (b2 : Val) (r1 : Bool) (r2 : Val) : rS 2 I39 (S39_2 x6 x7 x8 b2) [Y, Y] [xAl r1, xAO r2] = dn (xBM (r2, true, false)) [(decide ((x8 : Int) < x7)) = true, (0 : Int) ≤ x8 ∧ x8 < (Ln x6), AbC 62 (xAs (gD x6 (tN x8) vd)) (xAl r1), (!r1) = true, AbC 21 (xBi 4) (xAO r2)] := by kernel_rfl
theorem p39_2_1 (x6 : List Val) (x7 x8 : Int) (b2 : Val) (r1 : Bool) : rS 2 I39 (S39_2 x6 x7 x8 b2) [Y, F, Y] [xAl r1] = dn (xBM ((gD x6 (tN x8) vd), true, true)) [(decide ((x8 : Int) < x7)) = true, (0 : Int) ≤ x8 ∧ x8 < (Ln x6), AbC 62 (xAs (gD x6 (tN x8) vd)) (xAl r1), (!r1) = false, (((Val.kind (gD x6 (tN x8) vd)) : Int) == 6) = true] := by kernel_rfl
theorem p39_2_2 (x6 : List Val) (x7 x8 : Int) (b2 : Val) (r1 : Bool) : rS 2 I39 (S39_2 x6 x7 x8 b2) [Y, F, F] [xAl r1] = st 2 I39 (S39_2 x6 x7 (W (x8 + 1)) b2) [(decide ((x8 : Int) < x7)) = true, (0 : Int) ≤ x8 ∧ x8 < (Ln x6), AbC 62 (xAs (gD x6 (tN x8) vd)) (xAl r1), (!r1) = false, (((Val.kind (gD x6 (tN x8) vd)) : Int) == 6) = false] := by kernel_rfl
theorem p39_2_3 (x6 : List Val) (x7 x8 : Int) (b2 : Val) : rS 2 I39 (S39_2 x6 x7 x8 b2) [F] [] = dn (xBM ((Val.mk 0 0 0 [] [] [] []), false, false)) [(decide ((x8 : Int) < x7)) = false] := by kernel_rfl
theorem p39_e_4 (a0 : List Val) : rE I39 (xCE a0) [] [] = st 2 I39 (S39_2 a0 (Ln a0 : Int) 0 (Val.mk 0 0 0 [] [] [] [])) [] := by kernel_rfl
theorem c39_2 {N : Nat} : ∀ n x6 x7 x8 b2 r, xCn N n x6 x7 x8 b2 = some r → RS Tryd.f39 I39 2 (S39_2 x6 x7 x8 b2) (xBM r) := by
 intro n
 induction n with
 | zero => exact fun _ _ _ _ _ h => nE h
 | succ n ih =>
  exact fun x6 x7 x8 b2 r h =>
   cE h (fun h0 h => iE h fun h1 h => bE h fun r1 h2 h => cE h (fun h3 h => bE h fun r2 h4 h => dS h fk39 (p39_2_0 x6 x7 x8 b2 r1 r2) (oc h0 (oc h1 (oc (xFd h2) (oc h3 (oc (xBt h4) on)))))) fun h3 h =>
   cE h (fun h4 h => dS h fk39 (p39_2_1 x6 x7 x8 b2 r1) (oc h0 (oc h1 (oc (xFd h2) (oc h3 (oc h4 on)))))) fun h4 h =>
   tS fk39 (p39_2_2 x6 x7 x8 b2 r1) (oc h0 (oc h1 (oc (xFd h2) (oc h3 (oc h4 on))))) (ih _ _ _ _ _ h)) fun h0 h =>
   dS h fk39 (p39_2_3 x6 x7 x8 b2) (oc h0 on)
theorem c39_e {N : Nat} : ∀ a0 r, xE4 N a0 = some r → RE Tryd.f39 I39 (xCE a0) (xBM r) := fun a0 r h =>
 tE fk39 (p39_e_4 a0) on (c39_2 _ _ _ _ _ _ h)
theorem xEo {N : Nat} {a0 : List Val} {r : Val × Bool × Bool} (h : xE4 N  a0 = some r) : AbC 39 (xCE a0) (xBM r) :=
 AbsCalls.of_reach fk39 rfl rfl (Nat.le_of_ble_eq_true rfl) (c39_e a0 r h)
theorem impl_kindError_toR {P : Program} {f : FuncId} {ags : List Arg} {r : Val × Bool × Bool} (h : AbsCalls P f ags (xBO r)) (ht : r.2.2 = true) : AbsCalls P f ags (xFL r) := by
 unfold xBO at h; rw [ht] at h; exact h
theorem xCr {P : Program} {f : FuncId} {ags : List Arg} {r : Val × Bool × Bool} (h : AbsCalls P f ags (xBO r)) (ht : r.2.2 = false) : AbsCalls P f ags (xBc r) := by
 unfold xBO at h; rw [ht] at h; exact h
theorem xCq {P : Program} {f : FuncId} {ags : List Arg} {r : Val × Bool × Bool} (h : AbsCalls P f ags (xBO r)) (ht : r.2.2 = true) (e0 : List.isEmpty (Val.list r.1) = true) (e1 : List.isEmpty (Val.columns r.1) = true) (e2 : List.isEmpty (Val.rows r.1) = true) : AbsCalls P f ags (xBf r) := by
 have h := impl_kindError_toR h ht
 unfold xFL at h; rw [List.isEmpty_iff.1 e0, List.isEmpty_iff.1 e1, List.isEmpty_iff.1 e2] at h; exact h
noncomputable def I18 : Info := { body := (Tryd.f18.body).getD .skip, nt := 34, results := [.cell 4 28, .tmp 5], keep := [0, 2, 8, 10, 12, 14, 16, 18, 30, 34, 36, 38, 40, 60, 9, 13, 19], live := [(5, [0, 8, 34, 36, 38, 9])], modes := [(1, [(2, .take, false)]), (2, [(0, .take, false)]), (3, [(0, .take, false)]), (7, [(3, .take, false)]), (9, [(1, .take, false)])] }
theorem fk18 : FnOk Tryd.prog 18 Tryd.f18 I18 := ⟨Tryd.func18, by kernel_rfl, by kernel_rfl, by kernel_rfl, by kernel_rfl⟩
def S18_5 (x0 : List Int) (x17 : List Val) (x18 x19 : Int) (b4 : Val) : St := [(0, .v false [.sl .ro .int x0]), (8, .v false [.ptr 4 0]), (34, .v false [.sl .ro .val x17]), (36, .v false [.int .i64 x18]), (38, .v false [.int .i64 x19]), (9, .v true [.int .i64 (Val.kind b4), .int .i64 (Val.n b4), .int .i64 (Val.step b4), .str (Val.text b4), .sl .own .val (Val.list b4), .sl .own .str (Val.columns b4), .sl .own .row (Val.rows b4)])]
theorem p18_5_0 (x0 : List Int) (x17 : List Val) (x18 x19 : Int) (b4 r1 : Val) : rS 5 I18 (S18_5 x0 x17 x18 x19 b4) [Y, Y] [xAO r1] = dn (xBO (r1, true, false)) [(decide ((x19 : Int) < x18)) = true, (0 : Int) ≤ x19 ∧ x19 < (Ln x17), (0 : Int) ≤ x19 ∧ x19 < (Ln x0), (((Val.kind (gD x17 (tN x19) vd)) : Int) != (gD x0 (tN x19) Ty.int.dflt)) = true, AbC 21 (xBi 4) (xAO r1)] := by kernel_rfl
theorem p18_5_1 (x0 : List Int) (x17 : List Val) (x18 x19 : Int) (b4 : Val) : rS 5 I18 (S18_5 x0 x17 x18 x19 b4) [Y, F] [] = st 5 I18 (S18_5 x0 x17 x18 (W (x19 + 1)) b4) [(decide ((x19 : Int) < x18)) = true, (0 : Int) ≤ x19 ∧ x19 < (Ln x17), (0 : Int) ≤ x19 ∧ x19 < (Ln x0), (((Val.kind (gD x17 (tN x19) vd)) : Int) != (gD x0 (tN x19) Ty.int.dflt)) = false] := by kernel_rfl
theorem p18_5_2 (x0 : List Int) (x17 : List Val) (x18 x19 : Int) (b4 : Val) : rS 5 I18 (S18_5 x0 x17 x18 x19 b4) [F] [] = dn (xBO ((Val.mk 0 0 0 [] [] [] []), false, false)) [(decide ((x19 : Int) < x18)) = false] := by kernel_rfl
theorem p18_e_3 (a0 : List Int) (a1 : List Val) (r1 : Val × Bool × Bool) : rE I18 (xA4 a0 a1) [Y] [xCW r1] = dn (xBO (r1.1, true, true)) [AbC 39 (xCE a1) (xCW r1), r1.2.1 = true] := by kernel_rfl
theorem p18_e_4 (a0 : List Int) (a1 : List Val) (r1 : Val × Bool × Bool) : rE I18 (xA4 a0 a1) [F] [xCW r1] = st 5 I18 (S18_5 a0 a1 (Ln a1 : Int) 0 (Val.mk 0 0 0 [] [] [] [])) [AbC 39 (xCE a1) (xCW r1), r1.2.1 = false] := by kernel_rfl
theorem p18_e_5 (a0 : List Int) (a1 : List Val) (r1 : Val × Bool × Bool) : rE I18 (xA4 a0 a1) [Y] [xCV r1] = dn (xBO (r1.1, true, false)) [AbC 39 (xCE a1) (xCV r1), r1.2.1 = true] := by kernel_rfl
theorem p18_e_6 (a0 : List Int) (a1 : List Val) (r1 : Val × Bool × Bool) : rE I18 (xA4 a0 a1) [F] [xCV r1] = st 5 I18 (S18_5 a0 a1 (Ln a1 : Int) 0 (Val.mk 0 0 0 [] [] [] [])) [AbC 39 (xCE a1) (xCV r1), r1.2.1 = false] := by kernel_rfl
theorem c18_5 {N : Nat} : ∀ n x0 x17 x18 x19 b4 r, xCA N n x0 x17 x18 x19 b4 = some r → RS Tryd.f18 I18 5 (S18_5 x0 x17 x18 x19 b4) (xBO r) := by
 intro n
 induction n with
 | zero => exact fun _ _ _ _ _ _ h => nE h
 | succ n ih =>
  exact fun x0 x17 x18 x19 b4 r h =>
   cE h (fun h0 h => iE h fun h1 h => iE h fun h2 h => cE h (fun h3 h => bE h fun r1 h4 h => dS h fk18 (p18_5_0 x0 x17 x18 x19 b4 r1) (oc h0 (oc h1 (oc h2 (oc h3 (oc (xBt h4) on)))))) fun h3 h =>
   tS fk18 (p18_5_1 x0 x17 x18 x19 b4) (oc h0 (oc h1 (oc h2 (oc h3 on)))) (ih _ _ _ _ _ _ h)) fun h0 h =>
   dS h fk18 (p18_5_2 x0 x17 x18 x19 b4) (oc h0 on)
theorem c18_e {N : Nat} : ∀ a0 a1 r, xEL N a0 a1 = some r → RE Tryd.f18 I18 (xA4 a0 a1) (xBO r) := fun a0 a1 r h =>
 bE h fun r1 h0 h => cE h (fun h1 h => cE h (fun h2 h => dE h fk18 (p18_e_3 a0 a1 r1) (oc (xGg (xEo h0) h1) (oc h2 on))) fun h2 h =>
 tE fk18 (p18_e_4 a0 a1 r1) (oc (xGg (xEo h0) h1) (oc h2 on)) (c18_5 _ _ _ _ _ _ _ h)) fun h1 h =>
 cE h (fun h2 h => dE h fk18 (p18_e_5 a0 a1 r1) (oc (xGf (xEo h0) h1) (oc h2 on))) fun h2 h =>
 tE fk18 (p18_e_6 a0 a1 r1) (oc (xGf (xEo h0) h1) (oc h2 on)) (c18_5 _ _ _ _ _ _ _ h)
theorem xBn {N : Nat} {a0 : List Int} {a1 : List Val} {r : Val × Bool × Bool} (h : xEL N  a0 a1 = some r) : AbC 18 (xA4 a0 a1) (xBO r) :=
 AbsCalls.of_reach fk18 rfl rfl (Nat.le_of_ble_eq_true rfl) (c18_e a0 a1 r h)
noncomputable def I19 : Info := { body := (Tryd.f19.body).getD .skip, nt := 9, results := [.tmp 4], keep := [0, 2, 4, 8, 5], live := [], modes := [] }
theorem fk19 : FnOk Tryd.prog 19 Tryd.f19 I19 := ⟨Tryd.func19, by kernel_rfl, by kernel_rfl, by kernel_rfl, by kernel_rfl⟩
theorem p19_e_0 (a0 : Val) (a1 : Str) (r1 : Int) : rE I19 (xAH a0 a1) [] [xCt r1] = dn (xAm r1) [AbC 40 (xEr (Val.columns a0) a1) (xCt r1)] := by kernel_rfl
theorem c19_e {N : Nat} : ∀ a0 a1 r, xCf N a0 a1 = some r → RE Tryd.f19 I19 (xAH a0 a1) (xAm r) := fun a0 a1 r h =>
 bE h fun r1 h0 h => dE h fk19 (p19_e_0 a0 a1 r1) (oc (xGw h0) on)
theorem xAK {N : Nat} {a0 : Val} {a1 : Str} {r : Int} (h : xCf N  a0 a1 = some r) : AbC 19 (xAH a0 a1) (xAm r) :=
 AbsCalls.of_reach fk19 rfl rfl (Nat.le_of_ble_eq_true rfl) (c19_e a0 a1 r h)
noncomputable def I44 : Info := { body := (Tryd.f44.body).getD .skip, nt := 12, results := [.cell 2 51], keep := [0, 2, 4, 3, 5], live := [], modes := [] }
theorem fk44 : FnOk Tryd.prog 44 Tryd.f44 I44 := ⟨Tryd.func44, by kernel_rfl, by kernel_rfl, by kernel_rfl, by kernel_rfl⟩
theorem p44_e_0 (a0 : Rowd) : rE I44 (xFK a0) [] [] = dn (xEY (Rowd.mk ([] ++ (Rowd.cells a0)) ([] ++ (Rowd.frm a0)))) [0 + Ln (Rowd.cells a0) ≤ Lim, 0 + Ln (Rowd.frm a0) ≤ Lim] := by kernel_rfl
theorem c44_e {N : Nat} : ∀ a0 r, xGK N a0 = some r → RE Tryd.f44 I44 (xFK a0) (xEY r) := fun a0 r h =>
 iE h fun h0 h => iE h fun h1 h => dE h fk44 (p44_e_0 a0) (oc h0 (oc h1 on))
theorem impl_copyRow_ok {N : Nat} {a0 : Rowd} {r : Rowd} (h : xGK N  a0 = some r) : AbC 44 (xFK a0) (xEY r) :=
 AbsCalls.of_reach fk44 rfl rfl (Nat.le_of_ble_eq_true rfl) (c44_e a0 r h)
def G22 (q : Val → Option (Val)) : Prop := ∀ a0 r, q a0 = some r → AbC 22 (xCU a0) (xBN r)
def G43 (q : (List Val) → Option ((List Val))) : Prop := ∀ a0 r, q a0 = some r → AbC 43 (xEf a0) (xC0 r)
noncomputable def I22 : Info := { body := (Tryd.f22.body).getD .skip, nt := 33, results := [.cell 2 28], keep := [0, 2, 4, 6, 10, 36, 38, 40, 42, 3, 5, 7, 11], live := [(6, [4, 6, 36, 38, 40, 5, 7])], modes := [(8, [(1, .take, false), (5, .take, false)]), (9, [(1, .take, false)]), (10, [(0, .take, false)])] }
theorem fk22 : FnOk Tryd.prog 22 Tryd.f22 I22 := ⟨Tryd.func22, by kernel_rfl, by kernel_rfl, by kernel_rfl, by kernel_rfl⟩
def S22_6 (x18 : List Rowd) (x19 x20 : Int) (b2 b3 : Val) : St := [(4, .v false [.ptr 2 0]), (6, .v false [.ptr 3 0]), (36, .v false [.sl .ro .row x18]), (38, .v false [.int .i64 x19]), (40, .v false [.int .i64 x20]), (5, .v true [.int .i64 (Val.kind b2), .int .i64 (Val.n b2), .int .i64 (Val.step b2), .str (Val.text b2), .sl .own .val (Val.list b2), .sl .own .str (Val.columns b2), .sl .own .row (Val.rows b2)]), (7, .v true [.int .i64 (Val.kind b3), .int .i64 (Val.n b3), .int .i64 (Val.step b3), .str (Val.text b3), .sl .own .val (Val.list b3), .sl .own .str (Val.columns b3), .sl .own .row (Val.rows b3)])]
theorem p22_6_0 (x18 : List Rowd) (x19 x20 : Int) (b2 b3 : Val) (r1 : Rowd) : rS 6 I22 (S22_6 x18 x19 x20 b2 b3) [Y] [xEY r1] = st 6 I22 (S22_6 x18 x19 (W (x20 + 1)) b2 (Val.mk (Val.kind b3) (Val.n b3) (Val.step b3) (Val.text b3) (Val.list b3) (Val.columns b3) ((Val.rows b3) ++ [r1]))) [(decide ((x20 : Int) < x19)) = true, (0 : Int) ≤ x20 ∧ x20 < (Ln x18), AbC 44 (xFK (gD x18 (tN x20) rd)) (xEY r1), Ln (Val.rows b3) + Ln [r1] ≤ Lim] := by kernel_rfl
theorem p22_6_1 (x18 : List Rowd) (x19 x20 : Int) (b2 b3 : Val) : rS 6 I22 (S22_6 x18 x19 x20 b2 b3) [F] [] = dn (xBN b3) [(decide ((x20 : Int) < x19)) = false] := by kernel_rfl
theorem p22_e_2 (a0 : Val) (r1 : (List Val)) : rE I22 (xCU a0) [] [xC0 r1] = st 6 I22 (S22_6 (Val.rows a0) (Ln (Val.rows a0) : Int) 0 (Val.mk 0 0 0 [] [] [] []) (Val.mk (Val.kind a0) (Val.n a0) (Val.step a0) (Val.text a0) r1 ([] ++ (Val.columns a0)) [])) [AbC 43 (xEf (Val.list a0)) (xC0 r1), 0 + Ln (Val.columns a0) ≤ Lim] := by kernel_rfl
theorem c22_6 {N : Nat} {q0 : Val → Option (Val)} (g0 : G22 q0) {q1 : (List Val) → Option ((List Val))} (g1 : G43 q1) : ∀ n x18 x19 x20 b2 b3 r, xDe N q0 q1 n x18 x19 x20 b2 b3 = some r → RS Tryd.f22 I22 6 (S22_6 x18 x19 x20 b2 b3) (xBN r) := by
 intro n
 induction n with
 | zero => exact fun _ _ _ _ _ _ h => nE h
 | succ n ih =>
  exact fun x18 x19 x20 b2 b3 r h =>
   cE h (fun h0 h => iE h fun h1 h => bE h fun r1 h2 h => iE h fun h3 h => tS fk22 (p22_6_0 x18 x19 x20 b2 b3 r1) (oc h0 (oc h1 (oc (impl_copyRow_ok h2) (oc h3 on)))) (ih _ _ _ _ _ _ h)) fun h0 h =>
   dS h fk22 (p22_6_1 x18 x19 x20 b2 b3) (oc h0 on)
theorem c22_e {N : Nat} {q0 : Val → Option (Val)} (g0 : G22 q0) {q1 : (List Val) → Option ((List Val))} (g1 : G43 q1) : ∀ a0 r, xDX N q0 q1 a0 = some r → RE Tryd.f22 I22 (xCU a0) (xBN r) := fun a0 r h =>
 bE h fun r1 h0 h => iE h fun h1 h => tE fk22 (p22_e_2 a0 r1) (oc (g1 _ _ h0) (oc h1 on)) (c22_6 g0 g1 _ _ _ _ _ _ _ h)
theorem xHn {N : Nat} {q0 : Val → Option (Val)} (g0 : G22 q0) {q1 : (List Val) → Option ((List Val))} (g1 : G43 q1) {a0 : Val} {r : Val} (h : xDX N q0 q1 a0 = some r) : AbC 22 (xCU a0) (xBN r) :=
 AbsCalls.of_reach fk22 rfl rfl (Nat.le_of_ble_eq_true rfl) (c22_e g0 g1 a0 r h)
noncomputable def I43 : Info := { body := (Tryd.f43.body).getD .skip, nt := 20, results := [.tmp 2], keep := [0, 4, 6, 10, 14, 16, 18, 20, 11], live := [(3, [6, 14, 16, 18])], modes := [(5, [(0, .take, false), (4, .take, false)]), (6, [(1, .take, false)]), (7, [(0, .take, false)])] }
theorem fk43 : FnOk Tryd.prog 43 Tryd.f43 I43 := ⟨Tryd.func43, by kernel_rfl, by kernel_rfl, by kernel_rfl, by kernel_rfl⟩
def S43_3 (x3 x7 : List Val) (x8 x9 : Int) : St := [(6, .v false [.sl .own .val x3]), (14, .v false [.sl .ro .val x7]), (16, .v false [.int .i64 x8]), (18, .v false [.int .i64 x9])]
theorem p43_3_0 (x3 x7 : List Val) (x8 x9 : Int) (r1 : Val) : rS 3 I43 (S43_3 x3 x7 x8 x9) [Y] [xBN r1] = st 3 I43 (S43_3 (x3 ++ [(Val.re r1)]) x7 x8 (W (x9 + 1))) [(decide ((x9 : Int) < x8)) = true, (0 : Int) ≤ x9 ∧ x9 < (Ln x7), AbC 22 (xCU (gD x7 (tN x9) vd)) (xBN r1), Ln x3 + Ln [(Val.re r1)] ≤ Lim] := by kernel_rfl
theorem p43_3_1 (x3 x7 : List Val) (x8 x9 : Int) : rS 3 I43 (S43_3 x3 x7 x8 x9) [F] [] = dn (xC0 x3) [(decide ((x9 : Int) < x8)) = false] := by kernel_rfl
theorem p43_e_2 (a0 : List Val) : rE I43 (xEf a0) [] [] = st 3 I43 (S43_3 [] a0 (Ln a0 : Int) 0) [] := by kernel_rfl
theorem c43_3 {N : Nat} {q0 : Val → Option (Val)} (g0 : G22 q0) {q1 : (List Val) → Option ((List Val))} (g1 : G43 q1) : ∀ n x3 x7 x8 x9 r, xDv N q0 q1 n x3 x7 x8 x9 = some r → RS Tryd.f43 I43 3 (S43_3 x3 x7 x8 x9) (xC0 r) := by
 intro n
 induction n with
 | zero => exact fun _ _ _ _ _ h => nE h
 | succ n ih =>
  exact fun x3 x7 x8 x9 r h =>
   cE h (fun h0 h => iE h fun h1 h => bE h fun r1 h2 h => iE h fun h3 h => tS fk43 (p43_3_0 x3 x7 x8 x9 r1) (oc h0 (oc h1 (oc (g0 _ _ h2) (oc h3 on)))) (ih _ _ _ _ _ h)) fun h0 h =>
   dS h fk43 (p43_3_1 x3 x7 x8 x9) (oc h0 on)
theorem c43_e {N : Nat} {q0 : Val → Option (Val)} (g0 : G22 q0) {q1 : (List Val) → Option ((List Val))} (g1 : G43 q1) : ∀ a0 r, xDC N q0 q1 a0 = some r → RE Tryd.f43 I43 (xEf a0) (xC0 r) := fun a0 r h =>
 tE fk43 (p43_e_2 a0) on (c43_3 g0 g1 _ _ _ _ _ _ h)
theorem xG9 {N : Nat} {q0 : Val → Option (Val)} (g0 : G22 q0) {q1 : (List Val) → Option ((List Val))} (g1 : G43 q1) {a0 : List Val} {r : (List Val)} (h : xDC N q0 q1 a0 = some r) : AbC 43 (xEf a0) (xC0 r) :=
 AbsCalls.of_reach fk43 rfl rfl (Nat.le_of_ble_eq_true rfl) (c43_e g0 g1 a0 r h)
theorem xHt {N : Nat} : ∀ d, G22 (xBj N d).c_impl_copyValue ∧ G43 (xBj N d).c_impl_copyValues := by
 intro d
 induction d with
 | zero => exact ⟨fun _ _ h => nE h, fun _ _ h => nE h⟩
 | succ d ih =>
  obtain ⟨ih0, ih1⟩ := ih
  exact ⟨fun _ _ h => xHn (N := N) ih0 ih1 h, fun _ _ h => xG9 (N := N) ih0 ih1 h⟩
theorem xG0 {N : Nat} {a0 : Val} {r : Val} (h : xF5 N a0 = some r) : AbC 22 (xCU a0) (xBN r) := (xHt N).1 _ r h
theorem impl_AddColumn_toR {P : Program} {f : FuncId} {ags : List Arg} {r : Val × Bool} (h : AbsCalls P f ags (xBa r)) (ht : r.2 = true) : AbsCalls P f ags (xFH r) := by
 unfold xBa at h; rw [ht] at h; exact h
theorem xAU {P : Program} {f : FuncId} {ags : List Arg} {r : Val × Bool} (h : AbsCalls P f ags (xBa r)) (ht : r.2 = false) : AbsCalls P f ags (xAv r) := by
 unfold xBa at h; rw [ht] at h; exact h
theorem xAT {P : Program} {f : FuncId} {ags : List Arg} {r : Val × Bool} (h : AbsCalls P f ags (xBa r)) (ht : r.2 = true) (e0 : List.isEmpty (Val.list r.1) = true) (e1 : List.isEmpty (Val.columns r.1) = true) (e2 : List.isEmpty (Val.rows r.1) = true) : AbsCalls P f ags (xAx r) := by
 have h := impl_AddColumn_toR h ht
 unfold xFH at h; rw [List.isEmpty_iff.1 e0, List.isEmpty_iff.1 e1, List.isEmpty_iff.1 e2] at h; exact h
noncomputable def I6 : Info := { body := (Tryd.f6.body).getD .skip, nt := 110, results := [.cell 8 28], keep := [0, 2, 4, 6, 8, 10, 12, 14, 16, 18, 20, 22, 24, 26, 28, 30, 32, 54, 110, 120, 144, 146, 148, 150, 184, 9, 11, 13, 15, 17, 19, 27, 31], live := [(13, [16, 22, 24, 26, 144, 146, 148, 17, 27])], modes := [(1, [(6, .take, true), (7, .take, false)]), (2, [(0, .take, false)]), (3, [(0, .take, false)]), (6, [(4, .take, false), (11, .take, false), (15, .take, false)]), (11, [(1, .take, false)]), (18, [(1, .ref, false), (4, .ref, false), (8, .ref, false)]), (19, [(1, .take, false)]), (20, [(0, .take, false)])] }
theorem fk6 : FnOk Tryd.prog 6 Tryd.f6 I6 := ⟨Tryd.func6, by kernel_rfl, by kernel_rfl, by kernel_rfl, by kernel_rfl⟩
def S6_13 (x11 x12 : Int) (x72 : List Rowd) (x73 x74 : Int) (b8 b13 : Val) : St := [(16, .v false [.ptr 8 0]), (22, .v false [.int .i64 x11]), (24, .v false [.int .i64 x12]), (26, .v false [.ptr 13 0]), (144, .v false [.sl .ro .row x72]), (146, .v false [.int .i64 x73]), (148, .v false [.int .i64 x74]), (17, .v true [.int .i64 (Val.kind b8), .int .i64 (Val.n b8), .int .i64 (Val.step b8), .str (Val.text b8), .sl .own .val (Val.list b8), .sl .own .str (Val.columns b8), .sl .own .row (Val.rows b8)]), (27, .v true [.int .i64 (Val.kind b13), .int .i64 (Val.n b13), .int .i64 (Val.step b13), .str (Val.text b13), .sl .own .val (Val.list b13), .sl .own .str (Val.columns b13), .sl .own .row (Val.rows b13)])]
theorem p6_13_0 (x11 x12 : Int) (x72 : List Rowd) (x73 x74 : Int) (b8 b13 : Val) (r1 : Bool) (r2 : Val) : rS 13 I6 (S6_13 x11 x12 x72 x73 x74 b8 b13) [Y, Y] [xBp r1, xAO r2] = dn (xBa (r2, false)) [(decide ((x74 : Int) < x73)) = true, (0 : Int) ≤ x74 ∧ x74 < (Ln x72), (0 : Int) ≤ x11 ∧ x11 < (Ln (Rowd.cells (gD x72 (tN x74) rd))), (0 : Int) ≤ x12 ∧ x12 < (Ln (Rowd.cells (gD x72 (tN x74) rd))), AbC 23 (xCg (W ((gD (Rowd.cells (gD x72 (tN x74) rd)) (tN x11) Ty.int.dflt) + (gD (Rowd.cells (gD x72 (tN x74) rd)) (tN x12) Ty.int.dflt)))) (xBp r1), (!r1) = true, AbC 21 (xBi 5) (xAO r2)] := by kernel_rfl
theorem p6_13_1 (x11 x12 : Int) (x72 : List Rowd) (x73 x74 : Int) (b8 b13 : Val) (r1 : Bool) : rS 13 I6 (S6_13 x11 x12 x72 x73 x74 b8 b13) [Y, F] [xBp r1] = st 13 I6 (S6_13 x11 x12 x72 x73 (W (x74 + 1)) b8 (Val.mk (Val.kind b13) (Val.n b13) (Val.step b13) (Val.text b13) (Val.list b13) (Val.columns b13) (List.set (Val.rows b13) (tN x74) (Rowd.mk ((Rowd.cells (gD (Val.rows b13) (tN x74) rd)) ++ [(W ((gD (Rowd.cells (gD x72 (tN x74) rd)) (tN x11) Ty.int.dflt) + (gD (Rowd.cells (gD x72 (tN x74) rd)) (tN x12) Ty.int.dflt)))]) (Rowd.frm (gD (Val.rows b13) (tN x74) rd)))))) [(decide ((x74 : Int) < x73)) = true, (0 : Int) ≤ x74 ∧ x74 < (Ln x72), (0 : Int) ≤ x11 ∧ x11 < (Ln (Rowd.cells (gD x72 (tN x74) rd))), (0 : Int) ≤ x12 ∧ x12 < (Ln (Rowd.cells (gD x72 (tN x74) rd))), AbC 23 (xCg (W ((gD (Rowd.cells (gD x72 (tN x74) rd)) (tN x11) Ty.int.dflt) + (gD (Rowd.cells (gD x72 (tN x74) rd)) (tN x12) Ty.int.dflt)))) (xBp r1), (!r1) = false, (0 : Int) ≤ x74 ∧ x74 < (Ln (Val.rows b13)), Ln (Rowd.cells (gD (Val.rows b13) (tN x74) rd)) + Ln [(W ((gD (Rowd.cells (gD x72 (tN x74) rd)) (tN x11) Ty.int.dflt) + (gD (Rowd.cells (gD x72 (tN x74) rd)) (tN x12) Ty.int.dflt)))] ≤ Lim, (0 : Int) ≤ x74 ∧ x74 < (Ln (Val.rows b13)), (27 : Nat) = 27 ∧ (6 : Nat) = 6 ∧ ([((tN x74), 0)] : List (Nat × Nat)) = [((tN x74), 0)]] := by kernel_rfl
theorem p6_13_2 (x11 x12 : Int) (x72 : List Rowd) (x73 x74 : Int) (b8 b13 : Val) : rS 13 I6 (S6_13 x11 x12 x72 x73 x74 b8 b13) [F] [] = dn (xBa (b13, false)) [(decide ((x74 : Int) < x73)) = false] := by kernel_rfl
theorem p6_e_3 (a0 a1 a2 a3 : Val) (r1 : Val × Bool × Bool) : rE I6 (xAp a0 a1 a2 a3) [Y] [xBf r1] = dn (xBa ((Val.mk (Val.kind r1.1) (Val.n r1.1) (Val.step r1.1) (Val.text r1.1) [] [] []), true)) [AbC 18 (xA4 [2, 2, 2, 5] [(Val.re a0), (Val.re a1), (Val.re a2), (Val.re a3)]) (xBf r1), r1.2.1 = true] := by kernel_rfl
theorem p6_e_4 (a0 a1 a2 a3 : Val) (r1 : Val × Bool × Bool) (r2 r3 : Int) (r4 : Bool) (r5 : Val) : rE I6 (xAp a0 a1 a2 a3) [F, Y, Y, Y, Y] [xBf r1, xAm r2, xAm r3, xAL r4, xAO r5] = dn (xBa (r5, false)) [AbC 18 (xA4 [2, 2, 2, 5] [(Val.re a0), (Val.re a1), (Val.re a2), (Val.re a3)]) (xBf r1), r1.2.1 = false, AbC 19 (xAH a3 (Val.text a1)) (xAm r2), AbC 19 (xAH a3 (Val.text a2)) (xAm r3), AbC 20 (xBe (Val.text a0)) (xAL r4), (!r4) = true, true = true, true = true, true = true, AbC 21 (xBi 7) (xAO r5)] := by kernel_rfl
theorem p6_e_5 (a0 a1 a2 a3 : Val) (r1 : Val × Bool × Bool) (r2 r3 : Int) (r4 : Bool) (r5 : Int) (r6 : Val) : rE I6 (xAp a0 a1 a2 a3) [F, F, Y, Y, Y] [xBf r1, xAm r2, xAm r3, xAL r4, xAm r5, xAO r6] = dn (xBa (r6, false)) [AbC 18 (xA4 [2, 2, 2, 5] [(Val.re a0), (Val.re a1), (Val.re a2), (Val.re a3)]) (xBf r1), r1.2.1 = false, AbC 19 (xAH a3 (Val.text a1)) (xAm r2), AbC 19 (xAH a3 (Val.text a2)) (xAm r3), AbC 20 (xBe (Val.text a0)) (xAL r4), (!r4) = false, AbC 19 (xAH a3 (Val.text a0)) (xAm r5), (decide ((r5 : Int) ≥ 0)) = true, true = true, true = true, AbC 21 (xBi 7) (xAO r6)] := by kernel_rfl
theorem p6_e_6 (a0 a1 a2 a3 : Val) (r1 : Val × Bool × Bool) (r2 r3 : Int) (r4 : Bool) (r5 : Int) (r6 : Val) : rE I6 (xAp a0 a1 a2 a3) [F, F, F, Y, Y] [xBf r1, xAm r2, xAm r3, xAL r4, xAm r5, xAO r6] = dn (xBa (r6, false)) [AbC 18 (xA4 [2, 2, 2, 5] [(Val.re a0), (Val.re a1), (Val.re a2), (Val.re a3)]) (xBf r1), r1.2.1 = false, AbC 19 (xAH a3 (Val.text a1)) (xAm r2), AbC 19 (xAH a3 (Val.text a2)) (xAm r3), AbC 20 (xBe (Val.text a0)) (xAL r4), (!r4) = false, AbC 19 (xAH a3 (Val.text a0)) (xAm r5), (decide ((r5 : Int) ≥ 0)) = false, (decide ((r2 : Int) < 0)) = true, true = true, AbC 21 (xBi 7) (xAO r6)] := by kernel_rfl
theorem p6_e_7 (a0 a1 a2 a3 : Val) (r1 : Val × Bool × Bool) (r2 r3 : Int) (r4 : Bool) (r5 : Int) (r6 : Val) : rE I6 (xAp a0 a1 a2 a3) [F, F, F, F, Y] [xBf r1, xAm r2, xAm r3, xAL r4, xAm r5, xAO r6] = dn (xBa (r6, false)) [AbC 18 (xA4 [2, 2, 2, 5] [(Val.re a0), (Val.re a1), (Val.re a2), (Val.re a3)]) (xBf r1), r1.2.1 = false, AbC 19 (xAH a3 (Val.text a1)) (xAm r2), AbC 19 (xAH a3 (Val.text a2)) (xAm r3), AbC 20 (xBe (Val.text a0)) (xAL r4), (!r4) = false, AbC 19 (xAH a3 (Val.text a0)) (xAm r5), (decide ((r5 : Int) ≥ 0)) = false, (decide ((r2 : Int) < 0)) = false, (decide ((r3 : Int) < 0)) = true, AbC 21 (xBi 7) (xAO r6)] := by kernel_rfl
theorem p6_e_8 (a0 a1 a2 a3 : Val) (r1 : Val × Bool × Bool) (r2 r3 : Int) (r4 : Bool) (r5 : Int) (r6 : Val) : rE I6 (xAp a0 a1 a2 a3) [F, F, F, F, F, Y] [xBf r1, xAm r2, xAm r3, xAL r4, xAm r5, xAO r6] = dn (xBa (r6, false)) [AbC 18 (xA4 [2, 2, 2, 5] [(Val.re a0), (Val.re a1), (Val.re a2), (Val.re a3)]) (xBf r1), r1.2.1 = false, AbC 19 (xAH a3 (Val.text a1)) (xAm r2), AbC 19 (xAH a3 (Val.text a2)) (xAm r3), AbC 20 (xBe (Val.text a0)) (xAL r4), (!r4) = false, AbC 19 (xAH a3 (Val.text a0)) (xAm r5), (decide ((r5 : Int) ≥ 0)) = false, (decide ((r2 : Int) < 0)) = false, (decide ((r3 : Int) < 0)) = false, (decide (((Ln (Val.columns a3) : Int) : Int) ≥ 4)) = true, AbC 21 (xBi 6) (xAO r6)] := by kernel_rfl
theorem p6_e_9 (a0 a1 a2 a3 : Val) (r1 : Val × Bool × Bool) (r2 r3 : Int) (r4 : Bool) (r5 : Int) (r6 : Val) : rE I6 (xAp a0 a1 a2 a3) [F, F, F, F, F, F] [xBf r1, xAm r2, xAm r3, xAL r4, xAm r5, xBN r6] = st 13 I6 (S6_13 r2 r3 (Val.rows a3) (Ln (Val.rows a3) : Int) 0 (Val.mk 0 0 0 [] [] [] []) (Val.mk (Val.kind r6) (Val.n r6) (Val.step r6) (Val.text r6) (Val.list r6) ((Val.columns r6) ++ [(Val.text a0)]) (Val.rows r6))) [AbC 18 (xA4 [2, 2, 2, 5] [(Val.re a0), (Val.re a1), (Val.re a2), (Val.re a3)]) (xBf r1), r1.2.1 = false, AbC 19 (xAH a3 (Val.text a1)) (xAm r2), AbC 19 (xAH a3 (Val.text a2)) (xAm r3), AbC 20 (xBe (Val.text a0)) (xAL r4), (!r4) = false, AbC 19 (xAH a3 (Val.text a0)) (xAm r5), (decide ((r5 : Int) ≥ 0)) = false, (decide ((r2 : Int) < 0)) = false, (decide ((r3 : Int) < 0)) = false, (decide (((Ln (Val.columns a3) : Int) : Int) ≥ 4)) = false, AbC 22 (xCU a3) (xBN r6), Ln (Val.columns r6) + Ln [(Val.text a0)] ≤ Lim] := by kernel_rfl
theorem p6_e_10 (a0 a1 a2 a3 : Val) (r1 : Val × Bool × Bool) : rE I6 (xAp a0 a1 a2 a3) [Y] [xBc r1] = dn (xBa (r1.1, false)) [AbC 18 (xA4 [2, 2, 2, 5] [(Val.re a0), (Val.re a1), (Val.re a2), (Val.re a3)]) (xBc r1), r1.2.1 = true] := by kernel_rfl
theorem p6_e_11 (a0 a1 a2 a3 : Val) (r1 : Val × Bool × Bool) (r2 r3 : Int) (r4 : Bool) (r5 : Val) : rE I6 (xAp a0 a1 a2 a3) [F, Y, Y, Y, Y] [xBc r1, xAm r2, xAm r3, xAL r4, xAO r5] = dn (xBa (r5, false)) [AbC 18 (xA4 [2, 2, 2, 5] [(Val.re a0), (Val.re a1), (Val.re a2), (Val.re a3)]) (xBc r1), r1.2.1 = false, AbC 19 (xAH a3 (Val.text a1)) (xAm r2), AbC 19 (xAH a3 (Val.text a2)) (xAm r3), AbC 20 (xBe (Val.text a0)) (xAL r4), (!r4) = true, true = true, true = true, true = true, AbC 21 (xBi 7) (xAO r5)] := by kernel_rfl
theorem p6_e_12 (a0 a1 a2 a3 : Val) (r1 : Val × Bool × Bool) (r2 r3 : Int) (r4 : Bool) (r5 : Int) (r6 : Val) : rE I6 (xAp a0 a1 a2 a3) [F, F, Y, Y, Y] [xBc r1, xAm r2, xAm r3, xAL r4, xAm r5, xAO r6] = dn (xBa (r6, false)) [AbC 18 (xA4 [2, 2, 2, 5] [(Val.re a0), (Val.re a1), (Val.re a2), (Val.re a3)]) (xBc r1), r1.2.1 = false, AbC 19 (xAH a3 (Val.text a1)) (xAm r2), AbC 19 (xAH a3 (Val.text a2)) (xAm r3), AbC 20 (xBe (Val.text a0)) (xAL r4), (!r4) = false, AbC 19 (xAH a3 (Val.text a0)) (xAm r5), (decide ((r5 : Int) ≥ 0)) = true, true = true, true = true, AbC 21 (xBi 7) (xAO r6)] := by kernel_rfl
theorem p6_e_13 (a0 a1 a2 a3 : Val) (r1 : Val × Bool × Bool) (r2 r3 : Int) (r4 : Bool) (r5 : Int) (r6 : Val) : rE I6 (xAp a0 a1 a2 a3) [F, F, F, Y, Y] [xBc r1, xAm r2, xAm r3, xAL r4, xAm r5, xAO r6] = dn (xBa (r6, false)) [AbC 18 (xA4 [2, 2, 2, 5] [(Val.re a0), (Val.re a1), (Val.re a2), (Val.re a3)]) (xBc r1), r1.2.1 = false, AbC 19 (xAH a3 (Val.text a1)) (xAm r2), AbC 19 (xAH a3 (Val.text a2)) (xAm r3), AbC 20 (xBe (Val.text a0)) (xAL r4), (!r4) = false, AbC 19 (xAH a3 (Val.text a0)) (xAm r5), (decide ((r5 : Int) ≥ 0)) = false, (decide ((r2 : Int) < 0)) = true, true = true, AbC 21 (xBi 7) (xAO r6)] := by kernel_rfl
theorem p6_e_14 (a0 a1 a2 a3 : Val) (r1 : Val × Bool × Bool) (r2 r3 : Int) (r4 : Bool) (r5 : Int) (r6 : Val) : rE I6 (xAp a0 a1 a2 a3) [F, F, F, F, Y] [xBc r1, xAm r2, xAm r3, xAL r4, xAm r5, xAO r6] = dn (xBa (r6, false)) [AbC 18 (xA4 [2, 2, 2, 5] [(Val.re a0), (Val.re a1), (Val.re a2), (Val.re a3)]) (xBc r1), r1.2.1 = false, AbC 19 (xAH a3 (Val.text a1)) (xAm r2), AbC 19 (xAH a3 (Val.text a2)) (xAm r3), AbC 20 (xBe (Val.text a0)) (xAL r4), (!r4) = false, AbC 19 (xAH a3 (Val.text a0)) (xAm r5), (decide ((r5 : Int) ≥ 0)) = false, (decide ((r2 : Int) < 0)) = false, (decide ((r3 : Int) < 0)) = true, AbC 21 (xBi 7) (xAO r6)] := by kernel_rfl
theorem p6_e_15 (a0 a1 a2 a3 : Val) (r1 : Val × Bool × Bool) (r2 r3 : Int) (r4 : Bool) (r5 : Int) (r6 : Val) : rE I6 (xAp a0 a1 a2 a3) [F, F, F, F, F, Y] [xBc r1, xAm r2, xAm r3, xAL r4, xAm r5, xAO r6] = dn (xBa (r6, false)) [AbC 18 (xA4 [2, 2, 2, 5] [(Val.re a0), (Val.re a1), (Val.re a2), (Val.re a3)]) (xBc r1), r1.2.1 = false, AbC 19 (xAH a3 (Val.text a1)) (xAm r2), AbC 19 (xAH a3 (Val.text a2)) (xAm r3), AbC 20 (xBe (Val.text a0)) (xAL r4), (!r4) = false, AbC 19 (xAH a3 (Val.text a0)) (xAm r5), (decide ((r5 : Int) ≥ 0)) = false, (decide ((r2 : Int) < 0)) = false, (decide ((r3 : Int) < 0)) = false, (decide (((Ln (Val.columns a3) : Int) : Int) ≥ 4)) = true, AbC 21 (xBi 6) (xAO r6)] := by kernel_rfl
theorem p6_e_16 (a0 a1 a2 a3 : Val) (r1 : Val × Bool × Bool) (r2 r3 : Int) (r4 : Bool) (r5 : Int) (r6 : Val) : rE I6 (xAp a0 a1 a2 a3) [F, F, F, F, F, F] [xBc r1, xAm r2, xAm r3, xAL r4, xAm r5, xBN r6] = st 13 I6 (S6_13 r2 r3 (Val.rows a3) (Ln (Val.rows a3) : Int) 0 (Val.mk 0 0 0 [] [] [] []) (Val.mk (Val.kind r6) (Val.n r6) (Val.step r6) (Val.text r6) (Val.list r6) ((Val.columns r6) ++ [(Val.text a0)]) (Val.rows r6))) [AbC 18 (xA4 [2, 2, 2, 5] [(Val.re a0), (Val.re a1), (Val.re a2), (Val.re a3)]) (xBc r1), r1.2.1 = false, AbC 19 (xAH a3 (Val.text a1)) (xAm r2), AbC 19 (xAH a3 (Val.text a2)) (xAm r3), AbC 20 (xBe (Val.text a0)) (xAL r4), (!r4) = false, AbC 19 (xAH a3 (Val.text a0)) (xAm r5), (decide ((r5 : Int) ≥ 0)) = false, (decide ((r2 : Int) < 0)) = false, (decide ((r3 : Int) < 0)) = false, (decide (((Ln (Val.columns a3) : Int) : Int) ≥ 4)) = false, AbC 22 (xCU a3) (xBN r6), Ln (Val.columns r6) + Ln [(Val.text a0)] ≤ Lim] := by kernel_rfl
theorem c6_13 {N : Nat} : ∀ n x11 x12 x72 x73 x74 b8 b13 r, xCp N n x11 x12 x72 x73 x74 b8 b13 = some r → RS Tryd.f6 I6 13 (S6_13 x11 x12 x72 x73 x74 b8 b13) (xBa r) := by
 intro n
 induction n with
 | zero => exact fun _ _ _ _ _ _ _ _ h => nE h
 | succ n ih =>
  exact fun x11 x12 x72 x73 x74 b8 b13 r h =>
   cE h (fun h0 h => iE h fun h1 h => iE h fun h2 h => iE h fun h3 h => bE h fun r1 h4 h => cE h (fun h5 h => bE h fun r2 h6 h => dS h fk6 (p6_13_0 x11 x12 x72 x73 x74 b8 b13 r1 r2) (oc h0 (oc h1 (oc h2 (oc h3 (oc (xC6 h4) (oc h5 (oc (xBt h6) on)))))))) fun h5 h =>
   iE h fun h6 h => iE h fun h7 h => tS fk6 (p6_13_1 x11 x12 x72 x73 x74 b8 b13 r1) (oc h0 (oc h1 (oc h2 (oc h3 (oc (xC6 h4) (oc h5 (oc h6 (oc h7 (oc h6 (oc ⟨rfl, rfl, rfl⟩ on)))))))))) (ih _ _ _ _ _ _ _ _ h)) fun h0 h =>
   dS h fk6 (p6_13_2 x11 x12 x72 x73 x74 b8 b13) (oc h0 on)
theorem c6_e {N : Nat} : ∀ a0 a1 a2 a3 r, xCI N a0 a1 a2 a3 = some r → RE Tryd.f6 I6 (xAp a0 a1 a2 a3) (xBa r) := fun a0 a1 a2 a3 r h =>
 bE h fun r1 h0 h => cE h (fun h1 h => iE h fun h2 h => iE h fun h3 h => iE h fun h4 h => cE h (fun h5 h => dE h fk6 (p6_e_3 a0 a1 a2 a3 r1) (oc (xCq (xBn h0) h1 h2 h3 h4) (oc h5 on))) fun h5 h =>
 bE h fun r2 h6 h => bE h fun r3 h7 h => bE h fun r4 h8 h => cE h (fun h9 h => bE h fun r5 h13 h => dE h fk6 (p6_e_4 a0 a1 a2 a3 r1 r2 r3 r4 r5) (oc (xCq (xBn h0) h1 h2 h3 h4) (oc h5 (oc (xAK h6) (oc (xAK h7) (oc (xBu h8) (oc h9 (oc rfl (oc rfl (oc rfl (oc (xBt h13) on))))))))))) fun h9 h =>
 bE h fun r5 h10 h => cE h (fun h11 h => bE h fun r6 h14 h => dE h fk6 (p6_e_5 a0 a1 a2 a3 r1 r2 r3 r4 r5 r6) (oc (xCq (xBn h0) h1 h2 h3 h4) (oc h5 (oc (xAK h6) (oc (xAK h7) (oc (xBu h8) (oc h9 (oc (xAK h10) (oc h11 (oc rfl (oc rfl (oc (xBt h14) on)))))))))))) fun h11 h =>
 cE h (fun h12 h => bE h fun r6 h14 h => dE h fk6 (p6_e_6 a0 a1 a2 a3 r1 r2 r3 r4 r5 r6) (oc (xCq (xBn h0) h1 h2 h3 h4) (oc h5 (oc (xAK h6) (oc (xAK h7) (oc (xBu h8) (oc h9 (oc (xAK h10) (oc h11 (oc h12 (oc rfl (oc (xBt h14) on)))))))))))) fun h12 h =>
 cE h (fun h13 h => bE h fun r6 h14 h => dE h fk6 (p6_e_7 a0 a1 a2 a3 r1 r2 r3 r4 r5 r6) (oc (xCq (xBn h0) h1 h2 h3 h4) (oc h5 (oc (xAK h6) (oc (xAK h7) (oc (xBu h8) (oc h9 (oc (xAK h10) (oc h11 (oc h12 (oc h13 (oc (xBt h14) on)))))))))))) fun h13 h =>
 cE h (fun h14 h => bE h fun r6 h15 h => dE h fk6 (p6_e_8 a0 a1 a2 a3 r1 r2 r3 r4 r5 r6) (oc (xCq (xBn h0) h1 h2 h3 h4) (oc h5 (oc (xAK h6) (oc (xAK h7) (oc (xBu h8) (oc h9 (oc (xAK h10) (oc h11 (oc h12 (oc h13 (oc h14 (oc (xBt h15) on))))))))))))) fun h14 h =>
 bE h fun r6 h15 h => iE h fun h16 h => tE fk6 (p6_e_9 a0 a1 a2 a3 r1 r2 r3 r4 r5 r6) (oc (xCq (xBn h0) h1 h2 h3 h4) (oc h5 (oc (xAK h6) (oc (xAK h7) (oc (xBu h8) (oc h9 (oc (xAK h10) (oc h11 (oc h12 (oc h13 (oc h14 (oc (xG0 h15) (oc h16 on))))))))))))) (c6_13 _ _ _ _ _ _ _ _ _ h)) fun h1 h =>
 cE h (fun h2 h => dE h fk6 (p6_e_10 a0 a1 a2 a3 r1) (oc (xCr (xBn h0) h1) (oc h2 on))) fun h2 h =>
 bE h fun r2 h3 h => bE h fun r3 h4 h => bE h fun r4 h5 h => cE h (fun h6 h => bE h fun r5 h10 h => dE h fk6 (p6_e_11 a0 a1 a2 a3 r1 r2 r3 r4 r5) (oc (xCr (xBn h0) h1) (oc h2 (oc (xAK h3) (oc (xAK h4) (oc (xBu h5) (oc h6 (oc rfl (oc rfl (oc rfl (oc (xBt h10) on))))))))))) fun h6 h =>
 bE h fun r5 h7 h => cE h (fun h8 h => bE h fun r6 h11 h => dE h fk6 (p6_e_12 a0 a1 a2 a3 r1 r2 r3 r4 r5 r6) (oc (xCr (xBn h0) h1) (oc h2 (oc (xAK h3) (oc (xAK h4) (oc (xBu h5) (oc h6 (oc (xAK h7) (oc h8 (oc rfl (oc rfl (oc (xBt h11) on)))))))))))) fun h8 h =>
 cE h (fun h9 h => bE h fun r6 h11 h => dE h fk6 (p6_e_13 a0 a1 a2 a3 r1 r2 r3 r4 r5 r6) (oc (xCr (xBn h0) h1) (oc h2 (oc (xAK h3) (oc (xAK h4) (oc (xBu h5) (oc h6 (oc (xAK h7) (oc h8 (oc h9 (oc rfl (oc (xBt h11) on)))))))))))) fun h9 h =>
 cE h (fun h10 h => bE h fun r6 h11 h => dE h fk6 (p6_e_14 a0 a1 a2 a3 r1 r2 r3 r4 r5 r6) (oc (xCr (xBn h0) h1) (oc h2 (oc (xAK h3) (oc (xAK h4) (oc (xBu h5) (oc h6 (oc (xAK h7) (oc h8 (oc h9 (oc h10 (oc (xBt h11) on)))))))))))) fun h10 h =>
 cE h (fun h11 h => bE h fun r6 h12 h => dE h fk6 (p6_e_15 a0 a1 a2 a3 r1 r2 r3 r4 r5 r6) (oc (xCr (xBn h0) h1) (oc h2 (oc (xAK h3) (oc (xAK h4) (oc (xBu h5) (oc h6 (oc (xAK h7) (oc h8 (oc h9 (oc h10 (oc h11 (oc (xBt h12) on))))))))))))) fun h11 h =>
 bE h fun r6 h12 h => iE h fun h13 h => tE fk6 (p6_e_16 a0 a1 a2 a3 r1 r2 r3 r4 r5 r6) (oc (xCr (xBn h0) h1) (oc h2 (oc (xAK h3) (oc (xAK h4) (oc (xBu h5) (oc h6 (oc (xAK h7) (oc h8 (oc h9 (oc h10 (oc h11 (oc (xG0 h12) (oc h13 on))))))))))))) (c6_13 _ _ _ _ _ _ _ _ _ h)
theorem xAC {N : Nat} {a0 : Val} {a1 : Val} {a2 : Val} {a3 : Val} {r : Val × Bool} (h : xCI N  a0 a1 a2 a3 = some r) : AbC 6 (xAp a0 a1 a2 a3) (xBa r) :=
 AbsCalls.of_reach fk6 rfl rfl (Nat.le_of_ble_eq_true rfl) (c6_e a0 a1 a2 a3 r h)
noncomputable def I54 : Info := { body := (Tryd.f54.body).getD .skip, nt := 15, results := [.tmp 6], keep := [0, 2, 4, 12], live := [], modes := [(1, [(3, .take, false)])] }
theorem fk54 : FnOk Tryd.prog 54 Tryd.f54 I54 := ⟨Tryd.func54, by kernel_rfl, by kernel_rfl, by kernel_rfl, by kernel_rfl⟩
theorem p54_e_0 (a0 a1 a2 : Int) : rE I54 (xEz a0 a1 a2) [Y] [] = dn (xC8 (decide ((a0 : Int) ≤ a2))) [(decide ((a0 : Int) ≥ a1)) = true] := by kernel_rfl
theorem p54_e_1 (a0 a1 a2 : Int) : rE I54 (xEz a0 a1 a2) [F] [] = dn (xC8 false) [(decide ((a0 : Int) ≥ a1)) = false] := by kernel_rfl
theorem c54_e {N : Nat} : ∀ a0 a1 a2 r, xGB N a0 a1 a2 = some r → RE Tryd.f54 I54 (xEz a0 a1 a2) (xC8 r) := fun a0 a1 a2 r h =>
 cE h (fun h0 h => dE h fk54 (p54_e_0 a0 a1 a2) (oc h0 on)) fun h0 h =>
 dE h fk54 (p54_e_1 a0 a1 a2) (oc h0 on)
theorem xGN {N : Nat} {a0 : Int} {a1 : Int} {a2 : Int} {r : Bool} (h : xGB N  a0 a1 a2 = some r) : AbC 54 (xEz a0 a1 a2) (xC8 r) :=
 AbsCalls.of_reach fk54 rfl rfl (Nat.le_of_ble_eq_true rfl) (c54_e a0 a1 a2 r h)
noncomputable def I30 : Info := { body := (Tryd.f30.body).getD .skip, nt := 5, results := [.tmp 2], keep := [0, 4], live := [], modes := [] }
theorem fk30 : FnOk Tryd.prog 30 Tryd.f30 I30 := ⟨Tryd.func30, by kernel_rfl, by kernel_rfl, by kernel_rfl, by kernel_rfl⟩
theorem p30_e_0 (a0 : Int) (r1 : Bool) : rE I30 (xCh a0) [] [xC8 r1] = dn (xBq r1) [AbC 54 (xEz a0 (-1000000000) 1000000000) (xC8 r1)] := by kernel_rfl
theorem c30_e {N : Nat} : ∀ a0 r, xDI N a0 = some r → RE Tryd.f30 I30 (xCh a0) (xBq r) := fun a0 r h =>
 bE h fun r1 h0 h => dE h fk30 (p30_e_0 a0 r1) (oc (xGN h0) on)
theorem xC9 {N : Nat} {a0 : Int} {r : Bool} (h : xDI N  a0 = some r) : AbC 30 (xCh a0) (xBq r) :=
 AbsCalls.of_reach fk30 rfl rfl (Nat.le_of_ble_eq_true rfl) (c30_e a0 r h)
noncomputable def I77 : Info := { body := (Tryd.f77.body).getD .skip, nt := 29, results := [.tmp 2], keep := [0, 4, 6, 14, 50], live := [(2, [0, 6])], modes := [(4, [(4, .take, false), (10, .take, false)])] }
theorem fk77 : FnOk Tryd.prog 77 Tryd.f77 I77 := ⟨Tryd.func77, by kernel_rfl, by kernel_rfl, by kernel_rfl, by kernel_rfl⟩
def S77_2 (x0 : Str) (x3 : Int) : St := [(0, .v false [.str x0]), (6, .v false [.int .i64 x3])]
theorem p77_2_0 (x0 : Str) (x3 : Int) : rS 2 I77 (S77_2 x0 x3) [Y, Y, Y, Y] [] = dn (xCc false) [(decide ((x3 : Int) < (Ln x0 : Int))) = true, (0 : Int) ≤ x3 ∧ x3 < (Ln x0), (decide ((((gD x0 (tN x3) 0).toNat : Int) : Int) < 32)) = true, true = true, true = true] := by kernel_rfl
theorem p77_2_1 (x0 : Str) (x3 : Int) : rS 2 I77 (S77_2 x0 x3) [Y, F, Y, Y] [] = dn (xCc false) [(decide ((x3 : Int) < (Ln x0 : Int))) = true, (0 : Int) ≤ x3 ∧ x3 < (Ln x0), (decide ((((gD x0 (tN x3) 0).toNat : Int) : Int) < 32)) = false, (0 : Int) ≤ x3 ∧ x3 < (Ln x0), (decide ((((gD x0 (tN x3) 0).toNat : Int) : Int) > 126)) = true, true = true] := by kernel_rfl
theorem p77_2_2 (x0 : Str) (x3 : Int) : rS 2 I77 (S77_2 x0 x3) [Y, F, F, Y] [] = dn (xCc false) [(decide ((x3 : Int) < (Ln x0 : Int))) = true, (0 : Int) ≤ x3 ∧ x3 < (Ln x0), (decide ((((gD x0 (tN x3) 0).toNat : Int) : Int) < 32)) = false, (0 : Int) ≤ x3 ∧ x3 < (Ln x0), (decide ((((gD x0 (tN x3) 0).toNat : Int) : Int) > 126)) = false, (0 : Int) ≤ x3 ∧ x3 < (Ln x0), ((((gD x0 (tN x3) 0).toNat : Int) : Int) == 34) = true] := by kernel_rfl
theorem p77_2_3 (x0 : Str) (x3 : Int) : rS 2 I77 (S77_2 x0 x3) [Y, F, F, F] [] = st 2 I77 (S77_2 x0 (W (x3 + 1))) [(decide ((x3 : Int) < (Ln x0 : Int))) = true, (0 : Int) ≤ x3 ∧ x3 < (Ln x0), (decide ((((gD x0 (tN x3) 0).toNat : Int) : Int) < 32)) = false, (0 : Int) ≤ x3 ∧ x3 < (Ln x0), (decide ((((gD x0 (tN x3) 0).toNat : Int) : Int) > 126)) = false, (0 : Int) ≤ x3 ∧ x3 < (Ln x0), ((((gD x0 (tN x3) 0).toNat : Int) : Int) == 34) = false] := by kernel_rfl
theorem p77_2_4 (x0 : Str) (x3 : Int) : rS 2 I77 (S77_2 x0 x3) [F] [] = dn (xCc (decide (((Ln x0 : Int) : Int) ≤ 20))) [(decide ((x3 : Int) < (Ln x0 : Int))) = false] := by kernel_rfl
theorem p77_e_5 (a0 : Str) : rE I77 (xEB a0) [] [] = st 2 I77 (S77_2 a0 0) [] := by kernel_rfl
theorem c77_2 {N : Nat} : ∀ n x0 x3 r, xCv N n x0 x3 = some r → RS Tryd.f77 I77 2 (S77_2 x0 x3) (xCc r) := by
 intro n
 induction n with
 | zero => exact fun _ _ _ h => nE h
 | succ n ih =>
  exact fun x0 x3 r h =>
   cE h (fun h0 h => iE h fun h1 h => cE h (fun h2 h => dS h fk77 (p77_2_0 x0 x3) (oc h0 (oc h1 (oc h2 (oc rfl (oc rfl on)))))) fun h2 h =>
   cE h (fun h4 h => dS h fk77 (p77_2_1 x0 x3) (oc h0 (oc h1 (oc h2 (oc h1 (oc h4 (oc rfl on))))))) fun h4 h =>
   cE h (fun h6 h => dS h fk77 (p77_2_2 x0 x3) (oc h0 (oc h1 (oc h2 (oc h1 (oc h4 (oc h1 (oc h6 on)))))))) fun h6 h =>
   tS fk77 (p77_2_3 x0 x3) (oc h0 (oc h1 (oc h2 (oc h1 (oc h4 (oc h1 (oc h6 on))))))) (ih _ _ _ h)) fun h0 h =>
   dS h fk77 (p77_2_4 x0 x3) (oc h0 on)
theorem c77_e {N : Nat} : ∀ a0 r, xFu N a0 = some r → RE Tryd.f77 I77 (xEB a0) (xCc r) := fun a0 r h =>
 tE fk77 (p77_e_5 a0) on (c77_2 _ _ _ _ h)
theorem xHQ {N : Nat} {a0 : Str} {r : Bool} (h : xFu N  a0 = some r) : AbC 77 (xEB a0) (xCc r) :=
 AbsCalls.of_reach fk77 rfl rfl (Nat.le_of_ble_eq_true rfl) (c77_e a0 r h)
noncomputable def I86 : Info := { body := (Tryd.f86.body).getD .skip, nt := 16, results := [.tmp 2], keep := [0, 2, 4, 3], live := [], modes := [(1, [(3, .take, false), (8, .take, false)])] }
theorem fk86 : FnOk Tryd.prog 86 Tryd.f86 I86 := ⟨Tryd.func86, by kernel_rfl, by kernel_rfl, by kernel_rfl, by kernel_rfl⟩
theorem p86_e_0 (a0 : Val) : rE I86 (xCX a0) [Y, Y] [] = dn (xBZ true) [(((Val.kind a0) : Int) == 1) = true, true = true] := by kernel_rfl
theorem p86_e_1 (a0 : Val) : rE I86 (xCX a0) [F, Y] [] = dn (xBZ true) [(((Val.kind a0) : Int) == 1) = false, (((Val.kind a0) : Int) == 2) = true] := by kernel_rfl
theorem p86_e_2 (a0 : Val) : rE I86 (xCX a0) [F, F] [] = dn (xBZ (((Val.kind a0) : Int) == 3)) [(((Val.kind a0) : Int) == 1) = false, (((Val.kind a0) : Int) == 2) = false] := by kernel_rfl
theorem c86_e {N : Nat} : ∀ a0 r, xGa N a0 = some r → RE Tryd.f86 I86 (xCX a0) (xBZ r) := fun a0 r h =>
 cE h (fun h0 h => dE h fk86 (p86_e_0 a0) (oc h0 (oc rfl on))) fun h0 h =>
 cE h (fun h1 h => dE h fk86 (p86_e_1 a0) (oc h0 (oc h1 on))) fun h1 h =>
 dE h fk86 (p86_e_2 a0) (oc h0 (oc h1 on))
theorem xF4 {N : Nat} {a0 : Val} {r : Bool} (h : xGa N  a0 = some r) : AbC 86 (xCX a0) (xBZ r) :=
 AbsCalls.of_reach fk86 rfl rfl (Nat.le_of_ble_eq_true rfl) (c86_e a0 r h)
noncomputable def I94 : Info := { body := (Tryd.f94.body).getD .skip, nt := 10, results := [.tmp 4], keep := [0, 2, 8, 14], live := [], modes := [] }
theorem fk94 : FnOk Tryd.prog 94 Tryd.f94 I94 := ⟨Tryd.func94, by kernel_rfl, by kernel_rfl, by kernel_rfl, by kernel_rfl⟩
theorem p94_e_0 (a0 a1 : Int) : rE I94 (xFO a0 a1) [Y] [] = dn (xE8 a0) [(decide ((a0 : Int) > a1)) = true] := by kernel_rfl
theorem p94_e_1 (a0 a1 : Int) : rE I94 (xFO a0 a1) [F] [] = dn (xE8 a1) [(decide ((a0 : Int) > a1)) = false] := by kernel_rfl
theorem c94_e {N : Nat} : ∀ a0 a1 r, xG4 N a0 a1 = some r → RE Tryd.f94 I94 (xFO a0 a1) (xE8 r) := fun a0 a1 r h =>
 cE h (fun h0 h => dE h fk94 (p94_e_0 a0 a1) (oc h0 on)) fun h0 h =>
 dE h fk94 (p94_e_1 a0 a1) (oc h0 on)
theorem spec_l1Max_ok {N : Nat} {a0 : Int} {a1 : Int} {r : Int} (h : xG4 N  a0 a1 = some r) : AbC 94 (xFO a0 a1) (xE8 r) :=
 AbsCalls.of_reach fk94 rfl rfl (Nat.le_of_ble_eq_true rfl) (c94_e a0 a1 r h)
def G87 (q : Val → Option (Int)) : Prop := ∀ a0 r, q a0 = some r → AbC 87 (xD2 a0) (xCK r)
noncomputable def I87 : Info := { body := (Tryd.f87.body).getD .skip, nt := 22, results := [.tmp 2], keep := [0, 2, 4, 6, 8, 18, 3], live := [(3, [2, 6, 8, 3])], modes := [] }
theorem fk87 : FnOk Tryd.prog 87 Tryd.f87 I87 := ⟨Tryd.func87, by kernel_rfl, by kernel_rfl, by kernel_rfl, by kernel_rfl⟩
def S87_3 (x3 x4 : Int) (b1 : Val) : St := [(2, .v false [.ptr 1 0]), (6, .v false [.int .i64 x3]), (8, .v false [.int .i64 x4]), (3, .v true [.int .i64 (Val.kind b1), .int .i64 (Val.n b1), .int .i64 (Val.step b1), .str (Val.text b1), .sl .ro .val (Val.list b1), .sl .ro .str (Val.columns b1), .sl .ro .row (Val.rows b1)])]
theorem p87_3_0 (x3 x4 : Int) (b1 : Val) (r1 r2 : Int) : rS 3 I87 (S87_3 x3 x4 b1) [Y] [xCK r1, xE8 r2] = st 3 I87 (S87_3 r2 (W (x4 + 1)) b1) [(decide ((x4 : Int) < (Ln (Val.list b1) : Int))) = true, (0 : Int) ≤ x4 ∧ x4 < (Ln (Val.list b1)), AbC 87 (xD2 (gD (Val.list b1) (tN x4) vd)) (xCK r1), AbC 94 (xFO x3 r1) (xE8 r2)] := by kernel_rfl
theorem p87_3_1 (x3 x4 : Int) (b1 : Val) : rS 3 I87 (S87_3 x3 x4 b1) [F] [] = dn (xCK (W (x3 + 1))) [(decide ((x4 : Int) < (Ln (Val.list b1) : Int))) = false] := by kernel_rfl
theorem p87_e_2 (a0 : Val) : rE I87 (xD2 a0) [] [] = st 3 I87 (S87_3 0 0 a0) [] := by kernel_rfl
theorem c87_3 {N : Nat} {q0 : Val → Option (Int)} (g0 : G87 q0) : ∀ n x3 x4 b1 r, xEt N q0 n x3 x4 b1 = some r → RS Tryd.f87 I87 3 (S87_3 x3 x4 b1) (xCK r) := by
 intro n
 induction n with
 | zero => exact fun _ _ _ _ h => nE h
 | succ n ih =>
  exact fun x3 x4 b1 r h =>
   cE h (fun h0 h => iE h fun h1 h => bE h fun r1 h2 h => bE h fun r2 h3 h => tS fk87 (p87_3_0 x3 x4 b1 r1 r2) (oc h0 (oc h1 (oc (g0 _ _ h2) (oc (spec_l1Max_ok h3) on)))) (ih _ _ _ _ h)) fun h0 h =>
   dS h fk87 (p87_3_1 x3 x4 b1) (oc h0 on)
theorem c87_e {N : Nat} {q0 : Val → Option (Int)} (g0 : G87 q0) : ∀ a0 r, xFY N q0 a0 = some r → RE Tryd.f87 I87 (xD2 a0) (xCK r) := fun a0 r h =>
 tE fk87 (p87_e_2 a0) on (c87_3 g0 _ _ _ _ _ h)
theorem xHH {N : Nat} {q0 : Val → Option (Int)} (g0 : G87 q0) {a0 : Val} {r : Int} (h : xFY N q0 a0 = some r) : AbC 87 (xD2 a0) (xCK r) :=
 AbsCalls.of_reach fk87 rfl rfl (Nat.le_of_ble_eq_true rfl) (c87_e g0 a0 r h)
theorem xGy {N : Nat} : ∀ d, G87 (xDz N d)
 | 0 => fun _ _ h => nE h
 | d + 1 => fun _ _ h => xHH (N := N) (xGy d) h
theorem spec_DepthOf_ok {N : Nat} {a0 : Val} {r : Int} (h : xGL N a0 = some r) : AbC 87 (xD2 a0) (xCK r) := xGy N _ r h
noncomputable def I51 : Info := { body := (Tryd.f51.body).getD .skip, nt := 45, results := [.tmp 2], keep := [0, 4, 6, 8, 10, 18, 82], live := [(2, [0, 6])], modes := [(4, [(4, .take, false)]), (5, [(4, .take, false)]), (6, [(0, .take, false), (2, .take, false), (5, .take, false), (6, .take, false)])] }
theorem fk51 : FnOk Tryd.prog 51 Tryd.f51 I51 := ⟨Tryd.func51, by kernel_rfl, by kernel_rfl, by kernel_rfl, by kernel_rfl⟩
def xG8 (x0 : Str) (x3 : Int) : St := [(0, .v false [.str x0]), (6, .v false [.int .i64 x3])]
theorem p51_2_0 (x0 : Str) (x3 : Int) : rS 2 I51 (xG8 x0 x3) [Y, Y, Y, Y, Y, Y] [] = dn (xBB false) [(decide ((x3 : Int) < (Ln x0 : Int))) = true, (0 : Int) ≤ x3 ∧ x3 < (Ln x0), (decide ((((gD x0 (tN x3) 0).toNat : Int) : Int) ≥ 97)) = true, (0 : Int) ≤ x3 ∧ x3 < (Ln x0), (0 : Int) ≤ x3 ∧ x3 < (Ln x0), (decide ((((gD x0 (tN x3) 0).toNat : Int) : Int) ≥ 48)) = true, (0 : Int) ≤ x3 ∧ x3 < (Ln x0), (!(decide ((((gD x0 (tN x3) 0).toNat : Int) : Int) ≤ 122))) = true, ((x3 : Int) == 0) = true, true = true] := by kernel_rfl
theorem p51_2_1 (x0 : Str) (x3 : Int) : rS 2 I51 (xG8 x0 x3) [Y, Y, Y, Y, F, Y] [] = dn (xBB false) [(decide ((x3 : Int) < (Ln x0 : Int))) = true, (0 : Int) ≤ x3 ∧ x3 < (Ln x0), (decide ((((gD x0 (tN x3) 0).toNat : Int) : Int) ≥ 97)) = true, (0 : Int) ≤ x3 ∧ x3 < (Ln x0), (0 : Int) ≤ x3 ∧ x3 < (Ln x0), (decide ((((gD x0 (tN x3) 0).toNat : Int) : Int) ≥ 48)) = true, (0 : Int) ≤ x3 ∧ x3 < (Ln x0), (!(decide ((((gD x0 (tN x3) 0).toNat : Int) : Int) ≤ 122))) = true, ((x3 : Int) == 0) = false, (!(decide ((((gD x0 (tN x3) 0).toNat : Int) : Int) ≤ 57))) = true] := by kernel_rfl
theorem p51_2_2 (x0 : Str) (x3 : Int) : rS 2 I51 (xG8 x0 x3) [Y, Y, Y, Y, F, F] [] = st 2 I51 (xG8 x0 (W (x3 + 1))) [(decide ((x3 : Int) < (Ln x0 : Int))) = true, (0 : Int) ≤ x3 ∧ x3 < (Ln x0), (decide ((((gD x0 (tN x3) 0).toNat : Int) : Int) ≥ 97)) = true, (0 : Int) ≤ x3 ∧ x3 < (Ln x0), (0 : Int) ≤ x3 ∧ x3 < (Ln x0), (decide ((((gD x0 (tN x3) 0).toNat : Int) : Int) ≥ 48)) = true, (0 : Int) ≤ x3 ∧ x3 < (Ln x0), (!(decide ((((gD x0 (tN x3) 0).toNat : Int) : Int) ≤ 122))) = true, ((x3 : Int) == 0) = false, (!(decide ((((gD x0 (tN x3) 0).toNat : Int) : Int) ≤ 57))) = false] := by kernel_rfl
theorem p51_2_3 (x0 : Str) (x3 : Int) : rS 2 I51 (xG8 x0 x3) [Y, Y, Y, F, F] [] = st 2 I51 (xG8 x0 (W (x3 + 1))) [(decide ((x3 : Int) < (Ln x0 : Int))) = true, (0 : Int) ≤ x3 ∧ x3 < (Ln x0), (decide ((((gD x0 (tN x3) 0).toNat : Int) : Int) ≥ 97)) = true, (0 : Int) ≤ x3 ∧ x3 < (Ln x0), (0 : Int) ≤ x3 ∧ x3 < (Ln x0), (decide ((((gD x0 (tN x3) 0).toNat : Int) : Int) ≥ 48)) = true, (0 : Int) ≤ x3 ∧ x3 < (Ln x0), (!(decide ((((gD x0 (tN x3) 0).toNat : Int) : Int) ≤ 122))) = false, false = false] := by kernel_rfl
theorem p51_2_4 (x0 : Str) (x3 : Int) : rS 2 I51 (xG8 x0 x3) [Y, Y, F, Y, Y, Y] [] = dn (xBB false) [(decide ((x3 : Int) < (Ln x0 : Int))) = true, (0 : Int) ≤ x3 ∧ x3 < (Ln x0), (decide ((((gD x0 (tN x3) 0).toNat : Int) : Int) ≥ 97)) = true, (0 : Int) ≤ x3 ∧ x3 < (Ln x0), (0 : Int) ≤ x3 ∧ x3 < (Ln x0), (decide ((((gD x0 (tN x3) 0).toNat : Int) : Int) ≥ 48)) = false, (!(decide ((((gD x0 (tN x3) 0).toNat : Int) : Int) ≤ 122))) = true, ((x3 : Int) == 0) = true, true = true] := by kernel_rfl
theorem p51_2_5 (x0 : Str) (x3 : Int) : rS 2 I51 (xG8 x0 x3) [Y, Y, F, Y, F, Y] [] = dn (xBB false) [(decide ((x3 : Int) < (Ln x0 : Int))) = true, (0 : Int) ≤ x3 ∧ x3 < (Ln x0), (decide ((((gD x0 (tN x3) 0).toNat : Int) : Int) ≥ 97)) = true, (0 : Int) ≤ x3 ∧ x3 < (Ln x0), (0 : Int) ≤ x3 ∧ x3 < (Ln x0), (decide ((((gD x0 (tN x3) 0).toNat : Int) : Int) ≥ 48)) = false, (!(decide ((((gD x0 (tN x3) 0).toNat : Int) : Int) ≤ 122))) = true, ((x3 : Int) == 0) = false, (!false) = true] := by kernel_rfl
theorem p51_2_6 (x0 : Str) (x3 : Int) : rS 2 I51 (xG8 x0 x3) [Y, Y, F, F, F] [] = st 2 I51 (xG8 x0 (W (x3 + 1))) [(decide ((x3 : Int) < (Ln x0 : Int))) = true, (0 : Int) ≤ x3 ∧ x3 < (Ln x0), (decide ((((gD x0 (tN x3) 0).toNat : Int) : Int) ≥ 97)) = true, (0 : Int) ≤ x3 ∧ x3 < (Ln x0), (0 : Int) ≤ x3 ∧ x3 < (Ln x0), (decide ((((gD x0 (tN x3) 0).toNat : Int) : Int) ≥ 48)) = false, (!(decide ((((gD x0 (tN x3) 0).toNat : Int) : Int) ≤ 122))) = false, false = false] := by kernel_rfl
theorem p51_2_7 (x0 : Str) (x3 : Int) : rS 2 I51 (xG8 x0 x3) [Y, F, Y, Y, Y, Y] [] = dn (xBB false) [(decide ((x3 : Int) < (Ln x0 : Int))) = true, (0 : Int) ≤ x3 ∧ x3 < (Ln x0), (decide ((((gD x0 (tN x3) 0).toNat : Int) : Int) ≥ 97)) = false, (0 : Int) ≤ x3 ∧ x3 < (Ln x0), (decide ((((gD x0 (tN x3) 0).toNat : Int) : Int) ≥ 48)) = true, (0 : Int) ≤ x3 ∧ x3 < (Ln x0), (!false) = true, ((x3 : Int) == 0) = true, true = true] := by kernel_rfl
theorem p51_2_8 (x0 : Str) (x3 : Int) : rS 2 I51 (xG8 x0 x3) [Y, F, Y, Y, F, Y] [] = dn (xBB false) [(decide ((x3 : Int) < (Ln x0 : Int))) = true, (0 : Int) ≤ x3 ∧ x3 < (Ln x0), (decide ((((gD x0 (tN x3) 0).toNat : Int) : Int) ≥ 97)) = false, (0 : Int) ≤ x3 ∧ x3 < (Ln x0), (decide ((((gD x0 (tN x3) 0).toNat : Int) : Int) ≥ 48)) = true, (0 : Int) ≤ x3 ∧ x3 < (Ln x0), (!false) = true, ((x3 : Int) == 0) = false, (!(decide ((((gD x0 (tN x3) 0).toNat : Int) : Int) ≤ 57))) = true] := by kernel_rfl
theorem p51_2_9 (x0 : Str) (x3 : Int) : rS 2 I51 (xG8 x0 x3) [Y, F, Y, Y, F, F] [] = st 2 I51 (xG8 x0 (W (x3 + 1))) [(decide ((x3 : Int) < (Ln x0 : Int))) = true, (0 : Int) ≤ x3 ∧ x3 < (Ln x0), (decide ((((gD x0 (tN x3) 0).toNat : Int) : Int) ≥ 97)) = false, (0 : Int) ≤ x3 ∧ x3 < (Ln x0), (decide ((((gD x0 (tN x3) 0).toNat : Int) : Int) ≥ 48)) = true, (0 : Int) ≤ x3 ∧ x3 < (Ln x0), (!false) = true, ((x3 : Int) == 0) = false, (!(decide ((((gD x0 (tN x3) 0).toNat : Int) : Int) ≤ 57))) = false] := by kernel_rfl
theorem p51_2_10 (x0 : Str) (x3 : Int) : rS 2 I51 (xG8 x0 x3) [Y, F, F, Y, Y, Y] [] = dn (xBB false) [(decide ((x3 : Int) < (Ln x0 : Int))) = true, (0 : Int) ≤ x3 ∧ x3 < (Ln x0), (decide ((((gD x0 (tN x3) 0).toNat : Int) : Int) ≥ 97)) = false, (0 : Int) ≤ x3 ∧ x3 < (Ln x0), (decide ((((gD x0 (tN x3) 0).toNat : Int) : Int) ≥ 48)) = false, (!false) = true, ((x3 : Int) == 0) = true, true = true] := by kernel_rfl
theorem p51_2_11 (x0 : Str) (x3 : Int) : rS 2 I51 (xG8 x0 x3) [Y, F, F, Y, F, Y] [] = dn (xBB false) [(decide ((x3 : Int) < (Ln x0 : Int))) = true, (0 : Int) ≤ x3 ∧ x3 < (Ln x0), (decide ((((gD x0 (tN x3) 0).toNat : Int) : Int) ≥ 97)) = false, (0 : Int) ≤ x3 ∧ x3 < (Ln x0), (decide ((((gD x0 (tN x3) 0).toNat : Int) : Int) ≥ 48)) = false, (!false) = true, ((x3 : Int) == 0) = false, (!false) = true] := by kernel_rfl
theorem p51_2_12 (x0 : Str) (x3 : Int) : rS 2 I51 (xG8 x0 x3) [F] [] = dn (xBB (decide (((Ln x0 : Int) : Int) > 0))) [(decide ((x3 : Int) < (Ln x0 : Int))) = false] := by kernel_rfl
theorem p51_e_13 (a0 : Str) : rE I51 (xEv a0) [] [] = st 2 I51 (xG8 a0 0) [] := by kernel_rfl
theorem c51_2 {N : Nat} : ∀ n x0 x3 r, xCL N n x0 x3 = some r → RS Tryd.f51 I51 2 (xG8 x0 x3) (xBB r) := by
 intro n
 induction n with
 | zero => exact fun _ _ _ h => nE h
 | succ n ih =>
  exact fun x0 x3 r h =>
   cE h (fun h0 h => iE h fun h1 h => cE h (fun h2 h => cE h (fun h5 h => cE h (fun h7 h => cE h (fun h8 h => dS h fk51 (p51_2_0 x0 x3) (oc h0 (oc h1 (oc h2 (oc h1 (oc h1 (oc h5 (oc h1 (oc h7 (oc h8 (oc rfl on))))))))))) fun h8 h =>
   cE h (fun h9 h => dS h fk51 (p51_2_1 x0 x3) (oc h0 (oc h1 (oc h2 (oc h1 (oc h1 (oc h5 (oc h1 (oc h7 (oc h8 (oc h9 on))))))))))) fun h9 h =>
   tS fk51 (p51_2_2 x0 x3) (oc h0 (oc h1 (oc h2 (oc h1 (oc h1 (oc h5 (oc h1 (oc h7 (oc h8 (oc h9 on)))))))))) (ih _ _ _ h)) fun h7 h =>
   tS fk51 (p51_2_3 x0 x3) (oc h0 (oc h1 (oc h2 (oc h1 (oc h1 (oc h5 (oc h1 (oc h7 (oc rfl on))))))))) (ih _ _ _ h)) fun h5 h =>
   cE h (fun h6 h => cE h (fun h7 h => dS h fk51 (p51_2_4 x0 x3) (oc h0 (oc h1 (oc h2 (oc h1 (oc h1 (oc h5 (oc h6 (oc h7 (oc rfl on)))))))))) fun h7 h =>
   dS h fk51 (p51_2_5 x0 x3) (oc h0 (oc h1 (oc h2 (oc h1 (oc h1 (oc h5 (oc h6 (oc h7 (oc rfl on)))))))))) fun h6 h =>
   tS fk51 (p51_2_6 x0 x3) (oc h0 (oc h1 (oc h2 (oc h1 (oc h1 (oc h5 (oc h6 (oc rfl on)))))))) (ih _ _ _ h)) fun h2 h =>
   cE h (fun h4 h => cE h (fun h7 h => dS h fk51 (p51_2_7 x0 x3) (oc h0 (oc h1 (oc h2 (oc h1 (oc h4 (oc h1 (oc rfl (oc h7 (oc rfl on)))))))))) fun h7 h =>
   cE h (fun h8 h => dS h fk51 (p51_2_8 x0 x3) (oc h0 (oc h1 (oc h2 (oc h1 (oc h4 (oc h1 (oc rfl (oc h7 (oc h8 on)))))))))) fun h8 h =>
   tS fk51 (p51_2_9 x0 x3) (oc h0 (oc h1 (oc h2 (oc h1 (oc h4 (oc h1 (oc rfl (oc h7 (oc h8 on))))))))) (ih _ _ _ h)) fun h4 h =>
   cE h (fun h6 h => dS h fk51 (p51_2_10 x0 x3) (oc h0 (oc h1 (oc h2 (oc h1 (oc h4 (oc rfl (oc h6 (oc rfl on))))))))) fun h6 h =>
   dS h fk51 (p51_2_11 x0 x3) (oc h0 (oc h1 (oc h2 (oc h1 (oc h4 (oc rfl (oc h6 (oc rfl on))))))))) fun h0 h =>
   dS h fk51 (p51_2_12 x0 x3) (oc h0 on)
theorem c51_e {N : Nat} : ∀ a0 r, xGO N a0 = some r → RE Tryd.f51 I51 (xEv a0) (xBB r) := fun a0 r h =>
 tE fk51 (p51_e_13 a0) on (c51_2 _ _ _ _ h)
theorem xGD {N : Nat} {a0 : Str} {r : Bool} (h : xGO N  a0 = some r) : AbC 51 (xEv a0) (xBB r) :=
 AbsCalls.of_reach fk51 rfl rfl (Nat.le_of_ble_eq_true rfl) (c51_e a0 r h)
noncomputable def I65 : Info := { body := (Tryd.f65.body).getD .skip, nt := 2, results := [.tmp 0], keep := [0], live := [], modes := [] }
theorem fk65 : FnOk Tryd.prog 65 Tryd.f65 I65 := ⟨Tryd.func65, by kernel_rfl, by kernel_rfl, by kernel_rfl, by kernel_rfl⟩
theorem p65_e_0 : rE I65 (xEV ) [] [] = dn (xEi [[108, 101, 116], [105, 110], [105, 102], [116, 104, 101, 110], [101, 108, 115, 101], [102, 111, 114], [100, 111], [108, 101, 110], [115, 117, 109], [116, 97, 107, 101], [115, 107, 105, 112], [114, 97, 110, 103, 101], [110, 116, 104], [119, 104, 101, 114, 101], [107, 101, 101, 112], [97, 100, 100], [103, 114, 111, 117, 112], [106, 111, 105, 110], [99, 111, 108, 117, 109, 110], [114, 111, 119, 115], [99, 108, 111, 99, 107], [99, 104, 97, 110, 99, 101], [102, 105, 108, 101], [116, 97, 98, 108, 101]]) [] := by kernel_rfl
theorem c65_e {N : Nat} : ∀ r, xFQ N = some r → RE Tryd.f65 I65 (xEV ) (xEi r) := fun r h =>
 dE h fk65 (p65_e_0) on
theorem spec_l2Reserved_ok {N : Nat} {r : (List Str)} (h : xFQ N   = some r) : AbC 65 (xEV ) (xEi r) :=
 AbsCalls.of_reach fk65 rfl rfl (Nat.le_of_ble_eq_true rfl) (c65_e  r h)
noncomputable def I56 : Info := { body := (Tryd.f56.body).getD .skip, nt := 18, results := [.tmp 4], keep := [0, 2, 8, 10, 18, 34], live := [(2, [0, 2, 10])], modes := [] }
theorem fk56 : FnOk Tryd.prog 56 Tryd.f56 I56 := ⟨Tryd.func56, by kernel_rfl, by kernel_rfl, by kernel_rfl, by kernel_rfl⟩
def S56_2 (x0 : List Str) (x1 : Str) (x5 : Int) : St := [(0, .v false [.sl .ro .str x0]), (2, .v false [.str x1]), (10, .v false [.int .i64 x5])]
theorem p56_2_0 (x0 : List Str) (x1 : Str) (x5 : Int) : rS 2 I56 (S56_2 x0 x1 x5) [Y, Y] [] = dn (xC1 true) [(decide ((x5 : Int) < (Ln x0 : Int))) = true, (0 : Int) ≤ x5 ∧ x5 < (Ln x0), (((gD x0 (tN x5) Ty.str.dflt) : Str) == x1) = true] := by kernel_rfl
theorem p56_2_1 (x0 : List Str) (x1 : Str) (x5 : Int) : rS 2 I56 (S56_2 x0 x1 x5) [Y, F] [] = st 2 I56 (S56_2 x0 x1 (W (x5 + 1))) [(decide ((x5 : Int) < (Ln x0 : Int))) = true, (0 : Int) ≤ x5 ∧ x5 < (Ln x0), (((gD x0 (tN x5) Ty.str.dflt) : Str) == x1) = false] := by kernel_rfl
theorem p56_2_2 (x0 : List Str) (x1 : Str) (x5 : Int) : rS 2 I56 (S56_2 x0 x1 x5) [F] [] = dn (xC1 false) [(decide ((x5 : Int) < (Ln x0 : Int))) = false] := by kernel_rfl
theorem p56_e_3 (a0 : List Str) (a1 : Str) : rE I56 (xE7 a0 a1) [] [] = st 2 I56 (S56_2 a0 a1 0) [] := by kernel_rfl
theorem c56_2 {N : Nat} : ∀ n x0 x1 x5 r, xEE N n x0 x1 x5 = some r → RS Tryd.f56 I56 2 (S56_2 x0 x1 x5) (xC1 r) := by
 intro n
 induction n with
 | zero => exact fun _ _ _ _ h => nE h
 | succ n ih =>
  exact fun x0 x1 x5 r h =>
   cE h (fun h0 h => iE h fun h1 h => cE h (fun h2 h => dS h fk56 (p56_2_0 x0 x1 x5) (oc h0 (oc h1 (oc h2 on)))) fun h2 h =>
   tS fk56 (p56_2_1 x0 x1 x5) (oc h0 (oc h1 (oc h2 on))) (ih _ _ _ _ h)) fun h0 h =>
   dS h fk56 (p56_2_2 x0 x1 x5) (oc h0 on)
theorem c56_e {N : Nat} : ∀ a0 a1 r, xG3 N a0 a1 = some r → RE Tryd.f56 I56 (xE7 a0 a1) (xC1 r) := fun a0 a1 r h =>
 tE fk56 (p56_e_3 a0 a1) on (c56_2 _ _ _ _ _ h)
theorem xHc {N : Nat} {a0 : List Str} {a1 : Str} {r : Bool} (h : xG3 N  a0 a1 = some r) : AbC 56 (xE7 a0 a1) (xC1 r) :=
 AbsCalls.of_reach fk56 rfl rfl (Nat.le_of_ble_eq_true rfl) (c56_e a0 a1 r h)
noncomputable def I52 : Info := { body := (Tryd.f52.body).getD .skip, nt := 6, results := [.tmp 2], keep := [0, 4], live := [], modes := [] }
theorem fk52 : FnOk Tryd.prog 52 Tryd.f52 I52 := ⟨Tryd.func52, by kernel_rfl, by kernel_rfl, by kernel_rfl, by kernel_rfl⟩
theorem p52_e_0 (a0 : Str) (r1 : (List Str)) (r2 : Bool) : rE I52 (xEU a0) [] [xEi r1, xC1 r2] = dn (xEh r2) [AbC 65 xEV (xEi r1), AbC 56 (xE7 r1 a0) (xC1 r2)] := by kernel_rfl
theorem c52_e {N : Nat} : ∀ a0 r, xE0 N a0 = some r → RE Tryd.f52 I52 (xEU a0) (xEh r) := fun a0 r h =>
 bE h fun r1 h0 h => bE h fun r2 h1 h => dE h fk52 (p52_e_0 a0 r1 r2) (oc (spec_l2Reserved_ok h0) (oc (xHc h1) on))
theorem spec_IsReserved_ok {N : Nat} {a0 : Str} {r : Bool} (h : xE0 N  a0 = some r) : AbC 52 (xEU a0) (xEh r) :=
 AbsCalls.of_reach fk52 rfl rfl (Nat.le_of_ble_eq_true rfl) (c52_e a0 r h)
noncomputable def I27 : Info := { body := (Tryd.f27.body).getD .skip, nt := 15, results := [.tmp 2], keep := [0, 4], live := [], modes := [(1, [(2, .take, false), (7, .take, false)])] }
theorem fk27 : FnOk Tryd.prog 27 Tryd.f27 I27 := ⟨Tryd.func27, by kernel_rfl, by kernel_rfl, by kernel_rfl, by kernel_rfl⟩
theorem p27_e_0 (a0 : Str) (r1 r2 : Bool) : rE I27 (xBC a0) [Y, Y] [xBB r1, xEh r2] = dn (xA2 (!r2)) [AbC 51 (xEv a0) (xBB r1), r1 = true, (decide (((Ln a0 : Int) : Int) ≤ 8)) = true, AbC 52 (xEU a0) (xEh r2)] := by kernel_rfl
theorem p27_e_1 (a0 : Str) (r1 : Bool) : rE I27 (xBC a0) [Y, F] [xBB r1] = dn (xA2 false) [AbC 51 (xEv a0) (xBB r1), r1 = true, (decide (((Ln a0 : Int) : Int) ≤ 8)) = false] := by kernel_rfl
theorem p27_e_2 (a0 : Str) (r1 : Bool) : rE I27 (xBC a0) [F, F] [xBB r1] = dn (xA2 false) [AbC 51 (xEv a0) (xBB r1), r1 = false, false = false] := by kernel_rfl
theorem c27_e {N : Nat} : ∀ a0 r, xEd N a0 = some r → RE Tryd.f27 I27 (xBC a0) (xA2 r) := fun a0 r h =>
 bE h fun r1 h0 h => cE h (fun h1 h => cE h (fun h2 h => bE h fun r2 h3 h => dE h fk27 (p27_e_0 a0 r1 r2) (oc (xGD h0) (oc h1 (oc h2 (oc (spec_IsReserved_ok h3) on))))) fun h2 h =>
 dE h fk27 (p27_e_1 a0 r1) (oc (xGD h0) (oc h1 (oc h2 on)))) fun h1 h =>
 dE h fk27 (p27_e_2 a0 r1) (oc (xGD h0) (oc h1 (oc rfl on)))
theorem xCu {N : Nat} {a0 : Str} {r : Bool} (h : xEd N  a0 = some r) : AbC 27 (xBC a0) (xA2 r) :=
 AbsCalls.of_reach fk27 rfl rfl (Nat.le_of_ble_eq_true rfl) (c27_e a0 r h)
noncomputable def I35 : Info := { body := (Tryd.f35.body).getD .skip, nt := 18, results := [.tmp 2], keep := [0, 4, 6, 14, 34], live := [(2, [0, 6])], modes := [] }
theorem fk35 : FnOk Tryd.prog 35 Tryd.f35 I35 := ⟨Tryd.func35, by kernel_rfl, by kernel_rfl, by kernel_rfl, by kernel_rfl⟩
def S35_2 (x0 : List Str) (x3 : Int) : St := [(0, .v false [.sl .ro .str x0]), (6, .v false [.int .i64 x3])]
theorem p35_2_0 (x0 : List Str) (x3 : Int) (r1 : Bool) : rS 2 I35 (S35_2 x0 x3) [Y, Y] [xC1 r1] = dn (xBK false) [(decide ((x3 : Int) < (Ln x0 : Int))) = true, (0 : Int) ≤ x3 ∧ x3 ≤ (Ln x0), (0 : Int) ≤ x3 ∧ x3 < (Ln x0), AbC 56 (xE7 (List.take (tN x3) x0) (gD x0 (tN x3) Ty.str.dflt)) (xC1 r1), r1 = true] := by kernel_rfl
theorem p35_2_1 (x0 : List Str) (x3 : Int) (r1 : Bool) : rS 2 I35 (S35_2 x0 x3) [Y, F] [xC1 r1] = st 2 I35 (S35_2 x0 (W (x3 + 1))) [(decide ((x3 : Int) < (Ln x0 : Int))) = true, (0 : Int) ≤ x3 ∧ x3 ≤ (Ln x0), (0 : Int) ≤ x3 ∧ x3 < (Ln x0), AbC 56 (xE7 (List.take (tN x3) x0) (gD x0 (tN x3) Ty.str.dflt)) (xC1 r1), r1 = false] := by kernel_rfl
theorem p35_2_2 (x0 : List Str) (x3 : Int) : rS 2 I35 (S35_2 x0 x3) [F] [] = dn (xBK true) [(decide ((x3 : Int) < (Ln x0 : Int))) = false] := by kernel_rfl
theorem p35_e_3 (a0 : List Str) : rE I35 (xDf a0) [] [] = st 2 I35 (S35_2 a0 0) [] := by kernel_rfl
theorem c35_2 {N : Nat} : ∀ n x0 x3 r, xCS N n x0 x3 = some r → RS Tryd.f35 I35 2 (S35_2 x0 x3) (xBK r) := by
 intro n
 induction n with
 | zero => exact fun _ _ _ h => nE h
 | succ n ih =>
  exact fun x0 x3 r h =>
   cE h (fun h0 h => iE h fun h1 h => iE h fun h2 h => bE h fun r1 h3 h => cE h (fun h4 h => dS h fk35 (p35_2_0 x0 x3 r1) (oc h0 (oc h1 (oc h2 (oc (xHc h3) (oc h4 on)))))) fun h4 h =>
   tS fk35 (p35_2_1 x0 x3 r1) (oc h0 (oc h1 (oc h2 (oc (xHc h3) (oc h4 on))))) (ih _ _ _ h)) fun h0 h =>
   dS h fk35 (p35_2_2 x0 x3) (oc h0 on)
theorem c35_e {N : Nat} : ∀ a0 r, xEH N a0 = some r → RE Tryd.f35 I35 (xDf a0) (xBK r) := fun a0 r h =>
 tE fk35 (p35_e_3 a0) on (c35_2 _ _ _ _ h)
theorem xFA {N : Nat} {a0 : List Str} {r : Bool} (h : xEH N  a0 = some r) : AbC 35 (xDf a0) (xBK r) :=
 AbsCalls.of_reach fk35 rfl rfl (Nat.le_of_ble_eq_true rfl) (c35_e a0 r h)
noncomputable def I88 : Info := { body := (Tryd.f88.body).getD .skip, nt := 23, results := [.tmp 2], keep := [0, 4, 6, 14, 30], live := [(2, [0, 6])], modes := [(6, [(3, .take, false)])] }
theorem fk88 : FnOk Tryd.prog 88 Tryd.f88 I88 := ⟨Tryd.func88, by kernel_rfl, by kernel_rfl, by kernel_rfl, by kernel_rfl⟩
def S88_2 (x0 : List Str) (x3 : Int) : St := [(0, .v false [.sl .ro .str x0]), (6, .v false [.int .i64 x3])]
theorem p88_2_0 (x0 : List Str) (x3 : Int) (r1 : Bool) : rS 2 I88 (S88_2 x0 x3) [Y, Y] [xA2 r1] = dn (xBP false) [(decide ((x3 : Int) < (Ln x0 : Int))) = true, (0 : Int) ≤ x3 ∧ x3 < (Ln x0), AbC 27 (xBC (gD x0 (tN x3) Ty.str.dflt)) (xA2 r1), (!r1) = true] := by kernel_rfl
theorem p88_2_1 (x0 : List Str) (x3 : Int) (r1 : Bool) : rS 2 I88 (S88_2 x0 x3) [Y, F] [xA2 r1] = st 2 I88 (S88_2 x0 (W (x3 + 1))) [(decide ((x3 : Int) < (Ln x0 : Int))) = true, (0 : Int) ≤ x3 ∧ x3 < (Ln x0), AbC 27 (xBC (gD x0 (tN x3) Ty.str.dflt)) (xA2 r1), (!r1) = false] := by kernel_rfl
theorem p88_2_2 (x0 : List Str) (x3 : Int) (r1 r2 : Bool) : rS 2 I88 (S88_2 x0 x3) [F, Y] [xC8 r1, xBK r2] = dn (xBP r2) [(decide ((x3 : Int) < (Ln x0 : Int))) = false, AbC 54 (xEz (Ln x0 : Int) 1 4) (xC8 r1), r1 = true, AbC 35 (xDf x0) (xBK r2)] := by kernel_rfl
theorem p88_2_3 (x0 : List Str) (x3 : Int) (r1 : Bool) : rS 2 I88 (S88_2 x0 x3) [F, F] [xC8 r1] = dn (xBP false) [(decide ((x3 : Int) < (Ln x0 : Int))) = false, AbC 54 (xEz (Ln x0 : Int) 1 4) (xC8 r1), r1 = false] := by kernel_rfl
theorem p88_e_4 (a0 : List Str) : rE I88 (xDO a0) [] [] = st 2 I88 (S88_2 a0 0) [] := by kernel_rfl
theorem c88_2 {N : Nat} : ∀ n x0 x3 r, xDP N n x0 x3 = some r → RS Tryd.f88 I88 2 (S88_2 x0 x3) (xBP r) := by
 intro n
 induction n with
 | zero => exact fun _ _ _ h => nE h
 | succ n ih =>
  exact fun x0 x3 r h =>
   cE h (fun h0 h => iE h fun h1 h => bE h fun r1 h2 h => cE h (fun h3 h => dS h fk88 (p88_2_0 x0 x3 r1) (oc h0 (oc h1 (oc (xCu h2) (oc h3 on))))) fun h3 h =>
   tS fk88 (p88_2_1 x0 x3 r1) (oc h0 (oc h1 (oc (xCu h2) (oc h3 on)))) (ih _ _ _ h)) fun h0 h =>
   bE h fun r1 h1 h => cE h (fun h2 h => bE h fun r2 h3 h => dS h fk88 (p88_2_2 x0 x3 r1 r2) (oc h0 (oc (xGN h1) (oc h2 (oc (xFA h3) on))))) fun h2 h =>
   dS h fk88 (p88_2_3 x0 x3 r1) (oc h0 (oc (xGN h1) (oc h2 on)))
theorem c88_e {N : Nat} : ∀ a0 r, xF9 N a0 = some r → RE Tryd.f88 I88 (xDO a0) (xBP r) := fun a0 r h =>
 tE fk88 (p88_e_4 a0) on (c88_2 _ _ _ _ h)
theorem xF2 {N : Nat} {a0 : List Str} {r : Bool} (h : xF9 N  a0 = some r) : AbC 88 (xDO a0) (xBP r) :=
 AbsCalls.of_reach fk88 rfl rfl (Nat.le_of_ble_eq_true rfl) (c88_e a0 r h)
noncomputable def I95 : Info := { body := (Tryd.f95.body).getD .skip, nt := 24, results := [.tmp 4], keep := [0, 2, 4, 6, 8, 5, 7], live := [], modes := [(1, [(5, .take, false), (11, .take, false)])] }
theorem fk95 : FnOk Tryd.prog 95 Tryd.f95 I95 := ⟨Tryd.func95, by kernel_rfl, by kernel_rfl, by kernel_rfl, by kernel_rfl⟩
theorem p95_e_0 (a0 a1 : Org) : rE I95 (xDA a0 a1) [Y] [] = dn (xCQ true) [(decide (((Org.cell a0) : Int) < (Org.cell a1))) = true] := by kernel_rfl
theorem p95_e_1 (a0 a1 : Org) : rE I95 (xDA a0 a1) [F, Y] [] = dn (xCQ (decide (((Org.row a0) : Int) < (Org.row a1)))) [(decide (((Org.cell a0) : Int) < (Org.cell a1))) = false, (((Org.cell a0) : Int) == (Org.cell a1)) = true] := by kernel_rfl
theorem p95_e_2 (a0 a1 : Org) : rE I95 (xDA a0 a1) [F, F] [] = dn (xCQ false) [(decide (((Org.cell a0) : Int) < (Org.cell a1))) = false, (((Org.cell a0) : Int) == (Org.cell a1)) = false] := by kernel_rfl
theorem c95_e {N : Nat} : ∀ a0 a1 r, xFR N a0 a1 = some r → RE Tryd.f95 I95 (xDA a0 a1) (xCQ r) := fun a0 a1 r h =>
 cE h (fun h0 h => dE h fk95 (p95_e_0 a0 a1) (oc h0 on)) fun h0 h =>
 cE h (fun h1 h => dE h fk95 (p95_e_1 a0 a1) (oc h0 (oc h1 on))) fun h1 h =>
 dE h fk95 (p95_e_2 a0 a1) (oc h0 (oc h1 on))
theorem xHk {N : Nat} {a0 : Org} {a1 : Org} {r : Bool} (h : xFR N  a0 a1 = some r) : AbC 95 (xDA a0 a1) (xCQ r) :=
 AbsCalls.of_reach fk95 rfl rfl (Nat.le_of_ble_eq_true rfl) (c95_e a0 a1 r h)
noncomputable def I89 : Info := { body := (Tryd.f89.body).getD .skip, nt := 41, results := [.tmp 2], keep := [0, 4, 6, 14, 80], live := [(2, [0, 6])], modes := [(4, [(6, .take, false), (14, .take, false), (17, .take, false)])] }
theorem fk89 : FnOk Tryd.prog 89 Tryd.f89 I89 := ⟨Tryd.func89, by kernel_rfl, by kernel_rfl, by kernel_rfl, by kernel_rfl⟩
def S89_2 (x0 : List Org) (x3 : Int) : St := [(0, .v false [.sl .ro .org x0]), (6, .v false [.int .i64 x3])]
theorem p89_2_0 (x0 : List Org) (x3 : Int) : rS 2 I89 (S89_2 x0 x3) [Y, Y, Y, Y] [] = dn (xBL false) [(decide ((x3 : Int) < (Ln x0 : Int))) = true, (0 : Int) ≤ x3 ∧ x3 < (Ln x0), (decide (((Org.cell (gD x0 (tN x3) Ty.org.dflt)) : Int) < 0)) = true, true = true, true = true] := by kernel_rfl
theorem p89_2_1 (x0 : List Org) (x3 : Int) : rS 2 I89 (S89_2 x0 x3) [Y, F, Y, Y] [] = dn (xBL false) [(decide ((x3 : Int) < (Ln x0 : Int))) = true, (0 : Int) ≤ x3 ∧ x3 < (Ln x0), (decide (((Org.cell (gD x0 (tN x3) Ty.org.dflt)) : Int) < 0)) = false, (0 : Int) ≤ x3 ∧ x3 < (Ln x0), (decide (((Org.row (gD x0 (tN x3) Ty.org.dflt)) : Int) < 0)) = true, true = true] := by kernel_rfl
theorem p89_2_2 (x0 : List Org) (x3 : Int) (r1 : Bool) : rS 2 I89 (S89_2 x0 x3) [Y, F, F, Y, Y] [xCQ r1] = dn (xBL false) [(decide ((x3 : Int) < (Ln x0 : Int))) = true, (0 : Int) ≤ x3 ∧ x3 < (Ln x0), (decide (((Org.cell (gD x0 (tN x3) Ty.org.dflt)) : Int) < 0)) = false, (0 : Int) ≤ x3 ∧ x3 < (Ln x0), (decide (((Org.row (gD x0 (tN x3) Ty.org.dflt)) : Int) < 0)) = false, (decide ((x3 : Int) > 0)) = true, (0 : Int) ≤ (W (x3 - 1)) ∧ (W (x3 - 1)) < (Ln x0), (0 : Int) ≤ x3 ∧ x3 < (Ln x0), AbC 95 (xDA (gD x0 (tN (W (x3 - 1))) Ty.org.dflt) (gD x0 (tN x3) Ty.org.dflt)) (xCQ r1), (!r1) = true] := by kernel_rfl
theorem p89_2_3 (x0 : List Org) (x3 : Int) (r1 : Bool) : rS 2 I89 (S89_2 x0 x3) [Y, F, F, Y, F] [xCQ r1] = st 2 I89 (S89_2 x0 (W (x3 + 1))) [(decide ((x3 : Int) < (Ln x0 : Int))) = true, (0 : Int) ≤ x3 ∧ x3 < (Ln x0), (decide (((Org.cell (gD x0 (tN x3) Ty.org.dflt)) : Int) < 0)) = false, (0 : Int) ≤ x3 ∧ x3 < (Ln x0), (decide (((Org.row (gD x0 (tN x3) Ty.org.dflt)) : Int) < 0)) = false, (decide ((x3 : Int) > 0)) = true, (0 : Int) ≤ (W (x3 - 1)) ∧ (W (x3 - 1)) < (Ln x0), (0 : Int) ≤ x3 ∧ x3 < (Ln x0), AbC 95 (xDA (gD x0 (tN (W (x3 - 1))) Ty.org.dflt) (gD x0 (tN x3) Ty.org.dflt)) (xCQ r1), (!r1) = false] := by kernel_rfl
theorem p89_2_4 (x0 : List Org) (x3 : Int) : rS 2 I89 (S89_2 x0 x3) [Y, F, F, F, F] [] = st 2 I89 (S89_2 x0 (W (x3 + 1))) [(decide ((x3 : Int) < (Ln x0 : Int))) = true, (0 : Int) ≤ x3 ∧ x3 < (Ln x0), (decide (((Org.cell (gD x0 (tN x3) Ty.org.dflt)) : Int) < 0)) = false, (0 : Int) ≤ x3 ∧ x3 < (Ln x0), (decide (((Org.row (gD x0 (tN x3) Ty.org.dflt)) : Int) < 0)) = false, (decide ((x3 : Int) > 0)) = false, false = false] := by kernel_rfl
theorem p89_2_5 (x0 : List Org) (x3 : Int) : rS 2 I89 (S89_2 x0 x3) [F] [] = dn (xBL true) [(decide ((x3 : Int) < (Ln x0 : Int))) = false] := by kernel_rfl
theorem p89_e_6 (a0 : List Org) : rE I89 (xD7 a0) [] [] = st 2 I89 (S89_2 a0 0) [] := by kernel_rfl
theorem c89_2 {N : Nat} : ∀ n x0 x3 r, xCw N n x0 x3 = some r → RS Tryd.f89 I89 2 (S89_2 x0 x3) (xBL r) := by
 intro n
 induction n with
 | zero => exact fun _ _ _ h => nE h
 | succ n ih =>
  exact fun x0 x3 r h =>
   cE h (fun h0 h => iE h fun h1 h => cE h (fun h2 h => dS h fk89 (p89_2_0 x0 x3) (oc h0 (oc h1 (oc h2 (oc rfl (oc rfl on)))))) fun h2 h =>
   cE h (fun h4 h => dS h fk89 (p89_2_1 x0 x3) (oc h0 (oc h1 (oc h2 (oc h1 (oc h4 (oc rfl on))))))) fun h4 h =>
   cE h (fun h5 h => iE h fun h6 h => bE h fun r1 h8 h => cE h (fun h9 h => dS h fk89 (p89_2_2 x0 x3 r1) (oc h0 (oc h1 (oc h2 (oc h1 (oc h4 (oc h5 (oc h6 (oc h1 (oc (xHk h8) (oc h9 on))))))))))) fun h9 h =>
   tS fk89 (p89_2_3 x0 x3 r1) (oc h0 (oc h1 (oc h2 (oc h1 (oc h4 (oc h5 (oc h6 (oc h1 (oc (xHk h8) (oc h9 on)))))))))) (ih _ _ _ h)) fun h5 h =>
   tS fk89 (p89_2_4 x0 x3) (oc h0 (oc h1 (oc h2 (oc h1 (oc h4 (oc h5 (oc rfl on))))))) (ih _ _ _ h)) fun h0 h =>
   dS h fk89 (p89_2_5 x0 x3) (oc h0 on)
theorem c89_e {N : Nat} : ∀ a0 r, xFv N a0 = some r → RE Tryd.f89 I89 (xD7 a0) (xBL r) := fun a0 r h =>
 tE fk89 (p89_e_6 a0) on (c89_2 _ _ _ _ h)
theorem xGE {N : Nat} {a0 : List Org} {r : Bool} (h : xFv N  a0 = some r) : AbC 89 (xD7 a0) (xBL r) :=
 AbsCalls.of_reach fk89 rfl rfl (Nat.le_of_ble_eq_true rfl) (c89_e a0 r h)
noncomputable def I79 : Info := { body := (Tryd.f79.body).getD .skip, nt := 55, results := [.tmp 2], keep := [0, 2, 4, 6, 8, 10, 30, 40, 80, 90, 108, 3, 9], live := [(4, [2, 6, 3]), (10, [2, 6, 8, 10, 3, 9])], modes := [(1, [(4, .take, false)]), (7, [(7, .take, false)])] }
theorem fk79 : FnOk Tryd.prog 79 Tryd.f79 I79 := ⟨Tryd.func79, by kernel_rfl, by kernel_rfl, by kernel_rfl, by kernel_rfl⟩
def S79_4 (x3 : Int) (b1 : Val) : St := [(2, .v false [.ptr 1 0]), (6, .v false [.int .i64 x3]), (3, .v true [.int .i64 (Val.kind b1), .int .i64 (Val.n b1), .int .i64 (Val.step b1), .str (Val.text b1), .sl .ro .val (Val.list b1), .sl .ro .str (Val.columns b1), .sl .ro .row (Val.rows b1)])]
def S79_10 (x3 x5 : Int) (b1 : Val) (b4 : Rowd) : St := [(2, .v false [.ptr 1 0]), (6, .v false [.int .i64 x3]), (8, .v false [.ptr 4 0]), (10, .v false [.int .i64 x5]), (3, .v true [.int .i64 (Val.kind b1), .int .i64 (Val.n b1), .int .i64 (Val.step b1), .str (Val.text b1), .sl .ro .val (Val.list b1), .sl .ro .str (Val.columns b1), .sl .ro .row (Val.rows b1)]), (9, .v true [.sl .ro .int (Rowd.cells b4), .sl .ro .org (Rowd.frm b4)])]
theorem p79_10_0 (x3 x5 : Int) (b1 : Val) (b4 : Rowd) (r1 : Bool) : rS 10 I79 (S79_10 x3 x5 b1 b4) [Y, Y] [xBq r1] = dn (xB0 false) [(decide ((x5 : Int) < (Ln (Rowd.cells b4) : Int))) = true, (0 : Int) ≤ x5 ∧ x5 < (Ln (Rowd.cells b4)), AbC 30 (xCh (gD (Rowd.cells b4) (tN x5) Ty.int.dflt)) (xBq r1), (!r1) = true] := by kernel_rfl
theorem p79_10_1 (x3 x5 : Int) (b1 : Val) (b4 : Rowd) (r1 : Bool) : rS 10 I79 (S79_10 x3 x5 b1 b4) [Y, F] [xBq r1] = st 10 I79 (S79_10 x3 (W (x5 + 1)) b1 b4) [(decide ((x5 : Int) < (Ln (Rowd.cells b4) : Int))) = true, (0 : Int) ≤ x5 ∧ x5 < (Ln (Rowd.cells b4)), AbC 30 (xCh (gD (Rowd.cells b4) (tN x5) Ty.int.dflt)) (xBq r1), (!r1) = false] := by kernel_rfl
theorem p79_10_2 (x3 x5 : Int) (b1 : Val) (b4 : Rowd) : rS 10 I79 (S79_10 x3 x5 b1 b4) [F] [] = st 4 I79 (S79_4 (W (x3 + 1)) b1) [(decide ((x5 : Int) < (Ln (Rowd.cells b4) : Int))) = false] := by kernel_rfl
theorem p79_4_3 (x3 : Int) (b1 : Val) : rS 4 I79 (S79_4 x3 b1) [Y, Y, Y] [] = dn (xB0 false) [(decide ((x3 : Int) < (Ln (Val.rows b1) : Int))) = true, (0 : Int) ≤ x3 ∧ x3 < (Ln (Val.rows b1)), (((Ln (Rowd.cells (gD (Val.rows b1) (tN x3) rd)) : Int) : Int) != (Ln (Val.columns b1) : Int)) = true, true = true] := by kernel_rfl
theorem p79_4_4 (x3 : Int) (b1 : Val) (r1 : Bool) : rS 4 I79 (S79_4 x3 b1) [Y, F, Y] [xBL r1] = dn (xB0 false) [(decide ((x3 : Int) < (Ln (Val.rows b1) : Int))) = true, (0 : Int) ≤ x3 ∧ x3 < (Ln (Val.rows b1)), (((Ln (Rowd.cells (gD (Val.rows b1) (tN x3) rd)) : Int) : Int) != (Ln (Val.columns b1) : Int)) = false, AbC 89 (xD7 (Rowd.frm (gD (Val.rows b1) (tN x3) rd))) (xBL r1), (!r1) = true] := by kernel_rfl
theorem p79_4_5 (x3 : Int) (b1 : Val) (r1 : Bool) : rS 4 I79 (S79_4 x3 b1) [Y, F, F] [xBL r1] = st 10 I79 (S79_10 x3 0 b1 (gD (Val.rows b1) (tN x3) rd)) [(decide ((x3 : Int) < (Ln (Val.rows b1) : Int))) = true, (0 : Int) ≤ x3 ∧ x3 < (Ln (Val.rows b1)), (((Ln (Rowd.cells (gD (Val.rows b1) (tN x3) rd)) : Int) : Int) != (Ln (Val.columns b1) : Int)) = false, AbC 89 (xD7 (Rowd.frm (gD (Val.rows b1) (tN x3) rd))) (xBL r1), (!r1) = false] := by kernel_rfl
theorem p79_4_6 (x3 : Int) (b1 : Val) : rS 4 I79 (S79_4 x3 b1) [F] [] = dn (xB0 true) [(decide ((x3 : Int) < (Ln (Val.rows b1) : Int))) = false] := by kernel_rfl
theorem p79_e_7 (a0 : Val) (r1 : Bool) : rE I79 (xEw a0) [Y, Y] [xBP r1] = dn (xB0 false) [AbC 88 (xDO (Val.columns a0)) (xBP r1), (!r1) = true, true = true] := by kernel_rfl
theorem p79_e_8 (a0 : Val) (r1 : Bool) : rE I79 (xEw a0) [F, Y] [xBP r1] = dn (xB0 false) [AbC 88 (xDO (Val.columns a0)) (xBP r1), (!r1) = false, (decide (((Ln (Val.rows a0) : Int) : Int) > 12)) = true] := by kernel_rfl
theorem p79_e_9 (a0 : Val) (r1 : Bool) : rE I79 (xEw a0) [F, F] [xBP r1] = st 4 I79 (S79_4 0 a0) [AbC 88 (xDO (Val.columns a0)) (xBP r1), (!r1) = false, (decide (((Ln (Val.rows a0) : Int) : Int) > 12)) = false] := by kernel_rfl
theorem c79_10 {N : Nat} {k4 : Int → Val → Option (Bool)} (hk4 : ∀ z0 z1 r, k4 z0 z1 = some r → RS Tryd.f79 I79 4 (S79_4 z0 z1) (xB0 r)) : ∀ n x3 x5 b1 b4 r, xDB N k4 n x3 x5 b1 b4 = some r → RS Tryd.f79 I79 10 (S79_10 x3 x5 b1 b4) (xB0 r) := by
 intro n
 induction n with
 | zero => exact fun _ _ _ _ _ h => nE h
 | succ n ih =>
  exact fun x3 x5 b1 b4 r h =>
   cE h (fun h0 h => iE h fun h1 h => bE h fun r1 h2 h => cE h (fun h3 h => dS h fk79 (p79_10_0 x3 x5 b1 b4 r1) (oc h0 (oc h1 (oc (xC9 h2) (oc h3 on))))) fun h3 h =>
   tS fk79 (p79_10_1 x3 x5 b1 b4 r1) (oc h0 (oc h1 (oc (xC9 h2) (oc h3 on)))) (ih _ _ _ _ _ h)) fun h0 h =>
   tS fk79 (p79_10_2 x3 x5 b1 b4) (oc h0 on) (hk4 _ _ _ h)
theorem c79_4 {N : Nat} : ∀ n x3 b1 r, xD9 N n x3 b1 = some r → RS Tryd.f79 I79 4 (S79_4 x3 b1) (xB0 r) := by
 intro n
 induction n with
 | zero => exact fun _ _ _ h => nE h
 | succ n ih =>
  exact fun x3 b1 r h =>
   cE h (fun h0 h => iE h fun h1 h => cE h (fun h2 h => dS h fk79 (p79_4_3 x3 b1) (oc h0 (oc h1 (oc h2 (oc rfl on))))) fun h2 h =>
   bE h fun r1 h3 h => cE h (fun h4 h => dS h fk79 (p79_4_4 x3 b1 r1) (oc h0 (oc h1 (oc h2 (oc (xGE h3) (oc h4 on)))))) fun h4 h =>
   tS fk79 (p79_4_5 x3 b1 r1) (oc h0 (oc h1 (oc h2 (oc (xGE h3) (oc h4 on))))) (c79_10 ih _ _ _ _ _ _ h)) fun h0 h =>
   dS h fk79 (p79_4_6 x3 b1) (oc h0 on)
theorem c79_e {N : Nat} : ∀ a0 r, xGh N a0 = some r → RE Tryd.f79 I79 (xEw a0) (xB0 r) := fun a0 r h =>
 bE h fun r1 h0 h => cE h (fun h1 h => dE h fk79 (p79_e_7 a0 r1) (oc (xF2 h0) (oc h1 (oc rfl on)))) fun h1 h =>
 cE h (fun h2 h => dE h fk79 (p79_e_8 a0 r1) (oc (xF2 h0) (oc h1 (oc h2 on)))) fun h2 h =>
 tE fk79 (p79_e_9 a0 r1) (oc (xF2 h0) (oc h1 (oc h2 on))) (c79_4 _ _ _ _ h)
theorem spec_l3Table_ok {N : Nat} {a0 : Val} {r : Bool} (h : xGh N  a0 = some r) : AbC 79 (xEw a0) (xB0 r) :=
 AbsCalls.of_reach fk79 rfl rfl (Nat.le_of_ble_eq_true rfl) (c79_e a0 r h)
end Go.Ab.T
end
section
open Go.Proofs
namespace Go.Ab.T
set_option linter.unusedVariables false
set_option maxRecDepth 100000
variable [Inhabited Lb]
def G64 (q : Val → Option (Bool)) : Prop := ∀ a0 r, q a0 = some r → AbC 64 (xAM a0) (xAJ r)
def G78 (q : Val → Option (Bool)) : Prop := ∀ a0 r, q a0 = some r → AbC 78 (xFo a0) (xCY r)
noncomputable def I64 : Info := { body := (Tryd.f64.body).getD .skip, nt := 95, results := [.tmp 2], keep := [0, 2, 4, 52, 88, 92, 94, 104, 124, 142, 162, 180, 3], live := [], modes := [(1, [(3, .take, false), (9, .take, false), (13, .take, false)]), (3, [(3, .take, false), (8, .take, false), (12, .take, false)]), (9, [(3, .take, false)]), (11, [(3, .take, false)]), (13, [(3, .take, false)]), (15, [(3, .take, false)])] }
theorem fk64 : FnOk Tryd.prog 64 Tryd.f64 I64 := ⟨Tryd.func64, by kernel_rfl, by kernel_rfl, by kernel_rfl, by kernel_rfl⟩
theorem p64_e_0 (a0 : Val) : rE I64 (xAM a0) [Y, Y, Y] [] = dn (xAJ false) [(((Val.kind a0) : Int) != 3) = true, (decide (((Ln (Val.list a0) : Int) : Int) > 0)) = true, true = true] := by kernel_rfl
theorem p64_e_1 (a0 : Val) : rE I64 (xAM a0) [Y, F, Y, Y] [] = dn (xAJ false) [(((Val.kind a0) : Int) != 3) = true, (decide (((Ln (Val.list a0) : Int) : Int) > 0)) = false, (((Val.kind a0) : Int) != 5) = true, (decide (((W ((Ln (Val.columns a0) : Int) + (Ln (Val.rows a0) : Int))) : Int) > 0)) = true] := by kernel_rfl
theorem p64_e_2 (a0 : Val) : rE I64 (xAM a0) [Y, F, Y, F, Y, Y, Y] [] = dn (xAJ false) [(((Val.kind a0) : Int) != 3) = true, (decide (((Ln (Val.list a0) : Int) : Int) > 0)) = false, (((Val.kind a0) : Int) != 5) = true, (decide (((W ((Ln (Val.columns a0) : Int) + (Ln (Val.rows a0) : Int))) : Int) > 0)) = false, (((Val.kind a0) : Int) != 2) = true, (!(((Val.text a0) : Str) == [])) = true, true = true] := by kernel_rfl
theorem p64_e_3 (a0 : Val) : rE I64 (xAM a0) [Y, F, Y, F, Y, F, Y, Y] [] = dn (xAJ false) [(((Val.kind a0) : Int) != 3) = true, (decide (((Ln (Val.list a0) : Int) : Int) > 0)) = false, (((Val.kind a0) : Int) != 5) = true, (decide (((W ((Ln (Val.columns a0) : Int) + (Ln (Val.rows a0) : Int))) : Int) > 0)) = false, (((Val.kind a0) : Int) != 2) = true, (!(((Val.text a0) : Str) == [])) = false, (((Val.kind a0) : Int) != 4) = true, (((Val.step a0) : Int) != 0) = true] := by kernel_rfl
theorem p64_e_4 (a0 : Val) (r1 : Bool) : rE I64 (xAM a0) [Y, F, Y, F, Y, F, Y, F, Y] [xBq r1] = dn (xAJ r1) [(((Val.kind a0) : Int) != 3) = true, (decide (((Ln (Val.list a0) : Int) : Int) > 0)) = false, (((Val.kind a0) : Int) != 5) = true, (decide (((W ((Ln (Val.columns a0) : Int) + (Ln (Val.rows a0) : Int))) : Int) > 0)) = false, (((Val.kind a0) : Int) != 2) = true, (!(((Val.text a0) : Str) == [])) = false, (((Val.kind a0) : Int) != 4) = true, (((Val.step a0) : Int) != 0) = false, (((Val.kind a0) : Int) == 1) = true, AbC 30 (xCh (Val.n a0)) (xBq r1)] := by kernel_rfl
theorem p64_e_5 (a0 : Val) (r1 : Bool) : rE I64 (xAM a0) [Y, F, Y, F, Y, F, Y, F, F, F, F, F, F, Y] [xC8 r1] = dn (xAJ r1) [(((Val.kind a0) : Int) != 3) = true, (decide (((Ln (Val.list a0) : Int) : Int) > 0)) = false, (((Val.kind a0) : Int) != 5) = true, (decide (((W ((Ln (Val.columns a0) : Int) + (Ln (Val.rows a0) : Int))) : Int) > 0)) = false, (((Val.kind a0) : Int) != 2) = true, (!(((Val.text a0) : Str) == [])) = false, (((Val.kind a0) : Int) != 4) = true, (((Val.step a0) : Int) != 0) = false, (((Val.kind a0) : Int) == 1) = false, (((Val.kind a0) : Int) == 2) = false, (((Val.kind a0) : Int) == 3) = false, (((Val.kind a0) : Int) == 4) = false, (((Val.kind a0) : Int) == 5) = false, (((Val.kind a0) : Int) == 6) = true, AbC 54 (xEz (Val.n a0) 1 8) (xC8 r1)] := by kernel_rfl
theorem p64_e_6 (a0 : Val) : rE I64 (xAM a0) [Y, F, Y, F, Y, F, Y, F, F, F, F, F, F, F] [] = dn (xAJ false) [(((Val.kind a0) : Int) != 3) = true, (decide (((Ln (Val.list a0) : Int) : Int) > 0)) = false, (((Val.kind a0) : Int) != 5) = true, (decide (((W ((Ln (Val.columns a0) : Int) + (Ln (Val.rows a0) : Int))) : Int) > 0)) = false, (((Val.kind a0) : Int) != 2) = true, (!(((Val.text a0) : Str) == [])) = false, (((Val.kind a0) : Int) != 4) = true, (((Val.step a0) : Int) != 0) = false, (((Val.kind a0) : Int) == 1) = false, (((Val.kind a0) : Int) == 2) = false, (((Val.kind a0) : Int) == 3) = false, (((Val.kind a0) : Int) == 4) = false, (((Val.kind a0) : Int) == 5) = false, (((Val.kind a0) : Int) == 6) = false] := by kernel_rfl
theorem p64_e_7 (a0 : Val) (r1 r2 : Bool) : rE I64 (xAM a0) [Y, F, Y, F, Y, F, F, F, F, F, F, Y, Y] [xBq r1, xBq r2] = dn (xAJ r2) [(((Val.kind a0) : Int) != 3) = true, (decide (((Ln (Val.list a0) : Int) : Int) > 0)) = false, (((Val.kind a0) : Int) != 5) = true, (decide (((W ((Ln (Val.columns a0) : Int) + (Ln (Val.rows a0) : Int))) : Int) > 0)) = false, (((Val.kind a0) : Int) != 2) = true, (!(((Val.text a0) : Str) == [])) = false, (((Val.kind a0) : Int) != 4) = false, false = false, (((Val.kind a0) : Int) == 1) = false, (((Val.kind a0) : Int) == 2) = false, (((Val.kind a0) : Int) == 3) = false, (((Val.kind a0) : Int) == 4) = true, AbC 30 (xCh (Val.n a0)) (xBq r1), r1 = true, AbC 30 (xCh (Val.step a0)) (xBq r2)] := by kernel_rfl
theorem p64_e_8 (a0 : Val) (r1 : Bool) : rE I64 (xAM a0) [Y, F, Y, F, Y, F, F, F, F, F, F, Y, F] [xBq r1] = dn (xAJ false) [(((Val.kind a0) : Int) != 3) = true, (decide (((Ln (Val.list a0) : Int) : Int) > 0)) = false, (((Val.kind a0) : Int) != 5) = true, (decide (((W ((Ln (Val.columns a0) : Int) + (Ln (Val.rows a0) : Int))) : Int) > 0)) = false, (((Val.kind a0) : Int) != 2) = true, (!(((Val.text a0) : Str) == [])) = false, (((Val.kind a0) : Int) != 4) = false, false = false, (((Val.kind a0) : Int) == 1) = false, (((Val.kind a0) : Int) == 2) = false, (((Val.kind a0) : Int) == 3) = false, (((Val.kind a0) : Int) == 4) = true, AbC 30 (xCh (Val.n a0)) (xBq r1), r1 = false] := by kernel_rfl
theorem p64_e_9 (a0 : Val) : rE I64 (xAM a0) [Y, F, Y, F, F, F, Y, Y] [] = dn (xAJ false) [(((Val.kind a0) : Int) != 3) = true, (decide (((Ln (Val.list a0) : Int) : Int) > 0)) = false, (((Val.kind a0) : Int) != 5) = true, (decide (((W ((Ln (Val.columns a0) : Int) + (Ln (Val.rows a0) : Int))) : Int) > 0)) = false, (((Val.kind a0) : Int) != 2) = false, false = false, (((Val.kind a0) : Int) != 4) = true, (((Val.step a0) : Int) != 0) = true] := by kernel_rfl
theorem p64_e_10 (a0 : Val) (r1 : Bool) : rE I64 (xAM a0) [Y, F, Y, F, F, F, Y, F, F, Y, Y] [xCc r1] = dn (xAJ r1) [(((Val.kind a0) : Int) != 3) = true, (decide (((Ln (Val.list a0) : Int) : Int) > 0)) = false, (((Val.kind a0) : Int) != 5) = true, (decide (((W ((Ln (Val.columns a0) : Int) + (Ln (Val.rows a0) : Int))) : Int) > 0)) = false, (((Val.kind a0) : Int) != 2) = false, false = false, (((Val.kind a0) : Int) != 4) = true, (((Val.step a0) : Int) != 0) = false, (((Val.kind a0) : Int) == 1) = false, (((Val.kind a0) : Int) == 2) = true, (((Val.n a0) : Int) == 0) = true, AbC 77 (xEB (Val.text a0)) (xCc r1)] := by kernel_rfl
theorem p64_e_11 (a0 : Val) : rE I64 (xAM a0) [Y, F, Y, F, F, F, Y, F, F, Y, F] [] = dn (xAJ false) [(((Val.kind a0) : Int) != 3) = true, (decide (((Ln (Val.list a0) : Int) : Int) > 0)) = false, (((Val.kind a0) : Int) != 5) = true, (decide (((W ((Ln (Val.columns a0) : Int) + (Ln (Val.rows a0) : Int))) : Int) > 0)) = false, (((Val.kind a0) : Int) != 2) = false, false = false, (((Val.kind a0) : Int) != 4) = true, (((Val.step a0) : Int) != 0) = false, (((Val.kind a0) : Int) == 1) = false, (((Val.kind a0) : Int) == 2) = true, (((Val.n a0) : Int) == 0) = false] := by kernel_rfl
theorem p64_e_12 (a0 : Val) : rE I64 (xAM a0) [Y, F, F, F, Y, Y, Y] [] = dn (xAJ false) [(((Val.kind a0) : Int) != 3) = true, (decide (((Ln (Val.list a0) : Int) : Int) > 0)) = false, (((Val.kind a0) : Int) != 5) = false, false = false, (((Val.kind a0) : Int) != 2) = true, (!(((Val.text a0) : Str) == [])) = true, true = true] := by kernel_rfl
theorem p64_e_13 (a0 : Val) : rE I64 (xAM a0) [Y, F, F, F, Y, F, Y, Y] [] = dn (xAJ false) [(((Val.kind a0) : Int) != 3) = true, (decide (((Ln (Val.list a0) : Int) : Int) > 0)) = false, (((Val.kind a0) : Int) != 5) = false, false = false, (((Val.kind a0) : Int) != 2) = true, (!(((Val.text a0) : Str) == [])) = false, (((Val.kind a0) : Int) != 4) = true, (((Val.step a0) : Int) != 0) = true] := by kernel_rfl
theorem p64_e_14 (a0 : Val) (r1 : Bool) : rE I64 (xAM a0) [Y, F, F, F, Y, F, Y, F, F, F, F, F, Y, Y] [xB0 r1] = dn (xAJ r1) [(((Val.kind a0) : Int) != 3) = true, (decide (((Ln (Val.list a0) : Int) : Int) > 0)) = false, (((Val.kind a0) : Int) != 5) = false, false = false, (((Val.kind a0) : Int) != 2) = true, (!(((Val.text a0) : Str) == [])) = false, (((Val.kind a0) : Int) != 4) = true, (((Val.step a0) : Int) != 0) = false, (((Val.kind a0) : Int) == 1) = false, (((Val.kind a0) : Int) == 2) = false, (((Val.kind a0) : Int) == 3) = false, (((Val.kind a0) : Int) == 4) = false, (((Val.kind a0) : Int) == 5) = true, (((Val.n a0) : Int) == 0) = true, AbC 79 (xEw a0) (xB0 r1)] := by kernel_rfl
theorem p64_e_15 (a0 : Val) : rE I64 (xAM a0) [Y, F, F, F, Y, F, Y, F, F, F, F, F, Y, F] [] = dn (xAJ false) [(((Val.kind a0) : Int) != 3) = true, (decide (((Ln (Val.list a0) : Int) : Int) > 0)) = false, (((Val.kind a0) : Int) != 5) = false, false = false, (((Val.kind a0) : Int) != 2) = true, (!(((Val.text a0) : Str) == [])) = false, (((Val.kind a0) : Int) != 4) = true, (((Val.step a0) : Int) != 0) = false, (((Val.kind a0) : Int) == 1) = false, (((Val.kind a0) : Int) == 2) = false, (((Val.kind a0) : Int) == 3) = false, (((Val.kind a0) : Int) == 4) = false, (((Val.kind a0) : Int) == 5) = true, (((Val.n a0) : Int) == 0) = false] := by kernel_rfl
theorem p64_e_16 (a0 : Val) : rE I64 (xAM a0) [F, F, Y, Y] [] = dn (xAJ false) [(((Val.kind a0) : Int) != 3) = false, false = false, (((Val.kind a0) : Int) != 5) = true, (decide (((W ((Ln (Val.columns a0) : Int) + (Ln (Val.rows a0) : Int))) : Int) > 0)) = true] := by kernel_rfl
theorem p64_e_17 (a0 : Val) : rE I64 (xAM a0) [F, F, Y, F, Y, Y, Y] [] = dn (xAJ false) [(((Val.kind a0) : Int) != 3) = false, false = false, (((Val.kind a0) : Int) != 5) = true, (decide (((W ((Ln (Val.columns a0) : Int) + (Ln (Val.rows a0) : Int))) : Int) > 0)) = false, (((Val.kind a0) : Int) != 2) = true, (!(((Val.text a0) : Str) == [])) = true, true = true] := by kernel_rfl
theorem p64_e_18 (a0 : Val) : rE I64 (xAM a0) [F, F, Y, F, Y, F, Y, Y] [] = dn (xAJ false) [(((Val.kind a0) : Int) != 3) = false, false = false, (((Val.kind a0) : Int) != 5) = true, (decide (((W ((Ln (Val.columns a0) : Int) + (Ln (Val.rows a0) : Int))) : Int) > 0)) = false, (((Val.kind a0) : Int) != 2) = true, (!(((Val.text a0) : Str) == [])) = false, (((Val.kind a0) : Int) != 4) = true, (((Val.step a0) : Int) != 0) = true] := by kernel_rfl
theorem p64_e_19 (a0 : Val) (r1 : Bool) : rE I64 (xAM a0) [F, F, Y, F, Y, F, Y, F, F, F, Y, Y] [xCY r1] = dn (xAJ r1) [(((Val.kind a0) : Int) != 3) = false, false = false, (((Val.kind a0) : Int) != 5) = true, (decide (((W ((Ln (Val.columns a0) : Int) + (Ln (Val.rows a0) : Int))) : Int) > 0)) = false, (((Val.kind a0) : Int) != 2) = true, (!(((Val.text a0) : Str) == [])) = false, (((Val.kind a0) : Int) != 4) = true, (((Val.step a0) : Int) != 0) = false, (((Val.kind a0) : Int) == 1) = false, (((Val.kind a0) : Int) == 2) = false, (((Val.kind a0) : Int) == 3) = true, (((Val.n a0) : Int) == 0) = true, AbC 78 (xFo a0) (xCY r1)] := by kernel_rfl
theorem p64_e_20 (a0 : Val) : rE I64 (xAM a0) [F, F, Y, F, Y, F, Y, F, F, F, Y, F] [] = dn (xAJ false) [(((Val.kind a0) : Int) != 3) = false, false = false, (((Val.kind a0) : Int) != 5) = true, (decide (((W ((Ln (Val.columns a0) : Int) + (Ln (Val.rows a0) : Int))) : Int) > 0)) = false, (((Val.kind a0) : Int) != 2) = true, (!(((Val.text a0) : Str) == [])) = false, (((Val.kind a0) : Int) != 4) = true, (((Val.step a0) : Int) != 0) = false, (((Val.kind a0) : Int) == 1) = false, (((Val.kind a0) : Int) == 2) = false, (((Val.kind a0) : Int) == 3) = true, (((Val.n a0) : Int) == 0) = false] := by kernel_rfl
theorem c64_e {N : Nat} {q0 : Val → Option (Bool)} (g0 : G64 q0) {q1 : Val → Option (Bool)} (g1 : G78 q1) : ∀ a0 r, xDb N q0 q1 a0 = some r → RE Tryd.f64 I64 (xAM a0) (xAJ r) := fun a0 r h =>
 cE h (fun h0 h => cE h (fun h1 h => dE h fk64 (p64_e_0 a0) (oc h0 (oc h1 (oc rfl on)))) fun h1 h =>
 cE h (fun h2 h => cE h (fun h3 h => dE h fk64 (p64_e_1 a0) (oc h0 (oc h1 (oc h2 (oc h3 on))))) fun h3 h =>
 cE h (fun h4 h => cE h (fun h5 h => dE h fk64 (p64_e_2 a0) (oc h0 (oc h1 (oc h2 (oc h3 (oc h4 (oc h5 (oc rfl on)))))))) fun h5 h =>
 cE h (fun h6 h => cE h (fun h7 h => dE h fk64 (p64_e_3 a0) (oc h0 (oc h1 (oc h2 (oc h3 (oc h4 (oc h5 (oc h6 (oc h7 on))))))))) fun h7 h =>
 cE h (fun h8 h => bE h fun r1 h9 h => dE h fk64 (p64_e_4 a0 r1) (oc h0 (oc h1 (oc h2 (oc h3 (oc h4 (oc h5 (oc h6 (oc h7 (oc h8 (oc (xC9 h9) on))))))))))) fun h8 h =>
 cE h (fun h13 h => bE h fun r1 h14 h => dE h fk64 (p64_e_5 a0 r1) (oc h0 (oc h1 (oc h2 (oc h3 (oc h4 (oc h5 (oc h6 (oc h7 (oc h8 (oc (of_not h4) (oc (of_not h0) (oc (of_not h6) (oc (of_not h2) (oc h13 (oc (xGN h14) on)))))))))))))))) fun h13 h =>
 dE h fk64 (p64_e_6 a0) (oc h0 (oc h1 (oc h2 (oc h3 (oc h4 (oc h5 (oc h6 (oc h7 (oc h8 (oc (of_not h4) (oc (of_not h0) (oc (of_not h6) (oc (of_not h2) (oc h13 on))))))))))))))) fun h6 h =>
 bE h fun r1 h12 h => cE h (fun h13 h => bE h fun r2 h14 h => dE h fk64 (p64_e_7 a0 r1 r2) (oc h0 (oc h1 (oc h2 (oc h3 (oc h4 (oc h5 (oc h6 (oc rfl (oc (eq_ne (of_not h6) rfl) (oc (of_not h4) (oc (of_not h0) (oc (of_not h6) (oc (xC9 h12) (oc h13 (oc (xC9 h14) on)))))))))))))))) fun h13 h =>
 dE h fk64 (p64_e_8 a0 r1) (oc h0 (oc h1 (oc h2 (oc h3 (oc h4 (oc h5 (oc h6 (oc rfl (oc (eq_ne (of_not h6) rfl) (oc (of_not h4) (oc (of_not h0) (oc (of_not h6) (oc (xC9 h12) (oc h13 on))))))))))))))) fun h4 h =>
 cE h (fun h7 h => dE h fk64 (p64_e_9 a0) (oc h0 (oc h1 (oc h2 (oc h3 (oc h4 (oc rfl (oc (not_of (eq_ne (of_not h4) rfl)) (oc h7 on))))))))) fun h7 h =>
 cE h (fun h10 h => bE h fun r1 h11 h => dE h fk64 (p64_e_10 a0 r1) (oc h0 (oc h1 (oc h2 (oc h3 (oc h4 (oc rfl (oc (not_of (eq_ne (of_not h4) rfl)) (oc h7 (oc (eq_ne (of_not h4) rfl) (oc (of_not h4) (oc h10 (oc (xHQ h11) on))))))))))))) fun h10 h =>
 dE h fk64 (p64_e_11 a0) (oc h0 (oc h1 (oc h2 (oc h3 (oc h4 (oc rfl (oc (not_of (eq_ne (of_not h4) rfl)) (oc h7 (oc (eq_ne (of_not h4) rfl) (oc (of_not h4) (oc h10 on)))))))))))) fun h2 h =>
 cE h (fun h5 h => dE h fk64 (p64_e_12 a0) (oc h0 (oc h1 (oc h2 (oc rfl (oc (not_of (eq_ne (of_not h2) rfl)) (oc h5 (oc rfl on)))))))) fun h5 h =>
 cE h (fun h7 h => dE h fk64 (p64_e_13 a0) (oc h0 (oc h1 (oc h2 (oc rfl (oc (not_of (eq_ne (of_not h2) rfl)) (oc h5 (oc (not_of (eq_ne (of_not h2) rfl)) (oc h7 on))))))))) fun h7 h =>
 cE h (fun h13 h => bE h fun r1 h14 h => dE h fk64 (p64_e_14 a0 r1) (oc h0 (oc h1 (oc h2 (oc rfl (oc (not_of (eq_ne (of_not h2) rfl)) (oc h5 (oc (not_of (eq_ne (of_not h2) rfl)) (oc h7 (oc (eq_ne (of_not h2) rfl) (oc (eq_ne (of_not h2) rfl) (oc (of_not h0) (oc (eq_ne (of_not h2) rfl) (oc (of_not h2) (oc h13 (oc (spec_l3Table_ok h14) on)))))))))))))))) fun h13 h =>
 dE h fk64 (p64_e_15 a0) (oc h0 (oc h1 (oc h2 (oc rfl (oc (not_of (eq_ne (of_not h2) rfl)) (oc h5 (oc (not_of (eq_ne (of_not h2) rfl)) (oc h7 (oc (eq_ne (of_not h2) rfl) (oc (eq_ne (of_not h2) rfl) (oc (of_not h0) (oc (eq_ne (of_not h2) rfl) (oc (of_not h2) (oc h13 on))))))))))))))) fun h0 h =>
 cE h (fun h3 h => dE h fk64 (p64_e_16 a0) (oc h0 (oc rfl (oc (not_of (eq_ne (of_not h0) rfl)) (oc h3 on))))) fun h3 h =>
 cE h (fun h5 h => dE h fk64 (p64_e_17 a0) (oc h0 (oc rfl (oc (not_of (eq_ne (of_not h0) rfl)) (oc h3 (oc (not_of (eq_ne (of_not h0) rfl)) (oc h5 (oc rfl on)))))))) fun h5 h =>
 cE h (fun h7 h => dE h fk64 (p64_e_18 a0) (oc h0 (oc rfl (oc (not_of (eq_ne (of_not h0) rfl)) (oc h3 (oc (not_of (eq_ne (of_not h0) rfl)) (oc h5 (oc (not_of (eq_ne (of_not h0) rfl)) (oc h7 on))))))))) fun h7 h =>
 cE h (fun h11 h => bE h fun r1 h12 h => dE h fk64 (p64_e_19 a0 r1) (oc h0 (oc rfl (oc (not_of (eq_ne (of_not h0) rfl)) (oc h3 (oc (not_of (eq_ne (of_not h0) rfl)) (oc h5 (oc (not_of (eq_ne (of_not h0) rfl)) (oc h7 (oc (eq_ne (of_not h0) rfl) (oc (eq_ne (of_not h0) rfl) (oc (of_not h0) (oc h11 (oc (g1 _ _ h12) on)))))))))))))) fun h11 h =>
 dE h fk64 (p64_e_20 a0) (oc h0 (oc rfl (oc (not_of (eq_ne (of_not h0) rfl)) (oc h3 (oc (not_of (eq_ne (of_not h0) rfl)) (oc h5 (oc (not_of (eq_ne (of_not h0) rfl)) (oc h7 (oc (eq_ne (of_not h0) rfl) (oc (eq_ne (of_not h0) rfl) (oc (of_not h0) (oc h11 on))))))))))))
theorem xGV {N : Nat} {q0 : Val → Option (Bool)} (g0 : G64 q0) {q1 : Val → Option (Bool)} (g1 : G78 q1) {a0 : Val} {r : Bool} (h : xDb N q0 q1 a0 = some r) : AbC 64 (xAM a0) (xAJ r) :=
 AbsCalls.of_reach fk64 rfl rfl (Nat.le_of_ble_eq_true rfl) (c64_e g0 g1 a0 r h)
noncomputable def I78 : Info := { body := (Tryd.f78.body).getD .skip, nt := 36, results := [.tmp 2], keep := [0, 2, 4, 6, 16, 52, 3], live := [(2, [2, 6, 3])], modes := [(4, [(7, .take, false)]), (6, [(4, .take, false)])] }
theorem fk78 : FnOk Tryd.prog 78 Tryd.f78 I78 := ⟨Tryd.func78, by kernel_rfl, by kernel_rfl, by kernel_rfl, by kernel_rfl⟩
def S78_2 (x3 : Int) (b1 : Val) : St := [(2, .v false [.ptr 1 0]), (6, .v false [.int .i64 x3]), (3, .v true [.int .i64 (Val.kind b1), .int .i64 (Val.n b1), .int .i64 (Val.step b1), .str (Val.text b1), .sl .ro .val (Val.list b1), .sl .ro .str (Val.columns b1), .sl .ro .row (Val.rows b1)])]
theorem p78_2_0 (x3 : Int) (b1 : Val) (r1 : Bool) : rS 2 I78 (S78_2 x3 b1) [Y, Y, Y] [xBZ r1] = dn (xCY false) [(decide ((x3 : Int) < (Ln (Val.list b1) : Int))) = true, (0 : Int) ≤ x3 ∧ x3 < (Ln (Val.list b1)), AbC 86 (xCX (gD (Val.list b1) (tN x3) vd)) (xBZ r1), (!r1) = true, true = true] := by kernel_rfl
theorem p78_2_1 (x3 : Int) (b1 : Val) (r1 r2 : Bool) : rS 2 I78 (S78_2 x3 b1) [Y, F, Y] [xBZ r1, xAJ r2] = dn (xCY false) [(decide ((x3 : Int) < (Ln (Val.list b1) : Int))) = true, (0 : Int) ≤ x3 ∧ x3 < (Ln (Val.list b1)), AbC 86 (xCX (gD (Val.list b1) (tN x3) vd)) (xBZ r1), (!r1) = false, (0 : Int) ≤ x3 ∧ x3 < (Ln (Val.list b1)), AbC 64 (xAM (gD (Val.list b1) (tN x3) vd)) (xAJ r2), (!r2) = true] := by kernel_rfl
theorem p78_2_2 (x3 : Int) (b1 : Val) (r1 r2 : Bool) : rS 2 I78 (S78_2 x3 b1) [Y, F, F] [xBZ r1, xAJ r2] = st 2 I78 (S78_2 (W (x3 + 1)) b1) [(decide ((x3 : Int) < (Ln (Val.list b1) : Int))) = true, (0 : Int) ≤ x3 ∧ x3 < (Ln (Val.list b1)), AbC 86 (xCX (gD (Val.list b1) (tN x3) vd)) (xBZ r1), (!r1) = false, (0 : Int) ≤ x3 ∧ x3 < (Ln (Val.list b1)), AbC 64 (xAM (gD (Val.list b1) (tN x3) vd)) (xAJ r2), (!r2) = false] := by kernel_rfl
theorem p78_2_3 (x3 : Int) (b1 : Val) (r1 : Int) : rS 2 I78 (S78_2 x3 b1) [F, Y] [xCK r1] = dn (xCY (decide ((r1 : Int) ≤ 3))) [(decide ((x3 : Int) < (Ln (Val.list b1) : Int))) = false, (decide (((Ln (Val.list b1) : Int) : Int) ≤ 8)) = true, AbC 87 (xD2 b1) (xCK r1)] := by kernel_rfl
theorem p78_2_4 (x3 : Int) (b1 : Val) : rS 2 I78 (S78_2 x3 b1) [F, F] [] = dn (xCY false) [(decide ((x3 : Int) < (Ln (Val.list b1) : Int))) = false, (decide (((Ln (Val.list b1) : Int) : Int) ≤ 8)) = false] := by kernel_rfl
theorem p78_e_5 (a0 : Val) : rE I78 (xFo a0) [] [] = st 2 I78 (S78_2 0 a0) [] := by kernel_rfl
theorem c78_2 {N : Nat} {q0 : Val → Option (Bool)} (g0 : G64 q0) {q1 : Val → Option (Bool)} (g1 : G78 q1) : ∀ n x3 b1 r, xDL N q0 q1 n x3 b1 = some r → RS Tryd.f78 I78 2 (S78_2 x3 b1) (xCY r) := by
 intro n
 induction n with
 | zero => exact fun _ _ _ h => nE h
 | succ n ih =>
  exact fun x3 b1 r h =>
   cE h (fun h0 h => iE h fun h1 h => bE h fun r1 h2 h => cE h (fun h3 h => dS h fk78 (p78_2_0 x3 b1 r1) (oc h0 (oc h1 (oc (xF4 h2) (oc h3 (oc rfl on)))))) fun h3 h =>
   bE h fun r2 h5 h => cE h (fun h6 h => dS h fk78 (p78_2_1 x3 b1 r1 r2) (oc h0 (oc h1 (oc (xF4 h2) (oc h3 (oc h1 (oc (g0 _ _ h5) (oc h6 on)))))))) fun h6 h =>
   tS fk78 (p78_2_2 x3 b1 r1 r2) (oc h0 (oc h1 (oc (xF4 h2) (oc h3 (oc h1 (oc (g0 _ _ h5) (oc h6 on))))))) (ih _ _ _ h)) fun h0 h =>
   cE h (fun h1 h => bE h fun r1 h2 h => dS h fk78 (p78_2_3 x3 b1 r1) (oc h0 (oc h1 (oc (spec_DepthOf_ok h2) on)))) fun h1 h =>
   dS h fk78 (p78_2_4 x3 b1) (oc h0 (oc h1 on))
theorem c78_e {N : Nat} {q0 : Val → Option (Bool)} (g0 : G64 q0) {q1 : Val → Option (Bool)} (g1 : G78 q1) : ∀ a0 r, xGm N q0 q1 a0 = some r → RE Tryd.f78 I78 (xFo a0) (xCY r) := fun a0 r h =>
 tE fk78 (p78_e_5 a0) on (c78_2 g0 g1 _ _ _ _ h)
theorem xHW {N : Nat} {q0 : Val → Option (Bool)} (g0 : G64 q0) {q1 : Val → Option (Bool)} (g1 : G78 q1) {a0 : Val} {r : Bool} (h : xGm N q0 q1 a0 = some r) : AbC 78 (xFo a0) (xCY r) :=
 AbsCalls.of_reach fk78 rfl rfl (Nat.le_of_ble_eq_true rfl) (c78_e g0 g1 a0 r h)
theorem xG2 {N : Nat} : ∀ d, G64 (xAZ N d).c_spec_IsValidValue ∧ G78 (xAZ N d).c_spec_l3List := by
 intro d
 induction d with
 | zero => exact ⟨fun _ _ h => nE h, fun _ _ h => nE h⟩
 | succ d ih =>
  obtain ⟨ih0, ih1⟩ := ih
  exact ⟨fun _ _ h => xGV (N := N) ih0 ih1 h, fun _ _ h => xHW (N := N) ih0 ih1 h⟩
theorem xFg {N : Nat} {a0 : Val} {r : Bool} (h : xFZ N a0 = some r) : AbC 64 (xAM a0) (xAJ r) := (xG2 N).1 _ r h
noncomputable def I49 : Info := { body := (Tryd.f49.body).getD .skip, nt := 31, results := [.cell 2 28, .tmp 3], keep := [0, 4, 6, 8, 16, 32, 46, 5], live := [(2, [0, 4, 8, 5])], modes := [] }
theorem fk49 : FnOk Tryd.prog 49 Tryd.f49 I49 := ⟨Tryd.func49, by kernel_rfl, by kernel_rfl, by kernel_rfl, by kernel_rfl⟩
def S49_2 (x0 : List Val) (x4 : Int) (b2 : Val) : St := [(0, .v false [.sl .ro .val x0]), (4, .v false [.ptr 2 0]), (8, .v false [.int .i64 x4]), (5, .v true [.int .i64 (Val.kind b2), .int .i64 (Val.n b2), .int .i64 (Val.step b2), .str (Val.text b2), .sl .own .val (Val.list b2), .sl .own .str (Val.columns b2), .sl .own .row (Val.rows b2)])]
theorem p49_2_0 (x0 : List Val) (x4 : Int) (b2 : Val) (r1 : Bool) (r2 : Val) : rS 2 I49 (S49_2 x0 x4 b2) [Y, Y] [xAJ r1, xAV r2] = dn (xCO (r2, true)) [(decide ((x4 : Int) < (Ln x0 : Int))) = true, (0 : Int) ≤ x4 ∧ x4 < (Ln x0), AbC 64 (xAM (gD x0 (tN x4) vd)) (xAJ r1), (!r1) = true, AbC 28 (xBw 4) (xAV r2)] := by kernel_rfl
theorem p49_2_1 (x0 : List Val) (x4 : Int) (b2 : Val) (r1 : Bool) (r2 : Val) : rS 2 I49 (S49_2 x0 x4 b2) [Y, F, Y] [xAJ r1, xAV r2] = dn (xCO (r2, true)) [(decide ((x4 : Int) < (Ln x0 : Int))) = true, (0 : Int) ≤ x4 ∧ x4 < (Ln x0), AbC 64 (xAM (gD x0 (tN x4) vd)) (xAJ r1), (!r1) = false, (0 : Int) ≤ x4 ∧ x4 < (Ln x0), (((Val.kind (gD x0 (tN x4) vd)) : Int) == 6) = true, (0 : Int) ≤ x4 ∧ x4 < (Ln x0), AbC 28 (xBw (Val.n (gD x0 (tN x4) vd))) (xAV r2)] := by kernel_rfl
theorem p49_2_2 (x0 : List Val) (x4 : Int) (b2 : Val) (r1 : Bool) : rS 2 I49 (S49_2 x0 x4 b2) [Y, F, F] [xAJ r1] = st 2 I49 (S49_2 x0 (W (x4 + 1)) b2) [(decide ((x4 : Int) < (Ln x0 : Int))) = true, (0 : Int) ≤ x4 ∧ x4 < (Ln x0), AbC 64 (xAM (gD x0 (tN x4) vd)) (xAJ r1), (!r1) = false, (0 : Int) ≤ x4 ∧ x4 < (Ln x0), (((Val.kind (gD x0 (tN x4) vd)) : Int) == 6) = false] := by kernel_rfl
theorem p49_2_3 (x0 : List Val) (x4 : Int) (b2 : Val) : rS 2 I49 (S49_2 x0 x4 b2) [F] [] = dn (xCO ((Val.mk 0 0 0 [] [] [] []), false)) [(decide ((x4 : Int) < (Ln x0 : Int))) = false] := by kernel_rfl
theorem p49_e_4 (a0 : List Val) : rE I49 (xE1 a0) [] [] = st 2 I49 (S49_2 a0 0 (Val.mk 0 0 0 [] [] [] [])) [] := by kernel_rfl
theorem c49_2 {N : Nat} : ∀ n x0 x4 b2 r, xDq N n x0 x4 b2 = some r → RS Tryd.f49 I49 2 (S49_2 x0 x4 b2) (xCO r) := by
 intro n
 induction n with
 | zero => exact fun _ _ _ _ h => nE h
 | succ n ih =>
  exact fun x0 x4 b2 r h =>
   cE h (fun h0 h => iE h fun h1 h => bE h fun r1 h2 h => cE h (fun h3 h => bE h fun r2 h4 h => dS h fk49 (p49_2_0 x0 x4 b2 r1 r2) (oc h0 (oc h1 (oc (xFg h2) (oc h3 (oc (xBI h4) on)))))) fun h3 h =>
   cE h (fun h5 h => bE h fun r2 h7 h => dS h fk49 (p49_2_1 x0 x4 b2 r1 r2) (oc h0 (oc h1 (oc (xFg h2) (oc h3 (oc h1 (oc h5 (oc h1 (oc (xBI h7) on))))))))) fun h5 h =>
   tS fk49 (p49_2_2 x0 x4 b2 r1) (oc h0 (oc h1 (oc (xFg h2) (oc h3 (oc h1 (oc h5 on)))))) (ih _ _ _ _ h)) fun h0 h =>
   dS h fk49 (p49_2_3 x0 x4 b2) (oc h0 on)
theorem c49_e {N : Nat} : ∀ a0 r, xGR N a0 = some r → RE Tryd.f49 I49 (xE1 a0) (xCO r) := fun a0 r h =>
 tE fk49 (p49_e_4 a0) on (c49_2 _ _ _ _ _ h)
theorem xHy {N : Nat} {a0 : List Val} {r : Val × Bool} (h : xGR N  a0 = some r) : AbC 49 (xE1 a0) (xCO r) :=
 AbsCalls.of_reach fk49 rfl rfl (Nat.le_of_ble_eq_true rfl) (c49_e a0 r h)
noncomputable def I25 : Info := { body := (Tryd.f25.body).getD .skip, nt := 34, results := [.cell 4 28, .tmp 5], keep := [0, 2, 8, 10, 12, 14, 16, 28, 38, 62, 9, 13], live := [(5, [0, 2, 8, 16, 9])], modes := [(1, [(2, .take, false)]), (2, [(0, .take, false)]), (3, [(0, .take, false)])] }
theorem fk25 : FnOk Tryd.prog 25 Tryd.f25 I25 := ⟨Tryd.func25, by kernel_rfl, by kernel_rfl, by kernel_rfl, by kernel_rfl⟩
def S25_5 (x0 : List Val) (x1 : List Int) (x8 : Int) (b4 : Val) : St := [(0, .v false [.sl .ro .val x0]), (2, .v false [.sl .ro .int x1]), (8, .v false [.ptr 4 0]), (16, .v false [.int .i64 x8]), (9, .v true [.int .i64 (Val.kind b4), .int .i64 (Val.n b4), .int .i64 (Val.step b4), .str (Val.text b4), .sl .own .val (Val.list b4), .sl .own .str (Val.columns b4), .sl .own .row (Val.rows b4)])]
theorem p25_5_0 (x0 : List Val) (x1 : List Int) (x8 : Int) (b4 r1 : Val) : rS 5 I25 (S25_5 x0 x1 x8 b4) [Y, Y] [xAV r1] = dn (xBg (r1, true)) [(decide ((x8 : Int) < (Ln x0 : Int))) = true, (0 : Int) ≤ x8 ∧ x8 < (Ln x0), (0 : Int) ≤ x8 ∧ x8 < (Ln x1), (((Val.kind (gD x0 (tN x8) vd)) : Int) != (gD x1 (tN x8) Ty.int.dflt)) = true, AbC 28 (xBw 4) (xAV r1)] := by kernel_rfl
theorem p25_5_1 (x0 : List Val) (x1 : List Int) (x8 : Int) (b4 : Val) : rS 5 I25 (S25_5 x0 x1 x8 b4) [Y, F] [] = st 5 I25 (S25_5 x0 x1 (W (x8 + 1)) b4) [(decide ((x8 : Int) < (Ln x0 : Int))) = true, (0 : Int) ≤ x8 ∧ x8 < (Ln x0), (0 : Int) ≤ x8 ∧ x8 < (Ln x1), (((Val.kind (gD x0 (tN x8) vd)) : Int) != (gD x1 (tN x8) Ty.int.dflt)) = false] := by kernel_rfl
theorem p25_5_2 (x0 : List Val) (x1 : List Int) (x8 : Int) (b4 : Val) : rS 5 I25 (S25_5 x0 x1 x8 b4) [F] [] = dn (xBg ((Val.mk 0 0 0 [] [] [] []), false)) [(decide ((x8 : Int) < (Ln x0 : Int))) = false] := by kernel_rfl
theorem p25_e_3 (a0 : List Val) (a1 : List Int) (r1 : Val × Bool) : rE I25 (xB1 a0 a1) [Y] [xCO r1] = dn (xBg (r1.1, true)) [AbC 49 (xE1 a0) (xCO r1), r1.2 = true] := by kernel_rfl
theorem p25_e_4 (a0 : List Val) (a1 : List Int) (r1 : Val × Bool) : rE I25 (xB1 a0 a1) [F] [xCO r1] = st 5 I25 (S25_5 a0 a1 0 (Val.mk 0 0 0 [] [] [] [])) [AbC 49 (xE1 a0) (xCO r1), r1.2 = false] := by kernel_rfl
theorem c25_5 {N : Nat} : ∀ n x0 x1 x8 b4 r, xDr N n x0 x1 x8 b4 = some r → RS Tryd.f25 I25 5 (S25_5 x0 x1 x8 b4) (xBg r) := by
 intro n
 induction n with
 | zero => exact fun _ _ _ _ _ h => nE h
 | succ n ih =>
  exact fun x0 x1 x8 b4 r h =>
   cE h (fun h0 h => iE h fun h1 h => iE h fun h2 h => cE h (fun h3 h => bE h fun r1 h4 h => dS h fk25 (p25_5_0 x0 x1 x8 b4 r1) (oc h0 (oc h1 (oc h2 (oc h3 (oc (xBI h4) on)))))) fun h3 h =>
   tS fk25 (p25_5_1 x0 x1 x8 b4) (oc h0 (oc h1 (oc h2 (oc h3 on)))) (ih _ _ _ _ _ h)) fun h0 h =>
   dS h fk25 (p25_5_2 x0 x1 x8 b4) (oc h0 on)
theorem c25_e {N : Nat} : ∀ a0 a1 r, xFG N a0 a1 = some r → RE Tryd.f25 I25 (xB1 a0 a1) (xBg r) := fun a0 a1 r h =>
 bE h fun r1 h0 h => cE h (fun h1 h => dE h fk25 (p25_e_3 a0 a1 r1) (oc (xHy h0) (oc h1 on))) fun h1 h =>
 tE fk25 (p25_e_4 a0 a1 r1) (oc (xHy h0) (oc h1 on)) (c25_5 _ _ _ _ _ _ h)
theorem xC4 {N : Nat} {a0 : List Val} {a1 : List Int} {r : Val × Bool} (h : xFG N  a0 a1 = some r) : AbC 25 (xB1 a0 a1) (xBg r) :=
 AbsCalls.of_reach fk25 rfl rfl (Nat.le_of_ble_eq_true rfl) (c25_e a0 a1 r h)
noncomputable def I50 : Info := { body := (Tryd.f50.body).getD .skip, nt := 19, results := [.tmp 4], keep := [0, 2, 8, 10, 18, 34], live := [(2, [0, 2, 10])], modes := [] }
theorem fk50 : FnOk Tryd.prog 50 Tryd.f50 I50 := ⟨Tryd.func50, by kernel_rfl, by kernel_rfl, by kernel_rfl, by kernel_rfl⟩
def S50_2 (x0 : List Str) (x1 : Str) (x5 : Int) : St := [(0, .v false [.sl .ro .str x0]), (2, .v false [.str x1]), (10, .v false [.int .i64 x5])]
theorem p50_2_0 (x0 : List Str) (x1 : Str) (x5 : Int) : rS 2 I50 (S50_2 x0 x1 x5) [Y, Y] [] = dn (xD4 x5) [(decide ((x5 : Int) < (Ln x0 : Int))) = true, (0 : Int) ≤ x5 ∧ x5 < (Ln x0), (((gD x0 (tN x5) Ty.str.dflt) : Str) == x1) = true] := by kernel_rfl
theorem p50_2_1 (x0 : List Str) (x1 : Str) (x5 : Int) : rS 2 I50 (S50_2 x0 x1 x5) [Y, F] [] = st 2 I50 (S50_2 x0 x1 (W (x5 + 1))) [(decide ((x5 : Int) < (Ln x0 : Int))) = true, (0 : Int) ≤ x5 ∧ x5 < (Ln x0), (((gD x0 (tN x5) Ty.str.dflt) : Str) == x1) = false] := by kernel_rfl
theorem p50_2_2 (x0 : List Str) (x1 : Str) (x5 : Int) : rS 2 I50 (S50_2 x0 x1 x5) [F] [] = dn (xD4 (-1)) [(decide ((x5 : Int) < (Ln x0 : Int))) = false] := by kernel_rfl
theorem p50_e_3 (a0 : List Str) (a1 : Str) : rE I50 (xFM a0 a1) [] [] = st 2 I50 (S50_2 a0 a1 0) [] := by kernel_rfl
theorem c50_2 {N : Nat} : ∀ n x0 x1 x5 r, xD3 N n x0 x1 x5 = some r → RS Tryd.f50 I50 2 (S50_2 x0 x1 x5) (xD4 r) := by
 intro n
 induction n with
 | zero => exact fun _ _ _ _ h => nE h
 | succ n ih =>
  exact fun x0 x1 x5 r h =>
   cE h (fun h0 h => iE h fun h1 h => cE h (fun h2 h => dS h fk50 (p50_2_0 x0 x1 x5) (oc h0 (oc h1 (oc h2 on)))) fun h2 h =>
   tS fk50 (p50_2_1 x0 x1 x5) (oc h0 (oc h1 (oc h2 on))) (ih _ _ _ _ h)) fun h0 h =>
   dS h fk50 (p50_2_2 x0 x1 x5) (oc h0 on)
theorem c50_e {N : Nat} : ∀ a0 a1 r, xGM N a0 a1 = some r → RE Tryd.f50 I50 (xFM a0 a1) (xD4 r) := fun a0 a1 r h =>
 tE fk50 (p50_e_3 a0 a1) on (c50_2 _ _ _ _ _ h)
theorem spec_IndexOf_ok {N : Nat} {a0 : List Str} {a1 : Str} {r : Int} (h : xGM N  a0 a1 = some r) : AbC 50 (xFM a0 a1) (xD4 r) :=
 AbsCalls.of_reach fk50 rfl rfl (Nat.le_of_ble_eq_true rfl) (c50_e a0 a1 r h)
noncomputable def I26 : Info := { body := (Tryd.f26.body).getD .skip, nt := 9, results := [.tmp 4], keep := [0, 2, 4, 8, 5], live := [], modes := [] }
theorem fk26 : FnOk Tryd.prog 26 Tryd.f26 I26 := ⟨Tryd.func26, by kernel_rfl, by kernel_rfl, by kernel_rfl, by kernel_rfl⟩
theorem p26_e_0 (a0 : Val) (a1 : Str) (r1 : Int) : rE I26 (xAX a0 a1) [] [xD4 r1] = dn (xAE r1) [AbC 50 (xFM (Val.columns a0) a1) (xD4 r1)] := by kernel_rfl
theorem c26_e {N : Nat} : ∀ a0 a1 r, xCP N a0 a1 = some r → RE Tryd.f26 I26 (xAX a0 a1) (xAE r) := fun a0 a1 r h =>
 bE h fun r1 h0 h => dE h fk26 (p26_e_0 a0 a1 r1) (oc (spec_IndexOf_ok h0) on)
theorem xA1 {N : Nat} {a0 : Val} {a1 : Str} {r : Int} (h : xCP N  a0 a1 = some r) : AbC 26 (xAX a0 a1) (xAE r) :=
 AbsCalls.of_reach fk26 rfl rfl (Nat.le_of_ble_eq_true rfl) (c26_e a0 a1 r h)
noncomputable def I53 : Info := { body := (Tryd.f53.body).getD .skip, nt := 12, results := [.cell 2 51], keep := [0, 2, 4, 3, 5], live := [], modes := [] }
theorem fk53 : FnOk Tryd.prog 53 Tryd.f53 I53 := ⟨Tryd.func53, by kernel_rfl, by kernel_rfl, by kernel_rfl, by kernel_rfl⟩
theorem p53_e_0 (a0 : Rowd) : rE I53 (xGq a0) [] [] = dn (xFS (Rowd.mk ([] ++ (Rowd.cells a0)) ([] ++ (Rowd.frm a0)))) [0 + Ln (Rowd.cells a0) ≤ Lim, 0 + Ln (Rowd.frm a0) ≤ Lim] := by kernel_rfl
theorem c53_e {N : Nat} : ∀ a0 r, xG7 N a0 = some r → RE Tryd.f53 I53 (xGq a0) (xFS r) := fun a0 r h =>
 iE h fun h0 h => iE h fun h1 h => dE h fk53 (p53_e_0 a0) (oc h0 (oc h1 on))
theorem spec_l3Row_ok {N : Nat} {a0 : Rowd} {r : Rowd} (h : xG7 N  a0 = some r) : AbC 53 (xGq a0) (xFS r) :=
 AbsCalls.of_reach fk53 rfl rfl (Nat.le_of_ble_eq_true rfl) (c53_e a0 r h)
def G29 (q : Val → Option (Val)) : Prop := ∀ a0 r, q a0 = some r → AbC 29 (xEl a0) (xCM r)
noncomputable def I29 : Info := { body := (Tryd.f29.body).getD .skip, nt := 56, results := [.cell 2 28], keep := [0, 2, 4, 6, 8, 10, 46, 82, 3, 5, 7], live := [(3, [2, 4, 6, 8, 3, 5, 7]), (7, [2, 4, 6, 10, 3, 5, 7])], modes := [(5, [(1, .take, false), (9, .take, false)]), (9, [(1, .take, false), (9, .take, false)]), (10, [(0, .take, false)])] }
theorem fk29 : FnOk Tryd.prog 29 Tryd.f29 I29 := ⟨Tryd.func29, by kernel_rfl, by kernel_rfl, by kernel_rfl, by kernel_rfl⟩
def S29_3 (x4 : Int) (b1 b2 b3 : Val) : St := [(2, .v false [.ptr 1 0]), (4, .v false [.ptr 2 0]), (6, .v false [.ptr 3 0]), (8, .v false [.int .i64 x4]), (3, .v true [.int .i64 (Val.kind b1), .int .i64 (Val.n b1), .int .i64 (Val.step b1), .str (Val.text b1), .sl .ro .val (Val.list b1), .sl .ro .str (Val.columns b1), .sl .ro .row (Val.rows b1)]), (5, .v true [.int .i64 (Val.kind b2), .int .i64 (Val.n b2), .int .i64 (Val.step b2), .str (Val.text b2), .sl .own .val (Val.list b2), .sl .own .str (Val.columns b2), .sl .own .row (Val.rows b2)]), (7, .v true [.int .i64 (Val.kind b3), .int .i64 (Val.n b3), .int .i64 (Val.step b3), .str (Val.text b3), .sl .own .val (Val.list b3), .sl .own .str (Val.columns b3), .sl .own .row (Val.rows b3)])]
def S29_7 (x5 : Int) (b1 b2 b3 : Val) : St := [(2, .v false [.ptr 1 0]), (4, .v false [.ptr 2 0]), (6, .v false [.ptr 3 0]), (10, .v false [.int .i64 x5]), (3, .v true [.int .i64 (Val.kind b1), .int .i64 (Val.n b1), .int .i64 (Val.step b1), .str (Val.text b1), .sl .ro .val (Val.list b1), .sl .ro .str (Val.columns b1), .sl .ro .row (Val.rows b1)]), (5, .v true [.int .i64 (Val.kind b2), .int .i64 (Val.n b2), .int .i64 (Val.step b2), .str (Val.text b2), .sl .own .val (Val.list b2), .sl .own .str (Val.columns b2), .sl .own .row (Val.rows b2)]), (7, .v true [.int .i64 (Val.kind b3), .int .i64 (Val.n b3), .int .i64 (Val.step b3), .str (Val.text b3), .sl .own .val (Val.list b3), .sl .own .str (Val.columns b3), .sl .own .row (Val.rows b3)])]
theorem p29_7_0 (x5 : Int) (b1 b2 b3 : Val) (r1 : Rowd) : rS 7 I29 (S29_7 x5 b1 b2 b3) [Y] [xFS r1] = st 7 I29 (S29_7 (W (x5 + 1)) b1 b2 (Val.mk (Val.kind b3) (Val.n b3) (Val.step b3) (Val.text b3) (Val.list b3) (Val.columns b3) ((Val.rows b3) ++ [r1]))) [(decide ((x5 : Int) < (Ln (Val.rows b1) : Int))) = true, (0 : Int) ≤ x5 ∧ x5 < (Ln (Val.rows b1)), AbC 53 (xGq (gD (Val.rows b1) (tN x5) rd)) (xFS r1), Ln (Val.rows b3) + Ln [r1] ≤ Lim] := by kernel_rfl
theorem p29_7_1 (x5 : Int) (b1 b2 b3 : Val) : rS 7 I29 (S29_7 x5 b1 b2 b3) [F] [] = dn (xCM b3) [(decide ((x5 : Int) < (Ln (Val.rows b1) : Int))) = false] := by kernel_rfl
theorem p29_3_2 (x4 : Int) (b1 b2 b3 r1 : Val) : rS 3 I29 (S29_3 x4 b1 b2 b3) [Y] [xCM r1] = st 3 I29 (S29_3 (W (x4 + 1)) b1 b2 (Val.mk (Val.kind b3) (Val.n b3) (Val.step b3) (Val.text b3) ((Val.list b3) ++ [(Val.re r1)]) (Val.columns b3) (Val.rows b3))) [(decide ((x4 : Int) < (Ln (Val.list b1) : Int))) = true, (0 : Int) ≤ x4 ∧ x4 < (Ln (Val.list b1)), AbC 29 (xEl (gD (Val.list b1) (tN x4) vd)) (xCM r1), Ln (Val.list b3) + Ln [(Val.re r1)] ≤ Lim] := by kernel_rfl
theorem p29_3_3 (x4 : Int) (b1 b2 b3 : Val) : rS 3 I29 (S29_3 x4 b1 b2 b3) [F] [] = st 7 I29 (S29_7 0 b1 b2 b3) [(decide ((x4 : Int) < (Ln (Val.list b1) : Int))) = false] := by kernel_rfl
theorem p29_e_4 (a0 : Val) : rE I29 (xEl a0) [] [] = st 3 I29 (S29_3 0 a0 (Val.mk 0 0 0 [] [] [] []) (Val.mk (Val.kind a0) (Val.n a0) (Val.step a0) (Val.text a0) [] ([] ++ (Val.columns a0)) [])) [0 + Ln (Val.columns a0) ≤ Lim] := by kernel_rfl
theorem c29_7 {N : Nat} {q0 : Val → Option (Val)} (g0 : G29 q0) : ∀ n x5 b1 b2 b3 r, xEm N q0 n x5 b1 b2 b3 = some r → RS Tryd.f29 I29 7 (S29_7 x5 b1 b2 b3) (xCM r) := by
 intro n
 induction n with
 | zero => exact fun _ _ _ _ _ h => nE h
 | succ n ih =>
  exact fun x5 b1 b2 b3 r h =>
   cE h (fun h0 h => iE h fun h1 h => bE h fun r1 h2 h => iE h fun h3 h => tS fk29 (p29_7_0 x5 b1 b2 b3 r1) (oc h0 (oc h1 (oc (spec_l3Row_ok h2) (oc h3 on)))) (ih _ _ _ _ _ h)) fun h0 h =>
   dS h fk29 (p29_7_1 x5 b1 b2 b3) (oc h0 on)
theorem c29_3 {N : Nat} {q0 : Val → Option (Val)} (g0 : G29 q0) : ∀ n x4 b1 b2 b3 r, xEO N q0 n x4 b1 b2 b3 = some r → RS Tryd.f29 I29 3 (S29_3 x4 b1 b2 b3) (xCM r) := by
 intro n
 induction n with
 | zero => exact fun _ _ _ _ _ h => nE h
 | succ n ih =>
  exact fun x4 b1 b2 b3 r h =>
   cE h (fun h0 h => iE h fun h1 h => bE h fun r1 h2 h => iE h fun h3 h => tS fk29 (p29_3_2 x4 b1 b2 b3 r1) (oc h0 (oc h1 (oc (g0 _ _ h2) (oc h3 on)))) (ih _ _ _ _ _ h)) fun h0 h =>
   tS fk29 (p29_3_3 x4 b1 b2 b3) (oc h0 on) (c29_7 g0 _ _ _ _ _ _ h)
theorem c29_e {N : Nat} {q0 : Val → Option (Val)} (g0 : G29 q0) : ∀ a0 r, xEI N q0 a0 = some r → RE Tryd.f29 I29 (xEl a0) (xCM r) := fun a0 r h =>
 iE h fun h0 h => tE fk29 (p29_e_4 a0) (oc h0 on) (c29_3 g0 _ _ _ _ _ _ h)
theorem xHV {N : Nat} {q0 : Val → Option (Val)} (g0 : G29 q0) {a0 : Val} {r : Val} (h : xEI N q0 a0 = some r) : AbC 29 (xEl a0) (xCM r) :=
 AbsCalls.of_reach fk29 rfl rfl (Nat.le_of_ble_eq_true rfl) (c29_e g0 a0 r h)
theorem xGP {N : Nat} : ∀ d, G29 (xD8 N d)
 | 0 => fun _ _ h => nE h
 | d + 1 => fun _ _ h => xHV (N := N) (xGP d) h
theorem spec_l3Copy_ok {N : Nat} {a0 : Val} {r : Val} (h : xHU N a0 = some r) : AbC 29 (xEl a0) (xCM r) := xGP N _ r h
noncomputable def I8 : Info := { body := (Tryd.f8.body).getD .skip, nt := 115, results := [.cell 8 28], keep := [0, 2, 4, 6, 8, 10, 12, 14, 16, 18, 20, 22, 24, 26, 28, 30, 52, 108, 118, 148, 196, 9, 11, 13, 15, 17, 19, 27], live := [(13, [14, 16, 22, 24, 26, 28, 15, 17, 27])], modes := [(1, [(7, .take, false)]), (2, [(0, .take, false)]), (3, [(0, .take, false)]), (6, [(4, .take, false), (11, .take, false), (15, .take, false)]), (11, [(1, .take, false)]), (18, [(1, .ref, false), (4, .ref, false), (8, .ref, false)]), (19, [(0, .take, false)])] }
theorem fk8 : FnOk Tryd.prog 8 Tryd.f8 I8 := ⟨Tryd.func8, by kernel_rfl, by kernel_rfl, by kernel_rfl, by kernel_rfl⟩
def S8_13 (x11 x12 x14 : Int) (b7 b8 b13 : Val) : St := [(14, .v false [.ptr 7 0]), (16, .v false [.ptr 8 0]), (22, .v false [.int .i64 x11]), (24, .v false [.int .i64 x12]), (26, .v false [.ptr 13 0]), (28, .v false [.int .i64 x14]), (15, .v true [.int .i64 (Val.kind b7), .int .i64 (Val.n b7), .int .i64 (Val.step b7), .str (Val.text b7), .sl .ro .val (Val.list b7), .sl .ro .str (Val.columns b7), .sl .ro .row (Val.rows b7)]), (17, .v true [.int .i64 (Val.kind b8), .int .i64 (Val.n b8), .int .i64 (Val.step b8), .str (Val.text b8), .sl .own .val (Val.list b8), .sl .own .str (Val.columns b8), .sl .own .row (Val.rows b8)]), (27, .v true [.int .i64 (Val.kind b13), .int .i64 (Val.n b13), .int .i64 (Val.step b13), .str (Val.text b13), .sl .own .val (Val.list b13), .sl .own .str (Val.columns b13), .sl .own .row (Val.rows b13)])]
theorem p8_13_0 (x11 x12 x14 : Int) (b7 b8 b13 : Val) (r1 : Bool) (r2 : Val) : rS 13 I8 (S8_13 x11 x12 x14 b7 b8 b13) [Y, Y] [xBq r1, xAV r2] = dn (xAg r2) [(decide ((x14 : Int) < (Ln (Val.rows b13) : Int))) = true, (0 : Int) ≤ x14 ∧ x14 < (Ln (Val.rows b7)), (0 : Int) ≤ x11 ∧ x11 < (Ln (Rowd.cells (gD (Val.rows b7) (tN x14) rd))), (0 : Int) ≤ x14 ∧ x14 < (Ln (Val.rows b7)), (0 : Int) ≤ x12 ∧ x12 < (Ln (Rowd.cells (gD (Val.rows b7) (tN x14) rd))), AbC 30 (xCh (W ((gD (Rowd.cells (gD (Val.rows b7) (tN x14) rd)) (tN x11) Ty.int.dflt) + (gD (Rowd.cells (gD (Val.rows b7) (tN x14) rd)) (tN x12) Ty.int.dflt)))) (xBq r1), (!r1) = true, AbC 28 (xBw 5) (xAV r2)] := by kernel_rfl
theorem p8_13_1 (x11 x12 x14 : Int) (b7 b8 b13 : Val) (r1 : Bool) : rS 13 I8 (S8_13 x11 x12 x14 b7 b8 b13) [Y, F] [xBq r1] = st 13 I8 (S8_13 x11 x12 (W (x14 + 1)) b7 b8 (Val.mk (Val.kind b13) (Val.n b13) (Val.step b13) (Val.text b13) (Val.list b13) (Val.columns b13) (List.set (Val.rows b13) (tN x14) (Rowd.mk ((Rowd.cells (gD (Val.rows b13) (tN x14) rd)) ++ [(W ((gD (Rowd.cells (gD (Val.rows b7) (tN x14) rd)) (tN x11) Ty.int.dflt) + (gD (Rowd.cells (gD (Val.rows b7) (tN x14) rd)) (tN x12) Ty.int.dflt)))]) (Rowd.frm (gD (Val.rows b13) (tN x14) rd)))))) [(decide ((x14 : Int) < (Ln (Val.rows b13) : Int))) = true, (0 : Int) ≤ x14 ∧ x14 < (Ln (Val.rows b7)), (0 : Int) ≤ x11 ∧ x11 < (Ln (Rowd.cells (gD (Val.rows b7) (tN x14) rd))), (0 : Int) ≤ x14 ∧ x14 < (Ln (Val.rows b7)), (0 : Int) ≤ x12 ∧ x12 < (Ln (Rowd.cells (gD (Val.rows b7) (tN x14) rd))), AbC 30 (xCh (W ((gD (Rowd.cells (gD (Val.rows b7) (tN x14) rd)) (tN x11) Ty.int.dflt) + (gD (Rowd.cells (gD (Val.rows b7) (tN x14) rd)) (tN x12) Ty.int.dflt)))) (xBq r1), (!r1) = false, (0 : Int) ≤ x14 ∧ x14 < (Ln (Val.rows b13)), Ln (Rowd.cells (gD (Val.rows b13) (tN x14) rd)) + Ln [(W ((gD (Rowd.cells (gD (Val.rows b7) (tN x14) rd)) (tN x11) Ty.int.dflt) + (gD (Rowd.cells (gD (Val.rows b7) (tN x14) rd)) (tN x12) Ty.int.dflt)))] ≤ Lim, (0 : Int) ≤ x14 ∧ x14 < (Ln (Val.rows b13)), (27 : Nat) = 27 ∧ (6 : Nat) = 6 ∧ ([((tN x14), 0)] : List (Nat × Nat)) = [((tN x14), 0)]] := by kernel_rfl
theorem p8_13_2 (x11 x12 x14 : Int) (b7 b8 b13 : Val) : rS 13 I8 (S8_13 x11 x12 x14 b7 b8 b13) [F] [] = dn (xAg b13) [(decide ((x14 : Int) < (Ln (Val.rows b13) : Int))) = false] := by kernel_rfl
theorem p8_e_3 (a0 a1 a2 a3 : Val) (r1 : Val × Bool) : rE I8 (xAu a0 a1 a2 a3) [Y] [xBg r1] = dn (xAg r1.1) [AbC 25 (xB1 [(Val.re a0), (Val.re a1), (Val.re a2), (Val.re a3)] [2, 2, 2, 5]) (xBg r1), r1.2 = true] := by kernel_rfl
theorem p8_e_4 (a0 a1 a2 a3 : Val) (r1 : Val × Bool) (r2 r3 : Int) (r4 : Bool) (r5 : Val) : rE I8 (xAu a0 a1 a2 a3) [F, Y, Y, Y, Y] [xBg r1, xAE r2, xAE r3, xA2 r4, xAV r5] = dn (xAg r5) [AbC 25 (xB1 [(Val.re a0), (Val.re a1), (Val.re a2), (Val.re a3)] [2, 2, 2, 5]) (xBg r1), r1.2 = false, AbC 26 (xAX a3 (Val.text a1)) (xAE r2), AbC 26 (xAX a3 (Val.text a2)) (xAE r3), AbC 27 (xBC (Val.text a0)) (xA2 r4), (!r4) = true, true = true, true = true, true = true, AbC 28 (xBw 7) (xAV r5)] := by kernel_rfl
theorem p8_e_5 (a0 a1 a2 a3 : Val) (r1 : Val × Bool) (r2 r3 : Int) (r4 : Bool) (r5 : Int) (r6 : Val) : rE I8 (xAu a0 a1 a2 a3) [F, F, Y, Y, Y] [xBg r1, xAE r2, xAE r3, xA2 r4, xAE r5, xAV r6] = dn (xAg r6) [AbC 25 (xB1 [(Val.re a0), (Val.re a1), (Val.re a2), (Val.re a3)] [2, 2, 2, 5]) (xBg r1), r1.2 = false, AbC 26 (xAX a3 (Val.text a1)) (xAE r2), AbC 26 (xAX a3 (Val.text a2)) (xAE r3), AbC 27 (xBC (Val.text a0)) (xA2 r4), (!r4) = false, AbC 26 (xAX a3 (Val.text a0)) (xAE r5), (decide ((r5 : Int) ≥ 0)) = true, true = true, true = true, AbC 28 (xBw 7) (xAV r6)] := by kernel_rfl
theorem p8_e_6 (a0 a1 a2 a3 : Val) (r1 : Val × Bool) (r2 r3 : Int) (r4 : Bool) (r5 : Int) (r6 : Val) : rE I8 (xAu a0 a1 a2 a3) [F, F, F, Y, Y] [xBg r1, xAE r2, xAE r3, xA2 r4, xAE r5, xAV r6] = dn (xAg r6) [AbC 25 (xB1 [(Val.re a0), (Val.re a1), (Val.re a2), (Val.re a3)] [2, 2, 2, 5]) (xBg r1), r1.2 = false, AbC 26 (xAX a3 (Val.text a1)) (xAE r2), AbC 26 (xAX a3 (Val.text a2)) (xAE r3), AbC 27 (xBC (Val.text a0)) (xA2 r4), (!r4) = false, AbC 26 (xAX a3 (Val.text a0)) (xAE r5), (decide ((r5 : Int) ≥ 0)) = false, (decide ((r2 : Int) < 0)) = true, true = true, AbC 28 (xBw 7) (xAV r6)] := by kernel_rfl
theorem p8_e_7 (a0 a1 a2 a3 : Val) (r1 : Val × Bool) (r2 r3 : Int) (r4 : Bool) (r5 : Int) (r6 : Val) : rE I8 (xAu a0 a1 a2 a3) [F, F, F, F, Y] [xBg r1, xAE r2, xAE r3, xA2 r4, xAE r5, xAV r6] = dn (xAg r6) [AbC 25 (xB1 [(Val.re a0), (Val.re a1), (Val.re a2), (Val.re a3)] [2, 2, 2, 5]) (xBg r1), r1.2 = false, AbC 26 (xAX a3 (Val.text a1)) (xAE r2), AbC 26 (xAX a3 (Val.text a2)) (xAE r3), AbC 27 (xBC (Val.text a0)) (xA2 r4), (!r4) = false, AbC 26 (xAX a3 (Val.text a0)) (xAE r5), (decide ((r5 : Int) ≥ 0)) = false, (decide ((r2 : Int) < 0)) = false, (decide ((r3 : Int) < 0)) = true, AbC 28 (xBw 7) (xAV r6)] := by kernel_rfl
theorem p8_e_8 (a0 a1 a2 a3 : Val) (r1 : Val × Bool) (r2 r3 : Int) (r4 : Bool) (r5 : Int) (r6 : Val) : rE I8 (xAu a0 a1 a2 a3) [F, F, F, F, F, Y] [xBg r1, xAE r2, xAE r3, xA2 r4, xAE r5, xAV r6] = dn (xAg r6) [AbC 25 (xB1 [(Val.re a0), (Val.re a1), (Val.re a2), (Val.re a3)] [2, 2, 2, 5]) (xBg r1), r1.2 = false, AbC 26 (xAX a3 (Val.text a1)) (xAE r2), AbC 26 (xAX a3 (Val.text a2)) (xAE r3), AbC 27 (xBC (Val.text a0)) (xA2 r4), (!r4) = false, AbC 26 (xAX a3 (Val.text a0)) (xAE r5), (decide ((r5 : Int) ≥ 0)) = false, (decide ((r2 : Int) < 0)) = false, (decide ((r3 : Int) < 0)) = false, (((Ln (Val.columns a3) : Int) : Int) == 4) = true, AbC 28 (xBw 6) (xAV r6)] := by kernel_rfl
theorem p8_e_9 (a0 a1 a2 a3 : Val) (r1 : Val × Bool) (r2 r3 : Int) (r4 : Bool) (r5 : Int) (r6 : Val) : rE I8 (xAu a0 a1 a2 a3) [F, F, F, F, F, F] [xBg r1, xAE r2, xAE r3, xA2 r4, xAE r5, xCM r6] = st 13 I8 (S8_13 r2 r3 0 a3 (Val.mk 0 0 0 [] [] [] []) (Val.mk (Val.kind r6) (Val.n r6) (Val.step r6) (Val.text r6) (Val.list r6) ((Val.columns r6) ++ [(Val.text a0)]) (Val.rows r6))) [AbC 25 (xB1 [(Val.re a0), (Val.re a1), (Val.re a2), (Val.re a3)] [2, 2, 2, 5]) (xBg r1), r1.2 = false, AbC 26 (xAX a3 (Val.text a1)) (xAE r2), AbC 26 (xAX a3 (Val.text a2)) (xAE r3), AbC 27 (xBC (Val.text a0)) (xA2 r4), (!r4) = false, AbC 26 (xAX a3 (Val.text a0)) (xAE r5), (decide ((r5 : Int) ≥ 0)) = false, (decide ((r2 : Int) < 0)) = false, (decide ((r3 : Int) < 0)) = false, (((Ln (Val.columns a3) : Int) : Int) == 4) = false, AbC 29 (xEl a3) (xCM r6), Ln (Val.columns r6) + Ln [(Val.text a0)] ≤ Lim] := by kernel_rfl
theorem c8_13 {N : Nat} : ∀ n x11 x12 x14 b7 b8 b13 r, xCH N n x11 x12 x14 b7 b8 b13 = some r → RS Tryd.f8 I8 13 (S8_13 x11 x12 x14 b7 b8 b13) (xAg r) := by
 intro n
 induction n with
 | zero => exact fun _ _ _ _ _ _ _ h => nE h
 | succ n ih =>
  exact fun x11 x12 x14 b7 b8 b13 r h =>
   cE h (fun h0 h => iE h fun h1 h => iE h fun h2 h => iE h fun h4 h => bE h fun r1 h5 h => cE h (fun h6 h => bE h fun r2 h7 h => dS h fk8 (p8_13_0 x11 x12 x14 b7 b8 b13 r1 r2) (oc h0 (oc h1 (oc h2 (oc h1 (oc h4 (oc (xC9 h5) (oc h6 (oc (xBI h7) on))))))))) fun h6 h =>
   iE h fun h7 h => iE h fun h8 h => tS fk8 (p8_13_1 x11 x12 x14 b7 b8 b13 r1) (oc h0 (oc h1 (oc h2 (oc h1 (oc h4 (oc (xC9 h5) (oc h6 (oc h7 (oc h8 (oc h7 (oc ⟨rfl, rfl, rfl⟩ on))))))))))) (ih _ _ _ _ _ _ _ h)) fun h0 h =>
   dS h fk8 (p8_13_2 x11 x12 x14 b7 b8 b13) (oc h0 on)
theorem c8_e {N : Nat} : ∀ a0 a1 a2 a3 r, xCx N a0 a1 a2 a3 = some r → RE Tryd.f8 I8 (xAu a0 a1 a2 a3) (xAg r) := fun a0 a1 a2 a3 r h =>
 bE h fun r1 h0 h => cE h (fun h1 h => dE h fk8 (p8_e_3 a0 a1 a2 a3 r1) (oc (xC4 h0) (oc h1 on))) fun h1 h =>
 bE h fun r2 h2 h => bE h fun r3 h3 h => bE h fun r4 h4 h => cE h (fun h5 h => bE h fun r5 h9 h => dE h fk8 (p8_e_4 a0 a1 a2 a3 r1 r2 r3 r4 r5) (oc (xC4 h0) (oc h1 (oc (xA1 h2) (oc (xA1 h3) (oc (xCu h4) (oc h5 (oc rfl (oc rfl (oc rfl (oc (xBI h9) on))))))))))) fun h5 h =>
 bE h fun r5 h6 h => cE h (fun h7 h => bE h fun r6 h10 h => dE h fk8 (p8_e_5 a0 a1 a2 a3 r1 r2 r3 r4 r5 r6) (oc (xC4 h0) (oc h1 (oc (xA1 h2) (oc (xA1 h3) (oc (xCu h4) (oc h5 (oc (xA1 h6) (oc h7 (oc rfl (oc rfl (oc (xBI h10) on)))))))))))) fun h7 h =>
 cE h (fun h8 h => bE h fun r6 h10 h => dE h fk8 (p8_e_6 a0 a1 a2 a3 r1 r2 r3 r4 r5 r6) (oc (xC4 h0) (oc h1 (oc (xA1 h2) (oc (xA1 h3) (oc (xCu h4) (oc h5 (oc (xA1 h6) (oc h7 (oc h8 (oc rfl (oc (xBI h10) on)))))))))))) fun h8 h =>
 cE h (fun h9 h => bE h fun r6 h10 h => dE h fk8 (p8_e_7 a0 a1 a2 a3 r1 r2 r3 r4 r5 r6) (oc (xC4 h0) (oc h1 (oc (xA1 h2) (oc (xA1 h3) (oc (xCu h4) (oc h5 (oc (xA1 h6) (oc h7 (oc h8 (oc h9 (oc (xBI h10) on)))))))))))) fun h9 h =>
 cE h (fun h10 h => bE h fun r6 h11 h => dE h fk8 (p8_e_8 a0 a1 a2 a3 r1 r2 r3 r4 r5 r6) (oc (xC4 h0) (oc h1 (oc (xA1 h2) (oc (xA1 h3) (oc (xCu h4) (oc h5 (oc (xA1 h6) (oc h7 (oc h8 (oc h9 (oc h10 (oc (xBI h11) on))))))))))))) fun h10 h =>
 bE h fun r6 h11 h => iE h fun h12 h => tE fk8 (p8_e_9 a0 a1 a2 a3 r1 r2 r3 r4 r5 r6) (oc (xC4 h0) (oc h1 (oc (xA1 h2) (oc (xA1 h3) (oc (xCu h4) (oc h5 (oc (xA1 h6) (oc h7 (oc h8 (oc h9 (oc h10 (oc (spec_l3Copy_ok h11) (oc h12 on))))))))))))) (c8_13 _ _ _ _ _ _ _ _ h)
theorem xAD {N : Nat} {a0 : Val} {a1 : Val} {a2 : Val} {a3 : Val} {r : Val} (h : xCx N  a0 a1 a2 a3 = some r) : AbC 8 (xAu a0 a1 a2 a3) (xAg r) :=
 AbsCalls.of_reach fk8 rfl rfl (Nat.le_of_ble_eq_true rfl) (c8_e a0 a1 a2 a3 r h)
noncomputable def I46 : Info := { body := (Tryd.f46.body).getD .skip, nt := 26, results := [.tmp 4], keep := [0, 2, 8, 10, 20, 28, 50], live := [(4, [0, 2, 10])], modes := [] }
theorem fk46 : FnOk Tryd.prog 46 Tryd.f46 I46 := ⟨Tryd.func46, by kernel_rfl, by kernel_rfl, by kernel_rfl, by kernel_rfl⟩
def S46_4 (x0 x1 : List Str) (x5 : Int) : St := [(0, .v false [.sl .ro .str x0]), (2, .v false [.sl .ro .str x1]), (10, .v false [.int .i64 x5])]
theorem p46_4_0 (x0 x1 : List Str) (x5 : Int) : rS 4 I46 (S46_4 x0 x1 x5) [Y, Y] [] = dn (xCi false) [(decide ((x5 : Int) < (Ln x0 : Int))) = true, (0 : Int) ≤ x5 ∧ x5 < (Ln x0), (0 : Int) ≤ x5 ∧ x5 < (Ln x1), (!(((gD x0 (tN x5) Ty.str.dflt) : Str) == (gD x1 (tN x5) Ty.str.dflt))) = true] := by kernel_rfl
theorem p46_4_1 (x0 x1 : List Str) (x5 : Int) : rS 4 I46 (S46_4 x0 x1 x5) [Y, F] [] = st 4 I46 (S46_4 x0 x1 (W (x5 + 1))) [(decide ((x5 : Int) < (Ln x0 : Int))) = true, (0 : Int) ≤ x5 ∧ x5 < (Ln x0), (0 : Int) ≤ x5 ∧ x5 < (Ln x1), (!(((gD x0 (tN x5) Ty.str.dflt) : Str) == (gD x1 (tN x5) Ty.str.dflt))) = false] := by kernel_rfl
theorem p46_4_2 (x0 x1 : List Str) (x5 : Int) : rS 4 I46 (S46_4 x0 x1 x5) [F] [] = dn (xCi true) [(decide ((x5 : Int) < (Ln x0 : Int))) = false] := by kernel_rfl
theorem p46_e_3 (a0 a1 : List Str) : rE I46 (xEa a0 a1) [Y] [] = dn (xCi false) [(((Ln a0 : Int) : Int) != (Ln a1 : Int)) = true] := by kernel_rfl
theorem p46_e_4 (a0 a1 : List Str) : rE I46 (xEa a0 a1) [F] [] = st 4 I46 (S46_4 a0 a1 0) [(((Ln a0 : Int) : Int) != (Ln a1 : Int)) = false] := by kernel_rfl
theorem c46_4 {N : Nat} : ∀ n x0 x1 x5 r, xEx N n x0 x1 x5 = some r → RS Tryd.f46 I46 4 (S46_4 x0 x1 x5) (xCi r) := by
 intro n
 induction n with
 | zero => exact fun _ _ _ _ h => nE h
 | succ n ih =>
  exact fun x0 x1 x5 r h =>
   cE h (fun h0 h => iE h fun h1 h => iE h fun h2 h => cE h (fun h3 h => dS h fk46 (p46_4_0 x0 x1 x5) (oc h0 (oc h1 (oc h2 (oc h3 on))))) fun h3 h =>
   tS fk46 (p46_4_1 x0 x1 x5) (oc h0 (oc h1 (oc h2 (oc h3 on)))) (ih _ _ _ _ h)) fun h0 h =>
   dS h fk46 (p46_4_2 x0 x1 x5) (oc h0 on)
theorem c46_e {N : Nat} : ∀ a0 a1 r, xGi N a0 a1 = some r → RE Tryd.f46 I46 (xEa a0 a1) (xCi r) := fun a0 a1 r h =>
 cE h (fun h0 h => dE h fk46 (p46_e_3 a0 a1) (oc h0 on)) fun h0 h =>
 tE fk46 (p46_e_4 a0 a1) (oc h0 on) (c46_4 _ _ _ _ _ h)
theorem xGH {N : Nat} {a0 : List Str} {a1 : List Str} {r : Bool} (h : xGi N  a0 a1 = some r) : AbC 46 (xEa a0 a1) (xCi r) :=
 AbsCalls.of_reach fk46 rfl rfl (Nat.le_of_ble_eq_true rfl) (c46_e a0 a1 r h)
noncomputable def I47 : Info := { body := (Tryd.f47.body).getD .skip, nt := 26, results := [.tmp 4], keep := [0, 2, 8, 10, 20, 28, 50], live := [(4, [0, 2, 10])], modes := [] }
theorem fk47 : FnOk Tryd.prog 47 Tryd.f47 I47 := ⟨Tryd.func47, by kernel_rfl, by kernel_rfl, by kernel_rfl, by kernel_rfl⟩
def S47_4 (x0 x1 : List Int) (x5 : Int) : St := [(0, .v false [.sl .ro .int x0]), (2, .v false [.sl .ro .int x1]), (10, .v false [.int .i64 x5])]
theorem p47_4_0 (x0 x1 : List Int) (x5 : Int) : rS 4 I47 (S47_4 x0 x1 x5) [Y, Y] [] = dn (xB6 false) [(decide ((x5 : Int) < (Ln x0 : Int))) = true, (0 : Int) ≤ x5 ∧ x5 < (Ln x0), (0 : Int) ≤ x5 ∧ x5 < (Ln x1), (((gD x0 (tN x5) Ty.int.dflt) : Int) != (gD x1 (tN x5) Ty.int.dflt)) = true] := by kernel_rfl
theorem p47_4_1 (x0 x1 : List Int) (x5 : Int) : rS 4 I47 (S47_4 x0 x1 x5) [Y, F] [] = st 4 I47 (S47_4 x0 x1 (W (x5 + 1))) [(decide ((x5 : Int) < (Ln x0 : Int))) = true, (0 : Int) ≤ x5 ∧ x5 < (Ln x0), (0 : Int) ≤ x5 ∧ x5 < (Ln x1), (((gD x0 (tN x5) Ty.int.dflt) : Int) != (gD x1 (tN x5) Ty.int.dflt)) = false] := by kernel_rfl
theorem p47_4_2 (x0 x1 : List Int) (x5 : Int) : rS 4 I47 (S47_4 x0 x1 x5) [F] [] = dn (xB6 true) [(decide ((x5 : Int) < (Ln x0 : Int))) = false] := by kernel_rfl
theorem p47_e_3 (a0 a1 : List Int) : rE I47 (xDK a0 a1) [Y] [] = dn (xB6 false) [(((Ln a0 : Int) : Int) != (Ln a1 : Int)) = true] := by kernel_rfl
theorem p47_e_4 (a0 a1 : List Int) : rE I47 (xDK a0 a1) [F] [] = st 4 I47 (S47_4 a0 a1 0) [(((Ln a0 : Int) : Int) != (Ln a1 : Int)) = false] := by kernel_rfl
theorem c47_4 {N : Nat} : ∀ n x0 x1 x5 r, xEM N n x0 x1 x5 = some r → RS Tryd.f47 I47 4 (S47_4 x0 x1 x5) (xB6 r) := by
 intro n
 induction n with
 | zero => exact fun _ _ _ _ h => nE h
 | succ n ih =>
  exact fun x0 x1 x5 r h =>
   cE h (fun h0 h => iE h fun h1 h => iE h fun h2 h => cE h (fun h3 h => dS h fk47 (p47_4_0 x0 x1 x5) (oc h0 (oc h1 (oc h2 (oc h3 on))))) fun h3 h =>
   tS fk47 (p47_4_1 x0 x1 x5) (oc h0 (oc h1 (oc h2 (oc h3 on)))) (ih _ _ _ _ h)) fun h0 h =>
   dS h fk47 (p47_4_2 x0 x1 x5) (oc h0 on)
theorem c47_e {N : Nat} : ∀ a0 a1 r, xGC N a0 a1 = some r → RE Tryd.f47 I47 (xDK a0 a1) (xB6 r) := fun a0 a1 r h =>
 cE h (fun h0 h => dE h fk47 (p47_e_3 a0 a1) (oc h0 on)) fun h0 h =>
 tE fk47 (p47_e_4 a0 a1) (oc h0 on) (c47_4 _ _ _ _ _ h)
theorem xF7 {N : Nat} {a0 : List Int} {a1 : List Int} {r : Bool} (h : xGC N  a0 a1 = some r) : AbC 47 (xDK a0 a1) (xB6 r) :=
 AbsCalls.of_reach fk47 rfl rfl (Nat.le_of_ble_eq_true rfl) (c47_e a0 a1 r h)
noncomputable def I48 : Info := { body := (Tryd.f48.body).getD .skip, nt := 26, results := [.tmp 4], keep := [0, 2, 8, 10, 20, 28, 50], live := [(4, [0, 2, 10])], modes := [] }
theorem fk48 : FnOk Tryd.prog 48 Tryd.f48 I48 := ⟨Tryd.func48, by kernel_rfl, by kernel_rfl, by kernel_rfl, by kernel_rfl⟩
def S48_4 (x0 x1 : List Org) (x5 : Int) : St := [(0, .v false [.sl .ro .org x0]), (2, .v false [.sl .ro .org x1]), (10, .v false [.int .i64 x5])]
theorem p48_4_0 (x0 x1 : List Org) (x5 : Int) : rS 4 I48 (S48_4 x0 x1 x5) [Y, Y] [] = dn (xCl false) [(decide ((x5 : Int) < (Ln x0 : Int))) = true, (0 : Int) ≤ x5 ∧ x5 < (Ln x0), (0 : Int) ≤ x5 ∧ x5 < (Ln x1), (!((((Org.cell (gD x0 (tN x5) Ty.org.dflt)) : Int) == (Org.cell (gD x1 (tN x5) Ty.org.dflt))) && (((Org.row (gD x0 (tN x5) Ty.org.dflt)) : Int) == (Org.row (gD x1 (tN x5) Ty.org.dflt))))) = true] := by kernel_rfl
theorem p48_4_1 (x0 x1 : List Org) (x5 : Int) : rS 4 I48 (S48_4 x0 x1 x5) [Y, F] [] = st 4 I48 (S48_4 x0 x1 (W (x5 + 1))) [(decide ((x5 : Int) < (Ln x0 : Int))) = true, (0 : Int) ≤ x5 ∧ x5 < (Ln x0), (0 : Int) ≤ x5 ∧ x5 < (Ln x1), (!((((Org.cell (gD x0 (tN x5) Ty.org.dflt)) : Int) == (Org.cell (gD x1 (tN x5) Ty.org.dflt))) && (((Org.row (gD x0 (tN x5) Ty.org.dflt)) : Int) == (Org.row (gD x1 (tN x5) Ty.org.dflt))))) = false] := by kernel_rfl
theorem p48_4_2 (x0 x1 : List Org) (x5 : Int) : rS 4 I48 (S48_4 x0 x1 x5) [F] [] = dn (xCl true) [(decide ((x5 : Int) < (Ln x0 : Int))) = false] := by kernel_rfl
theorem p48_e_3 (a0 a1 : List Org) : rE I48 (xDS a0 a1) [Y] [] = dn (xCl false) [(((Ln a0 : Int) : Int) != (Ln a1 : Int)) = true] := by kernel_rfl
theorem p48_e_4 (a0 a1 : List Org) : rE I48 (xDS a0 a1) [F] [] = st 4 I48 (S48_4 a0 a1 0) [(((Ln a0 : Int) : Int) != (Ln a1 : Int)) = false] := by kernel_rfl
theorem c48_4 {N : Nat} : ∀ n x0 x1 x5 r, xDT N n x0 x1 x5 = some r → RS Tryd.f48 I48 4 (S48_4 x0 x1 x5) (xCl r) := by
 intro n
 induction n with
 | zero => exact fun _ _ _ _ h => nE h
 | succ n ih =>
  exact fun x0 x1 x5 r h =>
   cE h (fun h0 h => iE h fun h1 h => iE h fun h2 h => cE h (fun h3 h => dS h fk48 (p48_4_0 x0 x1 x5) (oc h0 (oc h1 (oc h2 (oc h3 on))))) fun h3 h =>
   tS fk48 (p48_4_1 x0 x1 x5) (oc h0 (oc h1 (oc h2 (oc h3 on)))) (ih _ _ _ _ h)) fun h0 h =>
   dS h fk48 (p48_4_2 x0 x1 x5) (oc h0 on)
theorem c48_e {N : Nat} : ∀ a0 a1 r, xFp N a0 a1 = some r → RE Tryd.f48 I48 (xDS a0 a1) (xCl r) := fun a0 a1 r h =>
 cE h (fun h0 h => dE h fk48 (p48_e_3 a0 a1) (oc h0 on)) fun h0 h =>
 tE fk48 (p48_e_4 a0 a1) (oc h0 on) (c48_4 _ _ _ _ _ h)
theorem xG6 {N : Nat} {a0 : List Org} {a1 : List Org} {r : Bool} (h : xFp N  a0 a1 = some r) : AbC 48 (xDS a0 a1) (xCl r) :=
 AbsCalls.of_reach fk48 rfl rfl (Nat.le_of_ble_eq_true rfl) (c48_e a0 a1 r h)
def G24 (q : Val → Val → Bool → Option (Bool)) : Prop := ∀ a0 a1 a2 r, q a0 a1 a2 = some r → AbC 24 (xBT a0 a1 a2) (xBo r)
noncomputable def I24 : Info := { body := (Tryd.f24.body).getD .skip, nt := 121, results := [.tmp 6], keep := [0, 2, 4, 6, 8, 12, 14, 16, 120, 130, 160, 170, 240, 7, 9], live := [(4, [4, 6, 8, 14, 7, 9]), (9, [4, 6, 8, 16, 7, 9])], modes := [(1, [(5, .take, false), (12, .take, false), (19, .take, false), (26, .take, false), (35, .take, false), (43, .take, false)]), (11, [(14, .take, false), (16, .take, false)])] }
theorem fk24 : FnOk Tryd.prog 24 Tryd.f24 I24 := ⟨Tryd.func24, by kernel_rfl, by kernel_rfl, by kernel_rfl, by kernel_rfl⟩
def S24_4 (x2 : Bool) (x7 : Int) (b3 b4 : Val) : St := [(4, .v false [.bool x2]), (6, .v false [.ptr 3 0]), (8, .v false [.ptr 4 0]), (14, .v false [.int .i64 x7]), (7, .v true [.int .i64 (Val.kind b3), .int .i64 (Val.n b3), .int .i64 (Val.step b3), .str (Val.text b3), .sl .ro .val (Val.list b3), .sl .ro .str (Val.columns b3), .sl .ro .row (Val.rows b3)]), (9, .v true [.int .i64 (Val.kind b4), .int .i64 (Val.n b4), .int .i64 (Val.step b4), .str (Val.text b4), .sl .ro .val (Val.list b4), .sl .ro .str (Val.columns b4), .sl .ro .row (Val.rows b4)])]
def S24_9 (x2 : Bool) (x8 : Int) (b3 b4 : Val) : St := [(4, .v false [.bool x2]), (6, .v false [.ptr 3 0]), (8, .v false [.ptr 4 0]), (16, .v false [.int .i64 x8]), (7, .v true [.int .i64 (Val.kind b3), .int .i64 (Val.n b3), .int .i64 (Val.step b3), .str (Val.text b3), .sl .ro .val (Val.list b3), .sl .ro .str (Val.columns b3), .sl .ro .row (Val.rows b3)]), (9, .v true [.int .i64 (Val.kind b4), .int .i64 (Val.n b4), .int .i64 (Val.step b4), .str (Val.text b4), .sl .ro .val (Val.list b4), .sl .ro .str (Val.columns b4), .sl .ro .row (Val.rows b4)])]
theorem p24_9_0 (x2 : Bool) (x8 : Int) (b3 b4 : Val) (r1 : Bool) : rS 9 I24 (S24_9 x2 x8 b3 b4) [Y, Y, Y] [xB6 r1] = dn (xBo false) [(decide ((x8 : Int) < (Ln (Val.rows b3) : Int))) = true, (0 : Int) ≤ x8 ∧ x8 < (Ln (Val.rows b3)), (0 : Int) ≤ x8 ∧ x8 < (Ln (Val.rows b4)), AbC 47 (xDK (Rowd.cells (gD (Val.rows b3) (tN x8) rd)) (Rowd.cells (gD (Val.rows b4) (tN x8) rd))) (xB6 r1), (!r1) = true, true = true] := by kernel_rfl
theorem p24_9_1 (x2 : Bool) (x8 : Int) (b3 b4 : Val) (r1 r2 : Bool) : rS 9 I24 (S24_9 x2 x8 b3 b4) [Y, F, Y, Y] [xB6 r1, xCl r2] = dn (xBo false) [(decide ((x8 : Int) < (Ln (Val.rows b3) : Int))) = true, (0 : Int) ≤ x8 ∧ x8 < (Ln (Val.rows b3)), (0 : Int) ≤ x8 ∧ x8 < (Ln (Val.rows b4)), AbC 47 (xDK (Rowd.cells (gD (Val.rows b3) (tN x8) rd)) (Rowd.cells (gD (Val.rows b4) (tN x8) rd))) (xB6 r1), (!r1) = false, x2 = true, (0 : Int) ≤ x8 ∧ x8 < (Ln (Val.rows b3)), (0 : Int) ≤ x8 ∧ x8 < (Ln (Val.rows b4)), AbC 48 (xDS (Rowd.frm (gD (Val.rows b3) (tN x8) rd)) (Rowd.frm (gD (Val.rows b4) (tN x8) rd))) (xCl r2), (!r2) = true] := by kernel_rfl
theorem p24_9_2 (x2 : Bool) (x8 : Int) (b3 b4 : Val) (r1 r2 : Bool) : rS 9 I24 (S24_9 x2 x8 b3 b4) [Y, F, Y, F] [xB6 r1, xCl r2] = st 9 I24 (S24_9 x2 (W (x8 + 1)) b3 b4) [(decide ((x8 : Int) < (Ln (Val.rows b3) : Int))) = true, (0 : Int) ≤ x8 ∧ x8 < (Ln (Val.rows b3)), (0 : Int) ≤ x8 ∧ x8 < (Ln (Val.rows b4)), AbC 47 (xDK (Rowd.cells (gD (Val.rows b3) (tN x8) rd)) (Rowd.cells (gD (Val.rows b4) (tN x8) rd))) (xB6 r1), (!r1) = false, x2 = true, (0 : Int) ≤ x8 ∧ x8 < (Ln (Val.rows b3)), (0 : Int) ≤ x8 ∧ x8 < (Ln (Val.rows b4)), AbC 48 (xDS (Rowd.frm (gD (Val.rows b3) (tN x8) rd)) (Rowd.frm (gD (Val.rows b4) (tN x8) rd))) (xCl r2), (!r2) = false] := by kernel_rfl
theorem p24_9_3 (x2 : Bool) (x8 : Int) (b3 b4 : Val) (r1 : Bool) : rS 9 I24 (S24_9 x2 x8 b3 b4) [Y, F, F, F] [xB6 r1] = st 9 I24 (S24_9 x2 (W (x8 + 1)) b3 b4) [(decide ((x8 : Int) < (Ln (Val.rows b3) : Int))) = true, (0 : Int) ≤ x8 ∧ x8 < (Ln (Val.rows b3)), (0 : Int) ≤ x8 ∧ x8 < (Ln (Val.rows b4)), AbC 47 (xDK (Rowd.cells (gD (Val.rows b3) (tN x8) rd)) (Rowd.cells (gD (Val.rows b4) (tN x8) rd))) (xB6 r1), (!r1) = false, x2 = false, false = false] := by kernel_rfl
theorem p24_9_4 (x2 : Bool) (x8 : Int) (b3 b4 : Val) : rS 9 I24 (S24_9 x2 x8 b3 b4) [F] [] = dn (xBo true) [(decide ((x8 : Int) < (Ln (Val.rows b3) : Int))) = false] := by kernel_rfl
theorem p24_4_5 (x2 : Bool) (x7 : Int) (b3 b4 : Val) (r1 : Bool) : rS 4 I24 (S24_4 x2 x7 b3 b4) [Y, Y] [xBo r1] = dn (xBo false) [(decide ((x7 : Int) < (Ln (Val.list b3) : Int))) = true, (0 : Int) ≤ x7 ∧ x7 < (Ln (Val.list b3)), (0 : Int) ≤ x7 ∧ x7 < (Ln (Val.list b4)), AbC 24 (xBT (gD (Val.list b3) (tN x7) vd) (gD (Val.list b4) (tN x7) vd) x2) (xBo r1), (!r1) = true] := by kernel_rfl
theorem p24_4_6 (x2 : Bool) (x7 : Int) (b3 b4 : Val) (r1 : Bool) : rS 4 I24 (S24_4 x2 x7 b3 b4) [Y, F] [xBo r1] = st 4 I24 (S24_4 x2 (W (x7 + 1)) b3 b4) [(decide ((x7 : Int) < (Ln (Val.list b3) : Int))) = true, (0 : Int) ≤ x7 ∧ x7 < (Ln (Val.list b3)), (0 : Int) ≤ x7 ∧ x7 < (Ln (Val.list b4)), AbC 24 (xBT (gD (Val.list b3) (tN x7) vd) (gD (Val.list b4) (tN x7) vd) x2) (xBo r1), (!r1) = false] := by kernel_rfl
theorem p24_4_7 (x2 : Bool) (x7 : Int) (b3 b4 : Val) : rS 4 I24 (S24_4 x2 x7 b3 b4) [F] [] = st 9 I24 (S24_9 x2 0 b3 b4) [(decide ((x7 : Int) < (Ln (Val.list b3) : Int))) = false] := by kernel_rfl
theorem p24_e_8 (a0 a1 : Val) (a2 : Bool) : rE I24 (xBT a0 a1 a2) [Y, Y, Y, Y, Y, Y, Y] [] = dn (xBo false) [(((Val.kind a0) : Int) != (Val.kind a1)) = true, true = true, true = true, true = true, true = true, true = true, true = true] := by kernel_rfl
theorem p24_e_9 (a0 a1 : Val) (a2 : Bool) : rE I24 (xBT a0 a1 a2) [F, Y, Y, Y, Y, Y, Y] [] = dn (xBo false) [(((Val.kind a0) : Int) != (Val.kind a1)) = false, (((Val.n a0) : Int) != (Val.n a1)) = true, true = true, true = true, true = true, true = true, true = true] := by kernel_rfl
theorem p24_e_10 (a0 a1 : Val) (a2 : Bool) : rE I24 (xBT a0 a1 a2) [F, F, Y, Y, Y, Y, Y] [] = dn (xBo false) [(((Val.kind a0) : Int) != (Val.kind a1)) = false, (((Val.n a0) : Int) != (Val.n a1)) = false, (((Val.step a0) : Int) != (Val.step a1)) = true, true = true, true = true, true = true, true = true] := by kernel_rfl
theorem p24_e_11 (a0 a1 : Val) (a2 : Bool) : rE I24 (xBT a0 a1 a2) [F, F, F, Y, Y, Y, Y] [] = dn (xBo false) [(((Val.kind a0) : Int) != (Val.kind a1)) = false, (((Val.n a0) : Int) != (Val.n a1)) = false, (((Val.step a0) : Int) != (Val.step a1)) = false, (!(((Val.text a0) : Str) == (Val.text a1))) = true, true = true, true = true, true = true] := by kernel_rfl
theorem p24_e_12 (a0 a1 : Val) (a2 : Bool) : rE I24 (xBT a0 a1 a2) [F, F, F, F, Y, Y, Y] [] = dn (xBo false) [(((Val.kind a0) : Int) != (Val.kind a1)) = false, (((Val.n a0) : Int) != (Val.n a1)) = false, (((Val.step a0) : Int) != (Val.step a1)) = false, (!(((Val.text a0) : Str) == (Val.text a1))) = false, (((Ln (Val.list a0) : Int) : Int) != (Ln (Val.list a1) : Int)) = true, true = true, true = true] := by kernel_rfl
theorem p24_e_13 (a0 a1 : Val) (a2 r1 : Bool) : rE I24 (xBT a0 a1 a2) [F, F, F, F, F, Y, Y] [xCi r1] = dn (xBo false) [(((Val.kind a0) : Int) != (Val.kind a1)) = false, (((Val.n a0) : Int) != (Val.n a1)) = false, (((Val.step a0) : Int) != (Val.step a1)) = false, (!(((Val.text a0) : Str) == (Val.text a1))) = false, (((Ln (Val.list a0) : Int) : Int) != (Ln (Val.list a1) : Int)) = false, AbC 46 (xEa (Val.columns a0) (Val.columns a1)) (xCi r1), (!r1) = true, true = true] := by kernel_rfl
theorem p24_e_14 (a0 a1 : Val) (a2 r1 : Bool) : rE I24 (xBT a0 a1 a2) [F, F, F, F, F, F, Y] [xCi r1] = dn (xBo false) [(((Val.kind a0) : Int) != (Val.kind a1)) = false, (((Val.n a0) : Int) != (Val.n a1)) = false, (((Val.step a0) : Int) != (Val.step a1)) = false, (!(((Val.text a0) : Str) == (Val.text a1))) = false, (((Ln (Val.list a0) : Int) : Int) != (Ln (Val.list a1) : Int)) = false, AbC 46 (xEa (Val.columns a0) (Val.columns a1)) (xCi r1), (!r1) = false, (((Ln (Val.rows a0) : Int) : Int) != (Ln (Val.rows a1) : Int)) = true] := by kernel_rfl
theorem p24_e_15 (a0 a1 : Val) (a2 r1 : Bool) : rE I24 (xBT a0 a1 a2) [F, F, F, F, F, F, F] [xCi r1] = st 4 I24 (S24_4 a2 0 a0 a1) [(((Val.kind a0) : Int) != (Val.kind a1)) = false, (((Val.n a0) : Int) != (Val.n a1)) = false, (((Val.step a0) : Int) != (Val.step a1)) = false, (!(((Val.text a0) : Str) == (Val.text a1))) = false, (((Ln (Val.list a0) : Int) : Int) != (Ln (Val.list a1) : Int)) = false, AbC 46 (xEa (Val.columns a0) (Val.columns a1)) (xCi r1), (!r1) = false, (((Ln (Val.rows a0) : Int) : Int) != (Ln (Val.rows a1) : Int)) = false] := by kernel_rfl
theorem c24_9 {N : Nat} {q0 : Val → Val → Bool → Option (Bool)} (g0 : G24 q0) : ∀ n x2 x8 b3 b4 r, xDM N q0 n x2 x8 b3 b4 = some r → RS Tryd.f24 I24 9 (S24_9 x2 x8 b3 b4) (xBo r) := by
 intro n
 induction n with
 | zero => exact fun _ _ _ _ _ h => nE h
 | succ n ih =>
  exact fun x2 x8 b3 b4 r h =>
   cE h (fun h0 h => iE h fun h1 h => iE h fun h2 h => bE h fun r1 h3 h => cE h (fun h4 h => dS h fk24 (p24_9_0 x2 x8 b3 b4 r1) (oc h0 (oc h1 (oc h2 (oc (xF7 h3) (oc h4 (oc rfl on))))))) fun h4 h =>
   cE h (fun h5 h => bE h fun r2 h8 h => cE h (fun h9 h => dS h fk24 (p24_9_1 x2 x8 b3 b4 r1 r2) (oc h0 (oc h1 (oc h2 (oc (xF7 h3) (oc h4 (oc h5 (oc h1 (oc h2 (oc (xG6 h8) (oc h9 on))))))))))) fun h9 h =>
   tS fk24 (p24_9_2 x2 x8 b3 b4 r1 r2) (oc h0 (oc h1 (oc h2 (oc (xF7 h3) (oc h4 (oc h5 (oc h1 (oc h2 (oc (xG6 h8) (oc h9 on)))))))))) (ih _ _ _ _ _ h)) fun h5 h =>
   tS fk24 (p24_9_3 x2 x8 b3 b4 r1) (oc h0 (oc h1 (oc h2 (oc (xF7 h3) (oc h4 (oc h5 (oc rfl on))))))) (ih _ _ _ _ _ h)) fun h0 h =>
   dS h fk24 (p24_9_4 x2 x8 b3 b4) (oc h0 on)
theorem c24_4 {N : Nat} {q0 : Val → Val → Bool → Option (Bool)} (g0 : G24 q0) : ∀ n x2 x7 b3 b4 r, xER N q0 n x2 x7 b3 b4 = some r → RS Tryd.f24 I24 4 (S24_4 x2 x7 b3 b4) (xBo r) := by
 intro n
 induction n with
 | zero => exact fun _ _ _ _ _ h => nE h
 | succ n ih =>
  exact fun x2 x7 b3 b4 r h =>
   cE h (fun h0 h => iE h fun h1 h => iE h fun h2 h => bE h fun r1 h3 h => cE h (fun h4 h => dS h fk24 (p24_4_5 x2 x7 b3 b4 r1) (oc h0 (oc h1 (oc h2 (oc (g0 _ _ _ _ h3) (oc h4 on)))))) fun h4 h =>
   tS fk24 (p24_4_6 x2 x7 b3 b4 r1) (oc h0 (oc h1 (oc h2 (oc (g0 _ _ _ _ h3) (oc h4 on))))) (ih _ _ _ _ _ h)) fun h0 h =>
   tS fk24 (p24_4_7 x2 x7 b3 b4) (oc h0 on) (c24_9 g0 _ _ _ _ _ _ h)
theorem c24_e {N : Nat} {q0 : Val → Val → Bool → Option (Bool)} (g0 : G24 q0) : ∀ a0 a1 a2 r, xEJ N q0 a0 a1 a2 = some r → RE Tryd.f24 I24 (xBT a0 a1 a2) (xBo r) := fun a0 a1 a2 r h =>
 cE h (fun h0 h => dE h fk24 (p24_e_8 a0 a1 a2) (oc h0 (oc rfl (oc rfl (oc rfl (oc rfl (oc rfl (oc rfl on)))))))) fun h0 h =>
 cE h (fun h1 h => dE h fk24 (p24_e_9 a0 a1 a2) (oc h0 (oc h1 (oc rfl (oc rfl (oc rfl (oc rfl (oc rfl on)))))))) fun h1 h =>
 cE h (fun h2 h => dE h fk24 (p24_e_10 a0 a1 a2) (oc h0 (oc h1 (oc h2 (oc rfl (oc rfl (oc rfl (oc rfl on)))))))) fun h2 h =>
 cE h (fun h3 h => dE h fk24 (p24_e_11 a0 a1 a2) (oc h0 (oc h1 (oc h2 (oc h3 (oc rfl (oc rfl (oc rfl on)))))))) fun h3 h =>
 cE h (fun h4 h => dE h fk24 (p24_e_12 a0 a1 a2) (oc h0 (oc h1 (oc h2 (oc h3 (oc h4 (oc rfl (oc rfl on)))))))) fun h4 h =>
 bE h fun r1 h5 h => cE h (fun h6 h => dE h fk24 (p24_e_13 a0 a1 a2 r1) (oc h0 (oc h1 (oc h2 (oc h3 (oc h4 (oc (xGH h5) (oc h6 (oc rfl on))))))))) fun h6 h =>
 cE h (fun h7 h => dE h fk24 (p24_e_14 a0 a1 a2 r1) (oc h0 (oc h1 (oc h2 (oc h3 (oc h4 (oc (xGH h5) (oc h6 (oc h7 on))))))))) fun h7 h =>
 tE fk24 (p24_e_15 a0 a1 a2 r1) (oc h0 (oc h1 (oc h2 (oc h3 (oc h4 (oc (xGH h5) (oc h6 (oc h7 on)))))))) (c24_4 g0 _ _ _ _ _ _ h)
theorem xHY {N : Nat} {q0 : Val → Val → Bool → Option (Bool)} (g0 : G24 q0) {a0 : Val} {a1 : Val} {a2 : Bool} {r : Bool} (h : xEJ N q0 a0 a1 a2 = some r) : AbC 24 (xBT a0 a1 a2) (xBo r) :=
 AbsCalls.of_reach fk24 rfl rfl (Nat.le_of_ble_eq_true rfl) (c24_e g0 a0 a1 a2 r h)
theorem xGQ {N : Nat} : ∀ d, G24 (xCN N d)
 | 0 => fun _ _ _ _ h => nE h
 | d + 1 => fun _ _ _ _ h => xHY (N := N) (xGQ d) h
theorem spec_l3Same_ok {N : Nat} {a0 : Val} {a1 : Val} {a2 : Bool} {r : Bool} (h : xHX N a0 a1 a2 = some r) : AbC 24 (xBT a0 a1 a2) (xBo r) := xGQ N _ _ _ r h
noncomputable def I7 : Info := { body := (Tryd.f7.body).getD .skip, nt := 8, results := [.tmp 4], keep := [0, 2, 4, 6, 8, 5, 7], live := [], modes := [] }
theorem fk7 : FnOk Tryd.prog 7 Tryd.f7 I7 := ⟨Tryd.func7, by kernel_rfl, by kernel_rfl, by kernel_rfl, by kernel_rfl⟩
theorem p7_e_0 (a0 a1 : Val) (r1 : Bool) : rE I7 (xAb a0 a1) [] [xBo r1] = dn (xAa r1) [AbC 24 (xBT a0 a1 true) (xBo r1)] := by kernel_rfl
theorem c7_e {N : Nat} : ∀ a0 a1 r, xAN N a0 a1 = some r → RE Tryd.f7 I7 (xAb a0 a1) (xAa r) := fun a0 a1 r h =>
 bE h fun r1 h0 h => dE h fk7 (p7_e_0 a0 a1 r1) (oc (spec_l3Same_ok h0) on)
theorem xAc {N : Nat} {a0 : Val} {a1 : Val} {r : Bool} (h : xAN N  a0 a1 = some r) : AbC 7 (xAb a0 a1) (xAa r) :=
 AbsCalls.of_reach fk7 rfl rfl (Nat.le_of_ble_eq_true rfl) (c7_e a0 a1 r h)
noncomputable def I9 : Info := { body := (Tryd.f9.body).getD .skip, nt := 27, results := [.tmp 4], keep := [0, 2, 8, 10, 12, 22, 30], live := [(3, [0, 2, 10, 12])], modes := [(6, [(0, .take, false)]), (7, [(0, .take, false)])] }
theorem fk9 : FnOk Tryd.prog 9 Tryd.f9 I9 := ⟨Tryd.func9, by kernel_rfl, by kernel_rfl, by kernel_rfl, by kernel_rfl⟩
def S9_3 (x0 : List Str) (x1 : Str) (x5 : List Int) (x6 : Int) : St := [(0, .v false [.sl .ro .str x0]), (2, .v false [.str x1]), (10, .v false [.sl .own .byte x5]), (12, .v false [.int .i64 x6])]
theorem p9_3_0 (x0 : List Str) (x1 : Str) (x5 : List Int) (x6 : Int) : rS 3 I9 (S9_3 x0 x1 x5 x6) [Y, Y] [] = st 3 I9 (S9_3 x0 x1 ((x5 ++ List.map (fun c => (c.toNat : Int)) x1) ++ List.map (fun c => (c.toNat : Int)) (gD x0 (tN x6) Ty.str.dflt)) (W (x6 + 1))) [(decide ((x6 : Int) < (Ln x0 : Int))) = true, (decide ((x6 : Int) > 0)) = true, Ln x5 + Ln x1 ≤ Lim, (0 : Int) ≤ x6 ∧ x6 < (Ln x0), Ln (x5 ++ List.map (fun c => (c.toNat : Int)) x1) + Ln (gD x0 (tN x6) Ty.str.dflt) ≤ Lim] := by kernel_rfl
theorem p9_3_1 (x0 : List Str) (x1 : Str) (x5 : List Int) (x6 : Int) : rS 3 I9 (S9_3 x0 x1 x5 x6) [Y, F] [] = st 3 I9 (S9_3 x0 x1 (x5 ++ List.map (fun c => (c.toNat : Int)) (gD x0 (tN x6) Ty.str.dflt)) (W (x6 + 1))) [(decide ((x6 : Int) < (Ln x0 : Int))) = true, (decide ((x6 : Int) > 0)) = false, (0 : Int) ≤ x6 ∧ x6 < (Ln x0), Ln x5 + Ln (gD x0 (tN x6) Ty.str.dflt) ≤ Lim] := by kernel_rfl
theorem p9_3_2 (x0 : List Str) (x1 : Str) (x5 : List Int) (x6 : Int) : rS 3 I9 (S9_3 x0 x1 x5 x6) [F] [] = dn (xAI (List.map (fun n => UInt8.ofNat (tN n)) x5)) [(decide ((x6 : Int) < (Ln x0 : Int))) = false] := by kernel_rfl
theorem p9_e_3 (a0 : List Str) (a1 : Str) : rE I9 (xA9 a0 a1) [] [] = st 3 I9 (S9_3 a0 a1 [] 0) [] := by kernel_rfl
theorem c9_3 {N : Nat} : ∀ n x0 x1 x5 x6 r, xDJ N n x0 x1 x5 x6 = some r → RS Tryd.f9 I9 3 (S9_3 x0 x1 x5 x6) (xAI r) := by
 intro n
 induction n with
 | zero => exact fun _ _ _ _ _ h => nE h
 | succ n ih =>
  exact fun x0 x1 x5 x6 r h =>
   cE h (fun h0 h => cE h (fun h1 h => iE h fun h2 h => iE h fun h3 h => iE h fun h4 h => tS fk9 (p9_3_0 x0 x1 x5 x6) (oc h0 (oc h1 (oc h2 (oc h3 (oc h4 on))))) (ih _ _ _ _ _ h)) fun h1 h =>
   iE h fun h2 h => iE h fun h3 h => tS fk9 (p9_3_1 x0 x1 x5 x6) (oc h0 (oc h1 (oc h2 (oc h3 on)))) (ih _ _ _ _ _ h)) fun h0 h =>
   dS h fk9 (p9_3_2 x0 x1 x5 x6) (oc h0 on)
theorem c9_e {N : Nat} : ∀ a0 a1 r, xFN N a0 a1 = some r → RE Tryd.f9 I9 (xA9 a0 a1) (xAI r) := fun a0 a1 r h =>
 tE fk9 (p9_e_3 a0 a1) on (c9_3 _ _ _ _ _ _ h)
theorem xBh {N : Nat} {a0 : List Str} {a1 : Str} {r : Str} (h : xFN N  a0 a1 = some r) : AbC 9 (xA9 a0 a1) (xAI r) :=
 AbsCalls.of_reach fk9 rfl rfl (Nat.le_of_ble_eq_true rfl) (c9_e a0 a1 r h)
theorem strings_Split_ok {N : Nat} {a0 a1 : Str} {r : List Str} (h : xGr N a0 a1 = some r) : AbC 55 (xHl a0 a1) (xGn r) :=
 lib_split (enter_Split Tryd.lays146) (fun s c w hs => split_one Tryd.lays146 (by kernel_rfl) s c w hs) h
noncomputable def I31 : Info := { body := (Tryd.f31.body).getD .skip, nt := 10, results := [.tmp 4], keep := [0, 2, 8], live := [], modes := [] }
theorem fk31 : FnOk Tryd.prog 31 Tryd.f31 I31 := ⟨Tryd.func31, by kernel_rfl, by kernel_rfl, by kernel_rfl, by kernel_rfl⟩
theorem p31_e_0 (a0 : Str) (a1 : Int) (r1 : (List Str)) : rE I31 (xEs a0 a1) [] [xGn r1] = dn (xDd r1) [AbC 55 (xHl a0 (List.map (fun n => UInt8.ofNat (tN n)) [a1])) (xGn r1)] := by kernel_rfl
theorem c31_e {N : Nat} : ∀ a0 a1 r, xEK N a0 a1 = some r → RE Tryd.f31 I31 (xEs a0 a1) (xDd r) := fun a0 a1 r h =>
 bE h fun r1 h0 h => dE h fk31 (p31_e_0 a0 a1 r1) (oc (strings_Split_ok h0) on)
theorem xGZ {N : Nat} {a0 : Str} {a1 : Int} {r : (List Str)} (h : xEK N  a0 a1 = some r) : AbC 31 (xEs a0 a1) (xDd r) :=
 AbsCalls.of_reach fk31 rfl rfl (Nat.le_of_ble_eq_true rfl) (c31_e a0 a1 r h)
theorem xHF {P : Program} {f : FuncId} {ags : List Arg} {r : Val × Bool} (h : AbsCalls P f ags (xBm r)) (ht : r.2 = true) : AbsCalls P f ags (xFe r) := by
 unfold xBm at h; rw [ht] at h; exact h
theorem xAG {P : Program} {f : FuncId} {ags : List Arg} {r : Val × Bool} (h : AbsCalls P f ags (xBm r)) (ht : r.2 = false) : AbsCalls P f ags (xAh r) := by
 unfold xBm at h; rw [ht] at h; exact h
theorem xAF {P : Program} {f : FuncId} {ags : List Arg} {r : Val × Bool} (h : AbsCalls P f ags (xBm r)) (ht : r.2 = true) (e0 : List.isEmpty (Val.list r.1) = true) (e1 : List.isEmpty (Val.columns r.1) = true) (e2 : List.isEmpty (Val.rows r.1) = true) : AbsCalls P f ags (xAi r) := by
 have h := xHF h ht
 unfold xFe at h; rw [List.isEmpty_iff.1 e0, List.isEmpty_iff.1 e1, List.isEmpty_iff.1 e2] at h; exact h
noncomputable def I10 : Info := { body := (Tryd.f10.body).getD .skip, nt := 92, results := [.cell 4 28], keep := [0, 2, 4, 6, 8, 10, 12, 14, 16, 20, 22, 26, 28, 32, 50, 66, 68, 70, 72, 86, 106, 112, 114, 116, 118, 134, 136, 138, 140, 5, 7, 9, 11, 15, 27, 29], live := [(7, [6, 8, 14, 16, 66, 68, 70, 7, 9, 15]), (17, [8, 14, 16, 112, 114, 116, 9, 15]), (21, [8, 14, 16, 26, 28, 112, 114, 116, 134, 136, 138, 9, 15, 27, 29])], modes := [(1, [(4, .take, true), (5, .take, false)]), (2, [(0, .take, false)]), (3, [(0, .take, false)]), (9, [(1, .take, false)]), (12, [(0, .take, false)]), (13, [(1, .take, false)]), (23, [(1, .take, false), (4, .take, false)]), (24, [(1, .take, false)]), (25, [(1, .take, false), (2, .take, false), (4, .take, false)]), (26, [(1, .take, false)]), (27, [(0, .take, false)])] }
theorem fk10 : FnOk Tryd.prog 10 Tryd.f10 I10 := ⟨Tryd.func10, by kernel_rfl, by kernel_rfl, by kernel_rfl, by kernel_rfl⟩
def S10_7 (x8 : List Int) (x33 : List Str) (x34 x35 : Int) (b3 b4 b7 : Val) : St := [(6, .v false [.ptr 3 0]), (8, .v false [.ptr 4 0]), (14, .v false [.ptr 7 0]), (16, .v false [.sl .own .int x8]), (66, .v false [.sl .bor .str x33]), (68, .v false [.int .i64 x34]), (70, .v false [.int .i64 x35]), (7, .v true [.int .i64 (Val.kind b3), .int .i64 (Val.n b3), .int .i64 (Val.step b3), .str (Val.text b3), .sl .ro .val (Val.list b3), .sl .ro .str (Val.columns b3), .sl .ro .row (Val.rows b3)]), (9, .v true [.int .i64 (Val.kind b4), .int .i64 (Val.n b4), .int .i64 (Val.step b4), .str (Val.text b4), .sl .own .val (Val.list b4), .sl .own .str (Val.columns b4), .sl .own .row (Val.rows b4)]), (15, .v true [.int .i64 (Val.kind b7), .int .i64 (Val.n b7), .int .i64 (Val.step b7), .str (Val.text b7), .sl .own .val (Val.list b7), .sl .own .str (Val.columns b7), .sl .own .row (Val.rows b7)])]
def S10_17 (x8 : List Int) (x56 : List Rowd) (x57 x58 : Int) (b4 b7 : Val) : St := [(8, .v false [.ptr 4 0]), (14, .v false [.ptr 7 0]), (16, .v false [.sl .own .int x8]), (112, .v false [.sl .ro .row x56]), (114, .v false [.int .i64 x57]), (116, .v false [.int .i64 x58]), (9, .v true [.int .i64 (Val.kind b4), .int .i64 (Val.n b4), .int .i64 (Val.step b4), .str (Val.text b4), .sl .own .val (Val.list b4), .sl .own .str (Val.columns b4), .sl .own .row (Val.rows b4)]), (15, .v true [.int .i64 (Val.kind b7), .int .i64 (Val.n b7), .int .i64 (Val.step b7), .str (Val.text b7), .sl .own .val (Val.list b7), .sl .own .str (Val.columns b7), .sl .own .row (Val.rows b7)])]
def S10_21 (x8 : List Int) (x56 : List Rowd) (x57 x58 : Int) (x67 : List Int) (x68 x69 : Int) (b4 b7 : Val) (b13 b14 : Rowd) : St := [(8, .v false [.ptr 4 0]), (14, .v false [.ptr 7 0]), (16, .v false [.sl .own .int x8]), (26, .v false [.ptr 13 0]), (28, .v false [.ptr 14 0]), (112, .v false [.sl .ro .row x56]), (114, .v false [.int .i64 x57]), (116, .v false [.int .i64 x58]), (134, .v false [.sl .bor .int x67]), (136, .v false [.int .i64 x68]), (138, .v false [.int .i64 x69]), (9, .v true [.int .i64 (Val.kind b4), .int .i64 (Val.n b4), .int .i64 (Val.step b4), .str (Val.text b4), .sl .own .val (Val.list b4), .sl .own .str (Val.columns b4), .sl .own .row (Val.rows b4)]), (15, .v true [.int .i64 (Val.kind b7), .int .i64 (Val.n b7), .int .i64 (Val.step b7), .str (Val.text b7), .sl .own .val (Val.list b7), .sl .own .str (Val.columns b7), .sl .own .row (Val.rows b7)]), (27, .v true [.sl .ro .int (Rowd.cells b13), .sl .ro .org (Rowd.frm b13)]), (29, .v true [.sl .own .int (Rowd.cells b14), .sl .own .org (Rowd.frm b14)])]
theorem p10_21_0 (x8 : List Int) (x56 : List Rowd) (x57 x58 : Int) (x67 : List Int) (x68 x69 : Int) (b4 b7 : Val) (b13 b14 : Rowd) : rS 21 I10 (S10_21 x8 x56 x57 x58 x67 x68 x69 b4 b7 b13 b14) [Y] [] = st 21 I10 (S10_21 x8 x56 x57 x58 x67 x68 (W (x69 + 1)) b4 b7 b13 (Rowd.mk ((Rowd.cells b14) ++ [(gD (Rowd.cells b13) (tN (gD x67 (tN x69) Ty.int.dflt)) Ty.int.dflt)]) (Rowd.frm b14))) [(decide ((x69 : Int) < x68)) = true, (0 : Int) ≤ x69 ∧ x69 < (Ln x67), (0 : Int) ≤ (gD x67 (tN x69) Ty.int.dflt) ∧ (gD x67 (tN x69) Ty.int.dflt) < (Ln (Rowd.cells b13)), Ln (Rowd.cells b14) + Ln [(gD (Rowd.cells b13) (tN (gD x67 (tN x69) Ty.int.dflt)) Ty.int.dflt)] ≤ Lim] := by kernel_rfl
theorem p10_21_1 (x8 : List Int) (x56 : List Rowd) (x57 x58 : Int) (x67 : List Int) (x68 x69 : Int) (b4 b7 : Val) (b13 b14 : Rowd) : rS 21 I10 (S10_21 x8 x56 x57 x58 x67 x68 x69 b4 b7 b13 b14) [F] [] = st 17 I10 (S10_17 x8 x56 x57 (W (x58 + 1)) b4 (Val.mk (Val.kind b7) (Val.n b7) (Val.step b7) (Val.text b7) (Val.list b7) (Val.columns b7) ((Val.rows b7) ++ [b14]))) [(decide ((x69 : Int) < x68)) = false, Ln (Val.rows b7) + Ln [b14] ≤ Lim] := by kernel_rfl
theorem p10_17_2 (x8 : List Int) (x56 : List Rowd) (x57 x58 : Int) (b4 b7 : Val) : rS 17 I10 (S10_17 x8 x56 x57 x58 b4 b7) [Y] [] = st 21 I10 (S10_21 x8 x56 x57 x58 x8 (Ln x8 : Int) 0 b4 b7 (gD x56 (tN x58) rd) (Rowd.mk [] ([] ++ (Rowd.frm (gD x56 (tN x58) rd))))) [(decide ((x58 : Int) < x57)) = true, (0 : Int) ≤ x58 ∧ x58 < (Ln x56), 0 + Ln (Rowd.frm (gD x56 (tN x58) rd)) ≤ Lim] := by kernel_rfl
theorem p10_17_3 (x8 : List Int) (x56 : List Rowd) (x57 x58 : Int) (b4 b7 : Val) : rS 17 I10 (S10_17 x8 x56 x57 x58 b4 b7) [F] [] = dn (xBm (b7, false)) [(decide ((x58 : Int) < x57)) = false] := by kernel_rfl
theorem p10_7_4 (x8 : List Int) (x33 : List Str) (x34 x35 : Int) (b3 b4 b7 : Val) (r1 : Int) (r2 : Val) : rS 7 I10 (S10_7 x8 x33 x34 x35 b3 b4 b7) [Y, Y] [xAm r1, xAO r2] = dn (xBm (r2, false)) [(decide ((x35 : Int) < x34)) = true, (0 : Int) ≤ x35 ∧ x35 < (Ln x33), AbC 19 (xAH b3 (gD x33 (tN x35) Ty.str.dflt)) (xAm r1), (decide ((r1 : Int) < 0)) = true, AbC 21 (xBi 7) (xAO r2)] := by kernel_rfl
theorem p10_7_5 (x8 : List Int) (x33 : List Str) (x34 x35 : Int) (b3 b4 b7 : Val) (r1 : Int) : rS 7 I10 (S10_7 x8 x33 x34 x35 b3 b4 b7) [Y, F] [xAm r1] = st 7 I10 (S10_7 (x8 ++ [r1]) x33 x34 (W (x35 + 1)) b3 b4 b7) [(decide ((x35 : Int) < x34)) = true, (0 : Int) ≤ x35 ∧ x35 < (Ln x33), AbC 19 (xAH b3 (gD x33 (tN x35) Ty.str.dflt)) (xAm r1), (decide ((r1 : Int) < 0)) = false, Ln x8 + Ln [r1] ≤ Lim] := by kernel_rfl
theorem p10_7_6 (x8 : List Int) (x33 : List Str) (x34 x35 : Int) (b3 b4 b7 : Val) (r1 : Bool) (r2 : Val) : rS 7 I10 (S10_7 x8 x33 x34 x35 b3 b4 b7) [F, Y] [xBJ r1, xAO r2] = dn (xBm (r2, false)) [(decide ((x35 : Int) < x34)) = false, AbC 32 (xDc (Val.columns b7)) (xBJ r1), (!r1) = true, AbC 21 (xBi 7) (xAO r2)] := by kernel_rfl
theorem p10_7_7 (x8 : List Int) (x33 : List Str) (x34 x35 : Int) (b3 b4 b7 : Val) (r1 : Bool) : rS 7 I10 (S10_7 x8 x33 x34 x35 b3 b4 b7) [F, F] [xBJ r1] = st 17 I10 (S10_17 x8 (Val.rows b3) (Ln (Val.rows b3) : Int) 0 b4 b7) [(decide ((x35 : Int) < x34)) = false, AbC 32 (xDc (Val.columns b7)) (xBJ r1), (!r1) = false] := by kernel_rfl
theorem p10_e_8 (a0 a1 : Val) (r1 : Val × Bool × Bool) : rE I10 (xAj a0 a1) [Y] [xBf r1] = dn (xBm ((Val.mk (Val.kind r1.1) (Val.n r1.1) (Val.step r1.1) (Val.text r1.1) [] [] []), true)) [AbC 18 (xA4 [2, 5] [(Val.re a0), (Val.re a1)]) (xBf r1), r1.2.1 = true] := by kernel_rfl
theorem p10_e_9 (a0 a1 : Val) (r1 : Val × Bool × Bool) (r2 : (List Str)) : rE I10 (xAj a0 a1) [F] [xBf r1, xDd r2] = st 7 I10 (S10_7 [] r2 (Ln r2 : Int) 0 a1 (Val.mk 0 0 0 [] [] [] []) (Val.mk 5 0 0 [] [] r2 [])) [AbC 18 (xA4 [2, 5] [(Val.re a0), (Val.re a1)]) (xBf r1), r1.2.1 = false, AbC 31 (xEs (Val.text a0) 32) (xDd r2)] := by kernel_rfl
theorem p10_e_10 (a0 a1 : Val) (r1 : Val × Bool × Bool) : rE I10 (xAj a0 a1) [Y] [xBc r1] = dn (xBm (r1.1, false)) [AbC 18 (xA4 [2, 5] [(Val.re a0), (Val.re a1)]) (xBc r1), r1.2.1 = true] := by kernel_rfl
theorem p10_e_11 (a0 a1 : Val) (r1 : Val × Bool × Bool) (r2 : (List Str)) : rE I10 (xAj a0 a1) [F] [xBc r1, xDd r2] = st 7 I10 (S10_7 [] r2 (Ln r2 : Int) 0 a1 (Val.mk 0 0 0 [] [] [] []) (Val.mk 5 0 0 [] [] r2 [])) [AbC 18 (xA4 [2, 5] [(Val.re a0), (Val.re a1)]) (xBc r1), r1.2.1 = false, AbC 31 (xEs (Val.text a0) 32) (xDd r2)] := by kernel_rfl
theorem c10_21 {N : Nat} {k17 : (List Int) → (List Rowd) → Int → Int → Val → Val → Option (Val × Bool)} (hk17 : ∀ z0 z1 z2 z3 z4 z5 r, k17 z0 z1 z2 z3 z4 z5 = some r → RS Tryd.f10 I10 17 (S10_17 z0 z1 z2 z3 z4 z5) (xBm r)) : ∀ n x8 x56 x57 x58 x67 x68 x69 b4 b7 b13 b14 r, xCD N k17 n x8 x56 x57 x58 x67 x68 x69 b4 b7 b13 b14 = some r → RS Tryd.f10 I10 21 (S10_21 x8 x56 x57 x58 x67 x68 x69 b4 b7 b13 b14) (xBm r) := by
 intro n
 induction n with
 | zero => exact fun _ _ _ _ _ _ _ _ _ _ _ _ h => nE h
 | succ n ih =>
  exact fun x8 x56 x57 x58 x67 x68 x69 b4 b7 b13 b14 r h =>
   cE h (fun h0 h => iE h fun h1 h => iE h fun h2 h => iE h fun h3 h => tS fk10 (p10_21_0 x8 x56 x57 x58 x67 x68 x69 b4 b7 b13 b14) (oc h0 (oc h1 (oc h2 (oc h3 on)))) (ih _ _ _ _ _ _ _ _ _ _ _ _ h)) fun h0 h =>
   iE h fun h1 h => tS fk10 (p10_21_1 x8 x56 x57 x58 x67 x68 x69 b4 b7 b13 b14) (oc h0 (oc h1 on)) (hk17 _ _ _ _ _ _ _ h)
theorem c10_17 {N : Nat} : ∀ n x8 x56 x57 x58 b4 b7 r, xBU N n x8 x56 x57 x58 b4 b7 = some r → RS Tryd.f10 I10 17 (S10_17 x8 x56 x57 x58 b4 b7) (xBm r) := by
 intro n
 induction n with
 | zero => exact fun _ _ _ _ _ _ _ h => nE h
 | succ n ih =>
  exact fun x8 x56 x57 x58 b4 b7 r h =>
   cE h (fun h0 h => iE h fun h1 h => iE h fun h2 h => tS fk10 (p10_17_2 x8 x56 x57 x58 b4 b7) (oc h0 (oc h1 (oc h2 on))) (c10_21 ih _ _ _ _ _ _ _ _ _ _ _ _ _ h)) fun h0 h =>
   dS h fk10 (p10_17_3 x8 x56 x57 x58 b4 b7) (oc h0 on)
theorem c10_7 {N : Nat} : ∀ n x8 x33 x34 x35 b3 b4 b7 r, xCb N n x8 x33 x34 x35 b3 b4 b7 = some r → RS Tryd.f10 I10 7 (S10_7 x8 x33 x34 x35 b3 b4 b7) (xBm r) := by
 intro n
 induction n with
 | zero => exact fun _ _ _ _ _ _ _ _ h => nE h
 | succ n ih =>
  exact fun x8 x33 x34 x35 b3 b4 b7 r h =>
   cE h (fun h0 h => iE h fun h1 h => bE h fun r1 h2 h => cE h (fun h3 h => bE h fun r2 h4 h => dS h fk10 (p10_7_4 x8 x33 x34 x35 b3 b4 b7 r1 r2) (oc h0 (oc h1 (oc (xAK h2) (oc h3 (oc (xBt h4) on)))))) fun h3 h =>
   iE h fun h4 h => tS fk10 (p10_7_5 x8 x33 x34 x35 b3 b4 b7 r1) (oc h0 (oc h1 (oc (xAK h2) (oc h3 (oc h4 on))))) (ih _ _ _ _ _ _ _ _ h)) fun h0 h =>
   bE h fun r1 h1 h => cE h (fun h2 h => bE h fun r2 h3 h => dS h fk10 (p10_7_6 x8 x33 x34 x35 b3 b4 b7 r1 r2) (oc h0 (oc (xFx h1) (oc h2 (oc (xBt h3) on))))) fun h2 h =>
   tS fk10 (p10_7_7 x8 x33 x34 x35 b3 b4 b7 r1) (oc h0 (oc (xFx h1) (oc h2 on))) (c10_17 _ _ _ _ _ _ _ _ h)
theorem c10_e {N : Nat} : ∀ a0 a1 r, xA3 N a0 a1 = some r → RE Tryd.f10 I10 (xAj a0 a1) (xBm r) := fun a0 a1 r h =>
 bE h fun r1 h0 h => cE h (fun h1 h => iE h fun h2 h => iE h fun h3 h => iE h fun h4 h => cE h (fun h5 h => dE h fk10 (p10_e_8 a0 a1 r1) (oc (xCq (xBn h0) h1 h2 h3 h4) (oc h5 on))) fun h5 h =>
 bE h fun r2 h6 h => tE fk10 (p10_e_9 a0 a1 r1 r2) (oc (xCq (xBn h0) h1 h2 h3 h4) (oc h5 (oc (xGZ h6) on))) (c10_7 _ _ _ _ _ _ _ _ _ h)) fun h1 h =>
 cE h (fun h2 h => dE h fk10 (p10_e_10 a0 a1 r1) (oc (xCr (xBn h0) h1) (oc h2 on))) fun h2 h =>
 bE h fun r2 h3 h => tE fk10 (p10_e_11 a0 a1 r1 r2) (oc (xCr (xBn h0) h1) (oc h2 (oc (xGZ h3) on))) (c10_7 _ _ _ _ _ _ _ _ _ h)
theorem xAk {N : Nat} {a0 : Val} {a1 : Val} {r : Val × Bool} (h : xA3 N  a0 a1 = some r) : AbC 10 (xAj a0 a1) (xBm r) :=
 AbsCalls.of_reach fk10 rfl rfl (Nat.le_of_ble_eq_true rfl) (c10_e a0 a1 r h)
noncomputable def I12 : Info := { body := (Tryd.f12.body).getD .skip, nt := 19, results := [.cell 2 28, .cell 3 28], keep := [0, 4, 6, 8, 16, 5, 7, 13], live := [], modes := [] }
theorem fk12 : FnOk Tryd.prog 12 Tryd.f12 I12 := ⟨Tryd.func12, by kernel_rfl, by kernel_rfl, by kernel_rfl, by kernel_rfl⟩
theorem p12_e_0 (a0 : List Int) (r1 : Cur) (r2 : Bool × Cur) (r3 : Val × Cur) (r4 : Val × Cur) : rE I12 (xAn a0) [Y] [xC2 r1, xAP r2, xCZ r3, xB2 r4] = dn (xAd (r3.1, r4.1)) [AbC 14 (xE9 a0) (xC2 r1), AbC 33 (xBl r1 3) (xAP r2), r2.1 = true, AbC 16 (xEn r2.2) (xCZ r3), AbC 17 (xEy r3.2) (xB2 r4)] := by kernel_rfl
theorem p12_e_1 (a0 : List Int) (r1 : Cur) (r2 : Bool × Cur) (r3 : Str × Cur) (r4 : Val) (r5 : Val × Cur) : rE I12 (xAn a0) [F] [xC2 r1, xAP r2, xBR r3, xA6 r4, xB2 r5] = dn (xAd (r4, r5.1)) [AbC 14 (xE9 a0) (xC2 r1), AbC 33 (xBl r1 3) (xAP r2), r2.1 = false, AbC 15 (xDn r2.2 [[97, 32, 98], [98, 32, 97], [97], [97, 32, 98, 32, 99], [99, 32, 97], [97, 32, 97], [97, 32, 122], [97, 32, 98, 32]]) (xBR r3), AbC 11 (xBF r3.1) (xA6 r4), AbC 17 (xEy r3.2) (xB2 r5)] := by kernel_rfl
theorem c12_e {N : Nat} : ∀ a0 r, xBW N a0 = some r → RE Tryd.f12 I12 (xAn a0) (xAd r) := fun a0 r h =>
 bE h fun r1 h0 h => bE h fun r2 h1 h => cE h (fun h2 h => bE h fun r3 h3 h => bE h fun r4 h4 h => dE h fk12 (p12_e_0 a0 r1 r2 r3 r4) (oc (xHd h0) (oc (xBs h1) (oc h2 (oc (xGX h3) (oc (xGI h4) on)))))) fun h2 h =>
 bE h fun r3 h3 h => bE h fun r4 h4 h => bE h fun r5 h5 h => dE h fk12 (p12_e_1 a0 r1 r2 r3 r4 r5) (oc (xHd h0) (oc (xBs h1) (oc h2 (oc (xEN h3) (oc (xCk h4) (oc (xGI h5) on))))))
theorem xAr {N : Nat} {a0 : List Int} {r : Val × Val} (h : xBW N  a0 = some r) : AbC 12 (xAn a0) (xAd r) :=
 AbsCalls.of_reach fk12 rfl rfl (Nat.le_of_ble_eq_true rfl) (c12_e a0 r h)
noncomputable def I34 : Info := { body := (Tryd.f34.body).getD .skip, nt := 36, results := [.tmp 4], keep := [0, 2, 8, 10, 12, 14, 24, 50], live := [(4, [0, 2, 10, 12, 14])], modes := [(6, [(4, .take, false)]), (7, [(0, .take, false), (2, .take, false)]), (9, [(0, .take, false)])] }
theorem fk34 : FnOk Tryd.prog 34 Tryd.f34 I34 := ⟨Tryd.func34, by kernel_rfl, by kernel_rfl, by kernel_rfl, by kernel_rfl⟩
def S34_4 (x0 : Str) (x1 : Int) (x5 : List Str) (x6 x7 : Int) : St := [(0, .v false [.str x0]), (2, .v false [.int .u8 x1]), (10, .v false [.sl .own .str x5]), (12, .v false [.int .i64 x6]), (14, .v false [.int .i64 x7])]
theorem p34_4_0 (x0 : Str) (x1 : Int) (x5 : List Str) (x6 x7 : Int) : rS 4 I34 (S34_4 x0 x1 x5 x6 x7) [Y, Y, Y] [] = st 4 I34 (S34_4 x0 x1 (x5 ++ [(List.drop (tN x6) (List.take (tN x7) x0))]) (W (x7 + 1)) (W (x7 + 1))) [(decide ((x7 : Int) ≤ (Ln x0 : Int))) = true, ((x7 : Int) == (Ln x0 : Int)) = true, true = true, (0 : Int) ≤ x6 ∧ x6 ≤ x7 ∧ x7 ≤ (Ln x0), Ln x5 + Ln [(List.drop (tN x6) (List.take (tN x7) x0))] ≤ Lim] := by kernel_rfl
theorem p34_4_1 (x0 : Str) (x1 : Int) (x5 : List Str) (x6 x7 : Int) : rS 4 I34 (S34_4 x0 x1 x5 x6 x7) [Y, F, Y] [] = st 4 I34 (S34_4 x0 x1 (x5 ++ [(List.drop (tN x6) (List.take (tN x7) x0))]) (W (x7 + 1)) (W (x7 + 1))) [(decide ((x7 : Int) ≤ (Ln x0 : Int))) = true, ((x7 : Int) == (Ln x0 : Int)) = false, (0 : Int) ≤ x7 ∧ x7 < (Ln x0), ((((gD x0 (tN x7) 0).toNat : Int) : Int) == x1) = true, (0 : Int) ≤ x6 ∧ x6 ≤ x7 ∧ x7 ≤ (Ln x0), Ln x5 + Ln [(List.drop (tN x6) (List.take (tN x7) x0))] ≤ Lim] := by kernel_rfl
theorem p34_4_2 (x0 : Str) (x1 : Int) (x5 : List Str) (x6 x7 : Int) : rS 4 I34 (S34_4 x0 x1 x5 x6 x7) [Y, F, F] [] = st 4 I34 (S34_4 x0 x1 x5 x6 (W (x7 + 1))) [(decide ((x7 : Int) ≤ (Ln x0 : Int))) = true, ((x7 : Int) == (Ln x0 : Int)) = false, (0 : Int) ≤ x7 ∧ x7 < (Ln x0), ((((gD x0 (tN x7) 0).toNat : Int) : Int) == x1) = false] := by kernel_rfl
theorem p34_4_3 (x0 : Str) (x1 : Int) (x5 : List Str) (x6 x7 : Int) : rS 4 I34 (S34_4 x0 x1 x5 x6 x7) [F] [] = dn (xDN x5) [(decide ((x7 : Int) ≤ (Ln x0 : Int))) = false] := by kernel_rfl
theorem p34_e_4 (a0 : Str) (a1 : Int) : rE I34 (xE6 a0 a1) [] [] = st 4 I34 (S34_4 a0 a1 [] 0 0) [] := by kernel_rfl
theorem c34_4 {N : Nat} : ∀ n x0 x1 x5 x6 x7 r, xCB N n x0 x1 x5 x6 x7 = some r → RS Tryd.f34 I34 4 (S34_4 x0 x1 x5 x6 x7) (xDN r) := by
 intro n
 induction n with
 | zero => exact fun _ _ _ _ _ _ h => nE h
 | succ n ih =>
  exact fun x0 x1 x5 x6 x7 r h =>
   cE h (fun h0 h => cE h (fun h1 h => iE h fun h3 h => iE h fun h4 h => tS fk34 (p34_4_0 x0 x1 x5 x6 x7) (oc h0 (oc h1 (oc rfl (oc h3 (oc h4 on))))) (ih _ _ _ _ _ _ h)) fun h1 h =>
   iE h fun h2 h => cE h (fun h3 h => iE h fun h4 h => iE h fun h5 h => tS fk34 (p34_4_1 x0 x1 x5 x6 x7) (oc h0 (oc h1 (oc h2 (oc h3 (oc h4 (oc h5 on)))))) (ih _ _ _ _ _ _ h)) fun h3 h =>
   tS fk34 (p34_4_2 x0 x1 x5 x6 x7) (oc h0 (oc h1 (oc h2 (oc h3 on)))) (ih _ _ _ _ _ _ h)) fun h0 h =>
   dS h fk34 (p34_4_3 x0 x1 x5 x6 x7) (oc h0 on)
theorem c34_e {N : Nat} : ∀ a0 a1 r, xFl N a0 a1 = some r → RE Tryd.f34 I34 (xE6 a0 a1) (xDN r) := fun a0 a1 r h =>
 tE fk34 (p34_e_4 a0 a1) on (c34_4 _ _ _ _ _ _ _ h)
theorem spec_SplitByte_ok {N : Nat} {a0 : Str} {a1 : Int} {r : (List Str)} (h : xFl N  a0 a1 = some r) : AbC 34 (xE6 a0 a1) (xDN r) :=
 AbsCalls.of_reach fk34 rfl rfl (Nat.le_of_ble_eq_true rfl) (c34_e a0 a1 r h)
noncomputable def I13 : Info := { body := (Tryd.f13.body).getD .skip, nt := 95, results := [.cell 4 28], keep := [0, 2, 4, 6, 8, 10, 12, 14, 16, 18, 20, 22, 24, 42, 62, 90, 102, 132, 5, 7, 9, 11, 17, 23], live := [(7, [6, 8, 14, 16, 18, 7, 9, 17]), (12, [6, 8, 14, 16, 20, 7, 9, 17]), (16, [6, 8, 14, 16, 20, 22, 24, 7, 9, 17, 23])], modes := [(1, [(5, .take, false)]), (2, [(0, .take, false)]), (3, [(0, .take, false)]), (4, [(2, .cp, true)]), (9, [(7, .take, false)]), (18, [(1, .take, false)]), (19, [(1, .take, false), (2, .take, false), (4, .take, false)]), (20, [(0, .take, false)])], fcast := [(9, 4, true), (9, 5, true), (9, 6, true)] }
theorem fk13 : FnOk Tryd.prog 13 Tryd.f13 I13 := ⟨Tryd.func13, by kernel_rfl, by kernel_rfl, by kernel_rfl, by kernel_rfl⟩
def S13_7 (x7 : List Str) (x9 : Int) (b3 b4 b8 : Val) : St := [(6, .v false [.ptr 3 0]), (8, .v false [.ptr 4 0]), (14, .v false [.sl .ro .str x7]), (16, .v false [.ptr 8 0]), (18, .v false [.int .i64 x9]), (7, .v true [.int .i64 (Val.kind b3), .int .i64 (Val.n b3), .int .i64 (Val.step b3), .str (Val.text b3), .sl .ro .val (Val.list b3), .sl .ro .str (Val.columns b3), .sl .ro .row (Val.rows b3)]), (9, .v true [.int .i64 (Val.kind b4), .int .i64 (Val.n b4), .int .i64 (Val.step b4), .str (Val.text b4), .sl .own .val (Val.list b4), .sl .own .str (Val.columns b4), .sl .own .row (Val.rows b4)]), (17, .v true [.int .i64 (Val.kind b8), .int .i64 (Val.n b8), .int .i64 (Val.step b8), .str (Val.text b8), .sl .own .val (Val.list b8), .sl .ro .str (Val.columns b8), .sl .own .row (Val.rows b8)])]
def S13_12 (x7 : List Str) (x10 : Int) (b3 b4 b8 : Val) : St := [(6, .v false [.ptr 3 0]), (8, .v false [.ptr 4 0]), (14, .v false [.sl .ro .str x7]), (16, .v false [.ptr 8 0]), (20, .v false [.int .i64 x10]), (7, .v true [.int .i64 (Val.kind b3), .int .i64 (Val.n b3), .int .i64 (Val.step b3), .str (Val.text b3), .sl .ro .val (Val.list b3), .sl .ro .str (Val.columns b3), .sl .ro .row (Val.rows b3)]), (9, .v true [.int .i64 (Val.kind b4), .int .i64 (Val.n b4), .int .i64 (Val.step b4), .str (Val.text b4), .sl .own .val (Val.list b4), .sl .own .str (Val.columns b4), .sl .own .row (Val.rows b4)]), (17, .v true [.int .i64 (Val.kind b8), .int .i64 (Val.n b8), .int .i64 (Val.step b8), .str (Val.text b8), .sl .own .val (Val.list b8), .sl .ro .str (Val.columns b8), .sl .own .row (Val.rows b8)])]
def S13_16 (x7 : List Str) (x10 x12 : Int) (b3 b4 b8 : Val) (b11 : Rowd) : St := [(6, .v false [.ptr 3 0]), (8, .v false [.ptr 4 0]), (14, .v false [.sl .ro .str x7]), (16, .v false [.ptr 8 0]), (20, .v false [.int .i64 x10]), (22, .v false [.ptr 11 0]), (24, .v false [.int .i64 x12]), (7, .v true [.int .i64 (Val.kind b3), .int .i64 (Val.n b3), .int .i64 (Val.step b3), .str (Val.text b3), .sl .ro .val (Val.list b3), .sl .ro .str (Val.columns b3), .sl .ro .row (Val.rows b3)]), (9, .v true [.int .i64 (Val.kind b4), .int .i64 (Val.n b4), .int .i64 (Val.step b4), .str (Val.text b4), .sl .own .val (Val.list b4), .sl .own .str (Val.columns b4), .sl .own .row (Val.rows b4)]), (17, .v true [.int .i64 (Val.kind b8), .int .i64 (Val.n b8), .int .i64 (Val.step b8), .str (Val.text b8), .sl .own .val (Val.list b8), .sl .ro .str (Val.columns b8), .sl .own .row (Val.rows b8)]), (23, .v true [.sl .own .int (Rowd.cells b11), .sl .own .org (Rowd.frm b11)])]
theorem p13_16_0 (x7 : List Str) (x10 x12 : Int) (b3 b4 b8 : Val) (b11 : Rowd) (r1 : Int) : rS 16 I13 (S13_16 x7 x10 x12 b3 b4 b8 b11) [Y] [xAE r1] = st 16 I13 (S13_16 x7 x10 (W (x12 + 1)) b3 b4 b8 (Rowd.mk ((Rowd.cells b11) ++ [(gD (Rowd.cells (gD (Val.rows b3) (tN x10) rd)) (tN r1) Ty.int.dflt)]) (Rowd.frm b11))) [(decide ((x12 : Int) < (Ln x7 : Int))) = true, (0 : Int) ≤ x10 ∧ x10 < (Ln (Val.rows b3)), (0 : Int) ≤ x12 ∧ x12 < (Ln x7), AbC 26 (xAX b3 (gD x7 (tN x12) Ty.str.dflt)) (xAE r1), (0 : Int) ≤ r1 ∧ r1 < (Ln (Rowd.cells (gD (Val.rows b3) (tN x10) rd))), Ln (Rowd.cells b11) + Ln [(gD (Rowd.cells (gD (Val.rows b3) (tN x10) rd)) (tN r1) Ty.int.dflt)] ≤ Lim] := by kernel_rfl
theorem p13_16_1 (x7 : List Str) (x10 x12 : Int) (b3 b4 b8 : Val) (b11 : Rowd) : rS 16 I13 (S13_16 x7 x10 x12 b3 b4 b8 b11) [F] [] = st 12 I13 (S13_12 x7 (W (x10 + 1)) b3 b4 (Val.mk (Val.kind b8) (Val.n b8) (Val.step b8) (Val.text b8) (Val.list b8) (Val.columns b8) ((Val.rows b8) ++ [b11]))) [(decide ((x12 : Int) < (Ln x7 : Int))) = false, Ln (Val.rows b8) + Ln [b11] ≤ Lim] := by kernel_rfl
theorem p13_12_2 (x7 : List Str) (x10 : Int) (b3 b4 b8 : Val) : rS 12 I13 (S13_12 x7 x10 b3 b4 b8) [Y] [] = st 16 I13 (S13_16 x7 x10 0 b3 b4 b8 (Rowd.mk [] ([] ++ (Rowd.frm (gD (Val.rows b3) (tN x10) rd))))) [(decide ((x10 : Int) < (Ln (Val.rows b3) : Int))) = true, (0 : Int) ≤ x10 ∧ x10 < (Ln (Val.rows b3)), 0 + Ln (Rowd.frm (gD (Val.rows b3) (tN x10) rd)) ≤ Lim] := by kernel_rfl
theorem p13_12_3 (x7 : List Str) (x10 : Int) (b3 b4 b8 : Val) : rS 12 I13 (S13_12 x7 x10 b3 b4 b8) [F] [] = dn (xAf b8) [(decide ((x10 : Int) < (Ln (Val.rows b3) : Int))) = false] := by kernel_rfl
theorem p13_7_4 (x7 : List Str) (x9 : Int) (b3 b4 b8 : Val) (r1 : Int) (r2 : Val) : rS 7 I13 (S13_7 x7 x9 b3 b4 b8) [Y, Y, Y] [xAE r1, xAV r2] = dn (xAf r2) [(decide ((x9 : Int) < (Ln x7 : Int))) = true, (0 : Int) ≤ x9 ∧ x9 < (Ln x7), AbC 26 (xAX b3 (gD x7 (tN x9) Ty.str.dflt)) (xAE r1), (decide ((r1 : Int) < 0)) = true, true = true, AbC 28 (xBw 7) (xAV r2)] := by kernel_rfl
theorem p13_7_5 (x7 : List Str) (x9 : Int) (b3 b4 b8 : Val) (r1 : Int) (r2 : Bool) (r3 : Val) : rS 7 I13 (S13_7 x7 x9 b3 b4 b8) [Y, F, Y] [xAE r1, xBK r2, xAV r3] = dn (xAf r3) [(decide ((x9 : Int) < (Ln x7 : Int))) = true, (0 : Int) ≤ x9 ∧ x9 < (Ln x7), AbC 26 (xAX b3 (gD x7 (tN x9) Ty.str.dflt)) (xAE r1), (decide ((r1 : Int) < 0)) = false, AbC 35 (xDf x7) (xBK r2), (!r2) = true, AbC 28 (xBw 7) (xAV r3)] := by kernel_rfl
theorem p13_7_6 (x7 : List Str) (x9 : Int) (b3 b4 b8 : Val) (r1 : Int) (r2 : Bool) : rS 7 I13 (S13_7 x7 x9 b3 b4 b8) [Y, F, F] [xAE r1, xBK r2] = st 7 I13 (S13_7 x7 (W (x9 + 1)) b3 b4 b8) [(decide ((x9 : Int) < (Ln x7 : Int))) = true, (0 : Int) ≤ x9 ∧ x9 < (Ln x7), AbC 26 (xAX b3 (gD x7 (tN x9) Ty.str.dflt)) (xAE r1), (decide ((r1 : Int) < 0)) = false, AbC 35 (xDf x7) (xBK r2), (!r2) = false] := by kernel_rfl
theorem p13_7_7 (x7 : List Str) (x9 : Int) (b3 b4 b8 : Val) : rS 7 I13 (S13_7 x7 x9 b3 b4 b8) [F] [] = st 12 I13 (S13_12 x7 0 b3 b4 b8) [(decide ((x9 : Int) < (Ln x7 : Int))) = false] := by kernel_rfl
theorem p13_e_8 (a0 a1 : Val) (r1 : Val × Bool) : rE I13 (xAw a0 a1) [Y] [xBg r1] = dn (xAf r1.1) [AbC 25 (xB1 [(Val.re a0), (Val.re a1)] [2, 5]) (xBg r1), r1.2 = true] := by kernel_rfl
theorem p13_e_9 (a0 a1 : Val) (r1 : Val × Bool) (r2 : (List Str)) : rE I13 (xAw a0 a1) [F] [xBg r1, xDN r2] = st 7 I13 (S13_7 r2 0 a1 (Val.mk 0 0 0 [] [] [] []) (Val.mk 5 0 0 [] [] r2 [])) [AbC 25 (xB1 [(Val.re a0), (Val.re a1)] [2, 5]) (xBg r1), r1.2 = false, AbC 34 (xE6 (Val.text a0) 32) (xDN r2)] := by kernel_rfl
theorem c13_16 {N : Nat} {k12 : (List Str) → Int → Val → Val → Val → Option (Val)} (hk12 : ∀ z0 z1 z2 z3 z4 r, k12 z0 z1 z2 z3 z4 = some r → RS Tryd.f13 I13 12 (S13_12 z0 z1 z2 z3 z4) (xAf r)) : ∀ n x7 x10 x12 b3 b4 b8 b11 r, xCG N k12 n x7 x10 x12 b3 b4 b8 b11 = some r → RS Tryd.f13 I13 16 (S13_16 x7 x10 x12 b3 b4 b8 b11) (xAf r) := by
 intro n
 induction n with
 | zero => exact fun _ _ _ _ _ _ _ _ h => nE h
 | succ n ih =>
  exact fun x7 x10 x12 b3 b4 b8 b11 r h =>
   cE h (fun h0 h => iE h fun h1 h => iE h fun h2 h => bE h fun r1 h3 h => iE h fun h4 h => iE h fun h5 h => tS fk13 (p13_16_0 x7 x10 x12 b3 b4 b8 b11 r1) (oc h0 (oc h1 (oc h2 (oc (xA1 h3) (oc h4 (oc h5 on)))))) (ih _ _ _ _ _ _ _ _ h)) fun h0 h =>
   iE h fun h1 h => tS fk13 (p13_16_1 x7 x10 x12 b3 b4 b8 b11) (oc h0 (oc h1 on)) (hk12 _ _ _ _ _ _ h)
theorem c13_12 {N : Nat} : ∀ n x7 x10 b3 b4 b8 r, xBX N n x7 x10 b3 b4 b8 = some r → RS Tryd.f13 I13 12 (S13_12 x7 x10 b3 b4 b8) (xAf r) := by
 intro n
 induction n with
 | zero => exact fun _ _ _ _ _ _ h => nE h
 | succ n ih =>
  exact fun x7 x10 b3 b4 b8 r h =>
   cE h (fun h0 h => iE h fun h1 h => iE h fun h2 h => tS fk13 (p13_12_2 x7 x10 b3 b4 b8) (oc h0 (oc h1 (oc h2 on))) (c13_16 ih _ _ _ _ _ _ _ _ _ h)) fun h0 h =>
   dS h fk13 (p13_12_3 x7 x10 b3 b4 b8) (oc h0 on)
theorem c13_7 {N : Nat} : ∀ n x7 x9 b3 b4 b8 r, xCd N n x7 x9 b3 b4 b8 = some r → RS Tryd.f13 I13 7 (S13_7 x7 x9 b3 b4 b8) (xAf r) := by
 intro n
 induction n with
 | zero => exact fun _ _ _ _ _ _ h => nE h
 | succ n ih =>
  exact fun x7 x9 b3 b4 b8 r h =>
   cE h (fun h0 h => iE h fun h1 h => bE h fun r1 h2 h => cE h (fun h3 h => bE h fun r2 h5 h => dS h fk13 (p13_7_4 x7 x9 b3 b4 b8 r1 r2) (oc h0 (oc h1 (oc (xA1 h2) (oc h3 (oc rfl (oc (xBI h5) on))))))) fun h3 h =>
   bE h fun r2 h4 h => cE h (fun h5 h => bE h fun r3 h6 h => dS h fk13 (p13_7_5 x7 x9 b3 b4 b8 r1 r2 r3) (oc h0 (oc h1 (oc (xA1 h2) (oc h3 (oc (xFA h4) (oc h5 (oc (xBI h6) on)))))))) fun h5 h =>
   tS fk13 (p13_7_6 x7 x9 b3 b4 b8 r1 r2) (oc h0 (oc h1 (oc (xA1 h2) (oc h3 (oc (xFA h4) (oc h5 on)))))) (ih _ _ _ _ _ _ h)) fun h0 h =>
   tS fk13 (p13_7_7 x7 x9 b3 b4 b8) (oc h0 on) (c13_12 _ _ _ _ _ _ _ h)
theorem c13_e {N : Nat} : ∀ a0 a1 r, xBD N a0 a1 = some r → RE Tryd.f13 I13 (xAw a0 a1) (xAf r) := fun a0 a1 r h =>
 bE h fun r1 h0 h => cE h (fun h1 h => dE h fk13 (p13_e_8 a0 a1 r1) (oc (xC4 h0) (oc h1 on))) fun h1 h =>
 bE h fun r2 h2 h => tE fk13 (p13_e_9 a0 a1 r1 r2) (oc (xC4 h0) (oc h1 (oc (spec_SplitByte_ok h2) on))) (c13_7 _ _ _ _ _ _ _ h)
theorem xAB {N : Nat} {a0 : Val} {a1 : Val} {r : Val} (h : xBD N  a0 a1 = some r) : AbC 13 (xAw a0 a1) (xAf r) :=
 AbsCalls.of_reach fk13 rfl rfl (Nat.le_of_ble_eq_true rfl) (c13_e a0 a1 r h)
end Go.Ab.T
end
