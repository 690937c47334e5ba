/- The statement FnExactFindRead holds: plain functions, certificates, laws. Conditions: none. -/
import Derived.Test.YtbcfnggjagchiaaL2
import Derived.Test.YtbcfnggjagchiaaFnExactFindReadP0
set_option linter.all false
section
open Go.Proofs
namespace Go.Ab.T
set_option linter.unusedVariables false
set_option maxRecDepth 100000
noncomputable def I27 : Info := { body := (Try.f27.body).getD .skip, nt := 99, results := [.tmp 4], keep := [0, 2, 8, 10, 18], live := [(2, [0, 2, 10])], modes := [(4, [(0, .ref, false)]), (6, [(0, .ref, false)]), (8, [(0, .ref, false)]), (10, [(0, .ref, false)]), (12, [(0, .ref, false)]), (14, [(0, .ref, false)]), (16, [(0, .ref, false)]), (18, [(0, .ref, false)]), (20, [(0, .ref, false), (5, .ref, false), (7, .ref, false)]), (21, [(0, .ref, false), (5, .ref, false), (7, .ref, false)]), (22, [(0, .ref, false), (5, .ref, false), (7, .ref, false)])], lnt := [(0, 0)] }
theorem fk27 : FnOk Try.prog 27 Try.f27 I27 := ⟨Try.func27, by kernel_rfl, by kernel_rfl, by kernel_rfl, by kernel_rfl⟩
def S27_2 (x0 : List Rea) (x1 x5 : Int) : St := [(0, .v false [.sl (.lnt 0) .rea x0]), (2, .v false [.int .i64 x1]), (10, .v false [.int .i64 x5])]
theorem p27_2_0 (x0 : List Rea) (x1 x5 : Int) (r1 r2 : Str) (r3 : Int × (List Val)) (r4 : Int × (List Str)) (r5 : Int × (List Rowd)) : rS 2 I27 (S27_2 x0 x1 x5) [Y] [xAo r1, xAo r2, xAO r3, xAX r4, xBd r5] = st 2 I27 (S27_2 ((fun (z103 : List Rea) => List.set z103 (tN x5) (Rea.mk (Rea.kind (gD z103 (tN x5) Ty.rea.dflt)) (Rea.n (gD z103 (tN x5) Ty.rea.dflt)) (Rea.time (gD z103 (tN x5) Ty.rea.dflt)) (Rea.text (gD z103 (tN x5) Ty.rea.dflt)) (Val.mk (Val.kind (Rea.result (gD z103 (tN x5) Ty.rea.dflt))) (Val.n (Rea.result (gD z103 (tN x5) Ty.rea.dflt))) (Val.step (Rea.result (gD z103 (tN x5) Ty.rea.dflt))) (Val.text (Rea.result (gD z103 (tN x5) Ty.rea.dflt))) (Val.list (Rea.result (gD z103 (tN x5) Ty.rea.dflt))) (Val.columns (Rea.result (gD z103 (tN x5) Ty.rea.dflt))) r5.2))) ((fun (z102 : List Rea) => List.set z102 (tN x5) (Rea.mk (Rea.kind (gD z102 (tN x5) Ty.rea.dflt)) (Rea.n (gD z102 (tN x5) Ty.rea.dflt)) (Rea.time (gD z102 (tN x5) Ty.rea.dflt)) (Rea.text (gD z102 (tN x5) Ty.rea.dflt)) (Val.mk (Val.kind (Rea.result (gD z102 (tN x5) Ty.rea.dflt))) (Val.n (Rea.result (gD z102 (tN x5) Ty.rea.dflt))) (Val.step (Rea.result (gD z102 (tN x5) Ty.rea.dflt))) (Val.text (Rea.result (gD z102 (tN x5) Ty.rea.dflt))) (Val.list (Rea.result (gD z102 (tN x5) Ty.rea.dflt))) r4.2 (Val.rows (Rea.result (gD z102 (tN x5) Ty.rea.dflt)))))) ((fun (z101 : List Rea) => List.set z101 (tN x5) (Rea.mk (Rea.kind (gD z101 (tN x5) Ty.rea.dflt)) (Rea.n (gD z101 (tN x5) Ty.rea.dflt)) (Rea.time (gD z101 (tN x5) Ty.rea.dflt)) (Rea.text (gD z101 (tN x5) Ty.rea.dflt)) (Val.mk (Val.kind (Rea.result (gD z101 (tN x5) Ty.rea.dflt))) (Val.n (Rea.result (gD z101 (tN x5) Ty.rea.dflt))) (Val.step (Rea.result (gD z101 (tN x5) Ty.rea.dflt))) (Val.text (Rea.result (gD z101 (tN x5) Ty.rea.dflt))) r3.2 (Val.columns (Rea.result (gD z101 (tN x5) Ty.rea.dflt))) (Val.rows (Rea.result (gD z101 (tN x5) Ty.rea.dflt)))))) ((fun (z100 : List Rea) => List.set z100 (tN x5) (Rea.mk (Rea.kind (gD z100 (tN x5) Ty.rea.dflt)) (Rea.n (gD z100 (tN x5) Ty.rea.dflt)) (Rea.time (gD z100 (tN x5) Ty.rea.dflt)) (Rea.text (gD z100 (tN x5) Ty.rea.dflt)) (Val.mk (Val.kind (Rea.result (gD z100 (tN x5) Ty.rea.dflt))) (Val.n (Rea.result (gD z100 (tN x5) Ty.rea.dflt))) (Val.step (Rea.result (gD z100 (tN x5) Ty.rea.dflt))) r2 (Val.list (Rea.result (gD z100 (tN x5) Ty.rea.dflt))) (Val.columns (Rea.result (gD z100 (tN x5) Ty.rea.dflt))) (Val.rows (Rea.result (gD z100 (tN x5) Ty.rea.dflt)))))) ((fun (z99 : List Rea) => List.set z99 (tN x5) (Rea.mk (Rea.kind (gD z99 (tN x5) Ty.rea.dflt)) (Rea.n (gD z99 (tN x5) Ty.rea.dflt)) (Rea.time (gD z99 (tN x5) Ty.rea.dflt)) (Rea.text (gD z99 (tN x5) Ty.rea.dflt)) (Val.mk (Val.kind (Rea.result (gD z99 (tN x5) Ty.rea.dflt))) (Val.n (Rea.result (gD z99 (tN x5) Ty.rea.dflt))) (W ((W ((W ((W ((W ((W (x1 + 1)) + 1)) + 1)) + 1)) + 1)) + 1)) (Val.text (Rea.result (gD z99 (tN x5) Ty.rea.dflt))) (Val.list (Rea.result (gD z99 (tN x5) Ty.rea.dflt))) (Val.columns (Rea.result (gD z99 (tN x5) Ty.rea.dflt))) (Val.rows (Rea.result (gD z99 (tN x5) Ty.rea.dflt)))))) ((fun (z98 : List Rea) => List.set z98 (tN x5) (Rea.mk (Rea.kind (gD z98 (tN x5) Ty.rea.dflt)) (Rea.n (gD z98 (tN x5) Ty.rea.dflt)) (Rea.time (gD z98 (tN x5) Ty.rea.dflt)) (Rea.text (gD z98 (tN x5) Ty.rea.dflt)) (Val.mk (Val.kind (Rea.result (gD z98 (tN x5) Ty.rea.dflt))) (W ((W ((W ((W ((W (x1 + 1)) + 1)) + 1)) + 1)) + 1)) (Val.step (Rea.result (gD z98 (tN x5) Ty.rea.dflt))) (Val.text (Rea.result (gD z98 (tN x5) Ty.rea.dflt))) (Val.list (Rea.result (gD z98 (tN x5) Ty.rea.dflt))) (Val.columns (Rea.result (gD z98 (tN x5) Ty.rea.dflt))) (Val.rows (Rea.result (gD z98 (tN x5) Ty.rea.dflt)))))) ((fun (z97 : List Rea) => List.set z97 (tN x5) (Rea.mk (Rea.kind (gD z97 (tN x5) Ty.rea.dflt)) (Rea.n (gD z97 (tN x5) Ty.rea.dflt)) (Rea.time (gD z97 (tN x5) Ty.rea.dflt)) (Rea.text (gD z97 (tN x5) Ty.rea.dflt)) (Val.mk (W ((W ((W ((W (x1 + 1)) + 1)) + 1)) + 1)) (Val.n (Rea.result (gD z97 (tN x5) Ty.rea.dflt))) (Val.step (Rea.result (gD z97 (tN x5) Ty.rea.dflt))) (Val.text (Rea.result (gD z97 (tN x5) Ty.rea.dflt))) (Val.list (Rea.result (gD z97 (tN x5) Ty.rea.dflt))) (Val.columns (Rea.result (gD z97 (tN x5) Ty.rea.dflt))) (Val.rows (Rea.result (gD z97 (tN x5) Ty.rea.dflt)))))) ((fun (z96 : List Rea) => List.set z96 (tN x5) (Rea.mk (Rea.kind (gD z96 (tN x5) Ty.rea.dflt)) (Rea.n (gD z96 (tN x5) Ty.rea.dflt)) (Rea.time (gD z96 (tN x5) Ty.rea.dflt)) r1 (Val.re (Rea.result (gD z96 (tN x5) Ty.rea.dflt))))) ((fun (z95 : List Rea) => List.set z95 (tN x5) (Rea.mk (Rea.kind (gD z95 (tN x5) Ty.rea.dflt)) (Rea.n (gD z95 (tN x5) Ty.rea.dflt)) (W ((W (x1 + 1)) + 1)) (Rea.text (gD z95 (tN x5) Ty.rea.dflt)) (Val.re (Rea.result (gD z95 (tN x5) Ty.rea.dflt))))) ((fun (z94 : List Rea) => List.set z94 (tN x5) (Rea.mk (Rea.kind (gD z94 (tN x5) Ty.rea.dflt)) (W (x1 + 1)) (Rea.time (gD z94 (tN x5) Ty.rea.dflt)) (Rea.text (gD z94 (tN x5) Ty.rea.dflt)) (Val.re (Rea.result (gD z94 (tN x5) Ty.rea.dflt))))) (List.set x0 (tN x5) (Rea.mk x1 (Rea.n (gD x0 (tN x5) Ty.rea.dflt)) (Rea.time (gD x0 (tN x5) Ty.rea.dflt)) (Rea.text (gD x0 (tN x5) Ty.rea.dflt)) (Val.re (Rea.result (gD x0 (tN x5) Ty.rea.dflt))))))))))))))) r5.1 (W (x5 + 1))) [(decide ((x5 : Int) < (Ln x0 : Int))) = true, (0 : Int) ≤ x5 ∧ x5 < (Ln x0), (0 : Int) ≤ x5 ∧ x5 < (Ln (List.set x0 (tN x5) (Rea.mk x1 (Rea.n (gD x0 (tN x5) Ty.rea.dflt)) (Rea.time (gD x0 (tN x5) Ty.rea.dflt)) (Rea.text (gD x0 (tN x5) Ty.rea.dflt)) (Val.re (Rea.result (gD x0 (tN x5) Ty.rea.dflt)))))), (0 : Int) ≤ x5 ∧ x5 < (Ln ((fun (z94 : List Rea) => List.set z94 (tN x5) (Rea.mk (Rea.kind (gD z94 (tN x5) Ty.rea.dflt)) (W (x1 + 1)) (Rea.time (gD z94 (tN x5) Ty.rea.dflt)) (Rea.text (gD z94 (tN x5) Ty.rea.dflt)) (Val.re (Rea.result (gD z94 (tN x5) Ty.rea.dflt))))) (List.set x0 (tN x5) (Rea.mk x1 (Rea.n (gD x0 (tN x5) Ty.rea.dflt)) (Rea.time (gD x0 (tN x5) Ty.rea.dflt)) (Rea.text (gD x0 (tN x5) Ty.rea.dflt)) (Val.re (Rea.result (gD x0 (tN x5) Ty.rea.dflt))))))), AbC 93 (xAL (W ((W ((W (x1 + 1)) + 1)) + 1))) (xAo r1), (0 : Int) ≤ x5 ∧ x5 < (Ln ((fun (z95 : List Rea) => List.set z95 (tN x5) (Rea.mk (Rea.kind (gD z95 (tN x5) Ty.rea.dflt)) (Rea.n (gD z95 (tN x5) Ty.rea.dflt)) (W ((W (x1 + 1)) + 1)) (Rea.text (gD z95 (tN x5) Ty.rea.dflt)) (Val.re (Rea.result (gD z95 (tN x5) Ty.rea.dflt))))) ((fun (z94 : List Rea) => List.set z94 (tN x5) (Rea.mk (Rea.kind (gD z94 (tN x5) Ty.rea.dflt)) (W (x1 + 1)) (Rea.time (gD z94 (tN x5) Ty.rea.dflt)) (Rea.text (gD z94 (tN x5) Ty.rea.dflt)) (Val.re (Rea.result (gD z94 (tN x5) Ty.rea.dflt))))) (List.set x0 (tN x5) (Rea.mk x1 (Rea.n (gD x0 (tN x5) Ty.rea.dflt)) (Rea.time (gD x0 (tN x5) Ty.rea.dflt)) (Rea.text (gD x0 (tN x5) Ty.rea.dflt)) (Val.re (Rea.result (gD x0 (tN x5) Ty.rea.dflt)))))))), (0 : Int) ≤ x5 ∧ x5 < (Ln ((fun (z96 : List Rea) => List.set z96 (tN x5) (Rea.mk (Rea.kind (gD z96 (tN x5) Ty.rea.dflt)) (Rea.n (gD z96 (tN x5) Ty.rea.dflt)) (Rea.time (gD z96 (tN x5) Ty.rea.dflt)) r1 (Val.re (Rea.result (gD z96 (tN x5) Ty.rea.dflt))))) ((fun (z95 : List Rea) => List.set z95 (tN x5) (Rea.mk (Rea.kind (gD z95 (tN x5) Ty.rea.dflt)) (Rea.n (gD z95 (tN x5) Ty.rea.dflt)) (W ((W (x1 + 1)) + 1)) (Rea.text (gD z95 (tN x5) Ty.rea.dflt)) (Val.re (Rea.result (gD z95 (tN x5) Ty.rea.dflt))))) ((fun (z94 : List Rea) => List.set z94 (tN x5) (Rea.mk (Rea.kind (gD z94 (tN x5) Ty.rea.dflt)) (W (x1 + 1)) (Rea.time (gD z94 (tN x5) Ty.rea.dflt)) (Rea.text (gD z94 (tN x5) Ty.rea.dflt)) (Val.re (Rea.result (gD z94 (tN x5) Ty.rea.dflt))))) (List.set x0 (tN x5) (Rea.mk x1 (Rea.n (gD x0 (tN x5) Ty.rea.dflt)) (Rea.time (gD x0 (tN x5) Ty.rea.dflt)) (Rea.text (gD x0 (tN x5) Ty.rea.dflt)) (Val.re (Rea.result (gD x0 (tN x5) Ty.rea.dflt))))))))), (0 : Int) ≤ x5 ∧ x5 < (Ln ((fun (z97 : List Rea) => List.set z97 (tN x5) (Rea.mk (Rea.kind (gD z97 (tN x5) Ty.rea.dflt)) (Rea.n (gD z97 (tN x5) Ty.rea.dflt)) (Rea.time (gD z97 (tN x5) Ty.rea.dflt)) (Rea.text (gD z97 (tN x5) Ty.rea.dflt)) (Val.mk (W ((W ((W ((W (x1 + 1)) + 1)) + 1)) + 1)) (Val.n (Rea.result (gD z97 (tN x5) Ty.rea.dflt))) (Val.step (Rea.result (gD z97 (tN x5) Ty.rea.dflt))) (Val.text (Rea.result (gD z97 (tN x5) Ty.rea.dflt))) (Val.list (Rea.result (gD z97 (tN x5) Ty.rea.dflt))) (Val.columns (Rea.result (gD z97 (tN x5) Ty.rea.dflt))) (Val.rows (Rea.result (gD z97 (tN x5) Ty.rea.dflt)))))) ((fun (z96 : List Rea) => List.set z96 (tN x5) (Rea.mk (Rea.kind (gD z96 (tN x5) Ty.rea.dflt)) (Rea.n (gD z96 (tN x5) Ty.rea.dflt)) (Rea.time (gD z96 (tN x5) Ty.rea.dflt)) r1 (Val.re (Rea.result (gD z96 (tN x5) Ty.rea.dflt))))) ((fun (z95 : List Rea) => List.set z95 (tN x5) (Rea.mk (Rea.kind (gD z95 (tN x5) Ty.rea.dflt)) (Rea.n (gD z95 (tN x5) Ty.rea.dflt)) (W ((W (x1 + 1)) + 1)) (Rea.text (gD z95 (tN x5) Ty.rea.dflt)) (Val.re (Rea.result (gD z95 (tN x5) Ty.rea.dflt))))) ((fun (z94 : List Rea) => List.set z94 (tN x5) (Rea.mk (Rea.kind (gD z94 (tN x5) Ty.rea.dflt)) (W (x1 + 1)) (Rea.time (gD z94 (tN x5) Ty.rea.dflt)) (Rea.text (gD z94 (tN x5) Ty.rea.dflt)) (Val.re (Rea.result (gD z94 (tN x5) Ty.rea.dflt))))) (List.set x0 (tN x5) (Rea.mk x1 (Rea.n (gD x0 (tN x5) Ty.rea.dflt)) (Rea.time (gD x0 (tN x5) Ty.rea.dflt)) (Rea.text (gD x0 (tN x5) Ty.rea.dflt)) (Val.re (Rea.result (gD x0 (tN x5) Ty.rea.dflt)))))))))), (0 : Int) ≤ x5 ∧ x5 < (Ln ((fun (z98 : List Rea) => List.set z98 (tN x5) (Rea.mk (Rea.kind (gD z98 (tN x5) Ty.rea.dflt)) (Rea.n (gD z98 (tN x5) Ty.rea.dflt)) (Rea.time (gD z98 (tN x5) Ty.rea.dflt)) (Rea.text (gD z98 (tN x5) Ty.rea.dflt)) (Val.mk (Val.kind (Rea.result (gD z98 (tN x5) Ty.rea.dflt))) (W ((W ((W ((W ((W (x1 + 1)) + 1)) + 1)) + 1)) + 1)) (Val.step (Rea.result (gD z98 (tN x5) Ty.rea.dflt))) (Val.text (Rea.result (gD z98 (tN x5) Ty.rea.dflt))) (Val.list (Rea.result (gD z98 (tN x5) Ty.rea.dflt))) (Val.columns (Rea.result (gD z98 (tN x5) Ty.rea.dflt))) (Val.rows (Rea.result (gD z98 (tN x5) Ty.rea.dflt)))))) ((fun (z97 : List Rea) => List.set z97 (tN x5) (Rea.mk (Rea.kind (gD z97 (tN x5) Ty.rea.dflt)) (Rea.n (gD z97 (tN x5) Ty.rea.dflt)) (Rea.time (gD z97 (tN x5) Ty.rea.dflt)) (Rea.text (gD z97 (tN x5) Ty.rea.dflt)) (Val.mk (W ((W ((W ((W (x1 + 1)) + 1)) + 1)) + 1)) (Val.n (Rea.result (gD z97 (tN x5) Ty.rea.dflt))) (Val.step (Rea.result (gD z97 (tN x5) Ty.rea.dflt))) (Val.text (Rea.result (gD z97 (tN x5) Ty.rea.dflt))) (Val.list (Rea.result (gD z97 (tN x5) Ty.rea.dflt))) (Val.columns (Rea.result (gD z97 (tN x5) Ty.rea.dflt))) (Val.rows (Rea.result (gD z97 (tN x5) Ty.rea.dflt)))))) ((fun (z96 : List Rea) => List.set z96 (tN x5) (Rea.mk (Rea.kind (gD z96 (tN x5) Ty.rea.dflt)) (Rea.n (gD z96 (tN x5) Ty.rea.dflt)) (Rea.time (gD z96 (tN x5) Ty.rea.dflt)) r1 (Val.re (Rea.result (gD z96 (tN x5) Ty.rea.dflt))))) ((fun (z95 : List Rea) => List.set z95 (tN x5) (Rea.mk (Rea.kind (gD z95 (tN x5) Ty.rea.dflt)) (Rea.n (gD z95 (tN x5) Ty.rea.dflt)) (W ((W (x1 + 1)) + 1)) (Rea.text (gD z95 (tN x5) Ty.rea.dflt)) (Val.re (Rea.result (gD z95 (tN x5) Ty.rea.dflt))))) ((fun (z94 : List Rea) => List.set z94 (tN x5) (Rea.mk (Rea.kind (gD z94 (tN x5) Ty.rea.dflt)) (W (x1 + 1)) (Rea.time (gD z94 (tN x5) Ty.rea.dflt)) (Rea.text (gD z94 (tN x5) Ty.rea.dflt)) (Val.re (Rea.result (gD z94 (tN x5) Ty.rea.dflt))))) (List.set x0 (tN x5) (Rea.mk x1 (Rea.n (gD x0 (tN x5) Ty.rea.dflt)) (Rea.time (gD x0 (tN x5) Ty.rea.dflt)) (Rea.text (gD x0 (tN x5) Ty.rea.dflt)) (Val.re (Rea.result (gD x0 (tN x5) Ty.rea.dflt))))))))))), AbC 93 (xAL (W ((W ((W ((W ((W ((W ((W (x1 + 1)) + 1)) + 1)) + 1)) + 1)) + 1)) + 1))) (xAo r2), (0 : Int) ≤ x5 ∧ x5 < (Ln ((fun (z99 : List Rea) => List.set z99 (tN x5) (Rea.mk (Rea.kind (gD z99 (tN x5) Ty.rea.dflt)) (Rea.n (gD z99 (tN x5) Ty.rea.dflt)) (Rea.time (gD z99 (tN x5) Ty.rea.dflt)) (Rea.text (gD z99 (tN x5) Ty.rea.dflt)) (Val.mk (Val.kind (Rea.result (gD z99 (tN x5) Ty.rea.dflt))) (Val.n (Rea.result (gD z99 (tN x5) Ty.rea.dflt))) (W ((W ((W ((W ((W ((W (x1 + 1)) + 1)) + 1)) + 1)) + 1)) + 1)) (Val.text (Rea.result (gD z99 (tN x5) Ty.rea.dflt))) (Val.list (Rea.result (gD z99 (tN x5) Ty.rea.dflt))) (Val.columns (Rea.result (gD z99 (tN x5) Ty.rea.dflt))) (Val.rows (Rea.result (gD z99 (tN x5) Ty.rea.dflt)))))) ((fun (z98 : List Rea) => List.set z98 (tN x5) (Rea.mk (Rea.kind (gD z98 (tN x5) Ty.rea.dflt)) (Rea.n (gD z98 (tN x5) Ty.rea.dflt)) (Rea.time (gD z98 (tN x5) Ty.rea.dflt)) (Rea.text (gD z98 (tN x5) Ty.rea.dflt)) (Val.mk (Val.kind (Rea.result (gD z98 (tN x5) Ty.rea.dflt))) (W ((W ((W ((W ((W (x1 + 1)) + 1)) + 1)) + 1)) + 1)) (Val.step (Rea.result (gD z98 (tN x5) Ty.rea.dflt))) (Val.text (Rea.result (gD z98 (tN x5) Ty.rea.dflt))) (Val.list (Rea.result (gD z98 (tN x5) Ty.rea.dflt))) (Val.columns (Rea.result (gD z98 (tN x5) Ty.rea.dflt))) (Val.rows (Rea.result (gD z98 (tN x5) Ty.rea.dflt)))))) ((fun (z97 : List Rea) => List.set z97 (tN x5) (Rea.mk (Rea.kind (gD z97 (tN x5) Ty.rea.dflt)) (Rea.n (gD z97 (tN x5) Ty.rea.dflt)) (Rea.time (gD z97 (tN x5) Ty.rea.dflt)) (Rea.text (gD z97 (tN x5) Ty.rea.dflt)) (Val.mk (W ((W ((W ((W (x1 + 1)) + 1)) + 1)) + 1)) (Val.n (Rea.result (gD z97 (tN x5) Ty.rea.dflt))) (Val.step (Rea.result (gD z97 (tN x5) Ty.rea.dflt))) (Val.text (Rea.result (gD z97 (tN x5) Ty.rea.dflt))) (Val.list (Rea.result (gD z97 (tN x5) Ty.rea.dflt))) (Val.columns (Rea.result (gD z97 (tN x5) Ty.rea.dflt))) (Val.rows (Rea.result (gD z97 (tN x5) Ty.rea.dflt)))))) ((fun (z96 : List Rea) => List.set z96 (tN x5) (Rea.mk (Rea.kind (gD z96 (tN x5) Ty.rea.dflt)) (Rea.n (gD z96 (tN x5) Ty.rea.dflt)) (Rea.time (gD z96 (tN x5) Ty.rea.dflt)) r1 (Val.re (Rea.result (gD z96 (tN x5) Ty.rea.dflt))))) ((fun (z95 : List Rea) => List.set z95 (tN x5) (Rea.mk (Rea.kind (gD z95 (tN x5) Ty.rea.dflt)) (Rea.n (gD z95 (tN x5) Ty.rea.dflt)) (W ((W (x1 + 1)) + 1)) (Rea.text (gD z95 (tN x5) Ty.rea.dflt)) (Val.re (Rea.result (gD z95 (tN x5) Ty.rea.dflt))))) ((fun (z94 : List Rea) => List.set z94 (tN x5) (Rea.mk (Rea.kind (gD z94 (tN x5) Ty.rea.dflt)) (W (x1 + 1)) (Rea.time (gD z94 (tN x5) Ty.rea.dflt)) (Rea.text (gD z94 (tN x5) Ty.rea.dflt)) (Val.re (Rea.result (gD z94 (tN x5) Ty.rea.dflt))))) (List.set x0 (tN x5) (Rea.mk x1 (Rea.n (gD x0 (tN x5) Ty.rea.dflt)) (Rea.time (gD x0 (tN x5) Ty.rea.dflt)) (Rea.text (gD x0 (tN x5) Ty.rea.dflt)) (Val.re (Rea.result (gD x0 (tN x5) Ty.rea.dflt)))))))))))), (0 : Int) ≤ x5 ∧ x5 < (Ln ((fun (z100 : List Rea) => List.set z100 (tN x5) (Rea.mk (Rea.kind (gD z100 (tN x5) Ty.rea.dflt)) (Rea.n (gD z100 (tN x5) Ty.rea.dflt)) (Rea.time (gD z100 (tN x5) Ty.rea.dflt)) (Rea.text (gD z100 (tN x5) Ty.rea.dflt)) (Val.mk (Val.kind (Rea.result (gD z100 (tN x5) Ty.rea.dflt))) (Val.n (Rea.result (gD z100 (tN x5) Ty.rea.dflt))) (Val.step (Rea.result (gD z100 (tN x5) Ty.rea.dflt))) r2 (Val.list (Rea.result (gD z100 (tN x5) Ty.rea.dflt))) (Val.columns (Rea.result (gD z100 (tN x5) Ty.rea.dflt))) (Val.rows (Rea.result (gD z100 (tN x5) Ty.rea.dflt)))))) ((fun (z99 : List Rea) => List.set z99 (tN x5) (Rea.mk (Rea.kind (gD z99 (tN x5) Ty.rea.dflt)) (Rea.n (gD z99 (tN x5) Ty.rea.dflt)) (Rea.time (gD z99 (tN x5) Ty.rea.dflt)) (Rea.text (gD z99 (tN x5) Ty.rea.dflt)) (Val.mk (Val.kind (Rea.result (gD z99 (tN x5) Ty.rea.dflt))) (Val.n (Rea.result (gD z99 (tN x5) Ty.rea.dflt))) (W ((W ((W ((W ((W ((W (x1 + 1)) + 1)) + 1)) + 1)) + 1)) + 1)) (Val.text (Rea.result (gD z99 (tN x5) Ty.rea.dflt))) (Val.list (Rea.result (gD z99 (tN x5) Ty.rea.dflt))) (Val.columns (Rea.result (gD z99 (tN x5) Ty.rea.dflt))) (Val.rows (Rea.result (gD z99 (tN x5) Ty.rea.dflt)))))) ((fun (z98 : List Rea) => List.set z98 (tN x5) (Rea.mk (Rea.kind (gD z98 (tN x5) Ty.rea.dflt)) (Rea.n (gD z98 (tN x5) Ty.rea.dflt)) (Rea.time (gD z98 (tN x5) Ty.rea.dflt)) (Rea.text (gD z98 (tN x5) Ty.rea.dflt)) (Val.mk (Val.kind (Rea.result (gD z98 (tN x5) Ty.rea.dflt))) (W ((W ((W ((W ((W (x1 + 1)) + 1)) + 1)) + 1)) + 1)) (Val.step (Rea.result (gD z98 (tN x5) Ty.rea.dflt))) (Val.text (Rea.result (gD z98 (tN x5) Ty.rea.dflt))) (Val.list (Rea.result (gD z98 (tN x5) Ty.rea.dflt))) (Val.columns (Rea.result (gD z98 (tN x5) Ty.rea.dflt))) (Val.rows (Rea.result (gD z98 (tN x5) Ty.rea.dflt)))))) ((fun (z97 : List Rea) => List.set z97 (tN x5) (Rea.mk (Rea.kind (gD z97 (tN x5) Ty.rea.dflt)) (Rea.n (gD z97 (tN x5) Ty.rea.dflt)) (Rea.time (gD z97 (tN x5) Ty.rea.dflt)) (Rea.text (gD z97 (tN x5) Ty.rea.dflt)) (Val.mk (W ((W ((W ((W (x1 + 1)) + 1)) + 1)) + 1)) (Val.n (Rea.result (gD z97 (tN x5) Ty.rea.dflt))) (Val.step (Rea.result (gD z97 (tN x5) Ty.rea.dflt))) (Val.text (Rea.result (gD z97 (tN x5) Ty.rea.dflt))) (Val.list (Rea.result (gD z97 (tN x5) Ty.rea.dflt))) (Val.columns (Rea.result (gD z97 (tN x5) Ty.rea.dflt))) (Val.rows (Rea.result (gD z97 (tN x5) Ty.rea.dflt)))))) ((fun (z96 : List Rea) => List.set z96 (tN x5) (Rea.mk (Rea.kind (gD z96 (tN x5) Ty.rea.dflt)) (Rea.n (gD z96 (tN x5) Ty.rea.dflt)) (Rea.time (gD z96 (tN x5) Ty.rea.dflt)) r1 (Val.re (Rea.result (gD z96 (tN x5) Ty.rea.dflt))))) ((fun (z95 : List Rea) => List.set z95 (tN x5) (Rea.mk (Rea.kind (gD z95 (tN x5) Ty.rea.dflt)) (Rea.n (gD z95 (tN x5) Ty.rea.dflt)) (W ((W (x1 + 1)) + 1)) (Rea.text (gD z95 (tN x5) Ty.rea.dflt)) (Val.re (Rea.result (gD z95 (tN x5) Ty.rea.dflt))))) ((fun (z94 : List Rea) => List.set z94 (tN x5) (Rea.mk (Rea.kind (gD z94 (tN x5) Ty.rea.dflt)) (W (x1 + 1)) (Rea.time (gD z94 (tN x5) Ty.rea.dflt)) (Rea.text (gD z94 (tN x5) Ty.rea.dflt)) (Val.re (Rea.result (gD z94 (tN x5) Ty.rea.dflt))))) (List.set x0 (tN x5) (Rea.mk x1 (Rea.n (gD x0 (tN x5) Ty.rea.dflt)) (Rea.time (gD x0 (tN x5) Ty.rea.dflt)) (Rea.text (gD x0 (tN x5) Ty.rea.dflt)) (Val.re (Rea.result (gD x0 (tN x5) Ty.rea.dflt))))))))))))), AbC 75 (xBg (Val.list (Rea.result (gD ((fun (z100 : List Rea) => List.set z100 (tN x5) (Rea.mk (Rea.kind (gD z100 (tN x5) Ty.rea.dflt)) (Rea.n (gD z100 (tN x5) Ty.rea.dflt)) (Rea.time (gD z100 (tN x5) Ty.rea.dflt)) (Rea.text (gD z100 (tN x5) Ty.rea.dflt)) (Val.mk (Val.kind (Rea.result (gD z100 (tN x5) Ty.rea.dflt))) (Val.n (Rea.result (gD z100 (tN x5) Ty.rea.dflt))) (Val.step (Rea.result (gD z100 (tN x5) Ty.rea.dflt))) r2 (Val.list (Rea.result (gD z100 (tN x5) Ty.rea.dflt))) (Val.columns (Rea.result (gD z100 (tN x5) Ty.rea.dflt))) (Val.rows (Rea.result (gD z100 (tN x5) Ty.rea.dflt)))))) ((fun (z99 : List Rea) => List.set z99 (tN x5) (Rea.mk (Rea.kind (gD z99 (tN x5) Ty.rea.dflt)) (Rea.n (gD z99 (tN x5) Ty.rea.dflt)) (Rea.time (gD z99 (tN x5) Ty.rea.dflt)) (Rea.text (gD z99 (tN x5) Ty.rea.dflt)) (Val.mk (Val.kind (Rea.result (gD z99 (tN x5) Ty.rea.dflt))) (Val.n (Rea.result (gD z99 (tN x5) Ty.rea.dflt))) (W ((W ((W ((W ((W ((W (x1 + 1)) + 1)) + 1)) + 1)) + 1)) + 1)) (Val.text (Rea.result (gD z99 (tN x5) Ty.rea.dflt))) (Val.list (Rea.result (gD z99 (tN x5) Ty.rea.dflt))) (Val.columns (Rea.result (gD z99 (tN x5) Ty.rea.dflt))) (Val.rows (Rea.result (gD z99 (tN x5) Ty.rea.dflt)))))) ((fun (z98 : List Rea) => List.set z98 (tN x5) (Rea.mk (Rea.kind (gD z98 (tN x5) Ty.rea.dflt)) (Rea.n (gD z98 (tN x5) Ty.rea.dflt)) (Rea.time (gD z98 (tN x5) Ty.rea.dflt)) (Rea.text (gD z98 (tN x5) Ty.rea.dflt)) (Val.mk (Val.kind (Rea.result (gD z98 (tN x5) Ty.rea.dflt))) (W ((W ((W ((W ((W (x1 + 1)) + 1)) + 1)) + 1)) + 1)) (Val.step (Rea.result (gD z98 (tN x5) Ty.rea.dflt))) (Val.text (Rea.result (gD z98 (tN x5) Ty.rea.dflt))) (Val.list (Rea.result (gD z98 (tN x5) Ty.rea.dflt))) (Val.columns (Rea.result (gD z98 (tN x5) Ty.rea.dflt))) (Val.rows (Rea.result (gD z98 (tN x5) Ty.rea.dflt)))))) ((fun (z97 : List Rea) => List.set z97 (tN x5) (Rea.mk (Rea.kind (gD z97 (tN x5) Ty.rea.dflt)) (Rea.n (gD z97 (tN x5) Ty.rea.dflt)) (Rea.time (gD z97 (tN x5) Ty.rea.dflt)) (Rea.text (gD z97 (tN x5) Ty.rea.dflt)) (Val.mk (W ((W ((W ((W (x1 + 1)) + 1)) + 1)) + 1)) (Val.n (Rea.result (gD z97 (tN x5) Ty.rea.dflt))) (Val.step (Rea.result (gD z97 (tN x5) Ty.rea.dflt))) (Val.text (Rea.result (gD z97 (tN x5) Ty.rea.dflt))) (Val.list (Rea.result (gD z97 (tN x5) Ty.rea.dflt))) (Val.columns (Rea.result (gD z97 (tN x5) Ty.rea.dflt))) (Val.rows (Rea.result (gD z97 (tN x5) Ty.rea.dflt)))))) ((fun (z96 : List Rea) => List.set z96 (tN x5) (Rea.mk (Rea.kind (gD z96 (tN x5) Ty.rea.dflt)) (Rea.n (gD z96 (tN x5) Ty.rea.dflt)) (Rea.time (gD z96 (tN x5) Ty.rea.dflt)) r1 (Val.re (Rea.result (gD z96 (tN x5) Ty.rea.dflt))))) ((fun (z95 : List Rea) => List.set z95 (tN x5) (Rea.mk (Rea.kind (gD z95 (tN x5) Ty.rea.dflt)) (Rea.n (gD z95 (tN x5) Ty.rea.dflt)) (W ((W (x1 + 1)) + 1)) (Rea.text (gD z95 (tN x5) Ty.rea.dflt)) (Val.re (Rea.result (gD z95 (tN x5) Ty.rea.dflt))))) ((fun (z94 : List Rea) => List.set z94 (tN x5) (Rea.mk (Rea.kind (gD z94 (tN x5) Ty.rea.dflt)) (W (x1 + 1)) (Rea.time (gD z94 (tN x5) Ty.rea.dflt)) (Rea.text (gD z94 (tN x5) Ty.rea.dflt)) (Val.re (Rea.result (gD z94 (tN x5) Ty.rea.dflt))))) (List.set x0 (tN x5) (Rea.mk x1 (Rea.n (gD x0 (tN x5) Ty.rea.dflt)) (Rea.time (gD x0 (tN x5) Ty.rea.dflt)) (Rea.text (gD x0 (tN x5) Ty.rea.dflt)) (Val.re (Rea.result (gD x0 (tN x5) Ty.rea.dflt)))))))))))) (tN x5) Ty.rea.dflt))) (W ((W ((W ((W ((W ((W ((W ((W (x1 + 1)) + 1)) + 1)) + 1)) + 1)) + 1)) + 1)) + 1))) (xAO r3), (tN x5) = (tN x5), Ln r3.2 = Ln (Val.list (Rea.result (gD ((fun (z100 : List Rea) => List.set z100 (tN x5) (Rea.mk (Rea.kind (gD z100 (tN x5) Ty.rea.dflt)) (Rea.n (gD z100 (tN x5) Ty.rea.dflt)) (Rea.time (gD z100 (tN x5) Ty.rea.dflt)) (Rea.text (gD z100 (tN x5) Ty.rea.dflt)) (Val.mk (Val.kind (Rea.result (gD z100 (tN x5) Ty.rea.dflt))) (Val.n (Rea.result (gD z100 (tN x5) Ty.rea.dflt))) (Val.step (Rea.result (gD z100 (tN x5) Ty.rea.dflt))) r2 (Val.list (Rea.result (gD z100 (tN x5) Ty.rea.dflt))) (Val.columns (Rea.result (gD z100 (tN x5) Ty.rea.dflt))) (Val.rows (Rea.result (gD z100 (tN x5) Ty.rea.dflt)))))) ((fun (z99 : List Rea) => List.set z99 (tN x5) (Rea.mk (Rea.kind (gD z99 (tN x5) Ty.rea.dflt)) (Rea.n (gD z99 (tN x5) Ty.rea.dflt)) (Rea.time (gD z99 (tN x5) Ty.rea.dflt)) (Rea.text (gD z99 (tN x5) Ty.rea.dflt)) (Val.mk (Val.kind (Rea.result (gD z99 (tN x5) Ty.rea.dflt))) (Val.n (Rea.result (gD z99 (tN x5) Ty.rea.dflt))) (W ((W ((W ((W ((W ((W (x1 + 1)) + 1)) + 1)) + 1)) + 1)) + 1)) (Val.text (Rea.result (gD z99 (tN x5) Ty.rea.dflt))) (Val.list (Rea.result (gD z99 (tN x5) Ty.rea.dflt))) (Val.columns (Rea.result (gD z99 (tN x5) Ty.rea.dflt))) (Val.rows (Rea.result (gD z99 (tN x5) Ty.rea.dflt)))))) ((fun (z98 : List Rea) => List.set z98 (tN x5) (Rea.mk (Rea.kind (gD z98 (tN x5) Ty.rea.dflt)) (Rea.n (gD z98 (tN x5) Ty.rea.dflt)) (Rea.time (gD z98 (tN x5) Ty.rea.dflt)) (Rea.text (gD z98 (tN x5) Ty.rea.dflt)) (Val.mk (Val.kind (Rea.result (gD z98 (tN x5) Ty.rea.dflt))) (W ((W ((W ((W ((W (x1 + 1)) + 1)) + 1)) + 1)) + 1)) (Val.step (Rea.result (gD z98 (tN x5) Ty.rea.dflt))) (Val.text (Rea.result (gD z98 (tN x5) Ty.rea.dflt))) (Val.list (Rea.result (gD z98 (tN x5) Ty.rea.dflt))) (Val.columns (Rea.result (gD z98 (tN x5) Ty.rea.dflt))) (Val.rows (Rea.result (gD z98 (tN x5) Ty.rea.dflt)))))) ((fun (z97 : List Rea) => List.set z97 (tN x5) (Rea.mk (Rea.kind (gD z97 (tN x5) Ty.rea.dflt)) (Rea.n (gD z97 (tN x5) Ty.rea.dflt)) (Rea.time (gD z97 (tN x5) Ty.rea.dflt)) (Rea.text (gD z97 (tN x5) Ty.rea.dflt)) (Val.mk (W ((W ((W ((W (x1 + 1)) + 1)) + 1)) + 1)) (Val.n (Rea.result (gD z97 (tN x5) Ty.rea.dflt))) (Val.step (Rea.result (gD z97 (tN x5) Ty.rea.dflt))) (Val.text (Rea.result (gD z97 (tN x5) Ty.rea.dflt))) (Val.list (Rea.result (gD z97 (tN x5) Ty.rea.dflt))) (Val.columns (Rea.result (gD z97 (tN x5) Ty.rea.dflt))) (Val.rows (Rea.result (gD z97 (tN x5) Ty.rea.dflt)))))) ((fun (z96 : List Rea) => List.set z96 (tN x5) (Rea.mk (Rea.kind (gD z96 (tN x5) Ty.rea.dflt)) (Rea.n (gD z96 (tN x5) Ty.rea.dflt)) (Rea.time (gD z96 (tN x5) Ty.rea.dflt)) r1 (Val.re (Rea.result (gD z96 (tN x5) Ty.rea.dflt))))) ((fun (z95 : List Rea) => List.set z95 (tN x5) (Rea.mk (Rea.kind (gD z95 (tN x5) Ty.rea.dflt)) (Rea.n (gD z95 (tN x5) Ty.rea.dflt)) (W ((W (x1 + 1)) + 1)) (Rea.text (gD z95 (tN x5) Ty.rea.dflt)) (Val.re (Rea.result (gD z95 (tN x5) Ty.rea.dflt))))) ((fun (z94 : List Rea) => List.set z94 (tN x5) (Rea.mk (Rea.kind (gD z94 (tN x5) Ty.rea.dflt)) (W (x1 + 1)) (Rea.time (gD z94 (tN x5) Ty.rea.dflt)) (Rea.text (gD z94 (tN x5) Ty.rea.dflt)) (Val.re (Rea.result (gD z94 (tN x5) Ty.rea.dflt))))) (List.set x0 (tN x5) (Rea.mk x1 (Rea.n (gD x0 (tN x5) Ty.rea.dflt)) (Rea.time (gD x0 (tN x5) Ty.rea.dflt)) (Rea.text (gD x0 (tN x5) Ty.rea.dflt)) (Val.re (Rea.result (gD x0 (tN x5) Ty.rea.dflt)))))))))))) (tN x5) Ty.rea.dflt))), (0 : Int) ≤ x5 ∧ x5 < (Ln ((fun (z101 : List Rea) => List.set z101 (tN x5) (Rea.mk (Rea.kind (gD z101 (tN x5) Ty.rea.dflt)) (Rea.n (gD z101 (tN x5) Ty.rea.dflt)) (Rea.time (gD z101 (tN x5) Ty.rea.dflt)) (Rea.text (gD z101 (tN x5) Ty.rea.dflt)) (Val.mk (Val.kind (Rea.result (gD z101 (tN x5) Ty.rea.dflt))) (Val.n (Rea.result (gD z101 (tN x5) Ty.rea.dflt))) (Val.step (Rea.result (gD z101 (tN x5) Ty.rea.dflt))) (Val.text (Rea.result (gD z101 (tN x5) Ty.rea.dflt))) r3.2 (Val.columns (Rea.result (gD z101 (tN x5) Ty.rea.dflt))) (Val.rows (Rea.result (gD z101 (tN x5) Ty.rea.dflt)))))) ((fun (z100 : List Rea) => List.set z100 (tN x5) (Rea.mk (Rea.kind (gD z100 (tN x5) Ty.rea.dflt)) (Rea.n (gD z100 (tN x5) Ty.rea.dflt)) (Rea.time (gD z100 (tN x5) Ty.rea.dflt)) (Rea.text (gD z100 (tN x5) Ty.rea.dflt)) (Val.mk (Val.kind (Rea.result (gD z100 (tN x5) Ty.rea.dflt))) (Val.n (Rea.result (gD z100 (tN x5) Ty.rea.dflt))) (Val.step (Rea.result (gD z100 (tN x5) Ty.rea.dflt))) r2 (Val.list (Rea.result (gD z100 (tN x5) Ty.rea.dflt))) (Val.columns (Rea.result (gD z100 (tN x5) Ty.rea.dflt))) (Val.rows (Rea.result (gD z100 (tN x5) Ty.rea.dflt)))))) ((fun (z99 : List Rea) => List.set z99 (tN x5) (Rea.mk (Rea.kind (gD z99 (tN x5) Ty.rea.dflt)) (Rea.n (gD z99 (tN x5) Ty.rea.dflt)) (Rea.time (gD z99 (tN x5) Ty.rea.dflt)) (Rea.text (gD z99 (tN x5) Ty.rea.dflt)) (Val.mk (Val.kind (Rea.result (gD z99 (tN x5) Ty.rea.dflt))) (Val.n (Rea.result (gD z99 (tN x5) Ty.rea.dflt))) (W ((W ((W ((W ((W ((W (x1 + 1)) + 1)) + 1)) + 1)) + 1)) + 1)) (Val.text (Rea.result (gD z99 (tN x5) Ty.rea.dflt))) (Val.list (Rea.result (gD z99 (tN x5) Ty.rea.dflt))) (Val.columns (Rea.result (gD z99 (tN x5) Ty.rea.dflt))) (Val.rows (Rea.result (gD z99 (tN x5) Ty.rea.dflt)))))) ((fun (z98 : List Rea) => List.set z98 (tN x5) (Rea.mk (Rea.kind (gD z98 (tN x5) Ty.rea.dflt)) (Rea.n (gD z98 (tN x5) Ty.rea.dflt)) (Rea.time (gD z98 (tN x5) Ty.rea.dflt)) (Rea.text (gD z98 (tN x5) Ty.rea.dflt)) (Val.mk (Val.kind (Rea.result (gD z98 (tN x5) Ty.rea.dflt))) (W ((W ((W ((W ((W (x1 + 1)) + 1)) + 1)) + 1)) + 1)) (Val.step (Rea.result (gD z98 (tN x5) Ty.rea.dflt))) (Val.text (Rea.result (gD z98 (tN x5) Ty.rea.dflt))) (Val.list (Rea.result (gD z98 (tN x5) Ty.rea.dflt))) (Val.columns (Rea.result (gD z98 (tN x5) Ty.rea.dflt))) (Val.rows (Rea.result (gD z98 (tN x5) Ty.rea.dflt)))))) ((fun (z97 : List Rea) => List.set z97 (tN x5) (Rea.mk (Rea.kind (gD z97 (tN x5) Ty.rea.dflt)) (Rea.n (gD z97 (tN x5) Ty.rea.dflt)) (Rea.time (gD z97 (tN x5) Ty.rea.dflt)) (Rea.text (gD z97 (tN x5) Ty.rea.dflt)) (Val.mk (W ((W ((W ((W (x1 + 1)) + 1)) + 1)) + 1)) (Val.n (Rea.result (gD z97 (tN x5) Ty.rea.dflt))) (Val.step (Rea.result (gD z97 (tN x5) Ty.rea.dflt))) (Val.text (Rea.result (gD z97 (tN x5) Ty.rea.dflt))) (Val.list (Rea.result (gD z97 (tN x5) Ty.rea.dflt))) (Val.columns (Rea.result (gD z97 (tN x5) Ty.rea.dflt))) (Val.rows (Rea.result (gD z97 (tN x5) Ty.rea.dflt)))))) ((fun (z96 : List Rea) => List.set z96 (tN x5) (Rea.mk (Rea.kind (gD z96 (tN x5) Ty.rea.dflt)) (Rea.n (gD z96 (tN x5) Ty.rea.dflt)) (Rea.time (gD z96 (tN x5) Ty.rea.dflt)) r1 (Val.re (Rea.result (gD z96 (tN x5) Ty.rea.dflt))))) ((fun (z95 : List Rea) => List.set z95 (tN x5) (Rea.mk (Rea.kind (gD z95 (tN x5) Ty.rea.dflt)) (Rea.n (gD z95 (tN x5) Ty.rea.dflt)) (W ((W (x1 + 1)) + 1)) (Rea.text (gD z95 (tN x5) Ty.rea.dflt)) (Val.re (Rea.result (gD z95 (tN x5) Ty.rea.dflt))))) ((fun (z94 : List Rea) => List.set z94 (tN x5) (Rea.mk (Rea.kind (gD z94 (tN x5) Ty.rea.dflt)) (W (x1 + 1)) (Rea.time (gD z94 (tN x5) Ty.rea.dflt)) (Rea.text (gD z94 (tN x5) Ty.rea.dflt)) (Val.re (Rea.result (gD z94 (tN x5) Ty.rea.dflt))))) (List.set x0 (tN x5) (Rea.mk x1 (Rea.n (gD x0 (tN x5) Ty.rea.dflt)) (Rea.time (gD x0 (tN x5) Ty.rea.dflt)) (Rea.text (gD x0 (tN x5) Ty.rea.dflt)) (Val.re (Rea.result (gD x0 (tN x5) Ty.rea.dflt)))))))))))))), AbC 76 (xBF (Val.columns (Rea.result (gD ((fun (z101 : List Rea) => List.set z101 (tN x5) (Rea.mk (Rea.kind (gD z101 (tN x5) Ty.rea.dflt)) (Rea.n (gD z101 (tN x5) Ty.rea.dflt)) (Rea.time (gD z101 (tN x5) Ty.rea.dflt)) (Rea.text (gD z101 (tN x5) Ty.rea.dflt)) (Val.mk (Val.kind (Rea.result (gD z101 (tN x5) Ty.rea.dflt))) (Val.n (Rea.result (gD z101 (tN x5) Ty.rea.dflt))) (Val.step (Rea.result (gD z101 (tN x5) Ty.rea.dflt))) (Val.text (Rea.result (gD z101 (tN x5) Ty.rea.dflt))) r3.2 (Val.columns (Rea.result (gD z101 (tN x5) Ty.rea.dflt))) (Val.rows (Rea.result (gD z101 (tN x5) Ty.rea.dflt)))))) ((fun (z100 : List Rea) => List.set z100 (tN x5) (Rea.mk (Rea.kind (gD z100 (tN x5) Ty.rea.dflt)) (Rea.n (gD z100 (tN x5) Ty.rea.dflt)) (Rea.time (gD z100 (tN x5) Ty.rea.dflt)) (Rea.text (gD z100 (tN x5) Ty.rea.dflt)) (Val.mk (Val.kind (Rea.result (gD z100 (tN x5) Ty.rea.dflt))) (Val.n (Rea.result (gD z100 (tN x5) Ty.rea.dflt))) (Val.step (Rea.result (gD z100 (tN x5) Ty.rea.dflt))) r2 (Val.list (Rea.result (gD z100 (tN x5) Ty.rea.dflt))) (Val.columns (Rea.result (gD z100 (tN x5) Ty.rea.dflt))) (Val.rows (Rea.result (gD z100 (tN x5) Ty.rea.dflt)))))) ((fun (z99 : List Rea) => List.set z99 (tN x5) (Rea.mk (Rea.kind (gD z99 (tN x5) Ty.rea.dflt)) (Rea.n (gD z99 (tN x5) Ty.rea.dflt)) (Rea.time (gD z99 (tN x5) Ty.rea.dflt)) (Rea.text (gD z99 (tN x5) Ty.rea.dflt)) (Val.mk (Val.kind (Rea.result (gD z99 (tN x5) Ty.rea.dflt))) (Val.n (Rea.result (gD z99 (tN x5) Ty.rea.dflt))) (W ((W ((W ((W ((W ((W (x1 + 1)) + 1)) + 1)) + 1)) + 1)) + 1)) (Val.text (Rea.result (gD z99 (tN x5) Ty.rea.dflt))) (Val.list (Rea.result (gD z99 (tN x5) Ty.rea.dflt))) (Val.columns (Rea.result (gD z99 (tN x5) Ty.rea.dflt))) (Val.rows (Rea.result (gD z99 (tN x5) Ty.rea.dflt)))))) ((fun (z98 : List Rea) => List.set z98 (tN x5) (Rea.mk (Rea.kind (gD z98 (tN x5) Ty.rea.dflt)) (Rea.n (gD z98 (tN x5) Ty.rea.dflt)) (Rea.time (gD z98 (tN x5) Ty.rea.dflt)) (Rea.text (gD z98 (tN x5) Ty.rea.dflt)) (Val.mk (Val.kind (Rea.result (gD z98 (tN x5) Ty.rea.dflt))) (W ((W ((W ((W ((W (x1 + 1)) + 1)) + 1)) + 1)) + 1)) (Val.step (Rea.result (gD z98 (tN x5) Ty.rea.dflt))) (Val.text (Rea.result (gD z98 (tN x5) Ty.rea.dflt))) (Val.list (Rea.result (gD z98 (tN x5) Ty.rea.dflt))) (Val.columns (Rea.result (gD z98 (tN x5) Ty.rea.dflt))) (Val.rows (Rea.result (gD z98 (tN x5) Ty.rea.dflt)))))) ((fun (z97 : List Rea) => List.set z97 (tN x5) (Rea.mk (Rea.kind (gD z97 (tN x5) Ty.rea.dflt)) (Rea.n (gD z97 (tN x5) Ty.rea.dflt)) (Rea.time (gD z97 (tN x5) Ty.rea.dflt)) (Rea.text (gD z97 (tN x5) Ty.rea.dflt)) (Val.mk (W ((W ((W ((W (x1 + 1)) + 1)) + 1)) + 1)) (Val.n (Rea.result (gD z97 (tN x5) Ty.rea.dflt))) (Val.step (Rea.result (gD z97 (tN x5) Ty.rea.dflt))) (Val.text (Rea.result (gD z97 (tN x5) Ty.rea.dflt))) (Val.list (Rea.result (gD z97 (tN x5) Ty.rea.dflt))) (Val.columns (Rea.result (gD z97 (tN x5) Ty.rea.dflt))) (Val.rows (Rea.result (gD z97 (tN x5) Ty.rea.dflt)))))) ((fun (z96 : List Rea) => List.set z96 (tN x5) (Rea.mk (Rea.kind (gD z96 (tN x5) Ty.rea.dflt)) (Rea.n (gD z96 (tN x5) Ty.rea.dflt)) (Rea.time (gD z96 (tN x5) Ty.rea.dflt)) r1 (Val.re (Rea.result (gD z96 (tN x5) Ty.rea.dflt))))) ((fun (z95 : List Rea) => List.set z95 (tN x5) (Rea.mk (Rea.kind (gD z95 (tN x5) Ty.rea.dflt)) (Rea.n (gD z95 (tN x5) Ty.rea.dflt)) (W ((W (x1 + 1)) + 1)) (Rea.text (gD z95 (tN x5) Ty.rea.dflt)) (Val.re (Rea.result (gD z95 (tN x5) Ty.rea.dflt))))) ((fun (z94 : List Rea) => List.set z94 (tN x5) (Rea.mk (Rea.kind (gD z94 (tN x5) Ty.rea.dflt)) (W (x1 + 1)) (Rea.time (gD z94 (tN x5) Ty.rea.dflt)) (Rea.text (gD z94 (tN x5) Ty.rea.dflt)) (Val.re (Rea.result (gD z94 (tN x5) Ty.rea.dflt))))) (List.set x0 (tN x5) (Rea.mk x1 (Rea.n (gD x0 (tN x5) Ty.rea.dflt)) (Rea.time (gD x0 (tN x5) Ty.rea.dflt)) (Rea.text (gD x0 (tN x5) Ty.rea.dflt)) (Val.re (Rea.result (gD x0 (tN x5) Ty.rea.dflt))))))))))))) (tN x5) Ty.rea.dflt))) r3.1) (xAX r4), (tN x5) = (tN x5), Ln r4.2 = Ln (Val.columns (Rea.result (gD ((fun (z101 : List Rea) => List.set z101 (tN x5) (Rea.mk (Rea.kind (gD z101 (tN x5) Ty.rea.dflt)) (Rea.n (gD z101 (tN x5) Ty.rea.dflt)) (Rea.time (gD z101 (tN x5) Ty.rea.dflt)) (Rea.text (gD z101 (tN x5) Ty.rea.dflt)) (Val.mk (Val.kind (Rea.result (gD z101 (tN x5) Ty.rea.dflt))) (Val.n (Rea.result (gD z101 (tN x5) Ty.rea.dflt))) (Val.step (Rea.result (gD z101 (tN x5) Ty.rea.dflt))) (Val.text (Rea.result (gD z101 (tN x5) Ty.rea.dflt))) r3.2 (Val.columns (Rea.result (gD z101 (tN x5) Ty.rea.dflt))) (Val.rows (Rea.result (gD z101 (tN x5) Ty.rea.dflt)))))) ((fun (z100 : List Rea) => List.set z100 (tN x5) (Rea.mk (Rea.kind (gD z100 (tN x5) Ty.rea.dflt)) (Rea.n (gD z100 (tN x5) Ty.rea.dflt)) (Rea.time (gD z100 (tN x5) Ty.rea.dflt)) (Rea.text (gD z100 (tN x5) Ty.rea.dflt)) (Val.mk (Val.kind (Rea.result (gD z100 (tN x5) Ty.rea.dflt))) (Val.n (Rea.result (gD z100 (tN x5) Ty.rea.dflt))) (Val.step (Rea.result (gD z100 (tN x5) Ty.rea.dflt))) r2 (Val.list (Rea.result (gD z100 (tN x5) Ty.rea.dflt))) (Val.columns (Rea.result (gD z100 (tN x5) Ty.rea.dflt))) (Val.rows (Rea.result (gD z100 (tN x5) Ty.rea.dflt)))))) ((fun (z99 : List Rea) => List.set z99 (tN x5) (Rea.mk (Rea.kind (gD z99 (tN x5) Ty.rea.dflt)) (Rea.n (gD z99 (tN x5) Ty.rea.dflt)) (Rea.time (gD z99 (tN x5) Ty.rea.dflt)) (Rea.text (gD z99 (tN x5) Ty.rea.dflt)) (Val.mk (Val.kind (Rea.result (gD z99 (tN x5) Ty.rea.dflt))) (Val.n (Rea.result (gD z99 (tN x5) Ty.rea.dflt))) (W ((W ((W ((W ((W ((W (x1 + 1)) + 1)) + 1)) + 1)) + 1)) + 1)) (Val.text (Rea.result (gD z99 (tN x5) Ty.rea.dflt))) (Val.list (Rea.result (gD z99 (tN x5) Ty.rea.dflt))) (Val.columns (Rea.result (gD z99 (tN x5) Ty.rea.dflt))) (Val.rows (Rea.result (gD z99 (tN x5) Ty.rea.dflt)))))) ((fun (z98 : List Rea) => List.set z98 (tN x5) (Rea.mk (Rea.kind (gD z98 (tN x5) Ty.rea.dflt)) (Rea.n (gD z98 (tN x5) Ty.rea.dflt)) (Rea.time (gD z98 (tN x5) Ty.rea.dflt)) (Rea.text (gD z98 (tN x5) Ty.rea.dflt)) (Val.mk (Val.kind (Rea.result (gD z98 (tN x5) Ty.rea.dflt))) (W ((W ((W ((W ((W (x1 + 1)) + 1)) + 1)) + 1)) + 1)) (Val.step (Rea.result (gD z98 (tN x5) Ty.rea.dflt))) (Val.text (Rea.result (gD z98 (tN x5) Ty.rea.dflt))) (Val.list (Rea.result (gD z98 (tN x5) Ty.rea.dflt))) (Val.columns (Rea.result (gD z98 (tN x5) Ty.rea.dflt))) (Val.rows (Rea.result (gD z98 (tN x5) Ty.rea.dflt)))))) ((fun (z97 : List Rea) => List.set z97 (tN x5) (Rea.mk (Rea.kind (gD z97 (tN x5) Ty.rea.dflt)) (Rea.n (gD z97 (tN x5) Ty.rea.dflt)) (Rea.time (gD z97 (tN x5) Ty.rea.dflt)) (Rea.text (gD z97 (tN x5) Ty.rea.dflt)) (Val.mk (W ((W ((W ((W (x1 + 1)) + 1)) + 1)) + 1)) (Val.n (Rea.result (gD z97 (tN x5) Ty.rea.dflt))) (Val.step (Rea.result (gD z97 (tN x5) Ty.rea.dflt))) (Val.text (Rea.result (gD z97 (tN x5) Ty.rea.dflt))) (Val.list (Rea.result (gD z97 (tN x5) Ty.rea.dflt))) (Val.columns (Rea.result (gD z97 (tN x5) Ty.rea.dflt))) (Val.rows (Rea.result (gD z97 (tN x5) Ty.rea.dflt)))))) ((fun (z96 : List Rea) => List.set z96 (tN x5) (Rea.mk (Rea.kind (gD z96 (tN x5) Ty.rea.dflt)) (Rea.n (gD z96 (tN x5) Ty.rea.dflt)) (Rea.time (gD z96 (tN x5) Ty.rea.dflt)) r1 (Val.re (Rea.result (gD z96 (tN x5) Ty.rea.dflt))))) ((fun (z95 : List Rea) => List.set z95 (tN x5) (Rea.mk (Rea.kind (gD z95 (tN x5) Ty.rea.dflt)) (Rea.n (gD z95 (tN x5) Ty.rea.dflt)) (W ((W (x1 + 1)) + 1)) (Rea.text (gD z95 (tN x5) Ty.rea.dflt)) (Val.re (Rea.result (gD z95 (tN x5) Ty.rea.dflt))))) ((fun (z94 : List Rea) => List.set z94 (tN x5) (Rea.mk (Rea.kind (gD z94 (tN x5) Ty.rea.dflt)) (W (x1 + 1)) (Rea.time (gD z94 (tN x5) Ty.rea.dflt)) (Rea.text (gD z94 (tN x5) Ty.rea.dflt)) (Val.re (Rea.result (gD z94 (tN x5) Ty.rea.dflt))))) (List.set x0 (tN x5) (Rea.mk x1 (Rea.n (gD x0 (tN x5) Ty.rea.dflt)) (Rea.time (gD x0 (tN x5) Ty.rea.dflt)) (Rea.text (gD x0 (tN x5) Ty.rea.dflt)) (Val.re (Rea.result (gD x0 (tN x5) Ty.rea.dflt))))))))))))) (tN x5) Ty.rea.dflt))), (0 : Int) ≤ x5 ∧ x5 < (Ln ((fun (z102 : List Rea) => List.set z102 (tN x5) (Rea.mk (Rea.kind (gD z102 (tN x5) Ty.rea.dflt)) (Rea.n (gD z102 (tN x5) Ty.rea.dflt)) (Rea.time (gD z102 (tN x5) Ty.rea.dflt)) (Rea.text (gD z102 (tN x5) Ty.rea.dflt)) (Val.mk (Val.kind (Rea.result (gD z102 (tN x5) Ty.rea.dflt))) (Val.n (Rea.result (gD z102 (tN x5) Ty.rea.dflt))) (Val.step (Rea.result (gD z102 (tN x5) Ty.rea.dflt))) (Val.text (Rea.result (gD z102 (tN x5) Ty.rea.dflt))) (Val.list (Rea.result (gD z102 (tN x5) Ty.rea.dflt))) r4.2 (Val.rows (Rea.result (gD z102 (tN x5) Ty.rea.dflt)))))) ((fun (z101 : List Rea) => List.set z101 (tN x5) (Rea.mk (Rea.kind (gD z101 (tN x5) Ty.rea.dflt)) (Rea.n (gD z101 (tN x5) Ty.rea.dflt)) (Rea.time (gD z101 (tN x5) Ty.rea.dflt)) (Rea.text (gD z101 (tN x5) Ty.rea.dflt)) (Val.mk (Val.kind (Rea.result (gD z101 (tN x5) Ty.rea.dflt))) (Val.n (Rea.result (gD z101 (tN x5) Ty.rea.dflt))) (Val.step (Rea.result (gD z101 (tN x5) Ty.rea.dflt))) (Val.text (Rea.result (gD z101 (tN x5) Ty.rea.dflt))) r3.2 (Val.columns (Rea.result (gD z101 (tN x5) Ty.rea.dflt))) (Val.rows (Rea.result (gD z101 (tN x5) Ty.rea.dflt)))))) ((fun (z100 : List Rea) => List.set z100 (tN x5) (Rea.mk (Rea.kind (gD z100 (tN x5) Ty.rea.dflt)) (Rea.n (gD z100 (tN x5) Ty.rea.dflt)) (Rea.time (gD z100 (tN x5) Ty.rea.dflt)) (Rea.text (gD z100 (tN x5) Ty.rea.dflt)) (Val.mk (Val.kind (Rea.result (gD z100 (tN x5) Ty.rea.dflt))) (Val.n (Rea.result (gD z100 (tN x5) Ty.rea.dflt))) (Val.step (Rea.result (gD z100 (tN x5) Ty.rea.dflt))) r2 (Val.list (Rea.result (gD z100 (tN x5) Ty.rea.dflt))) (Val.columns (Rea.result (gD z100 (tN x5) Ty.rea.dflt))) (Val.rows (Rea.result (gD z100 (tN x5) Ty.rea.dflt)))))) ((fun (z99 : List Rea) => List.set z99 (tN x5) (Rea.mk (Rea.kind (gD z99 (tN x5) Ty.rea.dflt)) (Rea.n (gD z99 (tN x5) Ty.rea.dflt)) (Rea.time (gD z99 (tN x5) Ty.rea.dflt)) (Rea.text (gD z99 (tN x5) Ty.rea.dflt)) (Val.mk (Val.kind (Rea.result (gD z99 (tN x5) Ty.rea.dflt))) (Val.n (Rea.result (gD z99 (tN x5) Ty.rea.dflt))) (W ((W ((W ((W ((W ((W (x1 + 1)) + 1)) + 1)) + 1)) + 1)) + 1)) (Val.text (Rea.result (gD z99 (tN x5) Ty.rea.dflt))) (Val.list (Rea.result (gD z99 (tN x5) Ty.rea.dflt))) (Val.columns (Rea.result (gD z99 (tN x5) Ty.rea.dflt))) (Val.rows (Rea.result (gD z99 (tN x5) Ty.rea.dflt)))))) ((fun (z98 : List Rea) => List.set z98 (tN x5) (Rea.mk (Rea.kind (gD z98 (tN x5) Ty.rea.dflt)) (Rea.n (gD z98 (tN x5) Ty.rea.dflt)) (Rea.time (gD z98 (tN x5) Ty.rea.dflt)) (Rea.text (gD z98 (tN x5) Ty.rea.dflt)) (Val.mk (Val.kind (Rea.result (gD z98 (tN x5) Ty.rea.dflt))) (W ((W ((W ((W ((W (x1 + 1)) + 1)) + 1)) + 1)) + 1)) (Val.step (Rea.result (gD z98 (tN x5) Ty.rea.dflt))) (Val.text (Rea.result (gD z98 (tN x5) Ty.rea.dflt))) (Val.list (Rea.result (gD z98 (tN x5) Ty.rea.dflt))) (Val.columns (Rea.result (gD z98 (tN x5) Ty.rea.dflt))) (Val.rows (Rea.result (gD z98 (tN x5) Ty.rea.dflt)))))) ((fun (z97 : List Rea) => List.set z97 (tN x5) (Rea.mk (Rea.kind (gD z97 (tN x5) Ty.rea.dflt)) (Rea.n (gD z97 (tN x5) Ty.rea.dflt)) (Rea.time (gD z97 (tN x5) Ty.rea.dflt)) (Rea.text (gD z97 (tN x5) Ty.rea.dflt)) (Val.mk (W ((W ((W ((W (x1 + 1)) + 1)) + 1)) + 1)) (Val.n (Rea.result (gD z97 (tN x5) Ty.rea.dflt))) (Val.step (Rea.result (gD z97 (tN x5) Ty.rea.dflt))) (Val.text (Rea.result (gD z97 (tN x5) Ty.rea.dflt))) (Val.list (Rea.result (gD z97 (tN x5) Ty.rea.dflt))) (Val.columns (Rea.result (gD z97 (tN x5) Ty.rea.dflt))) (Val.rows (Rea.result (gD z97 (tN x5) Ty.rea.dflt)))))) ((fun (z96 : List Rea) => List.set z96 (tN x5) (Rea.mk (Rea.kind (gD z96 (tN x5) Ty.rea.dflt)) (Rea.n (gD z96 (tN x5) Ty.rea.dflt)) (Rea.time (gD z96 (tN x5) Ty.rea.dflt)) r1 (Val.re (Rea.result (gD z96 (tN x5) Ty.rea.dflt))))) ((fun (z95 : List Rea) => List.set z95 (tN x5) (Rea.mk (Rea.kind (gD z95 (tN x5) Ty.rea.dflt)) (Rea.n (gD z95 (tN x5) Ty.rea.dflt)) (W ((W (x1 + 1)) + 1)) (Rea.text (gD z95 (tN x5) Ty.rea.dflt)) (Val.re (Rea.result (gD z95 (tN x5) Ty.rea.dflt))))) ((fun (z94 : List Rea) => List.set z94 (tN x5) (Rea.mk (Rea.kind (gD z94 (tN x5) Ty.rea.dflt)) (W (x1 + 1)) (Rea.time (gD z94 (tN x5) Ty.rea.dflt)) (Rea.text (gD z94 (tN x5) Ty.rea.dflt)) (Val.re (Rea.result (gD z94 (tN x5) Ty.rea.dflt))))) (List.set x0 (tN x5) (Rea.mk x1 (Rea.n (gD x0 (tN x5) Ty.rea.dflt)) (Rea.time (gD x0 (tN x5) Ty.rea.dflt)) (Rea.text (gD x0 (tN x5) Ty.rea.dflt)) (Val.re (Rea.result (gD x0 (tN x5) Ty.rea.dflt))))))))))))))), AbC 77 (xCe (Val.rows (Rea.result (gD ((fun (z102 : List Rea) => List.set z102 (tN x5) (Rea.mk (Rea.kind (gD z102 (tN x5) Ty.rea.dflt)) (Rea.n (gD z102 (tN x5) Ty.rea.dflt)) (Rea.time (gD z102 (tN x5) Ty.rea.dflt)) (Rea.text (gD z102 (tN x5) Ty.rea.dflt)) (Val.mk (Val.kind (Rea.result (gD z102 (tN x5) Ty.rea.dflt))) (Val.n (Rea.result (gD z102 (tN x5) Ty.rea.dflt))) (Val.step (Rea.result (gD z102 (tN x5) Ty.rea.dflt))) (Val.text (Rea.result (gD z102 (tN x5) Ty.rea.dflt))) (Val.list (Rea.result (gD z102 (tN x5) Ty.rea.dflt))) r4.2 (Val.rows (Rea.result (gD z102 (tN x5) Ty.rea.dflt)))))) ((fun (z101 : List Rea) => List.set z101 (tN x5) (Rea.mk (Rea.kind (gD z101 (tN x5) Ty.rea.dflt)) (Rea.n (gD z101 (tN x5) Ty.rea.dflt)) (Rea.time (gD z101 (tN x5) Ty.rea.dflt)) (Rea.text (gD z101 (tN x5) Ty.rea.dflt)) (Val.mk (Val.kind (Rea.result (gD z101 (tN x5) Ty.rea.dflt))) (Val.n (Rea.result (gD z101 (tN x5) Ty.rea.dflt))) (Val.step (Rea.result (gD z101 (tN x5) Ty.rea.dflt))) (Val.text (Rea.result (gD z101 (tN x5) Ty.rea.dflt))) r3.2 (Val.columns (Rea.result (gD z101 (tN x5) Ty.rea.dflt))) (Val.rows (Rea.result (gD z101 (tN x5) Ty.rea.dflt)))))) ((fun (z100 : List Rea) => List.set z100 (tN x5) (Rea.mk (Rea.kind (gD z100 (tN x5) Ty.rea.dflt)) (Rea.n (gD z100 (tN x5) Ty.rea.dflt)) (Rea.time (gD z100 (tN x5) Ty.rea.dflt)) (Rea.text (gD z100 (tN x5) Ty.rea.dflt)) (Val.mk (Val.kind (Rea.result (gD z100 (tN x5) Ty.rea.dflt))) (Val.n (Rea.result (gD z100 (tN x5) Ty.rea.dflt))) (Val.step (Rea.result (gD z100 (tN x5) Ty.rea.dflt))) r2 (Val.list (Rea.result (gD z100 (tN x5) Ty.rea.dflt))) (Val.columns (Rea.result (gD z100 (tN x5) Ty.rea.dflt))) (Val.rows (Rea.result (gD z100 (tN x5) Ty.rea.dflt)))))) ((fun (z99 : List Rea) => List.set z99 (tN x5) (Rea.mk (Rea.kind (gD z99 (tN x5) Ty.rea.dflt)) (Rea.n (gD z99 (tN x5) Ty.rea.dflt)) (Rea.time (gD z99 (tN x5) Ty.rea.dflt)) (Rea.text (gD z99 (tN x5) Ty.rea.dflt)) (Val.mk (Val.kind (Rea.result (gD z99 (tN x5) Ty.rea.dflt))) (Val.n (Rea.result (gD z99 (tN x5) Ty.rea.dflt))) (W ((W ((W ((W ((W ((W (x1 + 1)) + 1)) + 1)) + 1)) + 1)) + 1)) (Val.text (Rea.result (gD z99 (tN x5) Ty.rea.dflt))) (Val.list (Rea.result (gD z99 (tN x5) Ty.rea.dflt))) (Val.columns (Rea.result (gD z99 (tN x5) Ty.rea.dflt))) (Val.rows (Rea.result (gD z99 (tN x5) Ty.rea.dflt)))))) ((fun (z98 : List Rea) => List.set z98 (tN x5) (Rea.mk (Rea.kind (gD z98 (tN x5) Ty.rea.dflt)) (Rea.n (gD z98 (tN x5) Ty.rea.dflt)) (Rea.time (gD z98 (tN x5) Ty.rea.dflt)) (Rea.text (gD z98 (tN x5) Ty.rea.dflt)) (Val.mk (Val.kind (Rea.result (gD z98 (tN x5) Ty.rea.dflt))) (W ((W ((W ((W ((W (x1 + 1)) + 1)) + 1)) + 1)) + 1)) (Val.step (Rea.result (gD z98 (tN x5) Ty.rea.dflt))) (Val.text (Rea.result (gD z98 (tN x5) Ty.rea.dflt))) (Val.list (Rea.result (gD z98 (tN x5) Ty.rea.dflt))) (Val.columns (Rea.result (gD z98 (tN x5) Ty.rea.dflt))) (Val.rows (Rea.result (gD z98 (tN x5) Ty.rea.dflt)))))) ((fun (z97 : List Rea) => List.set z97 (tN x5) (Rea.mk (Rea.kind (gD z97 (tN x5) Ty.rea.dflt)) (Rea.n (gD z97 (tN x5) Ty.rea.dflt)) (Rea.time (gD z97 (tN x5) Ty.rea.dflt)) (Rea.text (gD z97 (tN x5) Ty.rea.dflt)) (Val.mk (W ((W ((W ((W (x1 + 1)) + 1)) + 1)) + 1)) (Val.n (Rea.result (gD z97 (tN x5) Ty.rea.dflt))) (Val.step (Rea.result (gD z97 (tN x5) Ty.rea.dflt))) (Val.text (Rea.result (gD z97 (tN x5) Ty.rea.dflt))) (Val.list (Rea.result (gD z97 (tN x5) Ty.rea.dflt))) (Val.columns (Rea.result (gD z97 (tN x5) Ty.rea.dflt))) (Val.rows (Rea.result (gD z97 (tN x5) Ty.rea.dflt)))))) ((fun (z96 : List Rea) => List.set z96 (tN x5) (Rea.mk (Rea.kind (gD z96 (tN x5) Ty.rea.dflt)) (Rea.n (gD z96 (tN x5) Ty.rea.dflt)) (Rea.time (gD z96 (tN x5) Ty.rea.dflt)) r1 (Val.re (Rea.result (gD z96 (tN x5) Ty.rea.dflt))))) ((fun (z95 : List Rea) => List.set z95 (tN x5) (Rea.mk (Rea.kind (gD z95 (tN x5) Ty.rea.dflt)) (Rea.n (gD z95 (tN x5) Ty.rea.dflt)) (W ((W (x1 + 1)) + 1)) (Rea.text (gD z95 (tN x5) Ty.rea.dflt)) (Val.re (Rea.result (gD z95 (tN x5) Ty.rea.dflt))))) ((fun (z94 : List Rea) => List.set z94 (tN x5) (Rea.mk (Rea.kind (gD z94 (tN x5) Ty.rea.dflt)) (W (x1 + 1)) (Rea.time (gD z94 (tN x5) Ty.rea.dflt)) (Rea.text (gD z94 (tN x5) Ty.rea.dflt)) (Val.re (Rea.result (gD z94 (tN x5) Ty.rea.dflt))))) (List.set x0 (tN x5) (Rea.mk x1 (Rea.n (gD x0 (tN x5) Ty.rea.dflt)) (Rea.time (gD x0 (tN x5) Ty.rea.dflt)) (Rea.text (gD x0 (tN x5) Ty.rea.dflt)) (Val.re (Rea.result (gD x0 (tN x5) Ty.rea.dflt)))))))))))))) (tN x5) Ty.rea.dflt))) r4.1) (xBd r5), (tN x5) = (tN x5), Ln r5.2 = Ln (Val.rows (Rea.result (gD ((fun (z102 : List Rea) => List.set z102 (tN x5) (Rea.mk (Rea.kind (gD z102 (tN x5) Ty.rea.dflt)) (Rea.n (gD z102 (tN x5) Ty.rea.dflt)) (Rea.time (gD z102 (tN x5) Ty.rea.dflt)) (Rea.text (gD z102 (tN x5) Ty.rea.dflt)) (Val.mk (Val.kind (Rea.result (gD z102 (tN x5) Ty.rea.dflt))) (Val.n (Rea.result (gD z102 (tN x5) Ty.rea.dflt))) (Val.step (Rea.result (gD z102 (tN x5) Ty.rea.dflt))) (Val.text (Rea.result (gD z102 (tN x5) Ty.rea.dflt))) (Val.list (Rea.result (gD z102 (tN x5) Ty.rea.dflt))) r4.2 (Val.rows (Rea.result (gD z102 (tN x5) Ty.rea.dflt)))))) ((fun (z101 : List Rea) => List.set z101 (tN x5) (Rea.mk (Rea.kind (gD z101 (tN x5) Ty.rea.dflt)) (Rea.n (gD z101 (tN x5) Ty.rea.dflt)) (Rea.time (gD z101 (tN x5) Ty.rea.dflt)) (Rea.text (gD z101 (tN x5) Ty.rea.dflt)) (Val.mk (Val.kind (Rea.result (gD z101 (tN x5) Ty.rea.dflt))) (Val.n (Rea.result (gD z101 (tN x5) Ty.rea.dflt))) (Val.step (Rea.result (gD z101 (tN x5) Ty.rea.dflt))) (Val.text (Rea.result (gD z101 (tN x5) Ty.rea.dflt))) r3.2 (Val.columns (Rea.result (gD z101 (tN x5) Ty.rea.dflt))) (Val.rows (Rea.result (gD z101 (tN x5) Ty.rea.dflt)))))) ((fun (z100 : List Rea) => List.set z100 (tN x5) (Rea.mk (Rea.kind (gD z100 (tN x5) Ty.rea.dflt)) (Rea.n (gD z100 (tN x5) Ty.rea.dflt)) (Rea.time (gD z100 (tN x5) Ty.rea.dflt)) (Rea.text (gD z100 (tN x5) Ty.rea.dflt)) (Val.mk (Val.kind (Rea.result (gD z100 (tN x5) Ty.rea.dflt))) (Val.n (Rea.result (gD z100 (tN x5) Ty.rea.dflt))) (Val.step (Rea.result (gD z100 (tN x5) Ty.rea.dflt))) r2 (Val.list (Rea.result (gD z100 (tN x5) Ty.rea.dflt))) (Val.columns (Rea.result (gD z100 (tN x5) Ty.rea.dflt))) (Val.rows (Rea.result (gD z100 (tN x5) Ty.rea.dflt)))))) ((fun (z99 : List Rea) => List.set z99 (tN x5) (Rea.mk (Rea.kind (gD z99 (tN x5) Ty.rea.dflt)) (Rea.n (gD z99 (tN x5) Ty.rea.dflt)) (Rea.time (gD z99 (tN x5) Ty.rea.dflt)) (Rea.text (gD z99 (tN x5) Ty.rea.dflt)) (Val.mk (Val.kind (Rea.result (gD z99 (tN x5) Ty.rea.dflt))) (Val.n (Rea.result (gD z99 (tN x5) Ty.rea.dflt))) (W ((W ((W ((W ((W ((W (x1 + 1)) + 1)) + 1)) + 1)) + 1)) + 1)) (Val.text (Rea.result (gD z99 (tN x5) Ty.rea.dflt))) (Val.list (Rea.result (gD z99 (tN x5) Ty.rea.dflt))) (Val.columns (Rea.result (gD z99 (tN x5) Ty.rea.dflt))) (Val.rows (Rea.result (gD z99 (tN x5) Ty.rea.dflt)))))) ((fun (z98 : List Rea) => List.set z98 (tN x5) (Rea.mk (Rea.kind (gD z98 (tN x5) Ty.rea.dflt)) (Rea.n (gD z98 (tN x5) Ty.rea.dflt)) (Rea.time (gD z98 (tN x5) Ty.rea.dflt)) (Rea.text (gD z98 (tN x5) Ty.rea.dflt)) (Val.mk (Val.kind (Rea.result (gD z98 (tN x5) Ty.rea.dflt))) (W ((W ((W ((W ((W (x1 + 1)) + 1)) + 1)) + 1)) + 1)) (Val.step (Rea.result (gD z98 (tN x5) Ty.rea.dflt))) (Val.text (Rea.result (gD z98 (tN x5) Ty.rea.dflt))) (Val.list (Rea.result (gD z98 (tN x5) Ty.rea.dflt))) (Val.columns (Rea.result (gD z98 (tN x5) Ty.rea.dflt))) (Val.rows (Rea.result (gD z98 (tN x5) Ty.rea.dflt)))))) ((fun (z97 : List Rea) => List.set z97 (tN x5) (Rea.mk (Rea.kind (gD z97 (tN x5) Ty.rea.dflt)) (Rea.n (gD z97 (tN x5) Ty.rea.dflt)) (Rea.time (gD z97 (tN x5) Ty.rea.dflt)) (Rea.text (gD z97 (tN x5) Ty.rea.dflt)) (Val.mk (W ((W ((W ((W (x1 + 1)) + 1)) + 1)) + 1)) (Val.n (Rea.result (gD z97 (tN x5) Ty.rea.dflt))) (Val.step (Rea.result (gD z97 (tN x5) Ty.rea.dflt))) (Val.text (Rea.result (gD z97 (tN x5) Ty.rea.dflt))) (Val.list (Rea.result (gD z97 (tN x5) Ty.rea.dflt))) (Val.columns (Rea.result (gD z97 (tN x5) Ty.rea.dflt))) (Val.rows (Rea.result (gD z97 (tN x5) Ty.rea.dflt)))))) ((fun (z96 : List Rea) => List.set z96 (tN x5) (Rea.mk (Rea.kind (gD z96 (tN x5) Ty.rea.dflt)) (Rea.n (gD z96 (tN x5) Ty.rea.dflt)) (Rea.time (gD z96 (tN x5) Ty.rea.dflt)) r1 (Val.re (Rea.result (gD z96 (tN x5) Ty.rea.dflt))))) ((fun (z95 : List Rea) => List.set z95 (tN x5) (Rea.mk (Rea.kind (gD z95 (tN x5) Ty.rea.dflt)) (Rea.n (gD z95 (tN x5) Ty.rea.dflt)) (W ((W (x1 + 1)) + 1)) (Rea.text (gD z95 (tN x5) Ty.rea.dflt)) (Val.re (Rea.result (gD z95 (tN x5) Ty.rea.dflt))))) ((fun (z94 : List Rea) => List.set z94 (tN x5) (Rea.mk (Rea.kind (gD z94 (tN x5) Ty.rea.dflt)) (W (x1 + 1)) (Rea.time (gD z94 (tN x5) Ty.rea.dflt)) (Rea.text (gD z94 (tN x5) Ty.rea.dflt)) (Val.re (Rea.result (gD z94 (tN x5) Ty.rea.dflt))))) (List.set x0 (tN x5) (Rea.mk x1 (Rea.n (gD x0 (tN x5) Ty.rea.dflt)) (Rea.time (gD x0 (tN x5) Ty.rea.dflt)) (Rea.text (gD x0 (tN x5) Ty.rea.dflt)) (Val.re (Rea.result (gD x0 (tN x5) Ty.rea.dflt)))))))))))))) (tN x5) Ty.rea.dflt)))] := by kernel_rfl
theorem p27_2_1 (x0 : List Rea) (x1 x5 : Int) : rS 2 I27 (S27_2 x0 x1 x5) [F] [] = dn (xAu (x1, x0)) [(decide ((x5 : Int) < (Ln x0 : Int))) = false] := by kernel_rfl
theorem p27_e_2 (a0 : List Rea) (a1 : Int) : rE I27 (xAT a0 a1) [] [] = st 2 I27 (S27_2 a0 a1 0) [] := by kernel_rfl
theorem c27_2 {N : Nat} : ∀ n x0 x1 x5 r, xBY N n x0 x1 x5 = some r → RS Try.f27 I27 2 (S27_2 x0 x1 x5) (xAu r) := by
 intro n
 induction n with
 | zero => exact fun _ _ _ _ h => nE h
 | succ n ih =>
  exact fun x0 x1 x5 r h =>
   cE h (fun h0 h => iE h fun h1 h => iE h fun h2 h => iE h fun h3 h => bE h fun r1 h4 h => iE h fun h5 h => iE h fun h6 h => iE h fun h7 h => iE h fun h8 h => bE h fun r2 h9 h => iE h fun h10 h => iE h fun h11 h => bE h fun r3 h12 h => iE h fun h14 h => iE h fun h15 h => bE h fun r4 h16 h => iE h fun h18 h => iE h fun h19 h => bE h fun r5 h20 h => iE h fun h22 h => tS fk27 (p27_2_0 x0 x1 x5 r1 r2 r3 r4 r5) (oc h0 (oc h1 (oc h2 (oc h3 (oc (xA4 h4) (oc h5 (oc h6 (oc h7 (oc h8 (oc (xA4 h9) (oc h10 (oc h11 (oc (xDW h12) (oc rfl (oc h14 (oc h15 (oc (xC6 h16) (oc rfl (oc h18 (oc h19 (oc (xDB h20) (oc rfl (oc h22 on))))))))))))))))))))))) (ih _ _ _ _ h)) fun h0 h =>
   dS h fk27 (p27_2_1 x0 x1 x5) (oc h0 on)
theorem c27_e {N : Nat} : ∀ a0 a1 r, xDq N a0 a1 = some r → RE Try.f27 I27 (xAT a0 a1) (xAu r) := fun a0 a1 r h =>
 tE fk27 (p27_e_2 a0 a1) on (c27_2 _ _ _ _ _ h)
theorem xBe {N : Nat} {a0 : List Rea} {a1 : Int} {r : Int × (List Rea)} (h : xDq N  a0 a1 = some r) : AbC 27 (xAT a0 a1) (xAu r) :=
 AbsCalls.of_reach fk27 rfl rfl (Nat.le_of_ble_eq_true rfl) (c27_e a0 a1 r h)
noncomputable def I15 : Info := { body := (Try.f15.body).getD .skip, nt := 18, results := [.tmp 4], keep := [0, 2, 4, 8, 5], live := [], modes := [(1, [(1, .ref, false), (3, .ref, false)]), (2, [(1, .ref, false), (3, .ref, false)]), (3, [(1, .ref, false), (3, .ref, false)])], lnt := [(5, 4), (5, 5), (5, 6)] }
theorem fk15 : FnOk Try.prog 15 Try.f15 I15 := ⟨Try.func15, by kernel_rfl, by kernel_rfl, by kernel_rfl, by kernel_rfl⟩
theorem p15_e_0 (a0 : Val) (a1 : Int) (r1 : Int × (List Val)) (r2 : Int × (List Str)) (r3 : Int × (List Rowd)) : rE I15 (xAZ a0 a1) [] [xAO r1, xAX r2, xBd r3] = dn (xAz (r3.1, r1.2, r2.2, r3.2)) [AbC 75 (xBg (Val.list a0) a1) (xAO r1), Ln r1.2 = Ln (Val.list a0), AbC 76 (xBF (Val.columns a0) r1.1) (xAX r2), Ln r2.2 = Ln (Val.columns a0), AbC 77 (xCe (Val.rows a0) r2.1) (xBd r3), Ln r3.2 = Ln (Val.rows a0)] := by kernel_rfl
theorem c15_e {N : Nat} : ∀ a0 a1 r, xCn N a0 a1 = some r → RE Try.f15 I15 (xAZ a0 a1) (xAz r) := fun a0 a1 r h =>
 bE h fun r1 h0 h => iE h fun h1 h => bE h fun r2 h2 h => iE h fun h3 h => bE h fun r3 h4 h => iE h fun h5 h => dE h fk15 (p15_e_0 a0 a1 r1 r2 r3) (oc (xDW h0) (oc h1 (oc (xC6 h2) (oc h3 (oc (xDB h4) (oc h5 on))))))
theorem xBn {N : Nat} {a0 : Val} {a1 : Int} {r : Int × (List Val) × (List Str) × (List Rowd)} (h : xCn N  a0 a1 = some r) : AbC 15 (xAZ a0 a1) (xAz r) :=
 AbsCalls.of_reach fk15 rfl rfl (Nat.le_of_ble_eq_true rfl) (c15_e a0 a1 r h)
noncomputable def I28 : Info := { body := (Try.f28.body).getD .skip, nt := 10, results := [.tmp 4], keep := [0, 2, 4, 8, 5], live := [], modes := [(1, [(1, .ref, false), (3, .ref, false)])], lnt := [(5, 8), (5, 9), (5, 10)] }
theorem fk28 : FnOk Try.prog 28 Try.f28 I28 := ⟨Try.func28, by kernel_rfl, by kernel_rfl, by kernel_rfl, by kernel_rfl⟩
theorem p28_e_0 (a0 : Rea) (a1 : Int) (r1 : Int × (List Val) × (List Str) × (List Rowd)) : rE I28 (xAY a0 a1) [] [xAz r1] = dn (xAx (r1.1, r1.2.1, r1.2.2.1, r1.2.2.2)) [AbC 15 (xAZ (Rea.result a0) a1) (xAz r1), Ln r1.2.1 = Ln (Val.list (Rea.result a0)), Ln r1.2.2.1 = Ln (Val.columns (Rea.result a0)), Ln r1.2.2.2 = Ln (Val.rows (Rea.result a0))] := by kernel_rfl
theorem c28_e {N : Nat} : ∀ a0 a1 r, xDI N a0 a1 = some r → RE Try.f28 I28 (xAY a0 a1) (xAx r) := fun a0 a1 r h =>
 bE h fun r1 h0 h => iE h fun h1 h => iE h fun h2 h => iE h fun h3 h => dE h fk28 (p28_e_0 a0 a1 r1) (oc (xBn h0) (oc h1 (oc h2 (oc h3 on))))
theorem xBl {N : Nat} {a0 : Rea} {a1 : Int} {r : Int × (List Val) × (List Str) × (List Rowd)} (h : xDI N  a0 a1 = some r) : AbC 28 (xAY a0 a1) (xAx r) :=
 AbsCalls.of_reach fk28 rfl rfl (Nat.le_of_ble_eq_true rfl) (c28_e a0 a1 r h)
noncomputable def I79 : Info := { body := (Try.f79.body).getD .skip, nt := 22, results := [.tmp 4], keep := [0, 2, 8, 10, 18, 36], live := [(2, [0, 2, 10])], modes := [] }
theorem fk79 : FnOk Try.prog 79 Try.f79 I79 := ⟨Try.func79, by kernel_rfl, by kernel_rfl, by kernel_rfl, by kernel_rfl⟩
def S79_2 (x0 : List Str) (x1 x5 : Int) : St := [(0, .v false [.sl .ro .str x0]), (2, .v false [.int .i64 x1]), (10, .v false [.int .i64 x5])]
theorem p79_2_0 (x0 : List Str) (x1 x5 : Int) (r1 : Str) : rS 2 I79 (S79_2 x0 x1 x5) [Y, Y] [xAo r1] = dn (xAv (-1)) [(decide ((x5 : Int) < (Ln x0 : Int))) = true, (0 : Int) ≤ x5 ∧ x5 < (Ln x0), AbC 93 (xAL x1) (xAo r1), (!(((gD x0 (tN x5) Ty.str.dflt) : Str) == r1)) = true] := by kernel_rfl
theorem p79_2_1 (x0 : List Str) (x1 x5 : Int) (r1 : Str) : rS 2 I79 (S79_2 x0 x1 x5) [Y, F] [xAo r1] = st 2 I79 (S79_2 x0 (W (x1 + 1)) (W (x5 + 1))) [(decide ((x5 : Int) < (Ln x0 : Int))) = true, (0 : Int) ≤ x5 ∧ x5 < (Ln x0), AbC 93 (xAL x1) (xAo r1), (!(((gD x0 (tN x5) Ty.str.dflt) : Str) == r1)) = false] := by kernel_rfl
theorem p79_2_2 (x0 : List Str) (x1 x5 : Int) : rS 2 I79 (S79_2 x0 x1 x5) [F] [] = dn (xAv x1) [(decide ((x5 : Int) < (Ln x0 : Int))) = false] := by kernel_rfl
theorem p79_e_3 (a0 : List Str) (a1 : Int) : rE I79 (xA2 a0 a1) [] [] = st 2 I79 (S79_2 a0 a1 0) [] := by kernel_rfl
theorem c79_2 {N : Nat} : ∀ n x0 x1 x5 r, xBB N n x0 x1 x5 = some r → RS Try.f79 I79 2 (S79_2 x0 x1 x5) (xAv r) := by
 intro n
 induction n with
 | zero => exact fun _ _ _ _ h => nE h
 | succ n ih =>
  exact fun x0 x1 x5 r h =>
   cE h (fun h0 h => iE h fun h1 h => bE h fun r1 h2 h => cE h (fun h3 h => dS h fk79 (p79_2_0 x0 x1 x5 r1) (oc h0 (oc h1 (oc (xA4 h2) (oc h3 on))))) fun h3 h =>
   tS fk79 (p79_2_1 x0 x1 x5 r1) (oc h0 (oc h1 (oc (xA4 h2) (oc h3 on)))) (ih _ _ _ _ h)) fun h0 h =>
   dS h fk79 (p79_2_2 x0 x1 x5) (oc h0 on)
theorem c79_e {N : Nat} : ∀ a0 a1 r, xCA N a0 a1 = some r → RE Try.f79 I79 (xA2 a0 a1) (xAv r) := fun a0 a1 r h =>
 tE fk79 (p79_e_3 a0 a1) on (c79_2 _ _ _ _ _ h)
theorem xBC {N : Nat} {a0 : List Str} {a1 : Int} {r : Int} (h : xCA N  a0 a1 = some r) : AbC 79 (xA2 a0 a1) (xAv r) :=
 AbsCalls.of_reach fk79 rfl rfl (Nat.le_of_ble_eq_true rfl) (c79_e a0 a1 r h)
noncomputable def I134 : Info := { body := (Try.f134.body).getD .skip, nt := 21, results := [.tmp 4], keep := [0, 2, 8, 10, 18, 34], live := [(2, [0, 2, 10])], modes := [] }
theorem fk134 : FnOk Try.prog 134 Try.f134 I134 := ⟨Try.func134, by kernel_rfl, by kernel_rfl, by kernel_rfl, by kernel_rfl⟩
def S134_2 (x0 : List Int) (x1 x5 : Int) : St := [(0, .v false [.sl .ro .int x0]), (2, .v false [.int .i64 x1]), (10, .v false [.int .i64 x5])]
theorem p134_2_0 (x0 : List Int) (x1 x5 : Int) : rS 2 I134 (S134_2 x0 x1 x5) [Y, Y] [] = dn (xA3 (-1)) [(decide ((x5 : Int) < (Ln x0 : Int))) = true, (0 : Int) ≤ x5 ∧ x5 < (Ln x0), (((gD x0 (tN x5) Ty.int.dflt) : Int) != x1) = true] := by kernel_rfl
theorem p134_2_1 (x0 : List Int) (x1 x5 : Int) : rS 2 I134 (S134_2 x0 x1 x5) [Y, F] [] = st 2 I134 (S134_2 x0 (W (x1 + 1)) (W (x5 + 1))) [(decide ((x5 : Int) < (Ln x0 : Int))) = true, (0 : Int) ≤ x5 ∧ x5 < (Ln x0), (((gD x0 (tN x5) Ty.int.dflt) : Int) != x1) = false] := by kernel_rfl
theorem p134_2_2 (x0 : List Int) (x1 x5 : Int) : rS 2 I134 (S134_2 x0 x1 x5) [F] [] = dn (xA3 x1) [(decide ((x5 : Int) < (Ln x0 : Int))) = false] := by kernel_rfl
theorem p134_e_3 (a0 : List Int) (a1 : Int) : rE I134 (xB9 a0 a1) [] [] = st 2 I134 (S134_2 a0 a1 0) [] := by kernel_rfl
theorem c134_2 {N : Nat} : ∀ n x0 x1 x5 r, xCa N n x0 x1 x5 = some r → RS Try.f134 I134 2 (S134_2 x0 x1 x5) (xA3 r) := by
 intro n
 induction n with
 | zero => exact fun _ _ _ _ h => nE h
 | succ n ih =>
  exact fun x0 x1 x5 r h =>
   cE h (fun h0 h => iE h fun h1 h => cE h (fun h2 h => dS h fk134 (p134_2_0 x0 x1 x5) (oc h0 (oc h1 (oc h2 on)))) fun h2 h =>
   tS fk134 (p134_2_1 x0 x1 x5) (oc h0 (oc h1 (oc h2 on))) (ih _ _ _ _ h)) fun h0 h =>
   dS h fk134 (p134_2_2 x0 x1 x5) (oc h0 on)
theorem c134_e {N : Nat} : ∀ a0 a1 r, xDG N a0 a1 = some r → RE Try.f134 I134 (xB9 a0 a1) (xA3 r) := fun a0 a1 r h =>
 tE fk134 (p134_e_3 a0 a1) on (c134_2 _ _ _ _ _ h)
theorem xDA {N : Nat} {a0 : List Int} {a1 : Int} {r : Int} (h : xDG N  a0 a1 = some r) : AbC 134 (xB9 a0 a1) (xA3 r) :=
 AbsCalls.of_reach fk134 rfl rfl (Nat.le_of_ble_eq_true rfl) (c134_e a0 a1 r h)
noncomputable def I135 : Info := { body := (Try.f135.body).getD .skip, nt := 31, results := [.tmp 4], keep := [0, 2, 8, 10, 18, 36, 54], live := [(2, [0, 2, 10])], modes := [] }
theorem fk135 : FnOk Try.prog 135 Try.f135 I135 := ⟨Try.func135, by kernel_rfl, by kernel_rfl, by kernel_rfl, by kernel_rfl⟩
def S135_2 (x0 : List Org) (x1 x5 : Int) : St := [(0, .v false [.sl .ro .org x0]), (2, .v false [.int .i64 x1]), (10, .v false [.int .i64 x5])]
theorem p135_2_0 (x0 : List Org) (x1 x5 : Int) : rS 2 I135 (S135_2 x0 x1 x5) [Y, Y] [] = dn (xAW (-1)) [(decide ((x5 : Int) < (Ln x0 : Int))) = true, (0 : Int) ≤ x5 ∧ x5 < (Ln x0), (((Org.cell (gD x0 (tN x5) Ty.org.dflt)) : Int) != x1) = true] := by kernel_rfl
theorem p135_2_1 (x0 : List Org) (x1 x5 : Int) : rS 2 I135 (S135_2 x0 x1 x5) [Y, F, Y] [] = dn (xAW (-1)) [(decide ((x5 : Int) < (Ln x0 : Int))) = true, (0 : Int) ≤ x5 ∧ x5 < (Ln x0), (((Org.cell (gD x0 (tN x5) Ty.org.dflt)) : Int) != x1) = false, (0 : Int) ≤ x5 ∧ x5 < (Ln x0), (((Org.row (gD x0 (tN x5) Ty.org.dflt)) : Int) != (W (x1 + 1))) = true] := by kernel_rfl
theorem p135_2_2 (x0 : List Org) (x1 x5 : Int) : rS 2 I135 (S135_2 x0 x1 x5) [Y, F, F] [] = st 2 I135 (S135_2 x0 (W ((W (x1 + 1)) + 1)) (W (x5 + 1))) [(decide ((x5 : Int) < (Ln x0 : Int))) = true, (0 : Int) ≤ x5 ∧ x5 < (Ln x0), (((Org.cell (gD x0 (tN x5) Ty.org.dflt)) : Int) != x1) = false, (0 : Int) ≤ x5 ∧ x5 < (Ln x0), (((Org.row (gD x0 (tN x5) Ty.org.dflt)) : Int) != (W (x1 + 1))) = false] := by kernel_rfl
theorem p135_2_3 (x0 : List Org) (x1 x5 : Int) : rS 2 I135 (S135_2 x0 x1 x5) [F] [] = dn (xAW x1) [(decide ((x5 : Int) < (Ln x0 : Int))) = false] := by kernel_rfl
theorem p135_e_4 (a0 : List Org) (a1 : Int) : rE I135 (xB3 a0 a1) [] [] = st 2 I135 (S135_2 a0 a1 0) [] := by kernel_rfl
theorem c135_2 {N : Nat} : ∀ n x0 x1 x5 r, xBA N n x0 x1 x5 = some r → RS Try.f135 I135 2 (S135_2 x0 x1 x5) (xAW r) := by
 intro n
 induction n with
 | zero => exact fun _ _ _ _ h => nE h
 | succ n ih =>
  exact fun x0 x1 x5 r h =>
   cE h (fun h0 h => iE h fun h1 h => cE h (fun h2 h => dS h fk135 (p135_2_0 x0 x1 x5) (oc h0 (oc h1 (oc h2 on)))) fun h2 h =>
   cE h (fun h4 h => dS h fk135 (p135_2_1 x0 x1 x5) (oc h0 (oc h1 (oc h2 (oc h1 (oc h4 on)))))) fun h4 h =>
   tS fk135 (p135_2_2 x0 x1 x5) (oc h0 (oc h1 (oc h2 (oc h1 (oc h4 on))))) (ih _ _ _ _ h)) fun h0 h =>
   dS h fk135 (p135_2_3 x0 x1 x5) (oc h0 on)
theorem c135_e {N : Nat} : ∀ a0 a1 r, xCZ N a0 a1 = some r → RE Try.f135 I135 (xB3 a0 a1) (xAW r) := fun a0 a1 r h =>
 tE fk135 (p135_e_4 a0 a1) on (c135_2 _ _ _ _ _ h)
theorem xDR {N : Nat} {a0 : List Org} {a1 : Int} {r : Int} (h : xCZ N  a0 a1 = some r) : AbC 135 (xB3 a0 a1) (xAW r) :=
 AbsCalls.of_reach fk135 rfl rfl (Nat.le_of_ble_eq_true rfl) (c135_e a0 a1 r h)
noncomputable def I80 : Info := { body := (Try.f80.body).getD .skip, nt := 31, results := [.tmp 4], keep := [0, 2, 8, 10, 18, 40, 58], live := [(2, [0, 2, 10])], modes := [] }
theorem fk80 : FnOk Try.prog 80 Try.f80 I80 := ⟨Try.func80, by kernel_rfl, by kernel_rfl, by kernel_rfl, by kernel_rfl⟩
def S80_2 (x0 : List Rowd) (x1 x5 : Int) : St := [(0, .v false [.sl .ro .row x0]), (2, .v false [.int .i64 x1]), (10, .v false [.int .i64 x5])]
theorem p80_2_0 (x0 : List Rowd) (x1 x5 r1 : Int) : rS 2 I80 (S80_2 x0 x1 x5) [Y, Y] [xA3 r1] = dn (xAN (-1)) [(decide ((x5 : Int) < (Ln x0 : Int))) = true, (0 : Int) ≤ x5 ∧ x5 < (Ln x0), AbC 134 (xB9 (Rowd.cells (gD x0 (tN x5) rd)) x1) (xA3 r1), (decide ((r1 : Int) < 0)) = true] := by kernel_rfl
theorem p80_2_1 (x0 : List Rowd) (x1 x5 r1 r2 : Int) : rS 2 I80 (S80_2 x0 x1 x5) [Y, F, Y] [xA3 r1, xAW r2] = dn (xAN (-1)) [(decide ((x5 : Int) < (Ln x0 : Int))) = true, (0 : Int) ≤ x5 ∧ x5 < (Ln x0), AbC 134 (xB9 (Rowd.cells (gD x0 (tN x5) rd)) x1) (xA3 r1), (decide ((r1 : Int) < 0)) = false, (0 : Int) ≤ x5 ∧ x5 < (Ln x0), AbC 135 (xB3 (Rowd.frm (gD x0 (tN x5) rd)) r1) (xAW r2), (decide ((r2 : Int) < 0)) = true] := by kernel_rfl
theorem p80_2_2 (x0 : List Rowd) (x1 x5 r1 r2 : Int) : rS 2 I80 (S80_2 x0 x1 x5) [Y, F, F] [xA3 r1, xAW r2] = st 2 I80 (S80_2 x0 r2 (W (x5 + 1))) [(decide ((x5 : Int) < (Ln x0 : Int))) = true, (0 : Int) ≤ x5 ∧ x5 < (Ln x0), AbC 134 (xB9 (Rowd.cells (gD x0 (tN x5) rd)) x1) (xA3 r1), (decide ((r1 : Int) < 0)) = false, (0 : Int) ≤ x5 ∧ x5 < (Ln x0), AbC 135 (xB3 (Rowd.frm (gD x0 (tN x5) rd)) r1) (xAW r2), (decide ((r2 : Int) < 0)) = false] := by kernel_rfl
theorem p80_2_3 (x0 : List Rowd) (x1 x5 : Int) : rS 2 I80 (S80_2 x0 x1 x5) [F] [] = dn (xAN x1) [(decide ((x5 : Int) < (Ln x0 : Int))) = false] := by kernel_rfl
theorem p80_e_4 (a0 : List Rowd) (a1 : Int) : rE I80 (xBP a0 a1) [] [] = st 2 I80 (S80_2 a0 a1 0) [] := by kernel_rfl
theorem c80_2 {N : Nat} : ∀ n x0 x1 x5 r, xCb N n x0 x1 x5 = some r → RS Try.f80 I80 2 (S80_2 x0 x1 x5) (xAN r) := by
 intro n
 induction n with
 | zero => exact fun _ _ _ _ h => nE h
 | succ n ih =>
  exact fun x0 x1 x5 r h =>
   cE h (fun h0 h => iE h fun h1 h => bE h fun r1 h2 h => cE h (fun h3 h => dS h fk80 (p80_2_0 x0 x1 x5 r1) (oc h0 (oc h1 (oc (xDA h2) (oc h3 on))))) fun h3 h =>
   bE h fun r2 h5 h => cE h (fun h6 h => dS h fk80 (p80_2_1 x0 x1 x5 r1 r2) (oc h0 (oc h1 (oc (xDA h2) (oc h3 (oc h1 (oc (xDR h5) (oc h6 on)))))))) fun h6 h =>
   tS fk80 (p80_2_2 x0 x1 x5 r1 r2) (oc h0 (oc h1 (oc (xDA h2) (oc h3 (oc h1 (oc (xDR h5) (oc h6 on))))))) (ih _ _ _ _ h)) fun h0 h =>
   dS h fk80 (p80_2_3 x0 x1 x5) (oc h0 on)
theorem c80_e {N : Nat} : ∀ a0 a1 r, xDc N a0 a1 = some r → RE Try.f80 I80 (xBP a0 a1) (xAN r) := fun a0 a1 r h =>
 tE fk80 (p80_e_4 a0 a1) on (c80_2 _ _ _ _ _ h)
theorem xC0 {N : Nat} {a0 : List Rowd} {a1 : Int} {r : Int} (h : xDc N  a0 a1 = some r) : AbC 80 (xBP a0 a1) (xAN r) :=
 AbsCalls.of_reach fk80 rfl rfl (Nat.le_of_ble_eq_true rfl) (c80_e a0 a1 r h)
def G78 (q : (List Val) → Int → Option (Int)) : Prop := ∀ a0 a1 r, q a0 a1 = some r → AbC 78 (xAJ a0 a1) (xAj r)
noncomputable def I78 : Info := { body := (Try.f78.body).getD .skip, nt := 77, results := [.tmp 4], keep := [0, 2, 8, 10, 18, 36, 54, 72, 92, 114, 132, 150], live := [(2, [0, 2, 10])], modes := [] }
theorem fk78 : FnOk Try.prog 78 Try.f78 I78 := ⟨Try.func78, by kernel_rfl, by kernel_rfl, by kernel_rfl, by kernel_rfl⟩
def S78_2 (x0 : List Val) (x1 x5 : Int) : St := [(0, .v false [.sl .ro .val x0]), (2, .v false [.int .i64 x1]), (10, .v false [.int .i64 x5])]
theorem p78_2_0 (x0 : List Val) (x1 x5 : Int) : rS 2 I78 (S78_2 x0 x1 x5) [Y, Y] [] = dn (xAj (-1)) [(decide ((x5 : Int) < (Ln x0 : Int))) = true, (0 : Int) ≤ x5 ∧ x5 < (Ln x0), (((Val.kind (gD x0 (tN x5) vd)) : Int) != x1) = true] := by kernel_rfl
theorem p78_2_1 (x0 : List Val) (x1 x5 : Int) : rS 2 I78 (S78_2 x0 x1 x5) [Y, F, Y] [] = dn (xAj (-1)) [(decide ((x5 : Int) < (Ln x0 : Int))) = true, (0 : Int) ≤ x5 ∧ x5 < (Ln x0), (((Val.kind (gD x0 (tN x5) vd)) : Int) != x1) = false, (0 : Int) ≤ x5 ∧ x5 < (Ln x0), (((Val.n (gD x0 (tN x5) vd)) : Int) != (W (x1 + 1))) = true] := by kernel_rfl
theorem p78_2_2 (x0 : List Val) (x1 x5 : Int) : rS 2 I78 (S78_2 x0 x1 x5) [Y, F, F, Y] [] = dn (xAj (-1)) [(decide ((x5 : Int) < (Ln x0 : Int))) = true, (0 : Int) ≤ x5 ∧ x5 < (Ln x0), (((Val.kind (gD x0 (tN x5) vd)) : Int) != x1) = false, (0 : Int) ≤ x5 ∧ x5 < (Ln x0), (((Val.n (gD x0 (tN x5) vd)) : Int) != (W (x1 + 1))) = false, (0 : Int) ≤ x5 ∧ x5 < (Ln x0), (((Val.step (gD x0 (tN x5) vd)) : Int) != (W ((W (x1 + 1)) + 1))) = true] := by kernel_rfl
theorem p78_2_3 (x0 : List Val) (x1 x5 : Int) (r1 : Str) : rS 2 I78 (S78_2 x0 x1 x5) [Y, F, F, F, Y] [xAo r1] = dn (xAj (-1)) [(decide ((x5 : Int) < (Ln x0 : Int))) = true, (0 : Int) ≤ x5 ∧ x5 < (Ln x0), (((Val.kind (gD x0 (tN x5) vd)) : Int) != x1) = false, (0 : Int) ≤ x5 ∧ x5 < (Ln x0), (((Val.n (gD x0 (tN x5) vd)) : Int) != (W (x1 + 1))) = false, (0 : Int) ≤ x5 ∧ x5 < (Ln x0), (((Val.step (gD x0 (tN x5) vd)) : Int) != (W ((W (x1 + 1)) + 1))) = false, (0 : Int) ≤ x5 ∧ x5 < (Ln x0), AbC 93 (xAL (W ((W ((W (x1 + 1)) + 1)) + 1))) (xAo r1), (!(((Val.text (gD x0 (tN x5) vd)) : Str) == r1)) = true] := by kernel_rfl
theorem p78_2_4 (x0 : List Val) (x1 x5 : Int) (r1 : Str) (r2 : Int) : rS 2 I78 (S78_2 x0 x1 x5) [Y, F, F, F, F, Y] [xAo r1, xAj r2] = dn (xAj (-1)) [(decide ((x5 : Int) < (Ln x0 : Int))) = true, (0 : Int) ≤ x5 ∧ x5 < (Ln x0), (((Val.kind (gD x0 (tN x5) vd)) : Int) != x1) = false, (0 : Int) ≤ x5 ∧ x5 < (Ln x0), (((Val.n (gD x0 (tN x5) vd)) : Int) != (W (x1 + 1))) = false, (0 : Int) ≤ x5 ∧ x5 < (Ln x0), (((Val.step (gD x0 (tN x5) vd)) : Int) != (W ((W (x1 + 1)) + 1))) = false, (0 : Int) ≤ x5 ∧ x5 < (Ln x0), AbC 93 (xAL (W ((W ((W (x1 + 1)) + 1)) + 1))) (xAo r1), (!(((Val.text (gD x0 (tN x5) vd)) : Str) == r1)) = false, (0 : Int) ≤ x5 ∧ x5 < (Ln x0), AbC 78 (xAJ (Val.list (gD x0 (tN x5) vd)) (W ((W ((W ((W (x1 + 1)) + 1)) + 1)) + 1))) (xAj r2), (decide ((r2 : Int) < 0)) = true] := by kernel_rfl
theorem p78_2_5 (x0 : List Val) (x1 x5 : Int) (r1 : Str) (r2 r3 : Int) : rS 2 I78 (S78_2 x0 x1 x5) [Y, F, F, F, F, F, Y] [xAo r1, xAj r2, xAv r3] = dn (xAj (-1)) [(decide ((x5 : Int) < (Ln x0 : Int))) = true, (0 : Int) ≤ x5 ∧ x5 < (Ln x0), (((Val.kind (gD x0 (tN x5) vd)) : Int) != x1) = false, (0 : Int) ≤ x5 ∧ x5 < (Ln x0), (((Val.n (gD x0 (tN x5) vd)) : Int) != (W (x1 + 1))) = false, (0 : Int) ≤ x5 ∧ x5 < (Ln x0), (((Val.step (gD x0 (tN x5) vd)) : Int) != (W ((W (x1 + 1)) + 1))) = false, (0 : Int) ≤ x5 ∧ x5 < (Ln x0), AbC 93 (xAL (W ((W ((W (x1 + 1)) + 1)) + 1))) (xAo r1), (!(((Val.text (gD x0 (tN x5) vd)) : Str) == r1)) = false, (0 : Int) ≤ x5 ∧ x5 < (Ln x0), AbC 78 (xAJ (Val.list (gD x0 (tN x5) vd)) (W ((W ((W ((W (x1 + 1)) + 1)) + 1)) + 1))) (xAj r2), (decide ((r2 : Int) < 0)) = false, (0 : Int) ≤ x5 ∧ x5 < (Ln x0), AbC 79 (xA2 (Val.columns (gD x0 (tN x5) vd)) r2) (xAv r3), (decide ((r3 : Int) < 0)) = true] := by kernel_rfl
theorem p78_2_6 (x0 : List Val) (x1 x5 : Int) (r1 : Str) (r2 r3 r4 : Int) : rS 2 I78 (S78_2 x0 x1 x5) [Y, F, F, F, F, F, F, Y] [xAo r1, xAj r2, xAv r3, xAN r4] = dn (xAj (-1)) [(decide ((x5 : Int) < (Ln x0 : Int))) = true, (0 : Int) ≤ x5 ∧ x5 < (Ln x0), (((Val.kind (gD x0 (tN x5) vd)) : Int) != x1) = false, (0 : Int) ≤ x5 ∧ x5 < (Ln x0), (((Val.n (gD x0 (tN x5) vd)) : Int) != (W (x1 + 1))) = false, (0 : Int) ≤ x5 ∧ x5 < (Ln x0), (((Val.step (gD x0 (tN x5) vd)) : Int) != (W ((W (x1 + 1)) + 1))) = false, (0 : Int) ≤ x5 ∧ x5 < (Ln x0), AbC 93 (xAL (W ((W ((W (x1 + 1)) + 1)) + 1))) (xAo r1), (!(((Val.text (gD x0 (tN x5) vd)) : Str) == r1)) = false, (0 : Int) ≤ x5 ∧ x5 < (Ln x0), AbC 78 (xAJ (Val.list (gD x0 (tN x5) vd)) (W ((W ((W ((W (x1 + 1)) + 1)) + 1)) + 1))) (xAj r2), (decide ((r2 : Int) < 0)) = false, (0 : Int) ≤ x5 ∧ x5 < (Ln x0), AbC 79 (xA2 (Val.columns (gD x0 (tN x5) vd)) r2) (xAv r3), (decide ((r3 : Int) < 0)) = false, (0 : Int) ≤ x5 ∧ x5 < (Ln x0), AbC 80 (xBP (Val.rows (gD x0 (tN x5) vd)) r3) (xAN r4), (decide ((r4 : Int) < 0)) = true] := by kernel_rfl
theorem p78_2_7 (x0 : List Val) (x1 x5 : Int) (r1 : Str) (r2 r3 r4 : Int) : rS 2 I78 (S78_2 x0 x1 x5) [Y, F, F, F, F, F, F, F] [xAo r1, xAj r2, xAv r3, xAN r4] = st 2 I78 (S78_2 x0 r4 (W (x5 + 1))) [(decide ((x5 : Int) < (Ln x0 : Int))) = true, (0 : Int) ≤ x5 ∧ x5 < (Ln x0), (((Val.kind (gD x0 (tN x5) vd)) : Int) != x1) = false, (0 : Int) ≤ x5 ∧ x5 < (Ln x0), (((Val.n (gD x0 (tN x5) vd)) : Int) != (W (x1 + 1))) = false, (0 : Int) ≤ x5 ∧ x5 < (Ln x0), (((Val.step (gD x0 (tN x5) vd)) : Int) != (W ((W (x1 + 1)) + 1))) = false, (0 : Int) ≤ x5 ∧ x5 < (Ln x0), AbC 93 (xAL (W ((W ((W (x1 + 1)) + 1)) + 1))) (xAo r1), (!(((Val.text (gD x0 (tN x5) vd)) : Str) == r1)) = false, (0 : Int) ≤ x5 ∧ x5 < (Ln x0), AbC 78 (xAJ (Val.list (gD x0 (tN x5) vd)) (W ((W ((W ((W (x1 + 1)) + 1)) + 1)) + 1))) (xAj r2), (decide ((r2 : Int) < 0)) = false, (0 : Int) ≤ x5 ∧ x5 < (Ln x0), AbC 79 (xA2 (Val.columns (gD x0 (tN x5) vd)) r2) (xAv r3), (decide ((r3 : Int) < 0)) = false, (0 : Int) ≤ x5 ∧ x5 < (Ln x0), AbC 80 (xBP (Val.rows (gD x0 (tN x5) vd)) r3) (xAN r4), (decide ((r4 : Int) < 0)) = false] := by kernel_rfl
theorem p78_2_8 (x0 : List Val) (x1 x5 : Int) : rS 2 I78 (S78_2 x0 x1 x5) [F] [] = dn (xAj x1) [(decide ((x5 : Int) < (Ln x0 : Int))) = false] := by kernel_rfl
theorem p78_e_9 (a0 : List Val) (a1 : Int) : rE I78 (xAJ a0 a1) [] [] = st 2 I78 (S78_2 a0 a1 0) [] := by kernel_rfl
theorem c78_2 {N : Nat} {q0 : (List Val) → Int → Option (Int)} (g0 : G78 q0) : ∀ n x0 x1 x5 r, xBL N q0 n x0 x1 x5 = some r → RS Try.f78 I78 2 (S78_2 x0 x1 x5) (xAj r) := by
 intro n
 induction n with
 | zero => exact fun _ _ _ _ h => nE h
 | succ n ih =>
  exact fun x0 x1 x5 r h =>
   cE h (fun h0 h => iE h fun h1 h => cE h (fun h2 h => dS h fk78 (p78_2_0 x0 x1 x5) (oc h0 (oc h1 (oc h2 on)))) fun h2 h =>
   cE h (fun h4 h => dS h fk78 (p78_2_1 x0 x1 x5) (oc h0 (oc h1 (oc h2 (oc h1 (oc h4 on)))))) fun h4 h =>
   cE h (fun h6 h => dS h fk78 (p78_2_2 x0 x1 x5) (oc h0 (oc h1 (oc h2 (oc h1 (oc h4 (oc h1 (oc h6 on)))))))) fun h6 h =>
   bE h fun r1 h8 h => cE h (fun h9 h => dS h fk78 (p78_2_3 x0 x1 x5 r1) (oc h0 (oc h1 (oc h2 (oc h1 (oc h4 (oc h1 (oc h6 (oc h1 (oc (xA4 h8) (oc h9 on))))))))))) fun h9 h =>
   bE h fun r2 h11 h => cE h (fun h12 h => dS h fk78 (p78_2_4 x0 x1 x5 r1 r2) (oc h0 (oc h1 (oc h2 (oc h1 (oc h4 (oc h1 (oc h6 (oc h1 (oc (xA4 h8) (oc h9 (oc h1 (oc (g0 _ _ _ h11) (oc h12 on)))))))))))))) fun h12 h =>
   bE h fun r3 h14 h => cE h (fun h15 h => dS h fk78 (p78_2_5 x0 x1 x5 r1 r2 r3) (oc h0 (oc h1 (oc h2 (oc h1 (oc h4 (oc h1 (oc h6 (oc h1 (oc (xA4 h8) (oc h9 (oc h1 (oc (g0 _ _ _ h11) (oc h12 (oc h1 (oc (xBC h14) (oc h15 on))))))))))))))))) fun h15 h =>
   bE h fun r4 h17 h => cE h (fun h18 h => dS h fk78 (p78_2_6 x0 x1 x5 r1 r2 r3 r4) (oc h0 (oc h1 (oc h2 (oc h1 (oc h4 (oc h1 (oc h6 (oc h1 (oc (xA4 h8) (oc h9 (oc h1 (oc (g0 _ _ _ h11) (oc h12 (oc h1 (oc (xBC h14) (oc h15 (oc h1 (oc (xC0 h17) (oc h18 on)))))))))))))))))))) fun h18 h =>
   tS fk78 (p78_2_7 x0 x1 x5 r1 r2 r3 r4) (oc h0 (oc h1 (oc h2 (oc h1 (oc h4 (oc h1 (oc h6 (oc h1 (oc (xA4 h8) (oc h9 (oc h1 (oc (g0 _ _ _ h11) (oc h12 (oc h1 (oc (xBC h14) (oc h15 (oc h1 (oc (xC0 h17) (oc h18 on))))))))))))))))))) (ih _ _ _ _ h)) fun h0 h =>
   dS h fk78 (p78_2_8 x0 x1 x5) (oc h0 on)
theorem c78_e {N : Nat} {q0 : (List Val) → Int → Option (Int)} (g0 : G78 q0) : ∀ a0 a1 r, xCT N q0 a0 a1 = some r → RE Try.f78 I78 (xAJ a0 a1) (xAj r) := fun a0 a1 r h =>
 tE fk78 (p78_e_9 a0 a1) on (c78_2 g0 _ _ _ _ _ h)
theorem xD9 {N : Nat} {q0 : (List Val) → Int → Option (Int)} (g0 : G78 q0) {a0 : List Val} {a1 : Int} {r : Int} (h : xCT N q0 a0 a1 = some r) : AbC 78 (xAJ a0 a1) (xAj r) :=
 AbsCalls.of_reach fk78 rfl rfl (Nat.le_of_ble_eq_true rfl) (c78_e g0 a0 a1 r h)
theorem xDi {N : Nat} : ∀ d, G78 (xB4 N d)
 | 0 => fun _ _ _ h => nE h
 | d + 1 => fun _ _ _ h => xD9 (N := N) (xDi d) h
theorem xCL {N : Nat} {a0 : List Val} {a1 : Int} {r : Int} (h : xDS N a0 a1 = some r) : AbC 78 (xAJ a0 a1) (xAj r) := xDi N _ _ r h
noncomputable def I16 : Info := { body := (Try.f16.body).getD .skip, nt := 24, results := [.tmp 4], keep := [0, 2, 4, 8, 20, 32, 44, 5], live := [], modes := [] }
theorem fk16 : FnOk Try.prog 16 Try.f16 I16 := ⟨Try.func16, by kernel_rfl, by kernel_rfl, by kernel_rfl, by kernel_rfl⟩
theorem p16_e_0 (a0 : Val) (a1 r1 : Int) : rE I16 (xAD a0 a1) [Y] [xAj r1] = dn (xAn (-1)) [AbC 78 (xAJ (Val.list a0) a1) (xAj r1), (decide ((r1 : Int) < 0)) = true] := by kernel_rfl
theorem p16_e_1 (a0 : Val) (a1 r1 r2 : Int) : rE I16 (xAD a0 a1) [F, Y] [xAj r1, xAv r2] = dn (xAn (-1)) [AbC 78 (xAJ (Val.list a0) a1) (xAj r1), (decide ((r1 : Int) < 0)) = false, AbC 79 (xA2 (Val.columns a0) r1) (xAv r2), (decide ((r2 : Int) < 0)) = true] := by kernel_rfl
theorem p16_e_2 (a0 : Val) (a1 r1 r2 r3 : Int) : rE I16 (xAD a0 a1) [F, F, Y] [xAj r1, xAv r2, xAN r3] = dn (xAn (-1)) [AbC 78 (xAJ (Val.list a0) a1) (xAj r1), (decide ((r1 : Int) < 0)) = false, AbC 79 (xA2 (Val.columns a0) r1) (xAv r2), (decide ((r2 : Int) < 0)) = false, AbC 80 (xBP (Val.rows a0) r2) (xAN r3), (decide ((r3 : Int) < 0)) = true] := by kernel_rfl
theorem p16_e_3 (a0 : Val) (a1 r1 r2 r3 : Int) : rE I16 (xAD a0 a1) [F, F, F] [xAj r1, xAv r2, xAN r3] = dn (xAn r3) [AbC 78 (xAJ (Val.list a0) a1) (xAj r1), (decide ((r1 : Int) < 0)) = false, AbC 79 (xA2 (Val.columns a0) r1) (xAv r2), (decide ((r2 : Int) < 0)) = false, AbC 80 (xBP (Val.rows a0) r2) (xAN r3), (decide ((r3 : Int) < 0)) = false] := by kernel_rfl
theorem c16_e {N : Nat} : ∀ a0 a1 r, xCm N a0 a1 = some r → RE Try.f16 I16 (xAD a0 a1) (xAn r) := fun a0 a1 r h =>
 bE h fun r1 h0 h => cE h (fun h1 h => dE h fk16 (p16_e_0 a0 a1 r1) (oc (xCL h0) (oc h1 on))) fun h1 h =>
 bE h fun r2 h2 h => cE h (fun h3 h => dE h fk16 (p16_e_1 a0 a1 r1 r2) (oc (xCL h0) (oc h1 (oc (xBC h2) (oc h3 on))))) fun h3 h =>
 bE h fun r3 h4 h => cE h (fun h5 h => dE h fk16 (p16_e_2 a0 a1 r1 r2 r3) (oc (xCL h0) (oc h1 (oc (xBC h2) (oc h3 (oc (xC0 h4) (oc h5 on))))))) fun h5 h =>
 dE h fk16 (p16_e_3 a0 a1 r1 r2 r3) (oc (xCL h0) (oc h1 (oc (xBC h2) (oc h3 (oc (xC0 h4) (oc h5 on))))))
theorem xA8 {N : Nat} {a0 : Val} {a1 : Int} {r : Int} (h : xCm N  a0 a1 = some r) : AbC 16 (xAD a0 a1) (xAn r) :=
 AbsCalls.of_reach fk16 rfl rfl (Nat.le_of_ble_eq_true rfl) (c16_e a0 a1 r h)
noncomputable def I5 : Info := { body := (Try.f5.body).getD .skip, nt := 119, results := [.tmp 4], keep := [0, 2, 6, 8, 10, 12, 14, 16, 18, 20, 22, 24, 26, 28, 30, 32, 42, 52, 106, 116, 126, 164, 180, 186, 220, 230, 236, 7, 13, 19, 21, 31], live := [], modes := [(8, [(4, .cp, true), (5, .take, false), (6, .ref, false), (7, .ref, false)]), (11, [(3, .take, false)]), (12, [(4, .take, false)]), (19, [(0, .ref, false), (2, .ref, false)]), (20, [(0, .ref, false), (2, .ref, false)]), (21, [(2, .take, false), (8, .take, false)]), (24, [(0, .ref, false), (2, .ref, false)]), (31, [(5, .take, false), (6, .ref, false), (7, .ref, false)]), (32, [(4, .take, false), (5, .take, false)])] }
theorem fk5 : FnOk Try.prog 5 Try.f5 I5 := ⟨Try.func5, by kernel_rfl, by kernel_rfl, by kernel_rfl, by kernel_rfl⟩
theorem p5_e_0 (a0 : List Rea) (a1 : Rea) (r1 : Int) : rE I5 (xAq a0 a1) [Y] [xAk r1] = dn (xAr true) [AbC 19 (xAC a0 1048576) (xAk r1), (decide ((r1 : Int) < 0)) = true] := by kernel_rfl
theorem p5_e_1 (a0 : List Rea) (a1 : Rea) (r1 r2 : Int) : rE I5 (xAq a0 a1) [F, Y] [xAk r1, xAl r2] = dn (xAr true) [AbC 19 (xAC a0 1048576) (xAk r1), (decide ((r1 : Int) < 0)) = false, AbC 20 (xAB a1 r1) (xAl r2), (decide ((r2 : Int) < 0)) = true] := by kernel_rfl
theorem p5_e_2 (a0 : List Rea) (a1 : Rea) (r1 r2 : Int) (r3 : (List Rea)) (r4 : Rea) (r5 : Val × Bool) (r6 : (List Rea)) (r7 : Rea) (r8 : Val × Bool) (r9 : Bool) : rE I5 (xAq a0 a1) [F, F, Y, Y] [xAk r1, xAl r2, xAa r3, xAb r4, xAm r5, xAa r6, xAb r7, xAe r8, xAc r9] = dn (xAr false) [AbC 19 (xAC a0 1048576) (xAk r1), (decide ((r1 : Int) < 0)) = false, AbC 20 (xAB a1 r1) (xAl r2), (decide ((r2 : Int) < 0)) = false, AbC 22 (xAd a0) (xAa r3), AbC 23 (xAh a1) (xAb r4), AbC 21 (xAH r3 r4) (xAm r5), AbC 22 (xAd a0) (xAa r6), AbC 23 (xAh a1) (xAb r7), AbC 24 (xAw r6 r7) (xAe r8), AbC 14 (xAf r8.1 r5.1) (xAc r9), (!r9) = true, true = true] := by kernel_rfl
theorem p5_e_3 (a0 : List Rea) (a1 : Rea) (r1 r2 : Int) (r3 : (List Rea)) (r4 : Rea) (r5 : Val × Bool) (r6 : (List Rea)) (r7 : Rea) (r8 : Val × Bool) (r9 : Bool) : rE I5 (xAq a0 a1) [F, F, F, Y] [xAk r1, xAl r2, xAa r3, xAb r4, xAm r5, xAa r6, xAb r7, xAe r8, xAc r9] = dn (xAr false) [AbC 19 (xAC a0 1048576) (xAk r1), (decide ((r1 : Int) < 0)) = false, AbC 20 (xAB a1 r1) (xAl r2), (decide ((r2 : Int) < 0)) = false, AbC 22 (xAd a0) (xAa r3), AbC 23 (xAh a1) (xAb r4), AbC 21 (xAH r3 r4) (xAm r5), AbC 22 (xAd a0) (xAa r6), AbC 23 (xAh a1) (xAb r7), AbC 24 (xAw r6 r7) (xAe r8), AbC 14 (xAf r8.1 r5.1) (xAc r9), (!r9) = false, (!((r8.2 : Bool) == r5.2)) = true] := by kernel_rfl
theorem p5_e_4 (a0 : List Rea) (a1 : Rea) (r1 r2 : Int) (r3 : (List Rea)) (r4 : Rea) (r5 : Val × Bool) (r6 : (List Rea)) (r7 : Rea) (r8 : Val × Bool) (r9 : Bool) (r10 : (List Rea)) (r11 : Bool) : rE I5 (xAq a0 a1) [F, F, F, F, Y] [xAk r1, xAl r2, xAa r3, xAb r4, xAm r5, xAa r6, xAb r7, xAe r8, xAc r9, xAa r10, xAs r11] = dn (xAr false) [AbC 19 (xAC a0 1048576) (xAk r1), (decide ((r1 : Int) < 0)) = false, AbC 20 (xAB a1 r1) (xAl r2), (decide ((r2 : Int) < 0)) = false, AbC 22 (xAd a0) (xAa r3), AbC 23 (xAh a1) (xAb r4), AbC 21 (xAH r3 r4) (xAm r5), AbC 22 (xAd a0) (xAa r6), AbC 23 (xAh a1) (xAb r7), AbC 24 (xAw r6 r7) (xAe r8), AbC 14 (xAf r8.1 r5.1) (xAc r9), (!r9) = false, (!((r8.2 : Bool) == r5.2)) = false, AbC 22 (xAd a0) (xAa r10), AbC 25 (xAP r6 r10) (xAs r11), (!r11) = true] := by kernel_rfl
theorem p5_e_5 (a0 : List Rea) (a1 : Rea) (r1 r2 : Int) (r3 : (List Rea)) (r4 : Rea) (r5 : Val × Bool) (r6 : (List Rea)) (r7 : Rea) (r8 : Val × Bool) (r9 : Bool) (r10 : (List Rea)) (r11 : Bool) (r12 : Rea) (r13 : Bool) : rE I5 (xAq a0 a1) [F, F, F, F, F, Y] [xAk r1, xAl r2, xAa r3, xAb r4, xAm r5, xAa r6, xAb r7, xAe r8, xAc r9, xAa r10, xAs r11, xAb r12, xAp r13] = dn (xAr false) [AbC 19 (xAC a0 1048576) (xAk r1), (decide ((r1 : Int) < 0)) = false, AbC 20 (xAB a1 r1) (xAl r2), (decide ((r2 : Int) < 0)) = false, AbC 22 (xAd a0) (xAa r3), AbC 23 (xAh a1) (xAb r4), AbC 21 (xAH r3 r4) (xAm r5), AbC 22 (xAd a0) (xAa r6), AbC 23 (xAh a1) (xAb r7), AbC 24 (xAw r6 r7) (xAe r8), AbC 14 (xAf r8.1 r5.1) (xAc r9), (!r9) = false, (!((r8.2 : Bool) == r5.2)) = false, AbC 22 (xAd a0) (xAa r10), AbC 25 (xAP r6 r10) (xAs r11), (!r11) = false, AbC 23 (xAh a1) (xAb r12), AbC 26 (xAF r7 r12) (xAp r13), (!r13) = true] := by kernel_rfl
theorem p5_e_6 (a0 : List Rea) (a1 : Rea) (r1 r2 : Int) (r3 : (List Rea)) (r4 : Rea) (r5 : Val × Bool) (r6 : (List Rea)) (r7 : Rea) (r8 : Val × Bool) (r9 : Bool) (r10 : (List Rea)) (r11 : Bool) (r12 : Rea) (r13 : Bool) (r14 : Int × (List Rea)) (r15 : Int × (List Val) × (List Str) × (List Rowd)) : rE I5 (xAq a0 a1) [F, F, F, F, F, F, Y, Y, Y] [xAk r1, xAl r2, xAa r3, xAb r4, xAm r5, xAa r6, xAb r7, xAe r8, xAc r9, xAa r10, xAs r11, xAb r12, xAp r13, xAu r14, xAx r15] = dn (xAr false) [AbC 19 (xAC a0 1048576) (xAk r1), (decide ((r1 : Int) < 0)) = false, AbC 20 (xAB a1 r1) (xAl r2), (decide ((r2 : Int) < 0)) = false, AbC 22 (xAd a0) (xAa r3), AbC 23 (xAh a1) (xAb r4), AbC 21 (xAH r3 r4) (xAm r5), AbC 22 (xAd a0) (xAa r6), AbC 23 (xAh a1) (xAb r7), AbC 24 (xAw r6 r7) (xAe r8), AbC 14 (xAf r8.1 r5.1) (xAc r9), (!r9) = false, (!((r8.2 : Bool) == r5.2)) = false, AbC 22 (xAd a0) (xAa r10), AbC 25 (xAP r6 r10) (xAs r11), (!r11) = false, AbC 23 (xAh a1) (xAb r12), AbC 26 (xAF r7 r12) (xAp r13), (!r13) = false, AbC 27 (xAT r6 1) (xAu r14), Ln r14.2 = Ln r6, AbC 28 (xAY r7 r14.1) (xAx r15), Ln r15.2.1 = Ln (Val.list (Rea.result r7)), Ln r15.2.2.1 = Ln (Val.columns (Rea.result r7)), Ln r15.2.2.2 = Ln (Val.rows (Rea.result r7)), (decide ((r15.1 : Int) < 0)) = true, true = true, true = true] := by kernel_rfl
theorem p5_e_7 (a0 : List Rea) (a1 : Rea) (r1 r2 : Int) (r3 : (List Rea)) (r4 : Rea) (r5 : Val × Bool) (r6 : (List Rea)) (r7 : Rea) (r8 : Val × Bool) (r9 : Bool) (r10 : (List Rea)) (r11 : Bool) (r12 : Rea) (r13 : Bool) (r14 : Int × (List Rea)) (r15 : Int × (List Val) × (List Str) × (List Rowd)) (r16 : Bool) : rE I5 (xAq a0 a1) [F, F, F, F, F, F, F, Y, Y] [xAk r1, xAl r2, xAa r3, xAb r4, xAm r5, xAa r6, xAb r7, xAe r8, xAc r9, xAa r10, xAs r11, xAb r12, xAp r13, xAu r14, xAx r15, xAc r16] = dn (xAr false) [AbC 19 (xAC a0 1048576) (xAk r1), (decide ((r1 : Int) < 0)) = false, AbC 20 (xAB a1 r1) (xAl r2), (decide ((r2 : Int) < 0)) = false, AbC 22 (xAd a0) (xAa r3), AbC 23 (xAh a1) (xAb r4), AbC 21 (xAH r3 r4) (xAm r5), AbC 22 (xAd a0) (xAa r6), AbC 23 (xAh a1) (xAb r7), AbC 24 (xAw r6 r7) (xAe r8), AbC 14 (xAf r8.1 r5.1) (xAc r9), (!r9) = false, (!((r8.2 : Bool) == r5.2)) = false, AbC 22 (xAd a0) (xAa r10), AbC 25 (xAP r6 r10) (xAs r11), (!r11) = false, AbC 23 (xAh a1) (xAb r12), AbC 26 (xAF r7 r12) (xAp r13), (!r13) = false, AbC 27 (xAT r6 1) (xAu r14), Ln r14.2 = Ln r6, AbC 28 (xAY r7 r14.1) (xAx r15), Ln r15.2.1 = Ln (Val.list (Rea.result r7)), Ln r15.2.2.1 = Ln (Val.columns (Rea.result r7)), Ln r15.2.2.2 = Ln (Val.rows (Rea.result r7)), (decide ((r15.1 : Int) < 0)) = false, AbC 14 (xAf r8.1 r5.1) (xAc r16), (!r16) = true, true = true] := by kernel_rfl
theorem p5_e_8 (a0 : List Rea) (a1 : Rea) (r1 r2 : Int) (r3 : (List Rea)) (r4 : Rea) (r5 : Val × Bool) (r6 : (List Rea)) (r7 : Rea) (r8 : Val × Bool) (r9 : Bool) (r10 : (List Rea)) (r11 : Bool) (r12 : Rea) (r13 : Bool) (r14 : Int × (List Rea)) (r15 : Int × (List Val) × (List Str) × (List Rowd)) (r16 : Bool) (r17 : Int × (List Val) × (List Str) × (List Rowd)) (r18 : Int) : rE I5 (xAq a0 a1) [F, F, F, F, F, F, F, F, F, Y] [xAk r1, xAl r2, xAa r3, xAb r4, xAm r5, xAa r6, xAb r7, xAe r8, xAc r9, xAa r10, xAs r11, xAb r12, xAp r13, xAu r14, xAx r15, xAc r16, xAz r17, xAn r18] = dn (xAr false) [AbC 19 (xAC a0 1048576) (xAk r1), (decide ((r1 : Int) < 0)) = false, AbC 20 (xAB a1 r1) (xAl r2), (decide ((r2 : Int) < 0)) = false, AbC 22 (xAd a0) (xAa r3), AbC 23 (xAh a1) (xAb r4), AbC 21 (xAH r3 r4) (xAm r5), AbC 22 (xAd a0) (xAa r6), AbC 23 (xAh a1) (xAb r7), AbC 24 (xAw r6 r7) (xAe r8), AbC 14 (xAf r8.1 r5.1) (xAc r9), (!r9) = false, (!((r8.2 : Bool) == r5.2)) = false, AbC 22 (xAd a0) (xAa r10), AbC 25 (xAP r6 r10) (xAs r11), (!r11) = false, AbC 23 (xAh a1) (xAb r12), AbC 26 (xAF r7 r12) (xAp r13), (!r13) = false, AbC 27 (xAT r6 1) (xAu r14), Ln r14.2 = Ln r6, AbC 28 (xAY r7 r14.1) (xAx r15), Ln r15.2.1 = Ln (Val.list (Rea.result r7)), Ln r15.2.2.1 = Ln (Val.columns (Rea.result r7)), Ln r15.2.2.2 = Ln (Val.rows (Rea.result r7)), (decide ((r15.1 : Int) < 0)) = false, AbC 14 (xAf r8.1 r5.1) (xAc r16), (!r16) = false, (!((r8.2 : Bool) == r5.2)) = false, AbC 15 (xAZ r8.1 1) (xAz r17), Ln r17.2.1 = Ln (Val.list r8.1), Ln r17.2.2.1 = Ln (Val.columns r8.1), Ln r17.2.2.2 = Ln (Val.rows r8.1), AbC 16 (xAD (Val.mk (Val.kind r8.1) (Val.n r8.1) (Val.step r8.1) (Val.text r8.1) r17.2.1 r17.2.2.1 r17.2.2.2) 1) (xAn r18), (decide ((r18 : Int) < 0)) = true] := by kernel_rfl
theorem p5_e_9 (a0 : List Rea) (a1 : Rea) (r1 r2 : Int) (r3 : (List Rea)) (r4 : Rea) (r5 : Val × Bool) (r6 : (List Rea)) (r7 : Rea) (r8 : Val × Bool) (r9 : Bool) (r10 : (List Rea)) (r11 : Bool) (r12 : Rea) (r13 : Bool) (r14 : Int × (List Rea)) (r15 : Int × (List Val) × (List Str) × (List Rowd)) (r16 : Bool) (r17 : Int × (List Val) × (List Str) × (List Rowd)) (r18 : Int) : rE I5 (xAq a0 a1) [F, F, F, F, F, F, F, F, F, F, Y] [xAk r1, xAl r2, xAa r3, xAb r4, xAm r5, xAa r6, xAb r7, xAe r8, xAc r9, xAa r10, xAs r11, xAb r12, xAp r13, xAu r14, xAx r15, xAc r16, xAz r17, xAn r18] = dn (xAr false) [AbC 19 (xAC a0 1048576) (xAk r1), (decide ((r1 : Int) < 0)) = false, AbC 20 (xAB a1 r1) (xAl r2), (decide ((r2 : Int) < 0)) = false, AbC 22 (xAd a0) (xAa r3), AbC 23 (xAh a1) (xAb r4), AbC 21 (xAH r3 r4) (xAm r5), AbC 22 (xAd a0) (xAa r6), AbC 23 (xAh a1) (xAb r7), AbC 24 (xAw r6 r7) (xAe r8), AbC 14 (xAf r8.1 r5.1) (xAc r9), (!r9) = false, (!((r8.2 : Bool) == r5.2)) = false, AbC 22 (xAd a0) (xAa r10), AbC 25 (xAP r6 r10) (xAs r11), (!r11) = false, AbC 23 (xAh a1) (xAb r12), AbC 26 (xAF r7 r12) (xAp r13), (!r13) = false, AbC 27 (xAT r6 1) (xAu r14), Ln r14.2 = Ln r6, AbC 28 (xAY r7 r14.1) (xAx r15), Ln r15.2.1 = Ln (Val.list (Rea.result r7)), Ln r15.2.2.1 = Ln (Val.columns (Rea.result r7)), Ln r15.2.2.2 = Ln (Val.rows (Rea.result r7)), (decide ((r15.1 : Int) < 0)) = false, AbC 14 (xAf r8.1 r5.1) (xAc r16), (!r16) = false, (!((r8.2 : Bool) == r5.2)) = false, AbC 15 (xAZ r8.1 1) (xAz r17), Ln r17.2.1 = Ln (Val.list r8.1), Ln r17.2.2.1 = Ln (Val.columns r8.1), Ln r17.2.2.2 = Ln (Val.rows r8.1), AbC 16 (xAD (Val.mk (Val.kind r8.1) (Val.n r8.1) (Val.step r8.1) (Val.text r8.1) r17.2.1 r17.2.2.1 r17.2.2.2) 1) (xAn r18), (decide ((r18 : Int) < 0)) = false, ((r18 : Int) != r17.1) = true] := by kernel_rfl
theorem p5_e_10 (a0 : List Rea) (a1 : Rea) (r1 r2 : Int) (r3 : (List Rea)) (r4 : Rea) (r5 : Val × Bool) (r6 : (List Rea)) (r7 : Rea) (r8 : Val × Bool) (r9 : Bool) (r10 : (List Rea)) (r11 : Bool) (r12 : Rea) (r13 : Bool) (r14 : Int × (List Rea)) (r15 : Int × (List Val) × (List Str) × (List Rowd)) (r16 : Bool) (r17 : Int × (List Val) × (List Str) × (List Rowd)) (r18 : Int) (r19 : (List Rea)) (r20 : Rea) (r21 : Val × Bool) (r22 : Bool) : rE I5 (xAq a0 a1) [F, F, F, F, F, F, F, F, F, F, F, Y, Y] [xAk r1, xAl r2, xAa r3, xAb r4, xAm r5, xAa r6, xAb r7, xAe r8, xAc r9, xAa r10, xAs r11, xAb r12, xAp r13, xAu r14, xAx r15, xAc r16, xAz r17, xAn r18, xAa r19, xAb r20, xAe r21, xAc r22] = dn (xAr false) [AbC 19 (xAC a0 1048576) (xAk r1), (decide ((r1 : Int) < 0)) = false, AbC 20 (xAB a1 r1) (xAl r2), (decide ((r2 : Int) < 0)) = false, AbC 22 (xAd a0) (xAa r3), AbC 23 (xAh a1) (xAb r4), AbC 21 (xAH r3 r4) (xAm r5), AbC 22 (xAd a0) (xAa r6), AbC 23 (xAh a1) (xAb r7), AbC 24 (xAw r6 r7) (xAe r8), AbC 14 (xAf r8.1 r5.1) (xAc r9), (!r9) = false, (!((r8.2 : Bool) == r5.2)) = false, AbC 22 (xAd a0) (xAa r10), AbC 25 (xAP r6 r10) (xAs r11), (!r11) = false, AbC 23 (xAh a1) (xAb r12), AbC 26 (xAF r7 r12) (xAp r13), (!r13) = false, AbC 27 (xAT r6 1) (xAu r14), Ln r14.2 = Ln r6, AbC 28 (xAY r7 r14.1) (xAx r15), Ln r15.2.1 = Ln (Val.list (Rea.result r7)), Ln r15.2.2.1 = Ln (Val.columns (Rea.result r7)), Ln r15.2.2.2 = Ln (Val.rows (Rea.result r7)), (decide ((r15.1 : Int) < 0)) = false, AbC 14 (xAf r8.1 r5.1) (xAc r16), (!r16) = false, (!((r8.2 : Bool) == r5.2)) = false, AbC 15 (xAZ r8.1 1) (xAz r17), Ln r17.2.1 = Ln (Val.list r8.1), Ln r17.2.2.1 = Ln (Val.columns r8.1), Ln r17.2.2.2 = Ln (Val.rows r8.1), AbC 16 (xAD (Val.mk (Val.kind r8.1) (Val.n r8.1) (Val.step r8.1) (Val.text r8.1) r17.2.1 r17.2.2.1 r17.2.2.2) 1) (xAn r18), (decide ((r18 : Int) < 0)) = false, ((r18 : Int) != r17.1) = false, AbC 22 (xAd a0) (xAa r19), AbC 23 (xAh a1) (xAb r20), AbC 24 (xAw r19 r20) (xAe r21), AbC 14 (xAf r21.1 r5.1) (xAc r22), (!r22) = true, true = true] := by kernel_rfl
theorem p5_e_11 (a0 : List Rea) (a1 : Rea) (r1 r2 : Int) (r3 : (List Rea)) (r4 : Rea) (r5 : Val × Bool) (r6 : (List Rea)) (r7 : Rea) (r8 : Val × Bool) (r9 : Bool) (r10 : (List Rea)) (r11 : Bool) (r12 : Rea) (r13 : Bool) (r14 : Int × (List Rea)) (r15 : Int × (List Val) × (List Str) × (List Rowd)) (r16 : Bool) (r17 : Int × (List Val) × (List Str) × (List Rowd)) (r18 : Int) (r19 : (List Rea)) (r20 : Rea) (r21 : Val × Bool) (r22 : Bool) : rE I5 (xAq a0 a1) [F, F, F, F, F, F, F, F, F, F, F, F, Y] [xAk r1, xAl r2, xAa r3, xAb r4, xAm r5, xAa r6, xAb r7, xAe r8, xAc r9, xAa r10, xAs r11, xAb r12, xAp r13, xAu r14, xAx r15, xAc r16, xAz r17, xAn r18, xAa r19, xAb r20, xAe r21, xAc r22] = dn (xAr false) [AbC 19 (xAC a0 1048576) (xAk r1), (decide ((r1 : Int) < 0)) = false, AbC 20 (xAB a1 r1) (xAl r2), (decide ((r2 : Int) < 0)) = false, AbC 22 (xAd a0) (xAa r3), AbC 23 (xAh a1) (xAb r4), AbC 21 (xAH r3 r4) (xAm r5), AbC 22 (xAd a0) (xAa r6), AbC 23 (xAh a1) (xAb r7), AbC 24 (xAw r6 r7) (xAe r8), AbC 14 (xAf r8.1 r5.1) (xAc r9), (!r9) = false, (!((r8.2 : Bool) == r5.2)) = false, AbC 22 (xAd a0) (xAa r10), AbC 25 (xAP r6 r10) (xAs r11), (!r11) = false, AbC 23 (xAh a1) (xAb r12), AbC 26 (xAF r7 r12) (xAp r13), (!r13) = false, AbC 27 (xAT r6 1) (xAu r14), Ln r14.2 = Ln r6, AbC 28 (xAY r7 r14.1) (xAx r15), Ln r15.2.1 = Ln (Val.list (Rea.result r7)), Ln r15.2.2.1 = Ln (Val.columns (Rea.result r7)), Ln r15.2.2.2 = Ln (Val.rows (Rea.result r7)), (decide ((r15.1 : Int) < 0)) = false, AbC 14 (xAf r8.1 r5.1) (xAc r16), (!r16) = false, (!((r8.2 : Bool) == r5.2)) = false, AbC 15 (xAZ r8.1 1) (xAz r17), Ln r17.2.1 = Ln (Val.list r8.1), Ln r17.2.2.1 = Ln (Val.columns r8.1), Ln r17.2.2.2 = Ln (Val.rows r8.1), AbC 16 (xAD (Val.mk (Val.kind r8.1) (Val.n r8.1) (Val.step r8.1) (Val.text r8.1) r17.2.1 r17.2.2.1 r17.2.2.2) 1) (xAn r18), (decide ((r18 : Int) < 0)) = false, ((r18 : Int) != r17.1) = false, AbC 22 (xAd a0) (xAa r19), AbC 23 (xAh a1) (xAb r20), AbC 24 (xAw r19 r20) (xAe r21), AbC 14 (xAf r21.1 r5.1) (xAc r22), (!r22) = false, (!((r21.2 : Bool) == r5.2)) = true] := by kernel_rfl
theorem p5_e_12 (a0 : List Rea) (a1 : Rea) (r1 r2 : Int) (r3 : (List Rea)) (r4 : Rea) (r5 : Val × Bool) (r6 : (List Rea)) (r7 : Rea) (r8 : Val × Bool) (r9 : Bool) (r10 : (List Rea)) (r11 : Bool) (r12 : Rea) (r13 : Bool) (r14 : Int × (List Rea)) (r15 : Int × (List Val) × (List Str) × (List Rowd)) (r16 : Bool) (r17 : Int × (List Val) × (List Str) × (List Rowd)) (r18 : Int) (r19 : (List Rea)) (r20 : Rea) (r21 : Val × Bool) (r22 : Bool) (r23 : Int) : rE I5 (xAq a0 a1) [F, F, F, F, F, F, F, F, F, F, F, F, F, Y] [xAk r1, xAl r2, xAa r3, xAb r4, xAm r5, xAa r6, xAb r7, xAe r8, xAc r9, xAa r10, xAs r11, xAb r12, xAp r13, xAu r14, xAx r15, xAc r16, xAz r17, xAn r18, xAa r19, xAb r20, xAe r21, xAc r22, xAn r23] = dn (xAr false) [AbC 19 (xAC a0 1048576) (xAk r1), (decide ((r1 : Int) < 0)) = false, AbC 20 (xAB a1 r1) (xAl r2), (decide ((r2 : Int) < 0)) = false, AbC 22 (xAd a0) (xAa r3), AbC 23 (xAh a1) (xAb r4), AbC 21 (xAH r3 r4) (xAm r5), AbC 22 (xAd a0) (xAa r6), AbC 23 (xAh a1) (xAb r7), AbC 24 (xAw r6 r7) (xAe r8), AbC 14 (xAf r8.1 r5.1) (xAc r9), (!r9) = false, (!((r8.2 : Bool) == r5.2)) = false, AbC 22 (xAd a0) (xAa r10), AbC 25 (xAP r6 r10) (xAs r11), (!r11) = false, AbC 23 (xAh a1) (xAb r12), AbC 26 (xAF r7 r12) (xAp r13), (!r13) = false, AbC 27 (xAT r6 1) (xAu r14), Ln r14.2 = Ln r6, AbC 28 (xAY r7 r14.1) (xAx r15), Ln r15.2.1 = Ln (Val.list (Rea.result r7)), Ln r15.2.2.1 = Ln (Val.columns (Rea.result r7)), Ln r15.2.2.2 = Ln (Val.rows (Rea.result r7)), (decide ((r15.1 : Int) < 0)) = false, AbC 14 (xAf r8.1 r5.1) (xAc r16), (!r16) = false, (!((r8.2 : Bool) == r5.2)) = false, AbC 15 (xAZ r8.1 1) (xAz r17), Ln r17.2.1 = Ln (Val.list r8.1), Ln r17.2.2.1 = Ln (Val.columns r8.1), Ln r17.2.2.2 = Ln (Val.rows r8.1), AbC 16 (xAD (Val.mk (Val.kind r8.1) (Val.n r8.1) (Val.step r8.1) (Val.text r8.1) r17.2.1 r17.2.2.1 r17.2.2.2) 1) (xAn r18), (decide ((r18 : Int) < 0)) = false, ((r18 : Int) != r17.1) = false, AbC 22 (xAd a0) (xAa r19), AbC 23 (xAh a1) (xAb r20), AbC 24 (xAw r19 r20) (xAe r21), AbC 14 (xAf r21.1 r5.1) (xAc r22), (!r22) = false, (!((r21.2 : Bool) == r5.2)) = false, AbC 16 (xAD (Val.mk (Val.kind r8.1) (Val.n r8.1) (Val.step r8.1) (Val.text r8.1) r17.2.1 r17.2.2.1 r17.2.2.2) 1) (xAn r23), (decide ((r23 : Int) < 0)) = true] := by kernel_rfl
theorem p5_e_13 (a0 : List Rea) (a1 : Rea) (r1 r2 : Int) (r3 : (List Rea)) (r4 : Rea) (r5 : Val × Bool) (r6 : (List Rea)) (r7 : Rea) (r8 : Val × Bool) (r9 : Bool) (r10 : (List Rea)) (r11 : Bool) (r12 : Rea) (r13 : Bool) (r14 : Int × (List Rea)) (r15 : Int × (List Val) × (List Str) × (List Rowd)) (r16 : Bool) (r17 : Int × (List Val) × (List Str) × (List Rowd)) (r18 : Int) (r19 : (List Rea)) (r20 : Rea) (r21 : Val × Bool) (r22 : Bool) (r23 : Int) : rE I5 (xAq a0 a1) [F, F, F, F, F, F, F, F, F, F, F, F, F, F, Y] [xAk r1, xAl r2, xAa r3, xAb r4, xAm r5, xAa r6, xAb r7, xAe r8, xAc r9, xAa r10, xAs r11, xAb r12, xAp r13, xAu r14, xAx r15, xAc r16, xAz r17, xAn r18, xAa r19, xAb r20, xAe r21, xAc r22, xAn r23] = dn (xAr false) [AbC 19 (xAC a0 1048576) (xAk r1), (decide ((r1 : Int) < 0)) = false, AbC 20 (xAB a1 r1) (xAl r2), (decide ((r2 : Int) < 0)) = false, AbC 22 (xAd a0) (xAa r3), AbC 23 (xAh a1) (xAb r4), AbC 21 (xAH r3 r4) (xAm r5), AbC 22 (xAd a0) (xAa r6), AbC 23 (xAh a1) (xAb r7), AbC 24 (xAw r6 r7) (xAe r8), AbC 14 (xAf r8.1 r5.1) (xAc r9), (!r9) = false, (!((r8.2 : Bool) == r5.2)) = false, AbC 22 (xAd a0) (xAa r10), AbC 25 (xAP r6 r10) (xAs r11), (!r11) = false, AbC 23 (xAh a1) (xAb r12), AbC 26 (xAF r7 r12) (xAp r13), (!r13) = false, AbC 27 (xAT r6 1) (xAu r14), Ln r14.2 = Ln r6, AbC 28 (xAY r7 r14.1) (xAx r15), Ln r15.2.1 = Ln (Val.list (Rea.result r7)), Ln r15.2.2.1 = Ln (Val.columns (Rea.result r7)), Ln r15.2.2.2 = Ln (Val.rows (Rea.result r7)), (decide ((r15.1 : Int) < 0)) = false, AbC 14 (xAf r8.1 r5.1) (xAc r16), (!r16) = false, (!((r8.2 : Bool) == r5.2)) = false, AbC 15 (xAZ r8.1 1) (xAz r17), Ln r17.2.1 = Ln (Val.list r8.1), Ln r17.2.2.1 = Ln (Val.columns r8.1), Ln r17.2.2.2 = Ln (Val.rows r8.1), AbC 16 (xAD (Val.mk (Val.kind r8.1) (Val.n r8.1) (Val.step r8.1) (Val.text r8.1) r17.2.1 r17.2.2.1 r17.2.2.2) 1) (xAn r18), (decide ((r18 : Int) < 0)) = false, ((r18 : Int) != r17.1) = false, AbC 22 (xAd a0) (xAa r19), AbC 23 (xAh a1) (xAb r20), AbC 24 (xAw r19 r20) (xAe r21), AbC 14 (xAf r21.1 r5.1) (xAc r22), (!r22) = false, (!((r21.2 : Bool) == r5.2)) = false, AbC 16 (xAD (Val.mk (Val.kind r8.1) (Val.n r8.1) (Val.step r8.1) (Val.text r8.1) r17.2.1 r17.2.2.1 r17.2.2.2) 1) (xAn r23), (decide ((r23 : Int) < 0)) = false, ((r23 : Int) != r17.1) = true] := by kernel_rfl
theorem p5_e_14 (a0 : List Rea) (a1 : Rea) (r1 r2 : Int) (r3 : (List Rea)) (r4 : Rea) (r5 : Val × Bool) (r6 : (List Rea)) (r7 : Rea) (r8 : Val × Bool) (r9 : Bool) (r10 : (List Rea)) (r11 : Bool) (r12 : Rea) (r13 : Bool) (r14 : Int × (List Rea)) (r15 : Int × (List Val) × (List Str) × (List Rowd)) (r16 : Bool) (r17 : Int × (List Val) × (List Str) × (List Rowd)) (r18 : Int) (r19 : (List Rea)) (r20 : Rea) (r21 : Val × Bool) (r22 : Bool) (r23 : Int) : rE I5 (xAq a0 a1) [F, F, F, F, F, F, F, F, F, F, F, F, F, F, F] [xAk r1, xAl r2, xAa r3, xAb r4, xAm r5, xAa r6, xAb r7, xAe r8, xAc r9, xAa r10, xAs r11, xAb r12, xAp r13, xAu r14, xAx r15, xAc r16, xAz r17, xAn r18, xAa r19, xAb r20, xAe r21, xAc r22, xAn r23] = dn (xAr true) [AbC 19 (xAC a0 1048576) (xAk r1), (decide ((r1 : Int) < 0)) = false, AbC 20 (xAB a1 r1) (xAl r2), (decide ((r2 : Int) < 0)) = false, AbC 22 (xAd a0) (xAa r3), AbC 23 (xAh a1) (xAb r4), AbC 21 (xAH r3 r4) (xAm r5), AbC 22 (xAd a0) (xAa r6), AbC 23 (xAh a1) (xAb r7), AbC 24 (xAw r6 r7) (xAe r8), AbC 14 (xAf r8.1 r5.1) (xAc r9), (!r9) = false, (!((r8.2 : Bool) == r5.2)) = false, AbC 22 (xAd a0) (xAa r10), AbC 25 (xAP r6 r10) (xAs r11), (!r11) = false, AbC 23 (xAh a1) (xAb r12), AbC 26 (xAF r7 r12) (xAp r13), (!r13) = false, AbC 27 (xAT r6 1) (xAu r14), Ln r14.2 = Ln r6, AbC 28 (xAY r7 r14.1) (xAx r15), Ln r15.2.1 = Ln (Val.list (Rea.result r7)), Ln r15.2.2.1 = Ln (Val.columns (Rea.result r7)), Ln r15.2.2.2 = Ln (Val.rows (Rea.result r7)), (decide ((r15.1 : Int) < 0)) = false, AbC 14 (xAf r8.1 r5.1) (xAc r16), (!r16) = false, (!((r8.2 : Bool) == r5.2)) = false, AbC 15 (xAZ r8.1 1) (xAz r17), Ln r17.2.1 = Ln (Val.list r8.1), Ln r17.2.2.1 = Ln (Val.columns r8.1), Ln r17.2.2.2 = Ln (Val.rows r8.1), AbC 16 (xAD (Val.mk (Val.kind r8.1) (Val.n r8.1) (Val.step r8.1) (Val.text r8.1) r17.2.1 r17.2.2.1 r17.2.2.2) 1) (xAn r18), (decide ((r18 : Int) < 0)) = false, ((r18 : Int) != r17.1) = false, AbC 22 (xAd a0) (xAa r19), AbC 23 (xAh a1) (xAb r20), AbC 24 (xAw r19 r20) (xAe r21), AbC 14 (xAf r21.1 r5.1) (xAc r22), (!r22) = false, (!((r21.2 : Bool) == r5.2)) = false, AbC 16 (xAD (Val.mk (Val.kind r8.1) (Val.n r8.1) (Val.step r8.1) (Val.text r8.1) r17.2.1 r17.2.2.1 r17.2.2.2) 1) (xAn r23), (decide ((r23 : Int) < 0)) = false, ((r23 : Int) != r17.1) = false] := by kernel_rfl
theorem c5_e {N : Nat} : ∀ a0 a1 r, xBu N a0 a1 = some r → RE Try.f5 I5 (xAq a0 a1) (xAr r) := fun a0 a1 r h =>
 bE h fun r1 h0 h => cE h (fun h1 h => dE h fk5 (p5_e_0 a0 a1 r1) (oc (xAQ h0) (oc h1 on))) fun h1 h =>
 bE h fun r2 h2 h => cE h (fun h3 h => dE h fk5 (p5_e_1 a0 a1 r1 r2) (oc (xAQ h0) (oc h1 (oc (xAR h2) (oc h3 on))))) fun h3 h =>
 bE h fun r3 h4 h => bE h fun r4 h5 h => bE h fun r5 h6 h => bE h fun r6 h7 h => bE h fun r7 h8 h => bE h fun r8 h9 h => bE h fun r9 h10 h => cE h (fun h11 h => dE h fk5 (p5_e_2 a0 a1 r1 r2 r3 r4 r5 r6 r7 r8 r9) (oc (xAQ h0) (oc h1 (oc (xAR h2) (oc h3 (oc (xAg h4) (oc (xAi h5) (oc (xAV h6) (oc (xAg h7) (oc (xAi h8) (oc (xAA h9) (oc (xAt h10) (oc h11 (oc rfl on)))))))))))))) fun h11 h =>
 cE h (fun h12 h => dE h fk5 (p5_e_3 a0 a1 r1 r2 r3 r4 r5 r6 r7 r8 r9) (oc (xAQ h0) (oc h1 (oc (xAR h2) (oc h3 (oc (xAg h4) (oc (xAi h5) (oc (xAV h6) (oc (xAg h7) (oc (xAi h8) (oc (xAA h9) (oc (xAt h10) (oc h11 (oc h12 on)))))))))))))) fun h12 h =>
 bE h fun r10 h13 h => bE h fun r11 h14 h => cE h (fun h15 h => dE h fk5 (p5_e_4 a0 a1 r1 r2 r3 r4 r5 r6 r7 r8 r9 r10 r11) (oc (xAQ h0) (oc h1 (oc (xAR h2) (oc h3 (oc (xAg h4) (oc (xAi h5) (oc (xAV h6) (oc (xAg h7) (oc (xAi h8) (oc (xAA h9) (oc (xAt h10) (oc h11 (oc h12 (oc (xAg h13) (oc (xA9 h14) (oc h15 on))))))))))))))))) fun h15 h =>
 bE h fun r12 h16 h => bE h fun r13 h17 h => cE h (fun h18 h => dE h fk5 (p5_e_5 a0 a1 r1 r2 r3 r4 r5 r6 r7 r8 r9 r10 r11 r12 r13) (oc (xAQ h0) (oc h1 (oc (xAR h2) (oc h3 (oc (xAg h4) (oc (xAi h5) (oc (xAV h6) (oc (xAg h7) (oc (xAi h8) (oc (xAA h9) (oc (xAt h10) (oc h11 (oc h12 (oc (xAg h13) (oc (xA9 h14) (oc h15 (oc (xAi h16) (oc (xBc h17) (oc h18 on)))))))))))))))))))) fun h18 h =>
 bE h fun r14 h19 h => iE h fun h20 h => bE h fun r15 h21 h => iE h fun h22 h => iE h fun h23 h => iE h fun h24 h => cE h (fun h25 h => dE h fk5 (p5_e_6 a0 a1 r1 r2 r3 r4 r5 r6 r7 r8 r9 r10 r11 r12 r13 r14 r15) (oc (xAQ h0) (oc h1 (oc (xAR h2) (oc h3 (oc (xAg h4) (oc (xAi h5) (oc (xAV h6) (oc (xAg h7) (oc (xAi h8) (oc (xAA h9) (oc (xAt h10) (oc h11 (oc h12 (oc (xAg h13) (oc (xA9 h14) (oc h15 (oc (xAi h16) (oc (xBc h17) (oc h18 (oc (xBe h19) (oc h20 (oc (xBl h21) (oc h22 (oc h23 (oc h24 (oc h25 (oc rfl (oc rfl on))))))))))))))))))))))))))))) fun h25 h =>
 bE h fun r16 h26 h => cE h (fun h27 h => dE h fk5 (p5_e_7 a0 a1 r1 r2 r3 r4 r5 r6 r7 r8 r9 r10 r11 r12 r13 r14 r15 r16) (oc (xAQ h0) (oc h1 (oc (xAR h2) (oc h3 (oc (xAg h4) (oc (xAi h5) (oc (xAV h6) (oc (xAg h7) (oc (xAi h8) (oc (xAA h9) (oc (xAt h10) (oc h11 (oc h12 (oc (xAg h13) (oc (xA9 h14) (oc h15 (oc (xAi h16) (oc (xBc h17) (oc h18 (oc (xBe h19) (oc h20 (oc (xBl h21) (oc h22 (oc h23 (oc h24 (oc h25 (oc (xAt h26) (oc h27 (oc rfl on)))))))))))))))))))))))))))))) fun h27 h =>
 bE h fun r17 h29 h => iE h fun h30 h => iE h fun h31 h => iE h fun h32 h => bE h fun r18 h33 h => cE h (fun h34 h => dE h fk5 (p5_e_8 a0 a1 r1 r2 r3 r4 r5 r6 r7 r8 r9 r10 r11 r12 r13 r14 r15 r16 r17 r18) (oc (xAQ h0) (oc h1 (oc (xAR h2) (oc h3 (oc (xAg h4) (oc (xAi h5) (oc (xAV h6) (oc (xAg h7) (oc (xAi h8) (oc (xAA h9) (oc (xAt h10) (oc h11 (oc h12 (oc (xAg h13) (oc (xA9 h14) (oc h15 (oc (xAi h16) (oc (xBc h17) (oc h18 (oc (xBe h19) (oc h20 (oc (xBl h21) (oc h22 (oc h23 (oc h24 (oc h25 (oc (xAt h26) (oc h27 (oc h12 (oc (xBn h29) (oc h30 (oc h31 (oc h32 (oc (xA8 h33) (oc h34 on)))))))))))))))))))))))))))))))))))) fun h34 h =>
 cE h (fun h35 h => dE h fk5 (p5_e_9 a0 a1 r1 r2 r3 r4 r5 r6 r7 r8 r9 r10 r11 r12 r13 r14 r15 r16 r17 r18) (oc (xAQ h0) (oc h1 (oc (xAR h2) (oc h3 (oc (xAg h4) (oc (xAi h5) (oc (xAV h6) (oc (xAg h7) (oc (xAi h8) (oc (xAA h9) (oc (xAt h10) (oc h11 (oc h12 (oc (xAg h13) (oc (xA9 h14) (oc h15 (oc (xAi h16) (oc (xBc h17) (oc h18 (oc (xBe h19) (oc h20 (oc (xBl h21) (oc h22 (oc h23 (oc h24 (oc h25 (oc (xAt h26) (oc h27 (oc h12 (oc (xBn h29) (oc h30 (oc h31 (oc h32 (oc (xA8 h33) (oc h34 (oc h35 on))))))))))))))))))))))))))))))))))))) fun h35 h =>
 bE h fun r19 h36 h => bE h fun r20 h37 h => bE h fun r21 h38 h => bE h fun r22 h39 h => cE h (fun h40 h => dE h fk5 (p5_e_10 a0 a1 r1 r2 r3 r4 r5 r6 r7 r8 r9 r10 r11 r12 r13 r14 r15 r16 r17 r18 r19 r20 r21 r22) (oc (xAQ h0) (oc h1 (oc (xAR h2) (oc h3 (oc (xAg h4) (oc (xAi h5) (oc (xAV h6) (oc (xAg h7) (oc (xAi h8) (oc (xAA h9) (oc (xAt h10) (oc h11 (oc h12 (oc (xAg h13) (oc (xA9 h14) (oc h15 (oc (xAi h16) (oc (xBc h17) (oc h18 (oc (xBe h19) (oc h20 (oc (xBl h21) (oc h22 (oc h23 (oc h24 (oc h25 (oc (xAt h26) (oc h27 (oc h12 (oc (xBn h29) (oc h30 (oc h31 (oc h32 (oc (xA8 h33) (oc h34 (oc h35 (oc (xAg h36) (oc (xAi h37) (oc (xAA h38) (oc (xAt h39) (oc h40 (oc rfl on))))))))))))))))))))))))))))))))))))))))))) fun h40 h =>
 cE h (fun h41 h => dE h fk5 (p5_e_11 a0 a1 r1 r2 r3 r4 r5 r6 r7 r8 r9 r10 r11 r12 r13 r14 r15 r16 r17 r18 r19 r20 r21 r22) (oc (xAQ h0) (oc h1 (oc (xAR h2) (oc h3 (oc (xAg h4) (oc (xAi h5) (oc (xAV h6) (oc (xAg h7) (oc (xAi h8) (oc (xAA h9) (oc (xAt h10) (oc h11 (oc h12 (oc (xAg h13) (oc (xA9 h14) (oc h15 (oc (xAi h16) (oc (xBc h17) (oc h18 (oc (xBe h19) (oc h20 (oc (xBl h21) (oc h22 (oc h23 (oc h24 (oc h25 (oc (xAt h26) (oc h27 (oc h12 (oc (xBn h29) (oc h30 (oc h31 (oc h32 (oc (xA8 h33) (oc h34 (oc h35 (oc (xAg h36) (oc (xAi h37) (oc (xAA h38) (oc (xAt h39) (oc h40 (oc h41 on))))))))))))))))))))))))))))))))))))))))))) fun h41 h =>
 bE h fun r23 h42 h => cE h (fun h43 h => dE h fk5 (p5_e_12 a0 a1 r1 r2 r3 r4 r5 r6 r7 r8 r9 r10 r11 r12 r13 r14 r15 r16 r17 r18 r19 r20 r21 r22 r23) (oc (xAQ h0) (oc h1 (oc (xAR h2) (oc h3 (oc (xAg h4) (oc (xAi h5) (oc (xAV h6) (oc (xAg h7) (oc (xAi h8) (oc (xAA h9) (oc (xAt h10) (oc h11 (oc h12 (oc (xAg h13) (oc (xA9 h14) (oc h15 (oc (xAi h16) (oc (xBc h17) (oc h18 (oc (xBe h19) (oc h20 (oc (xBl h21) (oc h22 (oc h23 (oc h24 (oc h25 (oc (xAt h26) (oc h27 (oc h12 (oc (xBn h29) (oc h30 (oc h31 (oc h32 (oc (xA8 h33) (oc h34 (oc h35 (oc (xAg h36) (oc (xAi h37) (oc (xAA h38) (oc (xAt h39) (oc h40 (oc h41 (oc (xA8 h42) (oc h43 on))))))))))))))))))))))))))))))))))))))))))))) fun h43 h =>
 cE h (fun h44 h => dE h fk5 (p5_e_13 a0 a1 r1 r2 r3 r4 r5 r6 r7 r8 r9 r10 r11 r12 r13 r14 r15 r16 r17 r18 r19 r20 r21 r22 r23) (oc (xAQ h0) (oc h1 (oc (xAR h2) (oc h3 (oc (xAg h4) (oc (xAi h5) (oc (xAV h6) (oc (xAg h7) (oc (xAi h8) (oc (xAA h9) (oc (xAt h10) (oc h11 (oc h12 (oc (xAg h13) (oc (xA9 h14) (oc h15 (oc (xAi h16) (oc (xBc h17) (oc h18 (oc (xBe h19) (oc h20 (oc (xBl h21) (oc h22 (oc h23 (oc h24 (oc h25 (oc (xAt h26) (oc h27 (oc h12 (oc (xBn h29) (oc h30 (oc h31 (oc h32 (oc (xA8 h33) (oc h34 (oc h35 (oc (xAg h36) (oc (xAi h37) (oc (xAA h38) (oc (xAt h39) (oc h40 (oc h41 (oc (xA8 h42) (oc h43 (oc h44 on)))))))))))))))))))))))))))))))))))))))))))))) fun h44 h =>
 dE h fk5 (p5_e_14 a0 a1 r1 r2 r3 r4 r5 r6 r7 r8 r9 r10 r11 r12 r13 r14 r15 r16 r17 r18 r19 r20 r21 r22 r23) (oc (xAQ h0) (oc h1 (oc (xAR h2) (oc h3 (oc (xAg h4) (oc (xAi h5) (oc (xAV h6) (oc (xAg h7) (oc (xAi h8) (oc (xAA h9) (oc (xAt h10) (oc h11 (oc h12 (oc (xAg h13) (oc (xA9 h14) (oc h15 (oc (xAi h16) (oc (xBc h17) (oc h18 (oc (xBe h19) (oc h20 (oc (xBl h21) (oc h22 (oc h23 (oc h24 (oc h25 (oc (xAt h26) (oc h27 (oc h12 (oc (xBn h29) (oc h30 (oc h31 (oc h32 (oc (xA8 h33) (oc h34 (oc h35 (oc (xAg h36) (oc (xAi h37) (oc (xAA h38) (oc (xAt h39) (oc h40 (oc h41 (oc (xA8 h42) (oc h43 (oc h44 on)))))))))))))))))))))))))))))))))))))))))))))
theorem laws_FnExactFindRead_ok {N : Nat} {a0 : List Rea} {a1 : Rea} {r : Bool} (h : xBu N  a0 a1 = some r) : AbC 5 (xAq a0 a1) (xAr r) :=
 AbsCalls.of_reach fk5 rfl rfl (Nat.le_of_ble_eq_true rfl) (c5_e a0 a1 r h)
end Go.Ab.T
end
section
namespace Go.Ab
set_option linter.unusedVariables false
def Big (p : Nat → Prop) : Prop := ∃ k, ∀ N, k ≤ N → p N
def Big2 (p : Nat → Nat → Prop) : Prop := ∃ k, ∀ N n, k ≤ N → k ≤ n → p N n
theorem Big.imp {p q : Nat → Prop} (h : Big p) (f : ∀ N, p N → q N) : Big q := h.elim fun k hk => ⟨k, fun N hN => f N (hk N hN)⟩
theorem Big2.imp {p q : Nat → Nat → Prop} (h : Big2 p) (f : ∀ N n, p N n → q N n) : Big2 q := h.elim fun k hk => ⟨k, fun N n h1 h2 => f N n (hk N n h1 h2)⟩
theorem Big.of {p : Nat → Prop} (h : ∀ N, p N) : Big p := ⟨0, fun N _ => h N⟩
theorem Big2.of {p : Nat → Nat → Prop} (h : ∀ N n, p N n) : Big2 p := ⟨0, fun N n _ _ => h N n⟩
theorem Big.and {p q : Nat → Prop} (h : Big p) (h' : Big q) : Big fun N => p N ∧ q N := by
  obtain ⟨a, ha⟩ := h; obtain ⟨b, hb⟩ := h'
  exact ⟨max a b, fun N hN => ⟨ha N (by omega), hb N (by omega)⟩⟩
theorem Big2.and {p q : Nat → Nat → Prop} (h : Big2 p) (h' : Big2 q) : Big2 fun N n => p N n ∧ q N n := by
  obtain ⟨a, ha⟩ := h; obtain ⟨b, hb⟩ := h'
  exact ⟨max a b, fun N n h1 h2 => ⟨ha N n (by omega) (by omega), hb N n (by omega) (by omega)⟩⟩
theorem Big.two {p : Nat → Prop} (h : Big p) : Big2 fun N _ => p N := h.elim fun k hk => ⟨k, fun N _ h _ => hk N h⟩
theorem Big2.diag {p : Nat → Nat → Prop} (h : Big2 p) : Big fun N => p N N := h.elim fun k hk => ⟨k, fun N h => hk N N h h⟩
theorem Big2.succ {p : Nat → Nat → Prop} (h : Big2 fun N n => p N (n + 1)) : Big2 p := by
  obtain ⟨k, hk⟩ := h
  refine ⟨k + 1, fun N n h1 h2 => ?_⟩
  obtain ⟨m, rfl⟩ : ∃ m, n = m + 1 := ⟨n - 1, by omega⟩
  exact hk N m (by omega) (by omega)
theorem Big.list {α : Type} {p : α → Nat → Prop} {l : List α} (h : ∀ x ∈ l, Big (p x)) : Big fun N => ∀ x ∈ l, p x N := by
  induction l with
  | nil => exact .of fun N x hx => by cases hx
  | cons a l ih =>
    refine ((h a List.mem_cons_self).and (ih fun x hx => h x (List.mem_cons_of_mem _ hx))).imp fun N ⟨h1, h2⟩ x hx => ?_
    rcases List.mem_cons.1 hx with rfl | hx
    · exact h1
    · exact h2 x hx
theorem Big2.list {α : Type} {p : α → Nat → Nat → Prop} {l : List α} (h : ∀ x ∈ l, Big2 (p x)) : Big2 fun N n => ∀ x ∈ l, p x N n := by
  induction l with
  | nil => exact .of fun N n x hx => by cases hx
  | cons a l ih =>
    refine ((h a List.mem_cons_self).and (ih fun x hx => h x (List.mem_cons_of_mem _ hx))).imp fun N n ⟨h1, h2⟩ x hx => ?_
    rcases List.mem_cons.1 hx with rfl | hx
    · exact h1
    · exact h2 x hx
theorem Big.get {p : Nat → Prop} (h : Big p) : ∃ N, p N := h.elim fun k hk => ⟨k, hk k (Nat.le_refl k)⟩
def I64 (x : Int) : Prop := -9223372036854775808 ≤ x ∧ x ≤ 9223372036854775807
theorem wrap_i64_def (x : Int) : IntKind.i64.wrap x = if x % 18446744073709551616 ≥ 9223372036854775808 then x % 18446744073709551616 - 18446744073709551616 else x % 18446744073709551616 := by
  show (if (true && decide (x % 18446744073709551616 ≥ 9223372036854775808)) = true then x % 18446744073709551616 - 18446744073709551616 else x % 18446744073709551616) = _
  simp only [Bool.true_and, decide_eq_true_eq]
theorem xBf {x : Int} (h1 : -9223372036854775808 ≤ x) (h2 : x ≤ 9223372036854775807) : IntKind.i64.wrap x = x := by
  rw [wrap_i64_def]
  split <;> omega
theorem drop_cons {α : Type} {xs : List α} {i : Nat} {x : α} {l : List α} (h : xs.drop i = x :: l) : i < xs.length ∧ xs[i]? = some x ∧ xs.drop (i + 1) = l := by
  have h1 : i < xs.length := by
    rcases Nat.lt_or_ge i xs.length with h1 | h1
    · exact h1
    · rw [List.drop_eq_nil_of_le h1] at h; cases h
  rw [List.drop_eq_getElem_cons h1] at h
  cases h
  exact ⟨h1, by simp [h1], rfl⟩
theorem drop_nil {α : Type} {xs : List α} {i : Nat} (h : xs.drop i = []) : xs.length ≤ i := by simpa using h
end Go.Ab
end
section
namespace Go.Ab
set_option linter.unusedVariables false
inductive DK (K : Nat) : D → Prop where
  | int {k n} (h : (Lit.int k n).wf = true) : DK K (.int k n)
  | bool (b) : DK K (.bool b)
  | str {s : Str} (h : s.length ≤ K) : DK K (.str s)
  | sl {sz rows} (h : rows.length ≤ K) (hr : ∀ r ∈ rows, ∀ x ∈ r, DK K x) : DK K (.sl sz rows)
theorem DFit.dk {d : D} (h : DFit d) : DK maxLen d := by
  induction h with
  | int h => exact .int h
  | bool b => exact .bool b
  | str h => exact .str h
  | sl h _ ih => exact .sl h ih
theorem wf_i64 {n : Int} : (Lit.int .i64 n).wf = true ↔ I64 n := by
  show (decide (_ ≤ n) && decide (n ≤ _)) = true ↔ _
  rw [Bool.and_eq_true, decide_eq_true_eq, decide_eq_true_eq]
  exact Iff.rfl
theorem DK.i64 {K : Nat} {n : Int} : DK K (.int .i64 n) ↔ I64 n := ⟨fun h => by cases h with | int h => exact wf_i64.1 h, fun h => .int (wf_i64.2 h)⟩
theorem DK.str_iff {K : Nat} {s : Str} : DK K (.str s) ↔ s.length ≤ K := ⟨fun h => by cases h; assumption, .str⟩
theorem DK.sl_iff {K sz : Nat} {α : Type} {f : α → List D} {xs : List α} : DK K (.sl sz (xs.map f)) ↔ xs.length ≤ K ∧ ∀ x ∈ xs, ∀ d ∈ f x, DK K d := by
  constructor
  · intro h
    cases h with
    | sl h hr => exact ⟨by simpa using h, fun x hx => hr _ (List.mem_map_of_mem hx)⟩
  · rintro ⟨h, hr⟩
    refine .sl (by simpa using h) fun r hr' => ?_
    obtain ⟨x, hx, rfl⟩ := List.mem_map.1 hr'
    exact hr x hx
def LFit {α : Type} (K : Nat) (p : α → Prop) (l : List α) : Prop := l.length ≤ K ∧ ∀ x ∈ l, p x
def Ty.Fit (K : Nat) (T : Ty) (x : T.den) : Prop := ∀ d ∈ T.toD x, DK K d
def Org.Fit (o : Org) : Prop := I64 o.cell ∧ I64 o.row
def Rowd.Fit (K : Nat) (r : Rowd) : Prop := LFit K I64 r.cells ∧ LFit K Org.Fit r.frm
def Str.Fit (K : Nat) (s : Str) : Prop := s.length ≤ K
def Val.Fit (K : Nat) (v : Val) : Prop := ∀ d ∈ Val.toD v, DK K d
def Fil.Fit (K : Nat) (v : Fil) : Prop := Str.Fit K v.name ∧ I64 v.n
def Rea.Fit (K : Nat) (v : Rea) : Prop := I64 v.kind ∧ I64 v.n ∧ I64 v.time ∧ Str.Fit K v.text ∧ v.result.Fit K
theorem rowd_fit {K : Nat} {r : Rowd} : (∀ d ∈ Rowd.toD r, DK K d) ↔ r.Fit K := by
  simp only [Rowd.toD, List.mem_cons, List.not_mem_nil, or_false, forall_eq_or_imp, forall_eq, DK.sl_iff, DK.i64, Rowd.Fit, LFit, Org.Fit]
theorem fil_fit {K : Nat} {r : Fil} : Ty.Fit K .fil r ↔ r.Fit K := by
  simp only [Ty.Fit, Ty.toD, List.mem_cons, List.not_mem_nil, or_false, forall_eq_or_imp, forall_eq, DK.str_iff, DK.i64, Fil.Fit, Str.Fit]
theorem rea_fit {K : Nat} {r : Rea} : Ty.Fit K .rea r ↔ r.Fit K := by
  simp only [Ty.Fit, Ty.toD, List.cons_append, List.nil_append, List.mem_cons, forall_eq_or_imp, DK.str_iff, DK.i64, Rea.Fit, Str.Fit, Val.Fit]
theorem Val.fit_iff {K : Nat} {v : Val} : v.Fit K ↔ I64 v.kind ∧ I64 v.n ∧ I64 v.step ∧ Str.Fit K v.text ∧ LFit K (Val.Fit K) v.list ∧ LFit K (Str.Fit K) v.columns ∧ LFit K (Rowd.Fit K) v.rows := by
  cases v
  simp only [Val.Fit, Val.toD, Val.toDs_eq, List.mem_cons, List.not_mem_nil, or_false, forall_eq_or_imp, forall_eq, DK.sl_iff, DK.i64, DK.str_iff, Str.Fit, LFit, Val.kind, Val.n, Val.step, Val.text, Val.list, Val.columns, Val.rows, rowd_fit]
theorem sizeOf_mem_list {l : List Val} {x : Val} (h : x ∈ l) (k n s : Int) (t : Str) (c : List Str) (r : List Rowd) : SizeOf.sizeOf x < SizeOf.sizeOf (Val.mk k n s t l c r) := by
  have := List.sizeOf_lt_of_mem h
  simp only [Val.mk.sizeOf_spec]
  omega
theorem Val.ind {p : Val → Prop} (h : ∀ k n s t l c r, (∀ x ∈ l, p x) → p (.mk k n s t l c r)) : ∀ v, p v
  | .mk k n s t l c r => h k n s t l c r fun x hx => Val.ind h x
termination_by v => SizeOf.sizeOf v
decreasing_by exact sizeOf_mem_list hx k n s t c r
theorem xEr {n : Int} (h : DK maxLen (CV.int .i64 n).toD) : I64 n := DK.i64.1 h
theorem cell_str {s : Str} (h : DK maxLen (CV.str s).toD) : Str.Fit maxLen s := DK.str_iff.1 h
theorem cell_sl {T : Ty} {f : Fl} {xs : List T.den} (h : DK maxLen (CV.sl f T xs).toD) : LFit maxLen (T.Fit maxLen) xs := DK.sl_iff.1 h
theorem LFit.imp {α : Type} {K : Nat} {p q : α → Prop} {l : List α} (h : LFit K p l) (f : ∀ x, p x → q x) : LFit K q l := ⟨h.1, fun x hx => f x (h.2 x hx)⟩
end Go.Ab
end
section
namespace Go.Ab
set_option linter.unusedVariables false
theorem whileLoop {σ ρ : Type} {L : Nat → σ → Option ρ} (m : σ → Nat) (Inv : σ → Prop) (Post : ρ → Prop)
    (hstep : ∀ s, Inv s → (∃ s', Inv s' ∧ m s' < m s ∧ ∀ n, L (n + 1) s = L n s') ∨ (∃ r, Post r ∧ ∀ n, L (n + 1) s = some r)) :
    ∀ n s, Inv s → m s < n → ∃ r, Post r ∧ L n s = some r := by
  intro n
  induction n with
  | zero => intro s _ h; omega
  | succ n ih =>
    intro s hs hn
    rcases hstep s hs with ⟨s', h1, h2, h3⟩ | ⟨r, h1, h2⟩
    · obtain ⟨r, h4, h5⟩ := ih s' h1 (by omega)
      exact ⟨r, h4, by rw [h3]; exact h5⟩
    · exact ⟨r, h1, h2 n⟩
theorem xDZ {α σ ρ : Type} {L : Nat → Int → σ → Option ρ} (x0 : List α) (g : List α → σ → ρ) (Inv : Nat → σ → Prop)
    (hnil : ∀ n s, Inv x0.length s → L (n + 1) (x0.length : Nat) s = some (g [] s))
    (hcons : ∀ i x l s, x0.drop i = x :: l → i < x0.length → x0[i]? = some x → Inv i s →
      (∃ s', Inv (i + 1) s' ∧ g (x :: l) s = g l s' ∧ ∀ n, L (n + 1) (i : Nat) s = L n ((i + 1 : Nat) : Int) s') ∨ (∀ n, L (n + 1) (i : Nat) s = some (g (x :: l) s))) :
    ∀ n i s, Inv i s → i ≤ x0.length → x0.length < n + i → L n (i : Nat) s = some (g (x0.drop i) s) := by
  intro n
  induction n with
  | zero => intro i s _ h1 h2; omega
  | succ n ih =>
    intro i s hs hi hn
    cases hd : x0.drop i with
    | nil =>
      have := drop_nil hd
      obtain rfl : i = x0.length := by omega
      exact hnil n s hs
    | cons x l =>
      obtain ⟨h1, h2, h3⟩ := drop_cons hd
      rcases hcons i x l s hd h1 h2 hs with ⟨s', h4, h5, h6⟩ | h
      · rw [h6, ih (i + 1) s' h4 (by omega) (by omega), h3, h5]
      · exact h n
theorem xBw {α : Type} {xs : List α} {i : Nat} {x : α} (h : xs[i]? = some x) (d : α) : xs.getD i d = x := by simp [List.getD, h]
theorem xA1 {i : Nat} {len : Nat} (h : i < len) (hl : len ≤ 9223372036854775807) : IntKind.i64.wrap ((i : Int) + 1) = ((i + 1 : Nat) : Int) := by
  rw [xBf (by omega) (by omega)]; omega
def left (s : Nat) (l : Int) : Int := if (s : Int) ≤ l then l - s else -1
theorem left_of {s : Nat} {l : Int} (h : (s : Int) ≤ l) : left s l = l - s := by unfold left; rw [if_pos h]
theorem left_not {s : Nat} {l : Int} (h : ¬ (s : Int) ≤ l) : left s l = -1 := by unfold left; rw [if_neg h]
theorem szThen {s b : Nat} {F : Option Int} {R : Int → Option Int} {l : Int} (hl : s ≤ 9223372036854775807) (h0 : 0 ≤ l) (h1 : l ≤ 1048576)
    (hF : F = bif decide (IntKind.i64.wrap (l - (s : Int)) < 0) then some (-1) else R (IntKind.i64.wrap (l - (s : Int))))
    (hR : ∀ m, 0 ≤ m → m ≤ 1048576 → R m = some (left b m)) : F = some (left (s + b) l) := by
  rw [hF, xBf (by omega) (by omega)]
  by_cases h : (s : Int) ≤ l
  · rw [decide_eq_false (by omega), cond_false, hR _ (by omega) (by omega)]
    unfold left
    split <;> split <;> first | rfl | omega | (congr 1; omega)
  · rw [decide_eq_true (by omega), cond_true, left_not (by omega)]
theorem szLast {s : Nat} {l : Int} (hl : s ≤ 9223372036854775807) (h0 : 0 ≤ l) (h1 : l ≤ 1048576) :
    (bif decide (IntKind.i64.wrap (l - (s : Int)) < 0) then some (-1) else some (IntKind.i64.wrap (l - (s : Int)))) = some (left s l) := by
  rw [xBf (by omega) (by omega)]
  unfold left
  by_cases h : (s : Int) ≤ l
  · rw [decide_eq_false (by omega), if_pos h]; rfl
  · rw [decide_eq_true (by omega), if_neg h]; rfl
theorem szBind {a b : Nat} {l : Int} {x : Option Int} {R : Int → Option Int} (h0 : 0 ≤ l) (h1 : l ≤ 1048576) (h : x = some (left a l)) (hR : ∀ m, 0 ≤ m → m ≤ 1048576 → R m = some (left b m)) :
    (x.bind fun r1 => bif decide (r1 < 0) then (some (-1) : Option Int) else R r1) = some (left (a + b) l) := by
  rw [h, Option.bind_some]
  by_cases h : (a : Int) ≤ l
  · rw [left_of h, decide_eq_false (by omega), cond_false, hR _ (by omega) (by omega)]
    unfold left
    split <;> split <;> first | rfl | omega | (congr 1; omega)
  · rw [left_not h, left_not (by omega)]; rfl
theorem left_two {a : Nat} {l : Int} {x : Option Int} (h : x = some (left a l)) : (x.bind fun r1 => bif decide (r1 < 0) then (some (-1) : Option Int) else some r1) = some (left a l) := by
  rw [h, Option.bind_some]
  unfold left
  split
  · rw [decide_eq_false (by omega)]; rfl
  · rfl
section
variable {α : Type} {d : α}
theorem szLoop {L : Nat → List α → Int → Int → Option Int} {sz : α → Int → Option Int} {size : α → Nat} {x0 : List α}
    (hL : ∀ n x1 x5, L (n + 1) x0 x1 x5 = bif decide (x5 < (x0.length : Int)) then (if (0 : Int) ≤ x5 ∧ x5 < (x0.length : Int) then Option.bind (sz (x0.getD x5.toNat d) x1) fun r1 => bif decide (r1 < 0) then some (-1) else L n x0 r1 (IntKind.i64.wrap (x5 + 1)) else none) else some x1)
    (hlen : x0.length ≤ 9223372036854775807) (hsz : ∀ x ∈ x0, ∀ l, 0 ≤ l → l ≤ 1048576 → sz x l = some (left (size x) l)) {n : Nat} (hn : x0.length < n) {l : Int} (h0 : 0 ≤ l) (h1 : l ≤ 1048576) :
    L n x0 l 0 = some (left (x0.map size).sum l) := by
  have key := xDZ (L := fun n i s => L n x0 s i) x0 (fun l s => left (l.map size).sum s) (fun _ s => 0 ≤ s ∧ s ≤ 1048576) (fun n s hs => by
      have hs : 0 ≤ s ∧ s ≤ 1048576 := hs
      simp only [hL]; simp [left]; omega)
    (fun i x r s hd hi hx hs => by
      have hs : 0 ≤ s ∧ s ≤ 1048576 := hs
      have hi' : (i : Int) < (x0.length : Int) := by omega
      have hm : x ∈ x0 := List.mem_of_getElem? hx
      by_cases hle : (size x : Int) ≤ s
      · refine .inl ⟨s - size x, by omega, ?_, fun n => ?_⟩
        · simp only [List.map_cons, List.sum_cons, left]
          split <;> split <;> omega
        · simp only [hL, decide_eq_true hi', cond_true, Int.toNat_natCast, xBw hx, hsz x hm s hs.1 hs.2, left_of hle, Option.bind_some, xA1 hi hlen]
          rw [if_pos (by omega), decide_eq_false (by omega), cond_false]
      · refine .inr fun n => ?_
        simp only [hL, decide_eq_true hi', cond_true, Int.toNat_natCast, xBw hx, hsz x hm s hs.1 hs.2, left_not hle, Option.bind_some]
        rw [if_pos (by omega), decide_eq_true (by omega), cond_true]
        simp only [List.map_cons, List.sum_cons, left]
        rw [if_neg (by omega)])
    n 0 l ⟨h0, h1⟩ (by omega) (by omega)
  simpa using key
theorem szLoopG {L : Nat → List α → Int → Int → Option Int} {sz : α → Int → Option Int} {size : α → Nat} {x0 : List α}
    (hL : ∀ n x1 x5, L (n + 1) x0 x1 x5 = bif decide (x5 < (x0.length : Int)) then (if (0 : Int) ≤ x5 ∧ x5 < (x0.length : Int) then Option.bind (sz (x0.getD x5.toNat d) x1) fun r1 => bif decide (r1 < 0) then some (-1) else L n x0 r1 (IntKind.i64.wrap (x5 + 1)) else none) else some x1)
    (hlen : x0.length ≤ 9223372036854775807) (hsz : ∀ x ∈ x0, ∀ l, 0 ≤ l → l ≤ 1048576 → ∃ r, sz x l = some r ∧ ((size x : Int) ≤ l → r = l - size x) ∧ (¬ (size x : Int) ≤ l → r < 0)) {n : Nat} (hn : x0.length < n) {l : Int} (h0 : 0 ≤ l) (h1 : l ≤ 1048576) :
    L n x0 l 0 = some (left (x0.map size).sum l) := by
  have key := xDZ (L := fun n i s => L n x0 s i) x0 (fun l s => left (l.map size).sum s) (fun _ s => 0 ≤ s ∧ s ≤ 1048576) (fun n s hs => by
      have hs : 0 ≤ s ∧ s ≤ 1048576 := hs
      simp only [hL]; simp [left]; omega)
    (fun i x r s hd hi hx hs => by
      have hs : 0 ≤ s ∧ s ≤ 1048576 := hs
      have hi' : (i : Int) < (x0.length : Int) := by omega
      have hm : x ∈ x0 := List.mem_of_getElem? hx
      obtain ⟨q, hq, hq1, hq2⟩ := hsz x hm s hs.1 hs.2
      by_cases hle : (size x : Int) ≤ s
      · refine .inl ⟨s - size x, by omega, ?_, fun n => ?_⟩
        · simp only [List.map_cons, List.sum_cons, left]
          split <;> split <;> omega
        · simp only [hL, decide_eq_true hi', cond_true, Int.toNat_natCast, xBw hx, hq, hq1 hle, Option.bind_some, xA1 hi hlen]
          rw [if_pos (by omega), decide_eq_false (by omega), cond_false]
      · refine .inr fun n => ?_
        simp only [hL, decide_eq_true hi', cond_true, Int.toNat_natCast, xBw hx, hq, Option.bind_some]
        have := hq2 hle
        rw [if_pos (by omega), decide_eq_true (by omega), cond_true]
        simp only [List.map_cons, List.sum_cons, left]
        rw [if_neg (by omega)])
    n 0 l ⟨h0, h1⟩ (by omega) (by omega)
  simpa using key
theorem toLoop {L : Nat → List α → List α → Int → Option (List α)} {to : α → Option α} {re : α → α} {x0 : List α}
    (hL : ∀ n x3 x4, L (n + 1) x0 x3 x4 = bif decide (x4 < (x0.length : Int)) then (if (0 : Int) ≤ x4 ∧ x4 < (x0.length : Int) then Option.bind (to (x0.getD x4.toNat d)) fun r1 => (if (0 : Int) ≤ x4 ∧ x4 < (x3.length : Int) then L n x0 (x3.set x4.toNat (re r1)) (IntKind.i64.wrap (x4 + 1)) else none) else none) else some x3)
    (hlen : x0.length ≤ 9223372036854775807) (hto : ∀ x ∈ x0, ∃ y, to x = some y ∧ re y = x) {n : Nat} (hn : x0.length < n) :
    L n x0 (List.replicate x0.length d) 0 = some x0 := by
  have key := xDZ (L := fun n i s => L n x0 s i) x0 (fun _ _ => x0) (fun i s => s = x0.take i ++ List.replicate (x0.length - i) d) (fun n s hs => by
      have hs : s = x0.take x0.length ++ List.replicate (x0.length - x0.length) d := hs
      simp only [hL]; simp [hs])
    (fun i x r s hd hi hx hs => by
      have hs : s = x0.take i ++ List.replicate (x0.length - i) d := hs
      have hi' : (i : Int) < (x0.length : Int) := by omega
      have hm : x ∈ x0 := List.mem_of_getElem? hx
      obtain ⟨y, h1, h2⟩ := hto x hm
      have hsl : s.length = x0.length := by rw [hs]; simp; omega
      refine .inl ⟨s.set i x, ?_, rfl, fun n => ?_⟩
      · show s.set i x = x0.take (i + 1) ++ List.replicate (x0.length - (i + 1)) d
        rw [hs, List.set_append]
        have : (x0.take i).length = i := by simp; omega
        rw [this, if_neg (by omega), List.take_add_one, hx, Option.toList_some, List.append_assoc, Nat.sub_self]
        rw [show x0.length - i = (x0.length - (i + 1)) + 1 from by omega, List.replicate_succ, List.set_cons_zero]
        rfl
      · simp only [hL, decide_eq_true hi', cond_true, Int.toNat_natCast, xBw hx, h1, h2, Option.bind_some, xA1 hi hlen, hsl]
        rw [if_pos (by omega), if_pos (by omega)])
    n 0 (List.replicate x0.length d) (by simp) (by omega) (by omega)
  exact key
theorem eqLoop {L : Nat → Int → Option Bool} {x0 : List α} (hend : ∀ n, L (n + 1) (x0.length : Nat) = some true)
    (hcons : ∀ (i : Nat) x n, i < x0.length → x0[i]? = some x → x ∈ x0 → L (n + 1) (i : Nat) = L n ((i + 1 : Nat) : Int)) {n : Nat} (hn : x0.length < n) : L n 0 = some true := by
  have key := xDZ (σ := Unit) (L := fun n i _ => L n i) x0 (fun _ _ => true) (fun _ _ => True) (fun n _ _ => hend n)
    (fun i x r s hd hi hx _ => .inl ⟨(), trivial, rfl, fun n => hcons i x n hi hx (List.mem_of_getElem? hx)⟩) n 0 () trivial (by omega) (by omega)
  exact key
end
end Go.Ab
end
section
namespace Go.Ab
set_option linter.unusedVariables false
theorem vk (a b c : Int) (t : Str) (l : List Val) (k : List Str) (r : List Rowd) : (Val.mk a b c t l k r).kind = a := rfl
theorem vn (a b c : Int) (t : Str) (l : List Val) (k : List Str) (r : List Rowd) : (Val.mk a b c t l k r).n = b := rfl
theorem vs (a b c : Int) (t : Str) (l : List Val) (k : List Str) (r : List Rowd) : (Val.mk a b c t l k r).step = c := rfl
theorem vt (a b c : Int) (t : Str) (l : List Val) (k : List Str) (r : List Rowd) : (Val.mk a b c t l k r).text = t := rfl
theorem vl (a b c : Int) (t : Str) (l : List Val) (k : List Str) (r : List Rowd) : (Val.mk a b c t l k r).list = l := rfl
theorem vc (a b c : Int) (t : Str) (l : List Val) (k : List Str) (r : List Rowd) : (Val.mk a b c t l k r).columns = k := rfl
theorem vr (a b c : Int) (t : Str) (l : List Val) (k : List Str) (r : List Rowd) : (Val.mk a b c t l k r).rows = r := rfl
theorem ek (a b : Int) (t : Str) (l : List Exp) : (Exp.mk a b t l).kind = a := rfl
theorem ea (a b : Int) (t : Str) (l : List Exp) : (Exp.mk a b t l).args = l := rfl
def Rowd.size (r : Rowd) : Nat := r.cells.length + r.frm.length
mutual
def Val.size : Val → Nat
  | .mk _ _ _ t l c r => t.length + (l.length + Val.sizes l) + (c.length + (c.map List.length).sum) + (r.length + (r.map Rowd.size).sum)
def Val.sizes : List Val → Nat
  | [] => 0
  | x :: r => Val.size x + Val.sizes r
end
theorem Val.sizes_eq (l : List Val) : Val.sizes l = (l.map Val.size).sum := by
  induction l with
  | nil => rfl
  | cons x l ih => simp [Val.sizes, ih]
theorem size_mem {α : Type} {f : α → Nat} {l : List α} {x : α} (h : x ∈ l) : f x ≤ (l.map f).sum := by
  induction l with
  | nil => cases h
  | cons a l ih =>
    simp only [List.map_cons, List.sum_cons]
    rcases List.mem_cons.1 h with rfl | h
    · omega
    · have := ih h; omega
theorem Val.size_eq (e : Val) : e.size = e.text.length + (e.list.length + (e.list.map Val.size).sum) + (e.columns.length + (e.columns.map List.length).sum) + (e.rows.length + (e.rows.map Rowd.size).sum) := by
  cases e; simp [Val.size, Val.sizes_eq, Val.text, Val.list, Val.columns, Val.rows]
theorem lfit_size {α : Type} {K M : Nat} {p q : α → Prop} {f : α → Nat} {l : List α} (h : LFit M p l) (hs : l.length + (l.map f).sum ≤ K) (hpq : ∀ x ∈ l, p x → f x ≤ K → q x) : LFit K q l :=
  ⟨by omega, fun x hx => hpq x hx (h.2 x hx) (by have := size_mem (f := f) hx; omega)⟩
theorem Rowd.fit_size {K M : Nat} {r : Rowd} (h : r.Fit M) (hs : r.size ≤ K) : r.Fit K := by
  unfold Rowd.size at hs
  exact ⟨⟨by omega, h.1.2⟩, ⟨by omega, h.2.2⟩⟩
theorem Val.fit_size {K M : Nat} : ∀ e : Val, e.Fit M → e.size ≤ K → e.Fit K := by
  refine Val.ind fun k n s t l c r ih h hs => ?_
  rw [Val.fit_iff] at h ⊢
  obtain ⟨h1, h2, h3, h4, h5, h6, h7⟩ := h
  have hs := hs
  rw [Val.size_eq] at hs
  exact ⟨h1, h2, h3, show List.length _ ≤ K from by omega, lfit_size h5 (by omega) fun x hx => ih x hx, lfit_size (f := List.length) h6 (by omega) fun x hx _ h => h, lfit_size (f := Rowd.size) h7 (by omega) fun x hx => Rowd.fit_size⟩
theorem xDD (n : Nat) : Big fun N => n < N := ⟨n + 1, fun N h => by omega⟩
end Go.Ab
end
section
namespace Go.Ab
set_option linter.unusedVariables false
theorem markHeld {α : Type} {Lm : Nat → List α → Int → Int → Option (Int × List α)} {Lh : Nat → List α → Int → Int → Option Int} {c : α → Nat} {x0 : List α} {k0 B : Int} {n : Nat}
    (hm : ∀ n xs k, xs.length = x0.length → Lm (n + 1) xs k (xs.length : Nat) = some (k, xs)) (hh : ∀ n ys k, ys.length = x0.length → Lh (n + 1) ys k (ys.length : Nat) = some k)
    (hx : ∀ x ∈ x0, ∀ k, k0 ≤ k → k + c x ≤ B → ∃ y, (∀ n xs (i : Nat), xs.length = x0.length → xs[i]? = some x → Lm (n + 1) xs k i = Lm n (xs.set i y) (k + c x) ((i + 1 : Nat) : Int)) ∧
      (∀ n ys (i : Nat), ys.length = x0.length → ys[i]? = some y → Lh (n + 1) ys k i = Lh n ys (k + c x) ((i + 1 : Nat) : Int)))
    (hk : k0 + (x0.map c).sum ≤ B) (hn : x0.length < n) : ∃ ys, ys.length = x0.length ∧ Lm n x0 k0 0 = some (k0 + (x0.map c).sum, ys) ∧ Lh n ys k0 0 = some (k0 + (x0.map c).sum) := by
  have key : ∀ (l pre : List α) (k : Int) (n : Nat), pre.length + l.length = x0.length → (∀ x ∈ l, x ∈ x0) → k0 ≤ k → k + (l.map c).sum ≤ B → l.length < n →
      ∃ ys, ys.length = l.length ∧ Lm n (pre ++ l) k (pre.length : Nat) = some (k + (l.map c).sum, pre ++ ys) ∧ ∀ pre' : List α, pre'.length = pre.length → Lh n (pre' ++ ys) k (pre.length : Nat) = some (k + (l.map c).sum) := by
    intro l
    induction l with
    | nil =>
      intro pre k n hl hmem h0 hB hn
      obtain ⟨n, rfl⟩ : ∃ m, n = m + 1 := ⟨n - 1, by simp at hn; omega⟩
      refine ⟨[], rfl, ?_, fun pre' hp => ?_⟩
      · have := hm n (pre ++ []) k (by simpa using hl)
        simpa using this
      · have := hh n (pre' ++ []) k (by simp [hp]; simpa using hl)
        simp only [List.append_nil, hp] at this
        simpa using this
    | cons x l ih =>
      intro pre k n hl hmem h0 hB hn
      obtain ⟨n, rfl⟩ : ∃ m, n = m + 1 := ⟨n - 1, by simp at hn; omega⟩
      simp only [List.map_cons, List.sum_cons, List.length_cons] at hB hl hn
      obtain ⟨y, h1, h2⟩ := hx x (hmem x List.mem_cons_self) k h0 (by omega)
      obtain ⟨ys, g1, g2, g3⟩ := ih (pre ++ [y]) (k + c x) n (by simp; omega) (fun z hz => hmem z (List.mem_cons_of_mem _ hz)) (by omega) (by omega) (by omega)
      refine ⟨y :: ys, by simp [g1], ?_, fun pre' hp => ?_⟩
      · rw [h1 n (pre ++ x :: l) pre.length (by simp; omega) (by simp)]
        rw [List.set_append, if_neg (by omega), Nat.sub_self, List.set_cons_zero]
        have e : ((pre.length + 1 : Nat) : Int) = ((pre ++ [y]).length : Nat) := by simp
        rw [e, show pre ++ y :: l = (pre ++ [y]) ++ l from by simp, g2]
        simp only [List.map_cons, List.sum_cons, List.append_assoc, List.cons_append, List.nil_append]
        congr 2
        omega
      · rw [h2 n (pre' ++ y :: ys) pre.length (by simp [hp, g1]; omega) (by rw [← hp]; simp)]
        have e : ((pre.length + 1 : Nat) : Int) = ((pre ++ [y]).length : Nat) := by simp
        rw [e, show pre' ++ y :: ys = (pre' ++ [y]) ++ ys from by simp, g3 (pre' ++ [y]) (by simp [hp])]
        simp only [List.map_cons, List.sum_cons]
        congr 1
        omega
  obtain ⟨ys, h1, h2, h3⟩ := key x0 [] k0 n (by simp) (fun x h => h) (Int.le_refl _) hk hn
  exact ⟨ys, h1, h2, by simpa using h3 [] rfl⟩
theorem sum_le_mul {α : Type} {f g : α → Nat} {l : List α} {a : Nat} (h : ∀ x ∈ l, f x ≤ a + a * g x) : (l.map f).sum ≤ a * (l.length + (l.map g).sum) := by
  induction l with
  | nil => simp
  | cons x l ih =>
    have h1 := h x List.mem_cons_self
    have h2 := ih fun y hy => h y (List.mem_cons_of_mem _ hy)
    simp only [List.map_cons, List.sum_cons, List.length_cons, Nat.mul_add] at h2 ⊢
    omega
theorem xDF {α : Type} {xs : List α} {i : Nat} (h : i < xs.length) (y d : α) : (xs.set i y).getD i d = y := by simp [List.getD, h]
end Go.Ab
end
section
namespace Go.Ab
set_option linter.unusedVariables false
set_option linter.unusedSimpArgs false
theorem left_ge {s : Nat} {l : Int} (h : ¬ left s l < 0) : (s : Int) ≤ l := by unfold left at h; split at h <;> omega
end Go.Ab
end
section
namespace Go.Ab
set_option linter.unusedVariables false
set_option linter.unusedSimpArgs false
theorem xDL {N : Nat} (hN : 274877906944 < N) {k : Int} (h0 : 0 ≤ k) (h1 : k ≤ 137438953472) : ∃ t, xBI N k = some t := by
  unfold xBI
  cases decide (k ≤ 0)
  · rw [cond_false]
    obtain ⟨r, _, hr⟩ := whileLoop (L := fun n (s : Int × Str) => xCh N n s.1 s.2) (fun s => s.1.toNat) (fun s => 0 ≤ s.1 ∧ (s.2.length : Int) + s.1 ≤ 137438953472) (fun _ => True) (fun s hs => by
      obtain ⟨x, t⟩ := s
      obtain ⟨g0, g1⟩ := hs
      have g0 : 0 ≤ x := g0
      have g1 : (t.length : Int) + x ≤ 137438953472 := g1
      by_cases hx : x > 0
      · have hq : Int.tdiv x 10 = x / 10 := Int.tdiv_eq_ediv_of_nonneg g0
        refine .inl ⟨(IntKind.i64.wrap (Int.tdiv x 10), (List.map (fun n => UInt8.ofNat (Int.toNat n)) [(IntKind.u8.wrap ((IntKind.i64.wrap (48 + (Int.tmod x 10)))))]) ++ t), ?_, ?_, fun n => ?_⟩
        · show 0 ≤ IntKind.i64.wrap (Int.tdiv x 10) ∧ _
          rw [hq, xBf (by omega) (by omega)]
          simp only [List.map_cons, List.map_nil, List.cons_append, List.nil_append, List.length_cons]
          omega
        · show (IntKind.i64.wrap (Int.tdiv x 10)).toNat < x.toNat
          rw [hq, xBf (by omega) (by omega)]
          omega
        · simp only [xCh, decide_eq_true hx, cond_true]
          rw [if_pos (by simp only [List.map_cons, List.map_nil, List.length_cons, List.length_nil]; unfold Lim; omega)]
      · refine .inr ⟨[109] ++ t, trivial, fun n => ?_⟩
        simp only [xCh, decide_eq_false hx, cond_false]
        rw [if_pos (by simp only [List.length_cons, List.length_nil]; unfold Lim; omega)]) N (k, []) ⟨h0, by simpa using h1⟩ (by show k.toNat < N; omega)
    exact ⟨r, hr⟩
  · exact ⟨_, rfl⟩
end Go.Ab
end
section
namespace Go.Ab
set_option linter.unusedVariables false
set_option linter.unusedSimpArgs false
theorem szIntS_eq {N : Nat} {x0 : List Int} (h : x0.length ≤ 9223372036854775807) {l : Int} (h0 : 0 ≤ l) (h1 : l ≤ 1048576) : xEb N x0 l = some (left x0.length l) := szLast h h0 h1
theorem szOriginS_eq {N : Nat} {x0 : List Org} (h : x0.length ≤ 9223372036854775807) {l : Int} (h0 : 0 ≤ l) (h1 : l ≤ 1048576) : xDr N x0 l = some (left x0.length l) := szLast h h0 h1
theorem szRow_eq {N : Nat} {r : Rowd} (h : r.Fit maxLen) {l : Int} (h0 : 0 ≤ l) (h1 : l ≤ 1048576) : xD6 N r l = some (left r.size l) :=
  szBind h0 h1 (szIntS_eq h.1.1 h0 h1) fun m m0 m1 => left_two (szOriginS_eq h.2.1 m0 m1)
theorem szRowS_eq {N : Nat} {x0 : List Rowd} (h : LFit maxLen (Rowd.Fit maxLen) x0) (hn : x0.length < N) {l : Int} (h0 : 0 ≤ l) (h1 : l ≤ 1048576) : xEc N x0 l = some (left (x0.length + (x0.map Rowd.size).sum) l) :=
  szThen h.1 h0 h1 rfl fun m hm0 hm1 => szLoop (L := fun n x0 x1 x5 => xDs N n x0 x1 x5) (d := Ty.row.dflt) (sz := xD6 N) (fun _ _ _ => rfl) h.1 (fun x hx l h0 h1 => szRow_eq (h.2 x hx) h0 h1) hn hm0 hm1
theorem szStringS_eq {N : Nat} {x0 : List Str} (h : LFit maxLen (Str.Fit maxLen) x0) (hn : x0.length < N) {l : Int} (h0 : 0 ≤ l) (h1 : l ≤ 1048576) : xDt N x0 l = some (left (x0.length + (x0.map List.length).sum) l) :=
  szThen h.1 h0 h1 rfl fun m hm0 hm1 => szLoopG (L := fun n x0 x1 x5 => xCO N n x0 x1 x5) (d := Ty.str.dflt) (sz := fun s l => some (IntKind.i64.wrap (l - (List.length s : Int)))) (size := List.length) (fun _ _ _ => rfl) h.1
    (fun x hx l h0 h1 => by
      have hx : x.length ≤ 9223372036854775807 := h.2 x hx
      exact ⟨_, rfl, fun h => by rw [xBf (by omega) (by omega)], fun h => by rw [xBf (by omega) (by omega)]; omega⟩) hn hm0 hm1
theorem szValue_big : ∀ v : Val, v.Fit maxLen → Big2 fun N d => ∀ l, 0 ≤ l → l ≤ 1048576 → (xA5 N d).c_laws_szValue v l = some (left v.size l) := by
  refine Val.ind fun k n s t a c r ih h => ?_
  obtain ⟨h1, h2, h3, h4, h5, h6, h7⟩ := Val.fit_iff.1 h
  refine Big2.succ (Big2.succ ?_)
  refine ((Big2.list fun x hx => ih x hx (h5.2 x hx)).and ((xDD a.length).and ((xDD c.length).and (xDD r.length))).two).imp fun N d ⟨hx, hn, hc, hr⟩ l h0 l1 => ?_
  have e : (Val.mk k n s t a c r).size = t.length + ((a.length + (a.map Val.size).sum) + ((c.length + (c.map List.length).sum) + (r.length + (r.map Rowd.size).sum))) := by rw [Val.size_eq]; simp only [Val.text, Val.list, Val.columns, Val.rows]; omega
  rw [e]
  exact szThen h4 h0 l1 rfl fun m m0 m1 => szBind m0 m1 (szThen h5.1 m0 m1 rfl fun m m0 m1 =>
    szLoop (L := fun n x0 x1 x5 => xC3 N (xA5 N d).c_laws_szValue (xA5 N d).c_laws_szValueS n x0 x1 x5) (d := Ty.val.dflt) (sz := (xA5 N d).c_laws_szValue)
      (fun _ _ _ => rfl) h5.1 (fun x hxm l h0 h1 => hx x hxm l h0 h1) hn m0 m1) fun m m0 m1 => szBind m0 m1 (szStringS_eq h6 hc m0 m1) fun m m0 m1 => left_two (szRowS_eq h7 hr m0 m1)
theorem szValue_eq {v : Val} (h : v.Fit maxLen) : Big fun N => ∀ l, 0 ≤ l → l ≤ 1048576 → xEl N v l = some (left v.size l) := (szValue_big v h).diag
theorem toIntS_eq {N : Nat} {x0 : List Int} (hl : x0.length ≤ 1048576) (hn : x0.length < N) : xDT N x0 = some x0 := by
  unfold xDT
  rw [if_pos ⟨by omega, rfl, by unfold Lim; omega⟩]
  exact toLoop (L := fun n x0 x3 x4 => xDv N n x0 x3 x4) (to := some) (re := fun r => r) (fun _ _ _ => rfl) (by omega) (fun x hx => ⟨x, rfl, rfl⟩) hn
theorem toStringS_eq {N : Nat} {x0 : List Str} (hl : x0.length ≤ 1048576) (hn : x0.length < N) : xCY N x0 = some x0 := by
  unfold xCY
  rw [if_pos ⟨by omega, rfl, by unfold Lim; omega⟩]
  exact toLoop (L := fun n x0 x3 x4 => xCS N n x0 x3 x4) (to := some) (re := fun r => r) (fun _ _ _ => rfl) (by omega) (fun x hx => ⟨x, rfl, rfl⟩) hn
theorem toOriginS_eq {N : Nat} {x0 : List Org} (hl : x0.length ≤ 1048576) (hn : x0.length < N) : xCX N x0 = some x0 := by
  unfold xCX
  rw [if_pos ⟨by omega, rfl, by unfold Lim; omega⟩]
  exact toLoop (L := fun n x0 x3 x4 => xCQ N n x0 x3 x4) (to := xDJ N) (re := fun r => r) (fun _ _ _ => rfl) (by omega) (fun x hx => ⟨x, rfl, rfl⟩) hn
theorem toRow_eq {N : Nat} {r : Rowd} (h : r.Fit 1048576) (hN : 1048576 < N) : xDO N r = some r := by
  have h1 : r.cells.length ≤ 1048576 := h.1.1
  have h2 : r.frm.length ≤ 1048576 := h.2.1
  unfold xDO
  rw [toIntS_eq h1 (by omega), toOriginS_eq h2 (by omega)]; rfl
theorem toRowS_eq {N : Nat} {x0 : List Rowd} (h : LFit 1048576 (Rowd.Fit 1048576) x0) (hN : 1048576 < N) : xDU N x0 = some x0 := by
  have hl : x0.length ≤ 1048576 := h.1
  unfold xDU
  rw [if_pos ⟨by omega, rfl, by unfold Lim; omega⟩]
  exact toLoop (L := fun n x0 x3 x4 => xDx N n x0 x3 x4) (to := xDO N) (re := fun r => r) (fun _ _ _ => rfl) (by omega) (fun x hx => ⟨x, toRow_eq (h.2 x hx) hN, rfl⟩) (by omega)
theorem toValueS_step {N d : Nat} {a : List Val} (hl : a.length ≤ 1048576) (hn : a.length < N) (hx : ∀ x ∈ a, (xAE N d).c_laws_toValue x = some x) : (xAE N (d + 1)).c_laws_toValueS a = some a := by
  show xCk N (xAE N d).c_laws_toValue (xAE N d).c_laws_toValueS a = _
  unfold xCk
  rw [if_pos ⟨by omega, rfl, by unfold Lim; omega⟩]
  exact toLoop (L := fun n x0 x3 x4 => xC5 N (xAE N d).c_laws_toValue (xAE N d).c_laws_toValueS n x0 x3 x4) (to := (xAE N d).c_laws_toValue) (re := Val.re) (fun _ _ _ => rfl) (by omega) (fun x hxm => ⟨x, hx x hxm, Val.re_eq x⟩) hn
theorem toValue_big : ∀ v : Val, v.Fit 1048576 → Big2 fun N d => (xAE N d).c_laws_toValue v = some v := by
  refine Val.ind fun k n s t a c r ih h => ?_
  obtain ⟨h1, h2, h3, h4, h5, h6, h7⟩ := Val.fit_iff.1 h
  refine Big2.succ (Big2.succ ?_)
  refine ((Big2.list fun x hx => ih x hx (h5.2 x hx)).and (xDD 1048576).two).imp fun N d ⟨hx, hN⟩ => ?_
  have hl : a.length ≤ 1048576 := h5.1
  have hc : c.length ≤ 1048576 := h6.1
  show xCv N (xAE N (d + 1)).c_laws_toValue (xAE N (d + 1)).c_laws_toValueS _ = _
  unfold xCv
  simp only [Val.list, Val.columns, Val.rows, toValueS_step (N := N) hl (by omega) hx, toStringS_eq (N := N) hc (by omega), toRowS_eq (x0 := r) h7 hN, Option.bind_some]
  rfl
theorem toValue_eq {v : Val} (h : v.Fit 1048576) : Big fun N => xEo N v = some v := (toValue_big v h).diag
theorem eqIntS_self {N : Nat} {x0 : List Int} (hl : x0.length ≤ 9223372036854775807) (hn : x0.length < N) : xDP N x0 x0 = some true := by
  unfold xDP
  rw [bne_self_eq_false, cond_false]
  exact eqLoop (L := fun n i => xCE N n x0 x0 i) (fun n => by simp [xCE]) (fun i x n hi hx hm => by
    have hi' : (i : Int) < (x0.length : Int) := by omega
    simp only [xCE, decide_eq_true hi', cond_true, Int.toNat_natCast, xBw hx, xA1 hi hl, bne_self_eq_false, cond_false]
    rw [if_pos (by omega), if_pos (by omega)]) hn
theorem eqStringS_self {N : Nat} {x0 : List Str} (hl : x0.length ≤ 9223372036854775807) (hn : x0.length < N) : xCW N x0 x0 = some true := by
  unfold xCW
  rw [bne_self_eq_false, cond_false]
  exact eqLoop (L := fun n i => xBX N n x0 x0 i) (fun n => by simp [xBX]) (fun i x n hi hx hm => by
    have hi' : (i : Int) < (x0.length : Int) := by omega
    simp only [xBX, decide_eq_true hi', cond_true, Int.toNat_natCast, xBw hx, xA1 hi hl, beq_self_eq_true, Bool.not_true, cond_false]
    rw [if_pos (by omega), if_pos (by omega)]) hn
theorem eqOrigin_self (N : Nat) (f : Org) : xDb N f f = some true := by simp [xDb]
theorem eqOriginS_self {N : Nat} {x0 : List Org} (hl : x0.length ≤ 9223372036854775807) (hn : x0.length < N) : xCV N x0 x0 = some true := by
  unfold xCV
  rw [bne_self_eq_false, cond_false]
  exact eqLoop (L := fun n i => xBW N n x0 x0 i) (fun n => by simp [xBW]) (fun i x n hi hx hm => by
    have hi' : (i : Int) < (x0.length : Int) := by omega
    simp only [xBW, decide_eq_true hi', cond_true, Int.toNat_natCast, xBw hx, eqOrigin_self, Option.bind_some, xA1 hi hl, Bool.not_true, cond_false]
    rw [if_pos (by omega), if_pos (by omega)]) hn
theorem eqRow_self {N K : Nat} {r : Rowd} (h : r.Fit K) (hK : K ≤ 9223372036854775807) (hN : K < N) : xD4 N r r = some true := by
  have h1 : r.cells.length ≤ K := h.1.1
  have h2 : r.frm.length ≤ K := h.2.1
  simp [xD4, eqIntS_self (by omega : r.cells.length ≤ _) (by omega : _ < N), eqOriginS_self (by omega : r.frm.length ≤ _) (by omega : _ < N)]
theorem eqRowS_self {N K : Nat} {x0 : List Rowd} (h : LFit K (Rowd.Fit K) x0) (hK : K ≤ 9223372036854775807) (hN : K < N) : xDQ N x0 x0 = some true := by
  have hl : x0.length ≤ K := h.1
  unfold xDQ
  rw [bne_self_eq_false, cond_false]
  exact eqLoop (x0 := x0) (L := fun n i => xCG N n x0 x0 i) (fun n => by simp [xCG]) (fun i x n hi hx hm => by
    have hi' : (i : Int) < (x0.length : Int) := by omega
    simp only [xCG, decide_eq_true hi', cond_true, Int.toNat_natCast, xBw hx, eqRow_self (h.2 x hm) hK hN, Option.bind_some, xA1 hi (by omega : x0.length ≤ _), Bool.not_true, cond_false]
    rw [if_pos (by omega), if_pos (by omega)]) (by omega)
theorem eqValueS_step {N d : Nat} {a : List Val} (hl : a.length ≤ 9223372036854775807) (hn : a.length < N) (hx : ∀ x ∈ a, (xAG N d).c_laws_eqValue x x = some true) : (xAG N (d + 1)).c_laws_eqValueS a a = some true := by
  show xCj N (xAG N d).c_laws_eqValue (xAG N d).c_laws_eqValueS a a = _
  unfold xCj
  rw [bne_self_eq_false, cond_false]
  exact eqLoop (L := fun n i => xB8 N (xAG N d).c_laws_eqValue (xAG N d).c_laws_eqValueS n a a i) (fun n => by simp [xB8]) (fun i x n hi hxi hm => by
    have hi' : (i : Int) < (a.length : Int) := by omega
    simp only [xB8, decide_eq_true hi', cond_true, Int.toNat_natCast, xBw hxi, hx x hm, Option.bind_some, xA1 hi (by omega : a.length ≤ _), Bool.not_true, cond_false]
    rw [if_pos (by omega), if_pos (by omega)]) hn
theorem eqValue_big {K : Nat} (hK : K ≤ 9223372036854775807) : ∀ v : Val, v.Fit K → Big2 fun N d => (xAG N d).c_laws_eqValue v v = some true := by
  refine Val.ind fun k n s t a c r ih h => ?_
  obtain ⟨h1, h2, h3, h4, h5, h6, h7⟩ := Val.fit_iff.1 h
  refine Big2.succ (Big2.succ ?_)
  refine ((Big2.list fun x hx => ih x hx (h5.2 x hx)).and (xDD K).two).imp fun N d ⟨hx, hN⟩ => ?_
  have hl : a.length ≤ K := h5.1
  have hc : c.length ≤ K := h6.1
  show xCt N (xAG N (d + 1)).c_laws_eqValue (xAG N (d + 1)).c_laws_eqValueS _ _ = _
  unfold xCt
  simp only [Val.list, Val.columns, Val.rows, eqValueS_step (by omega : a.length ≤ _) (by omega : _ < N) hx, eqStringS_self (by omega : c.length ≤ _) (by omega : _ < N), eqRowS_self (x0 := r) h7 hK hN, Option.bind_some, bne_self_eq_false, beq_self_eq_true, Bool.not_true, cond_false]
theorem eqValue_self {v : Val} {K : Nat} (h : v.Fit K) (hK : K ≤ 9223372036854775807) : Big fun N => xC7 N v v = some true := (eqValue_big hK v h).diag
def cOne {α : Type} (_ : α) : Nat := 1
def cOrg (_ : Org) : Nat := 2
def cRow (r : Rowd) : Nat := (r.cells.map cOne).sum + (r.frm.map cOrg).sum
theorem cOne_sum {α : Type} (xs : List α) : (xs.map cOne).sum = xs.length := by
  induction xs with
  | nil => rfl
  | cons x l ih => simp only [List.map_cons, List.sum_cons, ih, List.length_cons, cOne]; omega
theorem cOrg_sum (xs : List Org) : (xs.map cOrg).sum = 2 * xs.length := by
  induction xs with
  | nil => rfl
  | cons x l ih => simp only [List.map_cons, List.sum_cons, ih, List.length_cons, cOrg]; omega
theorem markIntS_held {N : Nat} (hN : 274877906944 < N) {xs : List Int} {k : Int} (h0 : 0 ≤ k) (h1 : k + ((xs.map cOne).sum : Nat) ≤ 137438953472) :
    ∃ ys, ys.length = xs.length ∧ xDH N xs k = some (k + ((xs.map cOne).sum : Nat), ys) ∧ xDG N ys k = some (k + ((xs.map cOne).sum : Nat)) := by
  have hs := cOne_sum xs
  refine markHeld (Lm := fun n xs k i => xCc N n xs k i) (Lh := fun n ys k i => xCa N n ys k i) (c := cOne) (fun n xs k hl => by simp [xCc]) (fun n ys k hl => by simp [xCa])
    (fun x hx k hk hB => ?_) h1 (by omega)
  have hc : cOne x = 1 := rfl
  rw [hc] at hB ⊢
  refine ⟨k, fun n xs' i hl hxi => ?_, fun n ys i hl hyi => ?_⟩
  · have hi := (List.getElem?_eq_some_iff.1 hxi).1
    have hi' : (i : Int) < (xs'.length : Int) := by omega
    simp only [xCc, decide_eq_true hi', cond_true, Int.toNat_natCast, xA1 hi (by omega : xs'.length ≤ _), xBf (x := k + 1) (by omega) (by omega)]
    rw [if_pos (by omega)]; rfl
  · have hi := (List.getElem?_eq_some_iff.1 hyi).1
    have hi' : (i : Int) < (ys.length : Int) := by omega
    simp only [xCa, decide_eq_true hi', cond_true, Int.toNat_natCast, xBw hyi, xA1 hi (by omega : ys.length ≤ _), xBf (x := k + 1) (by omega) (by omega), bne_self_eq_false, cond_false]
    rw [if_pos (by omega)]; rfl
theorem xDC {N : Nat} (hN : 274877906944 < N) {xs : List Str} {k : Int} (h0 : 0 ≤ k) (h1 : k + ((xs.map cOne).sum : Nat) ≤ 137438953472) :
    ∃ ys, ys.length = xs.length ∧ xCg N xs k = some (k + ((xs.map cOne).sum : Nat), ys) ∧ xCA N ys k = some (k + ((xs.map cOne).sum : Nat)) := by
  have hs := cOne_sum xs
  refine markHeld (Lm := fun n xs k i => xBG N n xs k i) (Lh := fun n ys k i => xBB N n ys k i) (c := cOne) (fun n xs k hl => by simp [xBG]) (fun n ys k hl => by simp [xBB])
    (fun x hx k hk hB => ?_) h1 (by omega)
  have hc : cOne x = 1 := rfl
  rw [hc] at hB ⊢
  obtain ⟨t, ht⟩ := xDL hN (k := k) (by omega) (by omega)
  refine ⟨t, fun n xs' i hl hxi => ?_, fun n ys i hl hyi => ?_⟩
  · have hi := (List.getElem?_eq_some_iff.1 hxi).1
    have hi' : (i : Int) < (xs'.length : Int) := by omega
    simp only [xBG, decide_eq_true hi', cond_true, Int.toNat_natCast, ht, Option.bind_some, xA1 hi (by omega : xs'.length ≤ _), xBf (x := k + 1) (by omega) (by omega)]
    rw [if_pos (by omega)]; rfl
  · have hi := (List.getElem?_eq_some_iff.1 hyi).1
    have hi' : (i : Int) < (ys.length : Int) := by omega
    simp only [xBB, decide_eq_true hi', cond_true, Int.toNat_natCast, xBw hyi, ht, Option.bind_some, xA1 hi (by omega : ys.length ≤ _), xBf (x := k + 1) (by omega) (by omega), beq_self_eq_true, Bool.not_true, cond_false]
    rw [if_pos (by omega)]; rfl
theorem markOriginS_held {N : Nat} (hN : 274877906944 < N) {xs : List Org} {k : Int} (h0 : 0 ≤ k) (h1 : k + ((xs.map cOrg).sum : Nat) ≤ 137438953472) :
    ∃ ys, ys.length = xs.length ∧ xC2 N xs k = some (k + ((xs.map cOrg).sum : Nat), ys) ∧ xCZ N ys k = some (k + ((xs.map cOrg).sum : Nat)) := by
  have hs := cOrg_sum xs
  refine markHeld (Lm := fun n xs k i => xBD N n xs k i) (Lh := fun n ys k i => xBA N n ys k i) (c := cOrg) (fun n xs k hl => by simp [xBD]) (fun n ys k hl => by simp [xBA])
    (fun x hx k hk hB => ?_) h1 (by omega)
  have hc : cOrg x = 2 := rfl
  rw [hc] at hB ⊢
  refine ⟨⟨k, k + 1⟩, fun n xs' i hl hxi => ?_, fun n ys i hl hyi => ?_⟩
  · have hi := (List.getElem?_eq_some_iff.1 hxi).1
    have hi' : (i : Int) < (xs'.length : Int) := by omega
    simp only [xBD, decide_eq_true hi', cond_true, Int.toNat_natCast, xBw hxi, List.length_set, xDF hi, List.set_set, xA1 hi (by omega : xs'.length ≤ _)]
    rw [if_pos (by omega), if_pos (by omega), xBf (x := k + 1) (by omega) (by omega), xBf (x := k + 1 + 1) (by omega) (by omega)]
    congr 1
    omega
  · have hi := (List.getElem?_eq_some_iff.1 hyi).1
    have hi' : (i : Int) < (ys.length : Int) := by omega
    simp only [xBA, decide_eq_true hi', cond_true, Int.toNat_natCast, xBw hyi, xA1 hi (by omega : ys.length ≤ _), xBf (x := k + 1) (by omega) (by omega), xBf (x := k + 1 + 1) (by omega) (by omega), bne_self_eq_false, cond_false]
    rw [if_pos (by omega)]
    congr 1
    omega
theorem xEd {N : Nat} (hN : 274877906944 < N) {xs : List Rowd} {k : Int} (hlen : xs.length ≤ 137438953472) (h0 : 0 ≤ k) (h1 : k + ((xs.map cRow).sum : Nat) ≤ 137438953472) :
    ∃ ys, ys.length = xs.length ∧ xCN N xs k = some (k + ((xs.map cRow).sum : Nat), ys) ∧ xDc N ys k = some (k + ((xs.map cRow).sum : Nat)) := by
  refine markHeld (Lm := fun n xs k i => xCf N n xs k i) (Lh := fun n ys k i => xCb N n ys k i) (c := cRow) (fun n xs k hl => by simp [xCf]) (fun n ys k hl => by simp [xCb])
    (fun x hx k hk hB => ?_) h1 (by omega)
  have hc : cRow x = (x.cells.map cOne).sum + (x.frm.map cOrg).sum := rfl
  rw [hc] at hB ⊢
  obtain ⟨ya, a1, a2, a3⟩ := markIntS_held hN (xs := x.cells) (k := k) (by omega) (by omega)
  obtain ⟨yb, b1, b2, b3⟩ := markOriginS_held hN (xs := x.frm) (k := k + ((x.cells.map cOne).sum : Nat)) (by omega) (by omega)
  refine ⟨⟨ya, yb⟩, fun n xs' i hl hxi => ?_, fun n ys i hl hyi => ?_⟩
  · have hi := (List.getElem?_eq_some_iff.1 hxi).1
    have hi' : (i : Int) < (xs'.length : Int) := by omega
    have hcd : (0 : Int) ≤ (i : Int) ∧ (i : Int) < (xs'.length : Int) := by omega
    simp only [xCf, decide_eq_true hi', cond_true, Int.toNat_natCast, xBw hxi, List.length_set, xDF hi, List.set_set, xA1 hi (by omega : xs'.length ≤ _), if_pos hcd, a2, b2, if_pos a1, if_pos b1, Option.bind_some]
    congr 1
    omega
  · have hi := (List.getElem?_eq_some_iff.1 hyi).1
    have hi' : (i : Int) < (ys.length : Int) := by omega
    have hcd : (0 : Int) ≤ (i : Int) ∧ (i : Int) < (ys.length : Int) := by omega
    simp only [xCb, decide_eq_true hi', cond_true, Int.toNat_natCast, xBw hyi, xA1 hi (by omega : ys.length ≤ _), if_pos hcd, a3, b3, Option.bind_some]
    rw [decide_eq_false (by omega), cond_false, decide_eq_false (by omega), cond_false]
    congr 1
    omega
mutual
def Val.cnt : Val → Nat
  | .mk _ _ _ _ l c r => 4 + Val.cnts l + (c.map cOne).sum + (r.map cRow).sum
def Val.cnts : List Val → Nat
  | [] => 0
  | x :: r => Val.cnt x + Val.cnts r
end
theorem Val.cnts_eq (l : List Val) : Val.cnts l = (l.map Val.cnt).sum := by
  induction l with
  | nil => rfl
  | cons x l ih => simp [Val.cnts, ih]
theorem cRow_le (l : List Rowd) : (l.map cRow).sum ≤ 2 * (l.length + (l.map Rowd.size).sum) :=
  sum_le_mul fun x _ => by simp only [cRow, cOne_sum, cOrg_sum, Rowd.size]; omega
theorem Val.cnt_le : ∀ v : Val, v.cnt ≤ 4 + 4 * v.size := by
  refine Val.ind fun k n s t l c r ih => ?_
  have h1 := sum_le_mul (f := Val.cnt) (g := Val.size) (l := l) (a := 4) fun x hx => ih x hx
  have h2 := cRow_le r
  have h3 := cOne_sum c
  rw [Val.size_eq]
  simp only [Val.cnt, Val.cnts_eq, Val.text, Val.list, Val.columns, Val.rows, h3] at h1 h2 ⊢
  omega
theorem cnts_len (l : List Val) : l.length ≤ (l.map Val.cnt).sum := by
  induction l with
  | nil => simp
  | cons x l ih =>
    have : 4 ≤ x.cnt := by cases x; simp only [Val.cnt]; omega
    simp only [List.length_cons, List.map_cons, List.sum_cons]; omega
def MarkV (N d : Nat) (l : List Val) : Prop := ∀ k : Int, 0 ≤ k → k + ((l.map Val.cnt).sum : Nat) ≤ 137438953472 →
    ∃ ys, ys.length = l.length ∧ xB5 N d l k = some (k + ((l.map Val.cnt).sum : Nat), ys) ∧ xB4 N d ys k = some (k + ((l.map Val.cnt).sum : Nat))
theorem markV_step {N d : Nat} (hN : 274877906944 < N) {l : List Val} (hr : ∀ x ∈ l, x.rows.length ≤ 137438953472) (hx : ∀ x ∈ l, MarkV N d x.list) : MarkV N (d + 1) l := by
  intro k h0 h1
  have hlen := cnts_len l
  refine markHeld (Lm := fun n xs k i => xBM N (xB5 N d) n xs k i) (Lh := fun n ys k i => xBL N (xB4 N d) n ys k i) (c := Val.cnt) (fun n xs k hl => by simp [xBM]) (fun n ys k hl => by simp [xBL])
    (fun x hxm k hk hB => ?_) h1 (by omega)
  have hc : x.cnt = 4 + (x.list.map Val.cnt).sum + (x.columns.map cOne).sum + (x.rows.map cRow).sum := by cases x; simp only [Val.cnt, Val.cnts_eq, Val.list, Val.columns, Val.rows]
  rw [hc] at hB ⊢
  obtain ⟨t, ht⟩ := xDL hN (k := k + 1 + 1 + 1) (by omega) (by omega)
  obtain ⟨ya, a1, a2, a3⟩ := hx x hxm (k + 1 + 1 + 1 + 1) (by omega) (by omega)
  obtain ⟨yb, b1, b2, b3⟩ := xDC hN (xs := x.columns) (k := k + 1 + 1 + 1 + 1 + ((x.list.map Val.cnt).sum : Nat)) (by omega) (by omega)
  obtain ⟨yc, c1, c2, c3⟩ := xEd hN (xs := x.rows) (k := k + 1 + 1 + 1 + 1 + ((x.list.map Val.cnt).sum : Nat) + ((x.columns.map cOne).sum : Nat)) (hr x hxm) (by omega) (by omega)
  have w1 : IntKind.i64.wrap (k + 1) = k + 1 := xBf (by omega) (by omega)
  have w2 : IntKind.i64.wrap (k + 1 + 1) = k + 1 + 1 := xBf (by omega) (by omega)
  have w3 : IntKind.i64.wrap (k + 1 + 1 + 1) = k + 1 + 1 + 1 := xBf (by omega) (by omega)
  have w4 : IntKind.i64.wrap (k + 1 + 1 + 1 + 1) = k + 1 + 1 + 1 + 1 := xBf (by omega) (by omega)
  refine ⟨.mk k (k + 1) (k + 1 + 1) t ya yb yc, fun n xs' i hl hxi => ?_, fun n ys i hl hyi => ?_⟩
  · have hi := (List.getElem?_eq_some_iff.1 hxi).1
    have hi' : (i : Int) < (xs'.length : Int) := by omega
    have hcd : (0 : Int) ≤ (i : Int) ∧ (i : Int) < (xs'.length : Int) := by omega
    simp only [xBM, decide_eq_true hi', cond_true, Int.toNat_natCast, xBw hxi, List.length_set, xDF hi, List.set_set, xA1 hi (by omega : xs'.length ≤ _), if_pos hcd, w1, w2, w3, w4, ht, Option.bind_some,
      vk, vn, vs, vt, vl, vc, vr, a2, b2, c2, if_pos a1, if_pos b1, if_pos c1]
    congr 1
    omega
  · have hi := (List.getElem?_eq_some_iff.1 hyi).1
    have hi' : (i : Int) < (ys.length : Int) := by omega
    have hcd : (0 : Int) ≤ (i : Int) ∧ (i : Int) < (ys.length : Int) := by omega
    simp only [xBL, decide_eq_true hi', cond_true, Int.toNat_natCast, xBw hyi, xA1 hi (by omega : ys.length ≤ _), if_pos hcd, w1, w2, w3, w4, ht, Option.bind_some, vk, vn, vs, vt, vl, vc, vr, a3, b3, c3, bne_self_eq_false, beq_self_eq_true, Bool.not_true, cond_false]
    rw [decide_eq_false (by omega), cond_false, decide_eq_false (by omega), cond_false, decide_eq_false (by omega), cond_false]
    congr 1
    omega
theorem markV_big {K : Nat} (hK : K ≤ 137438953472) : ∀ v : Val, v.Fit K → Big2 fun N d => MarkV N d v.list := by
  refine Val.ind fun k n s t a c r ih h => ?_
  obtain ⟨h1, h2, h3, h4, h5, h6, h7⟩ := Val.fit_iff.1 h
  refine Big2.succ ?_
  refine ((Big2.list fun x hx => ih x hx (h5.2 x hx)).and (xDD 274877906944).two).imp fun N d ⟨hx, hN⟩ => ?_
  exact markV_step hN (fun x hxm => by have := (Val.fit_iff.1 (h5.2 x hxm)).2.2.2.2.2.2.1; omega) hx
theorem markValue_at {K : Nat} (hK : K ≤ 137438953472) {v : Val} (h : v.Fit K) :
    Big fun N => ∀ k : Int, 0 ≤ k → k + (v.cnt : Nat) ≤ 137438953472 → ∃ k' xa xb xc, 0 ≤ k' ∧ k' ≤ k + (v.cnt : Nat) ∧ xa.length = v.list.length ∧ xb.length = v.columns.length ∧ xc.length = v.rows.length ∧ xCn N v k = some (k', xa, xb, xc) ∧ xCm N (Val.mk v.kind v.n v.step v.text xa xb xc) k = some k' := by
  have hb := (markV_big hK v h).diag
  refine (hb.and (xDD 274877906944)).imp fun N ⟨hm, hN⟩ k k0 kB => ?_
  have hc' : v.cnt = 4 + (v.list.map Val.cnt).sum + (v.columns.map cOne).sum + (v.rows.map cRow).sum := by cases v; simp only [Val.cnt, Val.cnts_eq, Val.list, Val.columns, Val.rows]
  obtain ⟨ya, a1, a2, a3⟩ := hm k (by omega) (by omega)
  obtain ⟨yb, b1, b2, b3⟩ := xDC hN (xs := v.columns) (k := k + ((v.list.map Val.cnt).sum : Nat)) (by omega) (by omega)
  obtain ⟨yc, c1, c2, c3⟩ := xEd hN (xs := v.rows) (k := k + ((v.list.map Val.cnt).sum : Nat) + ((v.columns.map cOne).sum : Nat)) (by have := (Val.fit_iff.1 h).2.2.2.2.2.2.1; omega) (by omega) (by omega)
  have a2' : xCu N v.list k = _ := a2
  have a3' : xDS N ya k = _ := a3
  refine ⟨k + ((v.list.map Val.cnt).sum : Nat) + ((v.columns.map cOne).sum : Nat) + ((v.rows.map cRow).sum : Nat), ya, yb, yc, by omega, by omega, a1, b1, c1, ?_, ?_⟩
  · simp only [xCn, a2', Option.bind_some, if_pos a1, b2, if_pos b1, c2, if_pos c1]
  · simp only [xCm, vl, vc, vr, a3', b3, c3, Option.bind_some]
    rw [decide_eq_false (by omega), cond_false, decide_eq_false (by omega), cond_false, decide_eq_false (by omega), cond_false]
theorem markValue_held {K : Nat} (hK : K ≤ 137438953472) {v : Val} (h : v.Fit K) (hc : v.cnt ≤ 100000000000) :
    Big fun N => ∃ k xa xb xc, 0 ≤ k ∧ xa.length = v.list.length ∧ xb.length = v.columns.length ∧ xc.length = v.rows.length ∧ xCn N v 1 = some (k, xa, xb, xc) ∧ xCm N (Val.mk v.kind v.n v.step v.text xa xb xc) 1 = some k :=
  (markValue_at hK h).imp fun N h => by
    obtain ⟨k', xa, xb, xc, h0, _, h2⟩ := h 1 (by omega) (by omega)
    exact ⟨k', xa, xb, xc, h0, h2⟩
theorem val_of_cells {a0 : Val} (f0 : ∀ z ∈ [CV.int .i64 (Val.kind a0), .int .i64 (Val.n a0), .int .i64 (Val.step a0), .str (Val.text a0), .sl .ro .val (Val.list a0), .sl .ro .str (Val.columns a0), .sl .ro .row (Val.rows a0)], DFit z.toD) : a0.Fit maxLen := by
  have f := fun z hz => (f0 z hz).dk
  simp only [List.mem_cons, List.not_mem_nil, or_false, forall_eq_or_imp, forall_eq] at f
  obtain ⟨h1, h2, h3, h4, h5, h6, h7⟩ := f
  refine Val.fit_iff.2 ⟨xEr h1, xEr h2, xEr h3, cell_str h4, cell_sl h5, (cell_sl h6).imp fun x hx => ?_, (cell_sl h7).imp fun x hx => rowd_fit.1 hx⟩
  exact DK.str_iff.1 (hx _ List.mem_cons_self)
end Go.Ab
end
section
namespace Go.Ab
set_option linter.unusedVariables false
set_option linter.unusedSimpArgs false
theorem spec_l3Row_eq {N K : Nat} {r : Rowd} (h : r.Fit K) (hK : K ≤ 137438953472) : xD7 N r = some r := by
  have h1 : r.cells.length ≤ K := h.1.1
  have h2 : r.frm.length ≤ K := h.2.1
  unfold xD7
  rw [if_pos (by unfold Lim; omega), if_pos (by unfold Lim; omega)]; rfl
theorem impl_copyRow_eq {N K : Nat} {r : Rowd} (h : r.Fit K) (hK : K ≤ 137438953472) : xDV N r = some r := spec_l3Row_eq (N := N) h hK
theorem spec_copy_b7_eq {N K : Nat} {rc : Val → Option Val} {v z : Val} {k n s : Int} {t : Str} {l : List Val} {c : List Str} (h : LFit K (Rowd.Fit K) v.rows) (hK : K ≤ 137438953472) (hN : K < N) :
    xCr N rc N 0 v z (Val.mk k n s t l c []) = some (Val.mk k n s t l c v.rows) := by
  have hl : v.rows.length ≤ K := h.1
  exact xDZ (L := fun m i q => xCr N rc m i v z (Val.mk k n s t l c q)) v.rows (fun r q => Val.mk k n s t l c (q ++ r)) (fun i q => q.length = i) (fun m q hq => by simp [xCr])
    (fun i x r q hd hi hx hq => by
      have hq : q.length = i := hq
      have hi' : (i : Int) < (v.rows.length : Int) := by omega
      refine .inl ⟨q ++ [x], by simp [hq], by simp, fun m => ?_⟩
      simp only [xCr, decide_eq_true hi', cond_true, Int.toNat_natCast, xBw hx, spec_l3Row_eq (h.2 x (List.mem_of_getElem? hx)) hK, Option.bind_some, xA1 hi (by omega : v.rows.length ≤ _), vk, vn, vs, vt, vl, vc, vr]
      rw [if_pos (by omega), if_pos (by simp only [List.length_cons, List.length_nil]; unfold Lim; omega)]) N 0 [] rfl (by omega) (by omega)
theorem spec_copy_step {N d K : Nat} {v : Val} (h : v.Fit K) (hK : K ≤ 137438953472) (hN : K < N) (hx : ∀ x ∈ v.list, xB7 N d x = some x) : xCD N (xB7 N d) v = some v := by
  obtain ⟨h1, h2, h3, h4, h5, h6, h7⟩ := Val.fit_iff.1 h
  have hl : v.list.length ≤ K := h5.1
  have hc : v.columns.length ≤ K := h6.1
  unfold xCD
  rw [if_pos (by unfold Lim; omega)]
  have key := xDZ (L := fun m i q => xCK N (xB7 N d) m i v (Val.mk 0 0 0 [] [] [] []) (Val.mk v.kind v.n v.step v.text q ([] ++ v.columns) [])) v.list (fun l q => Val.mk v.kind v.n v.step v.text (q ++ l) v.columns v.rows) (fun i q => q.length = i)
    (fun m q hq => by
      simp only [xCK, Int.lt_irrefl, decide_false, cond_false, List.append_nil, List.nil_append]
      exact spec_copy_b7_eq h7 hK hN)
    (fun i x l q hd hi hxi hq => by
      have hq : q.length = i := hq
      have hi' : (i : Int) < (v.list.length : Int) := by omega
      refine .inl ⟨q ++ [x], by simp [hq], by simp, fun m => ?_⟩
      simp only [xCK, decide_eq_true hi', cond_true, Int.toNat_natCast, xBw hxi, hx x (List.mem_of_getElem? hxi), Option.bind_some, Val.re_eq, xA1 hi (by omega : v.list.length ≤ _), vk, vn, vs, vt, vl, vc, vr]
      rw [if_pos (by omega), if_pos (by simp only [List.length_cons, List.length_nil]; unfold Lim; omega)]) N 0 [] rfl (by omega) (by omega)
  rw [List.drop_zero, List.nil_append, List.nil_append, Val.eta] at key
  exact key
theorem spec_copy_big {K : Nat} (hK : K ≤ 137438953472) : ∀ v : Val, v.Fit K → Big2 fun N d => xB7 N d v = some v := by
  refine Val.ind fun k n s t a c r ih h => ?_
  have h5 := (Val.fit_iff.1 h).2.2.2.2.1
  refine Big2.succ ?_
  exact ((Big2.list fun x hx => ih x hx (h5.2 x hx)).and (xDD K).two).imp fun N d ⟨hx, hN⟩ => spec_copy_step h hK hN hx
theorem spec_copy_eq' {K : Nat} {v : Val} (h : v.Fit K) (hK : K ≤ 137438953472) : Big fun N => xEe N v = some v := (spec_copy_big hK v h).diag
theorem impl_copy_b6_eq {N K : Nat} {rc : Val → Option Val} {rd : List Val → Option (List Val)} {z : Val} {k n s : Int} {t : Str} {l : List Val} {c : List Str} {rs : List Rowd} (h : LFit K (Rowd.Fit K) rs) (hK : K ≤ 137438953472) (hN : K < N) :
    xBy N rc rd N rs rs.length 0 z (Val.mk k n s t l c []) = some (Val.mk k n s t l c rs) := by
  have hl : rs.length ≤ K := h.1
  exact xDZ (L := fun m i q => xBy N rc rd m rs rs.length i z (Val.mk k n s t l c q)) rs (fun r q => Val.mk k n s t l c (q ++ r)) (fun i q => q.length = i) (fun m q hq => by simp [xBy])
    (fun i x r q hd hi hx hq => by
      have hq : q.length = i := hq
      have hi' : (i : Int) < (rs.length : Int) := by omega
      refine .inl ⟨q ++ [x], by simp [hq], by simp, fun m => ?_⟩
      simp only [xBy, decide_eq_true hi', cond_true, Int.toNat_natCast, xBw hx, impl_copyRow_eq (h.2 x (List.mem_of_getElem? hx)) hK, Option.bind_some, xA1 hi (by omega : rs.length ≤ _), vk, vn, vs, vt, vl, vc, vr]
      rw [if_pos (by omega), if_pos (by simp only [List.length_cons, List.length_nil]; unfold Lim; omega)]) N 0 [] rfl (by omega) (by omega)
theorem impl_copies_step {N d : Nat} {a : List Val} (hl : a.length ≤ 137438953472) (hn : a.length < N) (hx : ∀ x ∈ a, (xAy N d).c_impl_copyValue x = some x) : (xAy N (d + 1)).c_impl_copyValues a = some a := by
  show xBS N (xAy N d).c_impl_copyValue (xAy N d).c_impl_copyValues a = _
  unfold xBS
  exact xDZ (L := fun m i q => xBK N (xAy N d).c_impl_copyValue (xAy N d).c_impl_copyValues m q a a.length i) a (fun l q => q ++ l) (fun i q => q.length = i) (fun m q hq => by simp [xBK])
    (fun i x l q hd hi hxi hq => by
      have hq : q.length = i := hq
      have hi' : (i : Int) < (a.length : Int) := by omega
      refine .inl ⟨q ++ [x], by simp [hq], by simp, fun m => ?_⟩
      simp only [xBK, decide_eq_true hi', cond_true, Int.toNat_natCast, xBw hxi, hx x (List.mem_of_getElem? hxi), Option.bind_some, Val.re_eq, xA1 hi (by omega : a.length ≤ _)]
      rw [if_pos (by omega), if_pos (by simp only [List.length_cons, List.length_nil]; unfold Lim; omega)]) N 0 [] rfl (by omega) (by omega)
theorem impl_copy_step {N d K : Nat} {v : Val} (h : v.Fit K) (hK : K ≤ 137438953472) (hN : K < N) (hx : (xAy N d).c_impl_copyValues v.list = some v.list) : (xAy N (d + 1)).c_impl_copyValue v = some v := by
  obtain ⟨h1, h2, h3, h4, h5, h6, h7⟩ := Val.fit_iff.1 h
  have hc : v.columns.length ≤ K := h6.1
  show xB2 N (xAy N d).c_impl_copyValue (xAy N d).c_impl_copyValues v = _
  unfold xB2
  rw [hx, Option.bind_some, if_pos (by unfold Lim; omega), impl_copy_b6_eq h7 hK hN, List.nil_append, Val.eta]
theorem impl_copy_big {K : Nat} (hK : K ≤ 137438953472) : ∀ v : Val, v.Fit K → Big2 fun N d => (xAy N d).c_impl_copyValue v = some v := by
  refine Val.ind fun k n s t a c r ih h => ?_
  have h5 := (Val.fit_iff.1 h).2.2.2.2.1
  have hl : a.length ≤ K := h5.1
  refine Big2.succ (Big2.succ ?_)
  exact ((Big2.list fun x hx => ih x hx (h5.2 x hx)).and (xDD K).two).imp fun N d ⟨hx, hN⟩ => impl_copy_step h hK hN (impl_copies_step (a := a) (by omega) (by omega) hx)
theorem impl_copy_eq' {K : Nat} {v : Val} (h : v.Fit K) (hK : K ≤ 137438953472) : Big fun N => xDp N v = some v := (impl_copy_big hK v h).diag
theorem valCnt (v : Val) : v.cnt = 4 + ((v.list.map Val.cnt).sum + (v.columns.map cOne).sum + (v.rows.map cRow).sum) := by
  cases v; simp only [Val.cnt, Val.cnts_eq, vl, vc, vr]; omega
theorem i64_of {x : Int} (h1 : -1000000 ≤ x) (h2 : x ≤ 1000000) : I64 x := ⟨by omega, by omega⟩
theorem lfit_nil {α : Type} {K : Nat} {p : α → Prop} : LFit K p [] := ⟨Nat.zero_le _, fun x hx => by cases hx⟩
theorem flat_fit {K : Nat} {a b c : Int} {t : Str} (h1 : I64 a) (h2 : I64 b) (h3 : I64 c) (h4 : t.length ≤ K) : (Val.mk a b c t [] [] []).Fit K := Val.fit_iff.2 ⟨h1, h2, h3, h4, lfit_nil, lfit_nil, lfit_nil⟩
end Go.Ab
end
section
namespace Go.Ab
set_option linter.unusedVariables false
set_option linter.unusedSimpArgs false
def kb : List Val → List Int → Bool
  | [], _ => false
  | _ :: _, [] => false
  | x :: r, k :: ks => (x.kind != k) || kb r ks
end Go.Ab
end
section
namespace Go.Ab
set_option linter.unusedVariables false
set_option linter.unusedSimpArgs false
def pick (k : Int) (n : Int) (rs : List Rowd) : List Rowd := rs.filter fun r => r.cells.getD k.toNat Ty.int.dflt == n
end Go.Ab
end
section
namespace Go.Ab
set_option linter.unusedVariables false
set_option linter.unusedSimpArgs false
theorem markValueS_at {K : Nat} (hK : K ≤ 137438953472) {l : List Val} (h : LFit K (Val.Fit K) l) :
    Big fun N => ∀ k : Int, 0 ≤ k → k + ((l.map Val.cnt).sum : Nat) ≤ 137438953472 → ∃ ys, ys.length = l.length ∧ xCu N l k = some (k + ((l.map Val.cnt).sum : Nat), ys) := by
  have hb : Big2 fun N d => ∀ x ∈ l, MarkV N d x.list := Big2.list fun x hx => markV_big hK x (h.2 x hx)
  have key : Big2 fun N d => MarkV N d l := Big2.succ ((hb.and (xDD 274877906944).two).imp fun N d ⟨hx, hN⟩ => markV_step hN (fun x hxm => by have := (Val.fit_iff.1 (h.2 x hxm)).2.2.2.2.2.2.1; omega) hx)
  exact key.diag.imp fun N hm k h0 h1 => by
    obtain ⟨ys, a1, a2, _⟩ := hm k h0 h1
    exact ⟨ys, a1, a2⟩
end Go.Ab
end
section
namespace Go.Ab
set_option linter.unusedVariables false
set_option linter.unusedSimpArgs false
def Rea.size (b : Rea) : Nat := b.text.length + b.result.size
theorem szRead_big {b : Rea} (h : b.Fit maxLen) : Big fun N => ∀ l, 0 ≤ l → l ≤ 1048576 → xDm N b l = some (left b.size l) :=
  (szValue_eq h.2.2.2.2).imp fun N hv l h0 h1 => szThen h.2.2.2.1 h0 h1 rfl fun m m0 m1 => left_two (hv m m0 m1)
theorem xEC {x0 : List Rea} (h : LFit maxLen (Rea.Fit maxLen) x0) : Big fun N => ∀ l, 0 ≤ l → l ≤ 1048576 → xDX N x0 l = some (left (x0.length + (x0.map Rea.size).sum) l) :=
  ((Big.list fun x hx => szRead_big (h.2 x hx)).and (xDD x0.length)).imp fun N ⟨hx, hn⟩ l h0 h1 =>
    szThen h.1 h0 h1 rfl fun m hm0 hm1 => szLoop (L := fun n x0 x1 x5 => xDd N n x0 x1 x5) (d := Ty.rea.dflt) (sz := xDm N) (fun _ _ _ => rfl) h.1 (fun x hxm l h0 h1 => hx x hxm l h0 h1) hn hm0 hm1
theorem Rea.fit_size {K M : Nat} {r : Rea} (h : r.Fit M) (hs : r.size ≤ K) : r.Fit K := by
  unfold Rea.size at hs
  exact ⟨h.1, h.2.1, h.2.2.1, show List.length _ ≤ K by omega, Val.fit_size _ h.2.2.2.2 (by omega)⟩
theorem toRead_big {b : Rea} (h : b.Fit 1048576) : Big fun N => xCp N b = some b := (toValue_eq h.2.2.2.2).imp fun N hv => by simp [xCp, hv]
theorem toReadS_big {x0 : List Rea} (h : LFit 1048576 (Rea.Fit 1048576) x0) : Big fun N => xCw N x0 = some x0 :=
  ((Big.list fun x hx => toRead_big (h.2 x hx)).and (xDD x0.length)).imp fun N ⟨hx, hn⟩ => by
    have hl : x0.length ≤ 1048576 := h.1
    unfold xCw
    rw [if_pos ⟨by omega, rfl, by unfold Lim; omega⟩]
    exact toLoop (L := fun n x0 x3 x4 => xDf N n x0 x3 x4) (to := xCp N) (re := fun r => Rea.mk (Rea.kind r) (Rea.n r) (Rea.time r) (Rea.text r) (Val.re (Rea.result r))) (fun _ _ _ => rfl) (by omega) (fun x hxm => ⟨x, hx x hxm, by simp [Val.re_eq]⟩) hn
theorem eqRead_big {b : Rea} {K : Nat} (h : b.Fit K) (hK : K ≤ 9223372036854775807) : Big fun N => xDk N b b = some true := (eqValue_self h.2.2.2.2 hK).imp fun N hv => by simp [xDk, hv]
theorem eqReadS_big {x0 : List Rea} {K : Nat} (h : LFit K (Rea.Fit K) x0) (hK : K ≤ 9223372036854775807) : Big fun N => xDy N x0 x0 = some true :=
  ((Big.list fun x hx => eqRead_big (h.2 x hx) hK).and (xDD x0.length)).imp fun N ⟨hx, hn⟩ => by
    have hl : x0.length ≤ K := h.1
    unfold xDy
    rw [bne_self_eq_false, cond_false]
    exact eqLoop (x0 := x0) (L := fun n i => xCs N n x0 x0 i) (fun n => by simp [xCs]) (fun i x n hi hxi hm => by
      have hi' : (i : Int) < (x0.length : Int) := by omega
      simp only [xCs, decide_eq_true hi', cond_true, Int.toNat_natCast, xBw hxi, hx x hm, Option.bind_some, xA1 hi (by omega : x0.length ≤ _), Bool.not_true, cond_false]
      rw [if_pos (by omega), if_pos (by omega)]) hn
theorem rea_of_cells {a3 : Rea} (f3 : ∀ z ∈ [CV.int .i64 (Rea.kind a3), CV.int .i64 (Rea.n a3), CV.int .i64 (Rea.time a3), CV.str (Rea.text a3), CV.int .i64 (Val.kind (Rea.result a3)), CV.int .i64 (Val.n (Rea.result a3)), CV.int .i64 (Val.step (Rea.result a3)), CV.str (Val.text (Rea.result a3)), CV.sl .ro .val (Val.list (Rea.result a3)), CV.sl .ro .str (Val.columns (Rea.result a3)), CV.sl .ro .row (Val.rows (Rea.result a3))], DFit z.toD) : a3.Fit maxLen := by
  have g : (Rea.result a3).Fit maxLen := val_of_cells fun z hz => f3 z (by
    simp only [List.mem_cons, List.not_mem_nil, or_false] at hz ⊢
    exact .inr (.inr (.inr (.inr hz))))
  have f := fun z hz => (f3 z hz).dk
  simp only [List.mem_cons, List.not_mem_nil, or_false, forall_eq_or_imp, forall_eq] at f
  exact ⟨xEr f.1, xEr f.2.1, xEr f.2.2.1, cell_str f.2.2.2.1, g⟩
end Go.Ab
end
section
namespace Go.Ab
set_option linter.unusedVariables false
set_option linter.unusedSimpArgs false
def cRea (b : Rea) : Nat := 8 + ((b.result.list.map Val.cnt).sum + (b.result.columns.map cOne).sum + (b.result.rows.map cRow).sum)
theorem cRea_le (xs : List Rea) : (xs.map cRea).sum ≤ 8 * (xs.length + (xs.map Rea.size).sum) := sum_le_mul fun x _ => by
  have h1 := Val.cnt_le x.result
  have h2 := valCnt x.result
  unfold cRea Rea.size
  omega
def sameR (a b : Rea) : Bool := a.kind == b.kind && (a.n == b.n && (a.text == b.text && a.time == b.time))
theorem spec_same_eq (N : Nat) (a b : Rea) : xDz N a b = some (sameR a b) := by
  unfold xDz sameR
  cases (a.kind == b.kind) <;> cases (a.n == b.n) <;> cases (a.text == b.text) <;> rfl
theorem impl_same_eq (N : Nat) (a b : Rea) : xDa N a b = some (sameR a b) := by
  unfold xDa sameR
  cases (a.kind == b.kind) <;> cases (a.n == b.n) <;> cases (a.text == b.text) <;> rfl
def xEi (b : Rea) : List Rea → Val × Bool
  | [] => (Val.mk 0 0 0 [] [] [] [], false)
  | x :: r => bif sameR x b then (x.result, true) else xEi b r
theorem spec_Find_eq {N : Nat} {xs : List Rea} {b : Rea} (hc : ∀ x ∈ xs, xEe N x.result = some x.result) (hl : xs.length ≤ 137438953472) (hn : xs.length < N) : xDM N xs b = some (xEi b xs) := by
  have key := xDZ (σ := Unit) (L := fun n i _ => xBR N n xs i b (Val.mk 0 0 0 [] [] [] [])) xs (fun l _ => xEi b l) (fun _ _ => True) (fun n s _ => by simp [xBR, xEi])
    (fun i x l s hd hi hxi _ => by
      have hi' : (i : Int) < (xs.length : Int) := by omega
      have hcd : (0 : Int) ≤ (i : Int) ∧ (i : Int) < (xs.length : Int) := by omega
      cases h : sameR x b
      · refine .inl ⟨(), trivial, by simp only [xEi, h, cond_false], fun n => ?_⟩
        simp only [xBR, decide_eq_true hi', cond_true, Int.toNat_natCast, xBw hxi, if_pos hcd, spec_same_eq, h, Option.bind_some, cond_false, xA1 hi (by omega : xs.length ≤ _)]
      · refine .inr fun n => ?_
        simp only [xBR, decide_eq_true hi', cond_true, Int.toNat_natCast, xBw hxi, if_pos hcd, spec_same_eq, h, Option.bind_some, hc x (List.mem_of_getElem? hxi), xEi]) N 0 () trivial (by omega) (by omega)
  exact key
theorem impl_Find_eq {N : Nat} {xs : List Rea} {b : Rea} (hc : ∀ x ∈ xs, xDp N x.result = some x.result) (hl : xs.length ≤ 137438953472) (hn : xs.length < N) : xC8 N xs b = some (xEi b xs) := by
  have key := xDZ (σ := Unit) (L := fun n i _ => xBN N n xs xs.length i b (Val.mk 0 0 0 [] [] [] [])) xs (fun l _ => xEi b l) (fun _ _ => True) (fun n s _ => by simp [xBN, xEi])
    (fun i x l s hd hi hxi _ => by
      have hi' : (i : Int) < (xs.length : Int) := by omega
      have hcd : (0 : Int) ≤ (i : Int) ∧ (i : Int) < (xs.length : Int) := by omega
      cases h : sameR x b
      · refine .inl ⟨(), trivial, by simp only [xEi, h, cond_false], fun n => ?_⟩
        simp only [xBN, decide_eq_true hi', cond_true, Int.toNat_natCast, xBw hxi, if_pos hcd, impl_same_eq, h, Option.bind_some, cond_false, xA1 hi (by omega : xs.length ≤ _)]
      · refine .inr fun n => ?_
        simp only [xBN, decide_eq_true hi', cond_true, Int.toNat_natCast, xBw hxi, if_pos hcd, impl_same_eq, h, Option.bind_some, hc x (List.mem_of_getElem? hxi), xEi]) N 0 () trivial (by omega) (by omega)
  exact key
theorem reads_of_cells {a0 : List Rea} (f0 : ∀ z ∈ [CV.sl .ro .rea a0], DFit z.toD) : LFit maxLen (Rea.Fit maxLen) a0 := (cell_sl (f0 _ List.mem_cons_self).dk).imp fun x => rea_fit.1
end Go.Ab
end
section
namespace Go.Ab
set_option linter.unusedVariables false
set_option linter.unusedSimpArgs false
theorem findR_facts {K : Nat} (hK : 1 ≤ K) (b : Rea) : ∀ {l : List Rea}, (∀ x ∈ l, Rea.Fit K x) → (xEi b l).1.Fit K ∧ (xEi b l).1.size ≤ (l.map Rea.size).sum
  | [], _ => ⟨flat_fit (i64_of (by omega) (by omega)) (i64_of (by omega) (by omega)) (i64_of (by omega) (by omega)) (Nat.zero_le _), by simp [xEi, Val.size, Val.sizes]⟩
  | x :: r, h => by
    obtain ⟨i1, i2⟩ := findR_facts hK b (l := r) fun y hy => h y (List.mem_cons_of_mem _ hy)
    unfold xEi
    have e : x.size = x.text.length + x.result.size := rfl
    simp only [List.map_cons, List.sum_cons]
    cases sameR x b
    · exact ⟨i1, by simp only [cond_false]; omega⟩
    · exact ⟨(h x List.mem_cons_self).2.2.2.2, by simp only [cond_true]; omega⟩
theorem markOnly {α : Type} {Lm : Nat → List α → Int → Int → Option (Int × List α)} {c : α → Nat} {x0 : List α} {k0 B : Int} {n : Nat}
    (hm : ∀ n xs k, xs.length = x0.length → Lm (n + 1) xs k (xs.length : Nat) = some (k, xs))
    (hx : ∀ x ∈ x0, ∀ k, k0 ≤ k → k + c x ≤ B → ∃ y, ∀ n xs (i : Nat), xs.length = x0.length → xs[i]? = some x → Lm (n + 1) xs k i = Lm n (xs.set i y) (k + c x) ((i + 1 : Nat) : Int))
    (hk : k0 + (x0.map c).sum ≤ B) (hn : x0.length < n) : ∃ ys, ys.length = x0.length ∧ Lm n x0 k0 0 = some (k0 + (x0.map c).sum, ys) := by
  have key : ∀ (l pre : List α) (k : Int) (n : Nat), pre.length + l.length = x0.length → (∀ x ∈ l, x ∈ x0) → k0 ≤ k → k + (l.map c).sum ≤ B → l.length < n →
      ∃ ys, ys.length = l.length ∧ Lm n (pre ++ l) k (pre.length : Nat) = some (k + (l.map c).sum, pre ++ ys) := by
    intro l
    induction l with
    | nil =>
      intro pre k n hl hmem h0 hB hn
      obtain ⟨n, rfl⟩ : ∃ m, n = m + 1 := ⟨n - 1, by simp at hn; omega⟩
      refine ⟨[], rfl, ?_⟩
      have := hm n (pre ++ []) k (by simpa using hl)
      simpa using this
    | cons x l ih =>
      intro pre k n hl hmem h0 hB hn
      obtain ⟨n, rfl⟩ : ∃ m, n = m + 1 := ⟨n - 1, by simp at hn; omega⟩
      simp only [List.map_cons, List.sum_cons, List.length_cons] at hB hl hn
      obtain ⟨y, h1⟩ := hx x (hmem x List.mem_cons_self) k h0 (by omega)
      obtain ⟨ys, g1, g2⟩ := ih (pre ++ [y]) (k + c x) n (by simp; omega) (fun z hz => hmem z (List.mem_cons_of_mem _ hz)) (by omega) (by omega) (by omega)
      refine ⟨y :: ys, by simp [g1], ?_⟩
      rw [h1 n (pre ++ x :: l) pre.length (by simp; omega) (by simp)]
      rw [List.set_append, if_neg (by omega), Nat.sub_self, List.set_cons_zero]
      have e : ((pre.length + 1 : Nat) : Int) = ((pre ++ [y]).length : Nat) := by simp
      rw [e, show pre ++ y :: l = (pre ++ [y]) ++ l from by simp, g2]
      simp only [List.map_cons, List.sum_cons, List.append_assoc, List.cons_append, List.nil_append]
      congr 2
      omega
  obtain ⟨ys, h1, h2⟩ := key x0 [] k0 n (by simp) (fun x h => h) (Int.le_refl _) hk hn
  exact ⟨ys, h1, h2⟩
theorem markReadS_at {K : Nat} (hK : K ≤ 137438953472) {xs : List Rea} (h : LFit K (Rea.Fit K) xs) :
    Big fun N => ∀ k0 : Int, 1 ≤ k0 → k0 + ((xs.map cRea).sum : Nat) ≤ 137438953472 → ∃ ys, ys.length = xs.length ∧ xDq N xs k0 = some (k0 + ((xs.map cRea).sum : Nat), ys) := by
  have hm := Big.list (l := xs) fun x hx => markValueS_at hK (Val.fit_iff.1 (h.2 x hx).2.2.2.2).2.2.2.2.1
  refine (hm.and ((xDD 274877906944).and (xDD xs.length))).imp fun N ⟨hm, hN, hn⟩ k0 hk0 hk1 => ?_
  have hlen : xs.length ≤ K := h.1
  exact markOnly (Lm := fun n xs k i => xBY N n xs k i) (c := cRea) (x0 := xs) (k0 := k0) (B := 137438953472) (n := N) (fun n xs k hl => by simp [xBY])
    (fun x hx k hk hB => by
      have hcx : cRea x = 8 + ((x.result.list.map Val.cnt).sum + (x.result.columns.map cOne).sum + (x.result.rows.map cRow).sum) := rfl
      rw [hcx] at hB ⊢
      have hrows : x.result.rows.length ≤ K := (Val.fit_iff.1 (h.2 x hx).2.2.2.2).2.2.2.2.2.2.1
      obtain ⟨t, ht⟩ := xDL hN (k := k + 1 + 1 + 1) (by omega) (by omega)
      obtain ⟨t2, ht2⟩ := xDL hN (k := k + 1 + 1 + 1 + 1 + 1 + 1 + 1) (by omega) (by omega)
      obtain ⟨ya, a1, a2⟩ := hm x hx (k + 1 + 1 + 1 + 1 + 1 + 1 + 1 + 1) (by omega) (by omega)
      obtain ⟨yb, b1, b2, b3⟩ := xDC hN (xs := x.result.columns) (k := k + 1 + 1 + 1 + 1 + 1 + 1 + 1 + 1 + ((x.result.list.map Val.cnt).sum : Nat)) (by omega) (by omega)
      obtain ⟨yc, c1, c2, c3⟩ := xEd hN (xs := x.result.rows) (k := k + 1 + 1 + 1 + 1 + 1 + 1 + 1 + 1 + ((x.result.list.map Val.cnt).sum : Nat) + ((x.result.columns.map cOne).sum : Nat)) (by omega) (by omega) (by omega)
      have a2' : xCu N x.result.list (k + 1 + 1 + 1 + 1 + 1 + 1 + 1 + 1) = _ := a2
      have w1 : IntKind.i64.wrap (k + 1) = k + 1 := xBf (by omega) (by omega)
      have w2 : IntKind.i64.wrap (k + 1 + 1) = k + 1 + 1 := xBf (by omega) (by omega)
      have w3 : IntKind.i64.wrap (k + 1 + 1 + 1) = k + 1 + 1 + 1 := xBf (by omega) (by omega)
      have w4 : IntKind.i64.wrap (k + 1 + 1 + 1 + 1) = k + 1 + 1 + 1 + 1 := xBf (by omega) (by omega)
      have w5 : IntKind.i64.wrap (k + 1 + 1 + 1 + 1 + 1) = k + 1 + 1 + 1 + 1 + 1 := xBf (by omega) (by omega)
      have w6 : IntKind.i64.wrap (k + 1 + 1 + 1 + 1 + 1 + 1) = k + 1 + 1 + 1 + 1 + 1 + 1 := xBf (by omega) (by omega)
      have w7 : IntKind.i64.wrap (k + 1 + 1 + 1 + 1 + 1 + 1 + 1) = k + 1 + 1 + 1 + 1 + 1 + 1 + 1 := xBf (by omega) (by omega)
      have w8 : IntKind.i64.wrap (k + 1 + 1 + 1 + 1 + 1 + 1 + 1 + 1) = k + 1 + 1 + 1 + 1 + 1 + 1 + 1 + 1 := xBf (by omega) (by omega)
      refine ⟨⟨k, k + 1, k + 1 + 1, t, .mk (k + 1 + 1 + 1 + 1) (k + 1 + 1 + 1 + 1 + 1) (k + 1 + 1 + 1 + 1 + 1 + 1) t2 ya yb yc⟩, fun n xs' i hl hxi => ?_⟩
      · have hi := (List.getElem?_eq_some_iff.1 hxi).1
        have hi' : (i : Int) < (xs'.length : Int) := by omega
        have hcd : (0 : Int) ≤ (i : Int) ∧ (i : Int) < (xs'.length : Int) := by omega
        simp only [xBY, decide_eq_true hi', cond_true, Int.toNat_natCast, xBw hxi, List.length_set, xDF hi, List.set_set, xA1 hi (by omega : xs'.length ≤ _), if_pos hcd, w1, w2, w3, w4, w5, w6, w7, w8, ht, ht2, Option.bind_some, Val.re_eq, vk, vn, vs, vt, vl, vc, vr,
          a2', b2, c2, if_pos a1, if_pos b1, if_pos c1]
        congr 1
        omega) (by omega) hn
theorem xD0 (a0 : List Rea) (a1 : Rea) (f0 : ∀ z ∈ [CV.sl .ro .rea a0], DFit z.toD) (f1 : ∀ z ∈ [CV.int .i64 (Rea.kind a1), CV.int .i64 (Rea.n a1), CV.int .i64 (Rea.time a1), CV.str (Rea.text a1), CV.int .i64 (Val.kind (Rea.result a1)), CV.int .i64 (Val.n (Rea.result a1)), CV.int .i64 (Val.step (Rea.result a1)), CV.str (Val.text (Rea.result a1)), CV.sl .ro .val (Val.list (Rea.result a1)), CV.sl .ro .str (Val.columns (Rea.result a1)), CV.sl .ro .row (Val.rows (Rea.result a1))], DFit z.toD) : ∃ N, xBu N a0 a1 = some true := by
  have hF := reads_of_cells f0
  have hG := rea_of_cells f1
  by_cases h : left (a0.length + (a0.map Rea.size).sum) 1048576 < 0
  · exact ((xEC hF).imp fun N hs => by simp [xBu, hs 1048576 (by omega) (by omega), h]).get
  · have hge := left_ge h
    rw [left_of hge] at h
    by_cases h' : left a1.size (1048576 - ((a0.length + (a0.map Rea.size).sum : Nat) : Int)) < 0
    · refine (((xEC hF).and (szRead_big hG)).imp fun N ⟨hs, hv⟩ => ?_).get
      have e1 := hs 1048576 (by omega) (by omega)
      rw [left_of hge] at e1
      unfold xBu
      rw [e1, Option.bind_some, decide_eq_false h, cond_false, hv _ (by omega) (by omega), Option.bind_some, decide_eq_true h', cond_true]
    · have hge' := left_ge h'
      have hs : LFit 1048576 (Rea.Fit 1048576) a0 := lfit_size (f := Rea.size) hF (by omega) fun x _ => Rea.fit_size
      have ht : a1.Fit 1048576 := Rea.fit_size hG (by omega)
      have hk : (1048576 : Nat) ≤ 137438953472 := by omega
      obtain ⟨g1, g2⟩ := findR_facts (by omega) a1 hs.2
      have hc := Val.cnt_le (xEi a1 a0).1
      have hb := cRea_le a0
      have c3 := Val.cnt_le a1.result
      have hz : a1.result.size ≤ 1048576 := by have : a1.size = a1.text.length + a1.result.size := rfl; omega
      refine ((((xEC hF).and (szRead_big hG)).and ((toReadS_big hs).and (toRead_big ht))).and ((((eqReadS_big hs (by omega)).and (eqRead_big ht (by omega))).and (eqValue_self g1 (by omega))).and
        (((Big.list fun x hx => spec_copy_eq' (hs.2 x hx).2.2.2.2 hk).and (Big.list fun x hx => impl_copy_eq' (hs.2 x hx).2.2.2.2 hk)).and (((markReadS_at hk hs).and (markValue_at hk ht.2.2.2.2)).and ((markValue_held hk g1 (by omega)).and (xDD (a0.length + 1))))))).imp
        (fun N ⟨⟨⟨z0, z1⟩, t0, t1⟩, ⟨⟨q0, q1⟩, q2⟩, ⟨c0, c1⟩, ⟨m0, m1⟩, m2, hN⟩ => ?_) |>.get
      have e1 := z0 1048576 (by omega) (by omega)
      rw [left_of hge] at e1
      have e2 := z1 _ (by omega : 0 ≤ 1048576 - ((a0.length + (a0.map Rea.size).sum : Nat) : Int)) (by omega)
      have e3 := spec_Find_eq (N := N) (xs := a0) (b := a1) c0 (by omega) (by omega)
      have e4 := impl_Find_eq (N := N) (xs := a0) (b := a1) c1 (by omega) (by omega)
      obtain ⟨ya, u1, u2⟩ := m0 1 (by omega) (by omega)
      obtain ⟨k1, xa, xb, xc, v0, v1, p1, p2, p3, p4, _⟩ := m1 (1 + ((a0.map cRea).sum : Nat)) (by omega) (by omega)
      obtain ⟨k2, wa, wb, wc, o0, o1, o2, o3, o4, o5⟩ := m2
      generalize xEi a1 a0 = r at *
      unfold xBu
      rw [e1, Option.bind_some, decide_eq_false h, cond_false, e2, Option.bind_some, decide_eq_false h', cond_false]
      simp only [xDI, t0, t1, e3, e4, q0, q1, q2, u2, p4, o4, o5, if_pos u1, if_pos p1, if_pos p2, if_pos p3, if_pos o1, if_pos o2, if_pos o3, Option.bind_some, Bool.not_true, cond_false, beq_self_eq_true, decide_eq_false (by omega : ¬ k1 < 0), decide_eq_false (by omega : ¬ k2 < 0), bne_self_eq_false]
end Go.Ab
end
section
namespace Go.Proofs.Ytbcfnggjagchiaa
open Go.Ab Go.ChangeShapes Go.WideShapes Go.ChangeAt Go.RowKit
set_option linter.unusedVariables false
theorem own : ownKnob Try.prog.godebug = none := by kernel_rfl
theorem laidOut : laidOutB Try.prog = true := by kernel_rfl
theorem xDE : ktChk Try.prog [(3, .int), (9, .str), (26, .val), (41, .rea), (133, .row), (165, .org)] = true := by kernel_rfl
set_option maxRecDepth 100000 in
theorem fnExactFindRead_lifted (os : Os) (started : os.Started) (H : Type) (enc : TypeId × Value → H) :
    ReturnsInHanded {} Try.checked os 5 .any (Rows.fnExactFindReadSpec.pre6 enc Try.prog Try.f5 Rows.fnExactFindReadRow.domain false) (Rows.fnExactFindReadSpec.post enc Try.prog Try.f5 false true false false) := by
  refine returnsInHanded_of_change (C := Try.checked) own started (by kernel_rfl) Try.func5
    (ChangeSpec.witness6 (enc := enc) (C := Try.checked) false ⟨#[], #[.slice none 0 0, .agg #[.int .i64 0, .int .i64 0, .int .i64 0, .string ByteArray.empty, .int .i64 0, .int .i64 0, .int .i64 0, .string ByteArray.empty, .slice none 0 0, .slice none 0 0, .slice none 0 0]], []⟩ 8 (by kernel_rfl) (by kernel_rfl) (by kernel_rfl) (by kernel_rfl)) ?_
  intro W base args ds gs before hval0 hW hcnd _
  have hval : ∀ (j : Nat) t v, Try.f5.params[j]? = some t → args[j]? = some v → Value.okWide Try.prog W .any base t v := hval0
  have hW' := hW
  obtain ⟨p, q, hA0, hV, rfl, hfz, hnd⟩ := hW
  have hA : DataW.TrodAll enc Try.prog W 0 (fun _ => true) true Try.f5.params.toList args.toList ds p := hA0
  rw [Try.params5] at hA hval
  obtain ⟨v0, vs0, d0, ds0, p0, q0, hargs, rfl, rfl, h0, r0⟩ := trodAll_cons hA
  obtain ⟨v1, vs1, d1, ds1, p1, q1, rfl, rfl, rfl, h1, r1⟩ := trodAll_cons r0
  obtain ⟨rfl, rfl, rfl⟩ := trodAll_nil r1
  obtain rfl : args = #[v0, v1] := by cases args; simp_all
  obtain ⟨rfl, rfl⟩ := trodVars_none hV
  have lt0 : ∀ x ∈ p0, x.block < W.heap.size := by obtain ⟨m, hm⟩ := h0; exact DataW.trod_lt m _ _ _ hm
  have lt1 : ∀ x ∈ p1, x.block < W.heap.size := by obtain ⟨m, hm⟩ := h1; exact DataW.trod_lt m _ _ _ hm
  obtain ⟨z0, e0, f0, vr0⟩ := vr_of xDE (g := false) (t := 39) (ns := [.inr .rea]) (by kernel_rfl) (hval 0 39 v0 rfl rfl) h0
  obtain ⟨x0_0, _, rfl, e0_0⟩ := AreOf.sl_inv e0
  obtain rfl := e0_0.nil_inv
  obtain ⟨z1, e1, f1, vr1⟩ := vr_of xDE (g := true) (t := 41) (ns := [.inl (.int .i64), .inl (.int .i64), .inl (.int .i64), .inl .str, .inl (.int .i64), .inl (.int .i64), .inl (.int .i64), .inl .str, .inr .val, .inr .str, .inr .row]) (by kernel_rfl) (hval 1 41 v1 rfl rfl) h1
  obtain ⟨x1_0, _, rfl, e1_0⟩ := AreOf.int_inv e1
  obtain ⟨x1_1, _, rfl, e1_1⟩ := AreOf.int_inv e1_0
  obtain ⟨x1_2, _, rfl, e1_2⟩ := AreOf.int_inv e1_1
  obtain ⟨x1_3, _, rfl, e1_3⟩ := AreOf.str_inv e1_2
  obtain ⟨x1_4, _, rfl, e1_4⟩ := AreOf.int_inv e1_3
  obtain ⟨x1_5, _, rfl, e1_5⟩ := AreOf.int_inv e1_4
  obtain ⟨x1_6, _, rfl, e1_6⟩ := AreOf.int_inv e1_5
  obtain ⟨x1_7, _, rfl, e1_7⟩ := AreOf.str_inv e1_6
  obtain ⟨x1_8, _, rfl, e1_8⟩ := AreOf.sl_inv e1_7
  obtain ⟨x1_9, _, rfl, e1_9⟩ := AreOf.sl_inv e1_8
  obtain ⟨x1_10, _, rfl, e1_10⟩ := AreOf.sl_inv e1_9
  obtain rfl := e1_10.nil_inv
  obtain ⟨N, hF⟩ := xD0 x0_0 (Rea.mk x1_0 x1_1 x1_2 x1_3 (Val.mk x1_4 x1_5 x1_6 x1_7 x1_8 x1_9 x1_10)) f0 f1
  clear hA0 hval0
  refine (calls_of T.fk5 (T.laws_FnExactFindRead_ok hF) (W := W) (args := #[v0, v1]) ⟨vr0 _, vr1 _, trivial⟩).mono fun e W' ⟨he, bel⟩ => ?_
  subst he
  exact ⟨_, rfl, _, _, _, [], _, [], hW', trodAll_mk1 (shut_bool Try.underlying4 _), (trodAll_cons_mk (Below.trod laidOut (by kernel_rfl) (of_decide_eq_true (by kernel_rfl)) h0 bel lt0) (trodAll_cons_mk (Below.trod laidOut (by kernel_rfl) (of_decide_eq_true (by kernel_rfl)) h1 bel lt1) trodAll_mk0)), rfl, bel.frame _, fun h => by cases h⟩
theorem fnExactFindRead_proved : Rows.FnExactFindReadSaid :=
  OpenClaim.holds_of_wide 5 Try.f5 rfl rfl rfl rfl rfl rfl rfl ⟨rfl, rfl, rfl, rfl, rfl⟩ rfl rfl rfl rfl rfl (by kernel_rfl) Try.func5 (by kernel_rfl)
    (of_decide_eq_true (by kernel_rfl)) (by unfold Func.isWrapper; first | (rw [if_pos (by decide +kernel)]; kernel_rfl) | (rw [if_neg (by decide +kernel)]; exact ⟨rfl, rfl⟩))
    (fun os started H enc _ => fnExactFindRead_lifted os started H enc)
end Go.Proofs.Ytbcfnggjagchiaa
end
