/- The statement FnExactMergeReads holds: plain functions, certificates, laws. Conditions: none. -/
import Derived.Test.YtkbojckenecnbaaL2
import Derived.Test.YtkbojckenecnbaaFnExactMergeReadsP0
set_option linter.all false
section
open Go.Proofs
namespace Go.Ab.T
set_option linter.unusedVariables false
set_option maxRecDepth 100000
noncomputable def I130 : Info := { body := (Try.f130.body).getD .skip, nt := 19, results := [.tmp 4], keep := [0, 2, 8, 10, 18], live := [(2, [0, 2, 10])], modes := [(4, [(0, .ref, false)])], ext := [], lnt := [(0, 0)], casts := [], fcast := [] }
theorem fk130 : FnOk Try.prog 130 Try.f130 I130 := ⟨Try.func130, by kernel_rfl, by kernel_rfl, by kernel_rfl, by kernel_rfl⟩
def S130_2 (x0 : List Int) (x1 x5 : Int) : St := [(0, .v false [.sl (.lnt 0) .int x0]), (2, .v false [.int .i64 x1]), (10, .v false [.int .i64 x5])]
theorem p130_2_0 (x0 : List Int) (x1 x5 : Int) : run tt (AbsCalls Try.prog) I130 3000 true (stkAt 2 I130.body) ⟨(S130_2 x0 x1 x5), [true], [], []⟩ = some (.stop (stkAt 2 I130.body) (S130_2 (List.set x0 (Int.toNat x5) x1) (IntKind.i64.wrap (x1 + 1)) (IntKind.i64.wrap (x5 + 1))) [(decide ((x5 : Int) < (List.length x0 : Int))) = true, (0 : Int) ≤ x5 ∧ x5 < (List.length x0)]) := by kernel_rfl
theorem p130_2_1 (x0 : List Int) (x1 x5 : Int) : run tt (AbsCalls Try.prog) I130 3000 true (stkAt 2 I130.body) ⟨(S130_2 x0 x1 x5), [false], [], []⟩ = some (.done (xCp (x1, x0)) [(decide ((x5 : Int) < (List.length x0 : Int))) = false]) := by kernel_rfl
theorem p130_e_2 (a0 : List Int) (a1 : Int) : run tt (AbsCalls Try.prog) I130 3000 false [.code I130.body] ⟨(zBg 0 (xDo a0 a1)), [], [], []⟩ = some (.stop (stkAt 2 I130.body) (S130_2 a0 a1 0) []) := by kernel_rfl
theorem c130_2 {N : Nat} : ∀ n x0 x1 x5 r, xB1 N n x0 x1 x5 = some r → Reach Try.prog Try.f130 I130 (stkAt 2 I130.body) (S130_2 x0 x1 x5) (xCp r) := by
 intro n
 induction n with
 | zero => intro x0 x1 x5 r h; have h' : (none : Option (Int × (List Int))) = some r := h; cases h'
 | succ n ih =>
  intro x0 x1 x5 r h
  rw [xB1] at h
  rcases cond_inv h with ⟨h0, h⟩ | ⟨h0, h⟩
  ·obtain ⟨h1, h⟩ := ite_inv h
   exact Reach.stop ttok mix fk130 (p130_2_0 x0 x1 x5) (obs_cons h0 (obs_cons h1 obs_nil)) (ih _ _ _ _ h)
  ·obtain rfl := Option.some.inj h
   exact Reach.done ttok mix fk130 (p130_2_1 x0 x1 x5) (obs_cons h0 obs_nil)
theorem c130_e {N : Nat} : ∀ a0 a1 r, xDy N a0 a1 = some r → Reach Try.prog Try.f130 I130 [.code I130.body] (zBg 0 (xDo a0 a1)) (xCp r) := by
 intro a0 a1 r h
 unfold xDy at h
 exact Reach.stop ttok mix fk130 (p130_e_2 a0 a1) obs_nil (c130_2   _ _ _ _ _ h)
theorem laws_markIntS_ok {N : Nat} {a0 : List Int} {a1 : Int} {r : Int × (List Int)} (h : xDy N  a0 a1 = some r) : AbC 130 (xDo a0 a1) (xCp r) :=
 AbsCalls.of_reach fk130 rfl rfl (Nat.le_of_ble_eq_true rfl) (c130_e a0 a1 r h)
noncomputable def I59 : Info := { body := (Try.f59.body).getD .skip, nt := 27, results := [.tmp 4], keep := [0, 2, 8, 10, 18], live := [(2, [0, 2, 10])], modes := [(4, [(0, .ref, false)]), (6, [(0, .ref, false)])], ext := [], lnt := [(0, 0)], casts := [], fcast := [] }
theorem fk59 : FnOk Try.prog 59 Try.f59 I59 := ⟨Try.func59, by kernel_rfl, by kernel_rfl, by kernel_rfl, by kernel_rfl⟩
def S59_2 (x0 : List Org) (x1 x5 : Int) : St := [(0, .v false [.sl (.lnt 0) .org x0]), (2, .v false [.int .i64 x1]), (10, .v false [.int .i64 x5])]
theorem p59_2_0 (x0 : List Org) (x1 x5 : Int) : run tt (AbsCalls Try.prog) I59 3000 true (stkAt 2 I59.body) ⟨(S59_2 x0 x1 x5), [true], [], []⟩ = some (.stop (stkAt 2 I59.body) (S59_2 ((fun (z1 : List Org) => List.set z1 (Int.toNat x5) (Org.mk (Org.cell (List.getD z1 (Int.toNat x5) Ty.org.dflt)) (IntKind.i64.wrap (x1 + 1)))) (List.set x0 (Int.toNat x5) (Org.mk x1 (Org.row (List.getD x0 (Int.toNat x5) Ty.org.dflt))))) (IntKind.i64.wrap ((IntKind.i64.wrap (x1 + 1)) + 1)) (IntKind.i64.wrap (x5 + 1))) [(decide ((x5 : Int) < (List.length x0 : Int))) = true, (0 : Int) ≤ x5 ∧ x5 < (List.length x0), (0 : Int) ≤ x5 ∧ x5 < (List.length (List.set x0 (Int.toNat x5) (Org.mk x1 (Org.row (List.getD x0 (Int.toNat x5) Ty.org.dflt)))))]) := by kernel_rfl
theorem p59_2_1 (x0 : List Org) (x1 x5 : Int) : run tt (AbsCalls Try.prog) I59 3000 true (stkAt 2 I59.body) ⟨(S59_2 x0 x1 x5), [false], [], []⟩ = some (.done (xBP (x1, x0)) [(decide ((x5 : Int) < (List.length x0 : Int))) = false]) := by kernel_rfl
theorem p59_e_2 (a0 : List Org) (a1 : Int) : run tt (AbsCalls Try.prog) I59 3000 false [.code I59.body] ⟨(zBg 0 (xCK a0 a1)), [], [], []⟩ = some (.stop (stkAt 2 I59.body) (S59_2 a0 a1 0) []) := by kernel_rfl
theorem c59_2 {N : Nat} : ∀ n x0 x1 x5 r, xBp N n x0 x1 x5 = some r → Reach Try.prog Try.f59 I59 (stkAt 2 I59.body) (S59_2 x0 x1 x5) (xBP r) := by
 intro n
 induction n with
 | zero => intro x0 x1 x5 r h; have h' : (none : Option (Int × (List Org))) = some r := h; cases h'
 | succ n ih =>
  intro x0 x1 x5 r h
  rw [xBp] at h
  rcases cond_inv h with ⟨h0, h⟩ | ⟨h0, h⟩
  ·obtain ⟨h1, h⟩ := ite_inv h
   obtain ⟨h2, h⟩ := ite_inv h
   exact Reach.stop ttok mix fk59 (p59_2_0 x0 x1 x5) (obs_cons h0 (obs_cons h1 (obs_cons h2 obs_nil))) (ih _ _ _ _ h)
  ·obtain rfl := Option.some.inj h
   exact Reach.done ttok mix fk59 (p59_2_1 x0 x1 x5) (obs_cons h0 obs_nil)
theorem c59_e {N : Nat} : ∀ a0 a1 r, xCO N a0 a1 = some r → Reach Try.prog Try.f59 I59 [.code I59.body] (zBg 0 (xCK a0 a1)) (xBP r) := by
 intro a0 a1 r h
 unfold xCO at h
 exact Reach.stop ttok mix fk59 (p59_e_2 a0 a1) obs_nil (c59_2   _ _ _ _ _ h)
theorem xES {N : Nat} {a0 : List Org} {a1 : Int} {r : Int × (List Org)} (h : xCO N  a0 a1 = some r) : AbC 59 (xCK a0 a1) (xBP r) :=
 AbsCalls.of_reach fk59 rfl rfl (Nat.le_of_ble_eq_true rfl) (c59_e a0 a1 r h)
noncomputable def I81 : Info := { body := (Try.f81.body).getD .skip, nt := 27, results := [.tmp 4], keep := [0, 2, 8, 10, 18], live := [(2, [0, 2, 10])], modes := [(4, [(0, .ref, false), (4, .ref, false), (6, .ref, false)]), (5, [(0, .ref, false), (4, .ref, false), (6, .ref, false)])], ext := [], lnt := [(0, 0)], casts := [], fcast := [] }
theorem fk81 : FnOk Try.prog 81 Try.f81 I81 := ⟨Try.func81, by kernel_rfl, by kernel_rfl, by kernel_rfl, by kernel_rfl⟩
def S81_2 (x0 : List Rowd) (x1 x5 : Int) : St := [(0, .v false [.sl (.lnt 0) .row x0]), (2, .v false [.int .i64 x1]), (10, .v false [.int .i64 x5])]
theorem p81_2_0 (x0 : List Rowd) (x1 x5 : Int) (r1 : Int × (List Int)) (r2 : Int × (List Org)) : run tt (AbsCalls Try.prog) I81 3000 true (stkAt 2 I81.body) ⟨(S81_2 x0 x1 x5), [true], [xCp r1, xBP r2], []⟩ = some (.stop (stkAt 2 I81.body) (S81_2 ((fun (z1 : List Rowd) => List.set z1 (Int.toNat x5) (Rowd.mk (Rowd.cells (List.getD z1 (Int.toNat x5) Ty.row.dflt)) r2.2)) (List.set x0 (Int.toNat x5) (Rowd.mk r1.2 (Rowd.frm (List.getD x0 (Int.toNat x5) Ty.row.dflt))))) r2.1 (IntKind.i64.wrap (x5 + 1))) [(decide ((x5 : Int) < (List.length x0 : Int))) = true, (0 : Int) ≤ x5 ∧ x5 < (List.length x0), AbC 130 (xDo (Rowd.cells (List.getD x0 (Int.toNat x5) Ty.row.dflt)) x1) (xCp r1), (Int.toNat x5) = (Int.toNat x5), List.length r1.2 = List.length (Rowd.cells (List.getD x0 (Int.toNat x5) Ty.row.dflt)), (0 : Int) ≤ x5 ∧ x5 < (List.length (List.set x0 (Int.toNat x5) (Rowd.mk r1.2 (Rowd.frm (List.getD x0 (Int.toNat x5) Ty.row.dflt))))), AbC 59 (xCK (Rowd.frm (List.getD (List.set x0 (Int.toNat x5) (Rowd.mk r1.2 (Rowd.frm (List.getD x0 (Int.toNat x5) Ty.row.dflt)))) (Int.toNat x5) Ty.row.dflt)) r1.1) (xBP r2), (Int.toNat x5) = (Int.toNat x5), List.length r2.2 = List.length (Rowd.frm (List.getD (List.set x0 (Int.toNat x5) (Rowd.mk r1.2 (Rowd.frm (List.getD x0 (Int.toNat x5) Ty.row.dflt)))) (Int.toNat x5) Ty.row.dflt))]) := by kernel_rfl
theorem p81_2_1 (x0 : List Rowd) (x1 x5 : Int) : run tt (AbsCalls Try.prog) I81 3000 true (stkAt 2 I81.body) ⟨(S81_2 x0 x1 x5), [false], [], []⟩ = some (.done (xBG (x1, x0)) [(decide ((x5 : Int) < (List.length x0 : Int))) = false]) := by kernel_rfl
theorem p81_e_2 (a0 : List Rowd) (a1 : Int) : run tt (AbsCalls Try.prog) I81 3000 false [.code I81.body] ⟨(zBg 0 (xCP a0 a1)), [], [], []⟩ = some (.stop (stkAt 2 I81.body) (S81_2 a0 a1 0) []) := by kernel_rfl
theorem c81_2 {N : Nat} : ∀ n x0 x1 x5 r, xB2 N n x0 x1 x5 = some r → Reach Try.prog Try.f81 I81 (stkAt 2 I81.body) (S81_2 x0 x1 x5) (xBG r) := by
 intro n
 induction n with
 | zero => intro x0 x1 x5 r h; have h' : (none : Option (Int × (List Rowd))) = some r := h; cases h'
 | succ n ih =>
  intro x0 x1 x5 r h
  rw [xB2] at h
  rcases cond_inv h with ⟨h0, h⟩ | ⟨h0, h⟩
  ·obtain ⟨h1, h⟩ := ite_inv h
   obtain ⟨r1, h2, h⟩ := bind_inv h
   obtain ⟨h4, h⟩ := ite_inv h
   obtain ⟨h5, h⟩ := ite_inv h
   obtain ⟨r2, h6, h⟩ := bind_inv h
   obtain ⟨h8, h⟩ := ite_inv h
   exact Reach.stop ttok mix fk81 (p81_2_0 x0 x1 x5 r1 r2) (obs_cons h0 (obs_cons h1 (obs_cons (laws_markIntS_ok h2) (obs_cons rfl (obs_cons h4 (obs_cons h5 (obs_cons (xES h6) (obs_cons rfl (obs_cons h8 obs_nil))))))))) (ih _ _ _ _ h)
  ·obtain rfl := Option.some.inj h
   exact Reach.done ttok mix fk81 (p81_2_1 x0 x1 x5) (obs_cons h0 obs_nil)
theorem c81_e {N : Nat} : ∀ a0 a1 r, xDd N a0 a1 = some r → Reach Try.prog Try.f81 I81 [.code I81.body] (zBg 0 (xCP a0 a1)) (xBG r) := by
 intro a0 a1 r h
 unfold xDd at h
 exact Reach.stop ttok mix fk81 (p81_e_2 a0 a1) obs_nil (c81_2   _ _ _ _ _ h)
theorem xEn {N : Nat} {a0 : List Rowd} {a1 : Int} {r : Int × (List Rowd)} (h : xDd N  a0 a1 = some r) : AbC 81 (xCP a0 a1) (xBG r) :=
 AbsCalls.of_reach fk81 rfl rfl (Nat.le_of_ble_eq_true rfl) (c81_e a0 a1 r h)
noncomputable def I67 : Info := { body := (Try.f67.body).getD .skip, nt := 63, results := [.tmp 4], keep := [0, 2, 8, 10, 18], live := [(2, [0, 2, 10])], modes := [(4, [(0, .ref, false)]), (6, [(0, .ref, false)]), (8, [(0, .ref, false)]), (10, [(0, .ref, false)]), (12, [(0, .ref, false), (4, .ref, false), (6, .ref, false)]), (13, [(0, .ref, false), (4, .ref, false), (6, .ref, false)]), (14, [(0, .ref, false), (4, .ref, false), (6, .ref, false)])], ext := [], lnt := [(0, 0)], casts := [], fcast := [] }
theorem fk67 : FnOk Try.prog 67 Try.f67 I67 := ⟨Try.func67, by kernel_rfl, by kernel_rfl, by kernel_rfl, by kernel_rfl⟩
def S67_2 (x0 : List Val) (x1 x5 : Int) : St := [(0, .v false [.sl (.lnt 0) .val x0]), (2, .v false [.int .i64 x1]), (10, .v false [.int .i64 x5])]
theorem p67_2_0 (x0 : List Val) (x1 x5 : Int) (r1 : Str) (r2 : Int × (List Val)) (r3 : Int × (List Str)) (r4 : Int × (List Rowd)) : run tt (AbsCalls Try.prog) I67 3000 true (stkAt 2 I67.body) ⟨(S67_2 x0 x1 x5), [true], [xAe r1, xAM r2, xA7 r3, xBG r4], []⟩ = some (.stop (stkAt 2 I67.body) (S67_2 ((fun (z45 : List Val) => List.set z45 (Int.toNat x5) (Val.mk (Val.kind (List.getD z45 (Int.toNat x5) Ty.val.dflt)) (Val.n (List.getD z45 (Int.toNat x5) Ty.val.dflt)) (Val.step (List.getD z45 (Int.toNat x5) Ty.val.dflt)) (Val.text (List.getD z45 (Int.toNat x5) Ty.val.dflt)) (Val.list (List.getD z45 (Int.toNat x5) Ty.val.dflt)) (Val.columns (List.getD z45 (Int.toNat x5) Ty.val.dflt)) r4.2)) ((fun (z44 : List Val) => List.set z44 (Int.toNat x5) (Val.mk (Val.kind (List.getD z44 (Int.toNat x5) Ty.val.dflt)) (Val.n (List.getD z44 (Int.toNat x5) Ty.val.dflt)) (Val.step (List.getD z44 (Int.toNat x5) Ty.val.dflt)) (Val.text (List.getD z44 (Int.toNat x5) Ty.val.dflt)) (Val.list (List.getD z44 (Int.toNat x5) Ty.val.dflt)) r3.2 (Val.rows (List.getD z44 (Int.toNat x5) Ty.val.dflt)))) ((fun (z43 : List Val) => List.set z43 (Int.toNat x5) (Val.mk (Val.kind (List.getD z43 (Int.toNat x5) Ty.val.dflt)) (Val.n (List.getD z43 (Int.toNat x5) Ty.val.dflt)) (Val.step (List.getD z43 (Int.toNat x5) Ty.val.dflt)) (Val.text (List.getD z43 (Int.toNat x5) Ty.val.dflt)) r2.2 (Val.columns (List.getD z43 (Int.toNat x5) Ty.val.dflt)) (Val.rows (List.getD z43 (Int.toNat x5) Ty.val.dflt)))) ((fun (z42 : List Val) => List.set z42 (Int.toNat x5) (Val.mk (Val.kind (List.getD z42 (Int.toNat x5) Ty.val.dflt)) (Val.n (List.getD z42 (Int.toNat x5) Ty.val.dflt)) (Val.step (List.getD z42 (Int.toNat x5) Ty.val.dflt)) r1 (Val.list (List.getD z42 (Int.toNat x5) Ty.val.dflt)) (Val.columns (List.getD z42 (Int.toNat x5) Ty.val.dflt)) (Val.rows (List.getD z42 (Int.toNat x5) Ty.val.dflt)))) ((fun (z41 : List Val) => List.set z41 (Int.toNat x5) (Val.mk (Val.kind (List.getD z41 (Int.toNat x5) Ty.val.dflt)) (Val.n (List.getD z41 (Int.toNat x5) Ty.val.dflt)) (IntKind.i64.wrap ((IntKind.i64.wrap (x1 + 1)) + 1)) (Val.text (List.getD z41 (Int.toNat x5) Ty.val.dflt)) (Val.list (List.getD z41 (Int.toNat x5) Ty.val.dflt)) (Val.columns (List.getD z41 (Int.toNat x5) Ty.val.dflt)) (Val.rows (List.getD z41 (Int.toNat x5) Ty.val.dflt)))) ((fun (z40 : List Val) => List.set z40 (Int.toNat x5) (Val.mk (Val.kind (List.getD z40 (Int.toNat x5) Ty.val.dflt)) (IntKind.i64.wrap (x1 + 1)) (Val.step (List.getD z40 (Int.toNat x5) Ty.val.dflt)) (Val.text (List.getD z40 (Int.toNat x5) Ty.val.dflt)) (Val.list (List.getD z40 (Int.toNat x5) Ty.val.dflt)) (Val.columns (List.getD z40 (Int.toNat x5) Ty.val.dflt)) (Val.rows (List.getD z40 (Int.toNat x5) Ty.val.dflt)))) (List.set x0 (Int.toNat x5) (Val.mk x1 (Val.n (List.getD x0 (Int.toNat x5) Ty.val.dflt)) (Val.step (List.getD x0 (Int.toNat x5) Ty.val.dflt)) (Val.text (List.getD x0 (Int.toNat x5) Ty.val.dflt)) (Val.list (List.getD x0 (Int.toNat x5) Ty.val.dflt)) (Val.columns (List.getD x0 (Int.toNat x5) Ty.val.dflt)) (Val.rows (List.getD x0 (Int.toNat x5) Ty.val.dflt)))))))))) r4.1 (IntKind.i64.wrap (x5 + 1))) [(decide ((x5 : Int) < (List.length x0 : Int))) = true, (0 : Int) ≤ x5 ∧ x5 < (List.length x0), (0 : Int) ≤ x5 ∧ x5 < (List.length (List.set x0 (Int.toNat x5) (Val.mk x1 (Val.n (List.getD x0 (Int.toNat x5) Ty.val.dflt)) (Val.step (List.getD x0 (Int.toNat x5) Ty.val.dflt)) (Val.text (List.getD x0 (Int.toNat x5) Ty.val.dflt)) (Val.list (List.getD x0 (Int.toNat x5) Ty.val.dflt)) (Val.columns (List.getD x0 (Int.toNat x5) Ty.val.dflt)) (Val.rows (List.getD x0 (Int.toNat x5) Ty.val.dflt))))), (0 : Int) ≤ x5 ∧ x5 < (List.length ((fun (z40 : List Val) => List.set z40 (Int.toNat x5) (Val.mk (Val.kind (List.getD z40 (Int.toNat x5) Ty.val.dflt)) (IntKind.i64.wrap (x1 + 1)) (Val.step (List.getD z40 (Int.toNat x5) Ty.val.dflt)) (Val.text (List.getD z40 (Int.toNat x5) Ty.val.dflt)) (Val.list (List.getD z40 (Int.toNat x5) Ty.val.dflt)) (Val.columns (List.getD z40 (Int.toNat x5) Ty.val.dflt)) (Val.rows (List.getD z40 (Int.toNat x5) Ty.val.dflt)))) (List.set x0 (Int.toNat x5) (Val.mk x1 (Val.n (List.getD x0 (Int.toNat x5) Ty.val.dflt)) (Val.step (List.getD x0 (Int.toNat x5) Ty.val.dflt)) (Val.text (List.getD x0 (Int.toNat x5) Ty.val.dflt)) (Val.list (List.getD x0 (Int.toNat x5) Ty.val.dflt)) (Val.columns (List.getD x0 (Int.toNat x5) Ty.val.dflt)) (Val.rows (List.getD x0 (Int.toNat x5) Ty.val.dflt)))))), AbC 79 (xAn (IntKind.i64.wrap ((IntKind.i64.wrap ((IntKind.i64.wrap (x1 + 1)) + 1)) + 1))) (xAe r1), (0 : Int) ≤ x5 ∧ x5 < (List.length ((fun (z41 : List Val) => List.set z41 (Int.toNat x5) (Val.mk (Val.kind (List.getD z41 (Int.toNat x5) Ty.val.dflt)) (Val.n (List.getD z41 (Int.toNat x5) Ty.val.dflt)) (IntKind.i64.wrap ((IntKind.i64.wrap (x1 + 1)) + 1)) (Val.text (List.getD z41 (Int.toNat x5) Ty.val.dflt)) (Val.list (List.getD z41 (Int.toNat x5) Ty.val.dflt)) (Val.columns (List.getD z41 (Int.toNat x5) Ty.val.dflt)) (Val.rows (List.getD z41 (Int.toNat x5) Ty.val.dflt)))) ((fun (z40 : List Val) => List.set z40 (Int.toNat x5) (Val.mk (Val.kind (List.getD z40 (Int.toNat x5) Ty.val.dflt)) (IntKind.i64.wrap (x1 + 1)) (Val.step (List.getD z40 (Int.toNat x5) Ty.val.dflt)) (Val.text (List.getD z40 (Int.toNat x5) Ty.val.dflt)) (Val.list (List.getD z40 (Int.toNat x5) Ty.val.dflt)) (Val.columns (List.getD z40 (Int.toNat x5) Ty.val.dflt)) (Val.rows (List.getD z40 (Int.toNat x5) Ty.val.dflt)))) (List.set x0 (Int.toNat x5) (Val.mk x1 (Val.n (List.getD x0 (Int.toNat x5) Ty.val.dflt)) (Val.step (List.getD x0 (Int.toNat x5) Ty.val.dflt)) (Val.text (List.getD x0 (Int.toNat x5) Ty.val.dflt)) (Val.list (List.getD x0 (Int.toNat x5) Ty.val.dflt)) (Val.columns (List.getD x0 (Int.toNat x5) Ty.val.dflt)) (Val.rows (List.getD x0 (Int.toNat x5) Ty.val.dflt))))))), (0 : Int) ≤ x5 ∧ x5 < (List.length ((fun (z42 : List Val) => List.set z42 (Int.toNat x5) (Val.mk (Val.kind (List.getD z42 (Int.toNat x5) Ty.val.dflt)) (Val.n (List.getD z42 (Int.toNat x5) Ty.val.dflt)) (Val.step (List.getD z42 (Int.toNat x5) Ty.val.dflt)) r1 (Val.list (List.getD z42 (Int.toNat x5) Ty.val.dflt)) (Val.columns (List.getD z42 (Int.toNat x5) Ty.val.dflt)) (Val.rows (List.getD z42 (Int.toNat x5) Ty.val.dflt)))) ((fun (z41 : List Val) => List.set z41 (Int.toNat x5) (Val.mk (Val.kind (List.getD z41 (Int.toNat x5) Ty.val.dflt)) (Val.n (List.getD z41 (Int.toNat x5) Ty.val.dflt)) (IntKind.i64.wrap ((IntKind.i64.wrap (x1 + 1)) + 1)) (Val.text (List.getD z41 (Int.toNat x5) Ty.val.dflt)) (Val.list (List.getD z41 (Int.toNat x5) Ty.val.dflt)) (Val.columns (List.getD z41 (Int.toNat x5) Ty.val.dflt)) (Val.rows (List.getD z41 (Int.toNat x5) Ty.val.dflt)))) ((fun (z40 : List Val) => List.set z40 (Int.toNat x5) (Val.mk (Val.kind (List.getD z40 (Int.toNat x5) Ty.val.dflt)) (IntKind.i64.wrap (x1 + 1)) (Val.step (List.getD z40 (Int.toNat x5) Ty.val.dflt)) (Val.text (List.getD z40 (Int.toNat x5) Ty.val.dflt)) (Val.list (List.getD z40 (Int.toNat x5) Ty.val.dflt)) (Val.columns (List.getD z40 (Int.toNat x5) Ty.val.dflt)) (Val.rows (List.getD z40 (Int.toNat x5) Ty.val.dflt)))) (List.set x0 (Int.toNat x5) (Val.mk x1 (Val.n (List.getD x0 (Int.toNat x5) Ty.val.dflt)) (Val.step (List.getD x0 (Int.toNat x5) Ty.val.dflt)) (Val.text (List.getD x0 (Int.toNat x5) Ty.val.dflt)) (Val.list (List.getD x0 (Int.toNat x5) Ty.val.dflt)) (Val.columns (List.getD x0 (Int.toNat x5) Ty.val.dflt)) (Val.rows (List.getD x0 (Int.toNat x5) Ty.val.dflt)))))))), AbC 67 (xA0 (Val.list (List.getD ((fun (z42 : List Val) => List.set z42 (Int.toNat x5) (Val.mk (Val.kind (List.getD z42 (Int.toNat x5) Ty.val.dflt)) (Val.n (List.getD z42 (Int.toNat x5) Ty.val.dflt)) (Val.step (List.getD z42 (Int.toNat x5) Ty.val.dflt)) r1 (Val.list (List.getD z42 (Int.toNat x5) Ty.val.dflt)) (Val.columns (List.getD z42 (Int.toNat x5) Ty.val.dflt)) (Val.rows (List.getD z42 (Int.toNat x5) Ty.val.dflt)))) ((fun (z41 : List Val) => List.set z41 (Int.toNat x5) (Val.mk (Val.kind (List.getD z41 (Int.toNat x5) Ty.val.dflt)) (Val.n (List.getD z41 (Int.toNat x5) Ty.val.dflt)) (IntKind.i64.wrap ((IntKind.i64.wrap (x1 + 1)) + 1)) (Val.text (List.getD z41 (Int.toNat x5) Ty.val.dflt)) (Val.list (List.getD z41 (Int.toNat x5) Ty.val.dflt)) (Val.columns (List.getD z41 (Int.toNat x5) Ty.val.dflt)) (Val.rows (List.getD z41 (Int.toNat x5) Ty.val.dflt)))) ((fun (z40 : List Val) => List.set z40 (Int.toNat x5) (Val.mk (Val.kind (List.getD z40 (Int.toNat x5) Ty.val.dflt)) (IntKind.i64.wrap (x1 + 1)) (Val.step (List.getD z40 (Int.toNat x5) Ty.val.dflt)) (Val.text (List.getD z40 (Int.toNat x5) Ty.val.dflt)) (Val.list (List.getD z40 (Int.toNat x5) Ty.val.dflt)) (Val.columns (List.getD z40 (Int.toNat x5) Ty.val.dflt)) (Val.rows (List.getD z40 (Int.toNat x5) Ty.val.dflt)))) (List.set x0 (Int.toNat x5) (Val.mk x1 (Val.n (List.getD x0 (Int.toNat x5) Ty.val.dflt)) (Val.step (List.getD x0 (Int.toNat x5) Ty.val.dflt)) (Val.text (List.getD x0 (Int.toNat x5) Ty.val.dflt)) (Val.list (List.getD x0 (Int.toNat x5) Ty.val.dflt)) (Val.columns (List.getD x0 (Int.toNat x5) Ty.val.dflt)) (Val.rows (List.getD x0 (Int.toNat x5) Ty.val.dflt))))))) (Int.toNat x5) Ty.val.dflt)) (IntKind.i64.wrap ((IntKind.i64.wrap ((IntKind.i64.wrap ((IntKind.i64.wrap (x1 + 1)) + 1)) + 1)) + 1))) (xAM r2), (Int.toNat x5) = (Int.toNat x5), List.length r2.2 = List.length (Val.list (List.getD ((fun (z42 : List Val) => List.set z42 (Int.toNat x5) (Val.mk (Val.kind (List.getD z42 (Int.toNat x5) Ty.val.dflt)) (Val.n (List.getD z42 (Int.toNat x5) Ty.val.dflt)) (Val.step (List.getD z42 (Int.toNat x5) Ty.val.dflt)) r1 (Val.list (List.getD z42 (Int.toNat x5) Ty.val.dflt)) (Val.columns (List.getD z42 (Int.toNat x5) Ty.val.dflt)) (Val.rows (List.getD z42 (Int.toNat x5) Ty.val.dflt)))) ((fun (z41 : List Val) => List.set z41 (Int.toNat x5) (Val.mk (Val.kind (List.getD z41 (Int.toNat x5) Ty.val.dflt)) (Val.n (List.getD z41 (Int.toNat x5) Ty.val.dflt)) (IntKind.i64.wrap ((IntKind.i64.wrap (x1 + 1)) + 1)) (Val.text (List.getD z41 (Int.toNat x5) Ty.val.dflt)) (Val.list (List.getD z41 (Int.toNat x5) Ty.val.dflt)) (Val.columns (List.getD z41 (Int.toNat x5) Ty.val.dflt)) (Val.rows (List.getD z41 (Int.toNat x5) Ty.val.dflt)))) ((fun (z40 : List Val) => List.set z40 (Int.toNat x5) (Val.mk (Val.kind (List.getD z40 (Int.toNat x5) Ty.val.dflt)) (IntKind.i64.wrap (x1 + 1)) (Val.step (List.getD z40 (Int.toNat x5) Ty.val.dflt)) (Val.text (List.getD z40 (Int.toNat x5) Ty.val.dflt)) (Val.list (List.getD z40 (Int.toNat x5) Ty.val.dflt)) (Val.columns (List.getD z40 (Int.toNat x5) Ty.val.dflt)) (Val.rows (List.getD z40 (Int.toNat x5) Ty.val.dflt)))) (List.set x0 (Int.toNat x5) (Val.mk x1 (Val.n (List.getD x0 (Int.toNat x5) Ty.val.dflt)) (Val.step (List.getD x0 (Int.toNat x5) Ty.val.dflt)) (Val.text (List.getD x0 (Int.toNat x5) Ty.val.dflt)) (Val.list (List.getD x0 (Int.toNat x5) Ty.val.dflt)) (Val.columns (List.getD x0 (Int.toNat x5) Ty.val.dflt)) (Val.rows (List.getD x0 (Int.toNat x5) Ty.val.dflt))))))) (Int.toNat x5) Ty.val.dflt)), (0 : Int) ≤ x5 ∧ x5 < (List.length ((fun (z43 : List Val) => List.set z43 (Int.toNat x5) (Val.mk (Val.kind (List.getD z43 (Int.toNat x5) Ty.val.dflt)) (Val.n (List.getD z43 (Int.toNat x5) Ty.val.dflt)) (Val.step (List.getD z43 (Int.toNat x5) Ty.val.dflt)) (Val.text (List.getD z43 (Int.toNat x5) Ty.val.dflt)) r2.2 (Val.columns (List.getD z43 (Int.toNat x5) Ty.val.dflt)) (Val.rows (List.getD z43 (Int.toNat x5) Ty.val.dflt)))) ((fun (z42 : List Val) => List.set z42 (Int.toNat x5) (Val.mk (Val.kind (List.getD z42 (Int.toNat x5) Ty.val.dflt)) (Val.n (List.getD z42 (Int.toNat x5) Ty.val.dflt)) (Val.step (List.getD z42 (Int.toNat x5) Ty.val.dflt)) r1 (Val.list (List.getD z42 (Int.toNat x5) Ty.val.dflt)) (Val.columns (List.getD z42 (Int.toNat x5) Ty.val.dflt)) (Val.rows (List.getD z42 (Int.toNat x5) Ty.val.dflt)))) ((fun (z41 : List Val) => List.set z41 (Int.toNat x5) (Val.mk (Val.kind (List.getD z41 (Int.toNat x5) Ty.val.dflt)) (Val.n (List.getD z41 (Int.toNat x5) Ty.val.dflt)) (IntKind.i64.wrap ((IntKind.i64.wrap (x1 + 1)) + 1)) (Val.text (List.getD z41 (Int.toNat x5) Ty.val.dflt)) (Val.list (List.getD z41 (Int.toNat x5) Ty.val.dflt)) (Val.columns (List.getD z41 (Int.toNat x5) Ty.val.dflt)) (Val.rows (List.getD z41 (Int.toNat x5) Ty.val.dflt)))) ((fun (z40 : List Val) => List.set z40 (Int.toNat x5) (Val.mk (Val.kind (List.getD z40 (Int.toNat x5) Ty.val.dflt)) (IntKind.i64.wrap (x1 + 1)) (Val.step (List.getD z40 (Int.toNat x5) Ty.val.dflt)) (Val.text (List.getD z40 (Int.toNat x5) Ty.val.dflt)) (Val.list (List.getD z40 (Int.toNat x5) Ty.val.dflt)) (Val.columns (List.getD z40 (Int.toNat x5) Ty.val.dflt)) (Val.rows (List.getD z40 (Int.toNat x5) Ty.val.dflt)))) (List.set x0 (Int.toNat x5) (Val.mk x1 (Val.n (List.getD x0 (Int.toNat x5) Ty.val.dflt)) (Val.step (List.getD x0 (Int.toNat x5) Ty.val.dflt)) (Val.text (List.getD x0 (Int.toNat x5) Ty.val.dflt)) (Val.list (List.getD x0 (Int.toNat x5) Ty.val.dflt)) (Val.columns (List.getD x0 (Int.toNat x5) Ty.val.dflt)) (Val.rows (List.getD x0 (Int.toNat x5) Ty.val.dflt))))))))), AbC 80 (xCj (Val.columns (List.getD ((fun (z43 : List Val) => List.set z43 (Int.toNat x5) (Val.mk (Val.kind (List.getD z43 (Int.toNat x5) Ty.val.dflt)) (Val.n (List.getD z43 (Int.toNat x5) Ty.val.dflt)) (Val.step (List.getD z43 (Int.toNat x5) Ty.val.dflt)) (Val.text (List.getD z43 (Int.toNat x5) Ty.val.dflt)) r2.2 (Val.columns (List.getD z43 (Int.toNat x5) Ty.val.dflt)) (Val.rows (List.getD z43 (Int.toNat x5) Ty.val.dflt)))) ((fun (z42 : List Val) => List.set z42 (Int.toNat x5) (Val.mk (Val.kind (List.getD z42 (Int.toNat x5) Ty.val.dflt)) (Val.n (List.getD z42 (Int.toNat x5) Ty.val.dflt)) (Val.step (List.getD z42 (Int.toNat x5) Ty.val.dflt)) r1 (Val.list (List.getD z42 (Int.toNat x5) Ty.val.dflt)) (Val.columns (List.getD z42 (Int.toNat x5) Ty.val.dflt)) (Val.rows (List.getD z42 (Int.toNat x5) Ty.val.dflt)))) ((fun (z41 : List Val) => List.set z41 (Int.toNat x5) (Val.mk (Val.kind (List.getD z41 (Int.toNat x5) Ty.val.dflt)) (Val.n (List.getD z41 (Int.toNat x5) Ty.val.dflt)) (IntKind.i64.wrap ((IntKind.i64.wrap (x1 + 1)) + 1)) (Val.text (List.getD z41 (Int.toNat x5) Ty.val.dflt)) (Val.list (List.getD z41 (Int.toNat x5) Ty.val.dflt)) (Val.columns (List.getD z41 (Int.toNat x5) Ty.val.dflt)) (Val.rows (List.getD z41 (Int.toNat x5) Ty.val.dflt)))) ((fun (z40 : List Val) => List.set z40 (Int.toNat x5) (Val.mk (Val.kind (List.getD z40 (Int.toNat x5) Ty.val.dflt)) (IntKind.i64.wrap (x1 + 1)) (Val.step (List.getD z40 (Int.toNat x5) Ty.val.dflt)) (Val.text (List.getD z40 (Int.toNat x5) Ty.val.dflt)) (Val.list (List.getD z40 (Int.toNat x5) Ty.val.dflt)) (Val.columns (List.getD z40 (Int.toNat x5) Ty.val.dflt)) (Val.rows (List.getD z40 (Int.toNat x5) Ty.val.dflt)))) (List.set x0 (Int.toNat x5) (Val.mk x1 (Val.n (List.getD x0 (Int.toNat x5) Ty.val.dflt)) (Val.step (List.getD x0 (Int.toNat x5) Ty.val.dflt)) (Val.text (List.getD x0 (Int.toNat x5) Ty.val.dflt)) (Val.list (List.getD x0 (Int.toNat x5) Ty.val.dflt)) (Val.columns (List.getD x0 (Int.toNat x5) Ty.val.dflt)) (Val.rows (List.getD x0 (Int.toNat x5) Ty.val.dflt)))))))) (Int.toNat x5) Ty.val.dflt)) r2.1) (xA7 r3), (Int.toNat x5) = (Int.toNat x5), List.length r3.2 = List.length (Val.columns (List.getD ((fun (z43 : List Val) => List.set z43 (Int.toNat x5) (Val.mk (Val.kind (List.getD z43 (Int.toNat x5) Ty.val.dflt)) (Val.n (List.getD z43 (Int.toNat x5) Ty.val.dflt)) (Val.step (List.getD z43 (Int.toNat x5) Ty.val.dflt)) (Val.text (List.getD z43 (Int.toNat x5) Ty.val.dflt)) r2.2 (Val.columns (List.getD z43 (Int.toNat x5) Ty.val.dflt)) (Val.rows (List.getD z43 (Int.toNat x5) Ty.val.dflt)))) ((fun (z42 : List Val) => List.set z42 (Int.toNat x5) (Val.mk (Val.kind (List.getD z42 (Int.toNat x5) Ty.val.dflt)) (Val.n (List.getD z42 (Int.toNat x5) Ty.val.dflt)) (Val.step (List.getD z42 (Int.toNat x5) Ty.val.dflt)) r1 (Val.list (List.getD z42 (Int.toNat x5) Ty.val.dflt)) (Val.columns (List.getD z42 (Int.toNat x5) Ty.val.dflt)) (Val.rows (List.getD z42 (Int.toNat x5) Ty.val.dflt)))) ((fun (z41 : List Val) => List.set z41 (Int.toNat x5) (Val.mk (Val.kind (List.getD z41 (Int.toNat x5) Ty.val.dflt)) (Val.n (List.getD z41 (Int.toNat x5) Ty.val.dflt)) (IntKind.i64.wrap ((IntKind.i64.wrap (x1 + 1)) + 1)) (Val.text (List.getD z41 (Int.toNat x5) Ty.val.dflt)) (Val.list (List.getD z41 (Int.toNat x5) Ty.val.dflt)) (Val.columns (List.getD z41 (Int.toNat x5) Ty.val.dflt)) (Val.rows (List.getD z41 (Int.toNat x5) Ty.val.dflt)))) ((fun (z40 : List Val) => List.set z40 (Int.toNat x5) (Val.mk (Val.kind (List.getD z40 (Int.toNat x5) Ty.val.dflt)) (IntKind.i64.wrap (x1 + 1)) (Val.step (List.getD z40 (Int.toNat x5) Ty.val.dflt)) (Val.text (List.getD z40 (Int.toNat x5) Ty.val.dflt)) (Val.list (List.getD z40 (Int.toNat x5) Ty.val.dflt)) (Val.columns (List.getD z40 (Int.toNat x5) Ty.val.dflt)) (Val.rows (List.getD z40 (Int.toNat x5) Ty.val.dflt)))) (List.set x0 (Int.toNat x5) (Val.mk x1 (Val.n (List.getD x0 (Int.toNat x5) Ty.val.dflt)) (Val.step (List.getD x0 (Int.toNat x5) Ty.val.dflt)) (Val.text (List.getD x0 (Int.toNat x5) Ty.val.dflt)) (Val.list (List.getD x0 (Int.toNat x5) Ty.val.dflt)) (Val.columns (List.getD x0 (Int.toNat x5) Ty.val.dflt)) (Val.rows (List.getD x0 (Int.toNat x5) Ty.val.dflt)))))))) (Int.toNat x5) Ty.val.dflt)), (0 : Int) ≤ x5 ∧ x5 < (List.length ((fun (z44 : List Val) => List.set z44 (Int.toNat x5) (Val.mk (Val.kind (List.getD z44 (Int.toNat x5) Ty.val.dflt)) (Val.n (List.getD z44 (Int.toNat x5) Ty.val.dflt)) (Val.step (List.getD z44 (Int.toNat x5) Ty.val.dflt)) (Val.text (List.getD z44 (Int.toNat x5) Ty.val.dflt)) (Val.list (List.getD z44 (Int.toNat x5) Ty.val.dflt)) r3.2 (Val.rows (List.getD z44 (Int.toNat x5) Ty.val.dflt)))) ((fun (z43 : List Val) => List.set z43 (Int.toNat x5) (Val.mk (Val.kind (List.getD z43 (Int.toNat x5) Ty.val.dflt)) (Val.n (List.getD z43 (Int.toNat x5) Ty.val.dflt)) (Val.step (List.getD z43 (Int.toNat x5) Ty.val.dflt)) (Val.text (List.getD z43 (Int.toNat x5) Ty.val.dflt)) r2.2 (Val.columns (List.getD z43 (Int.toNat x5) Ty.val.dflt)) (Val.rows (List.getD z43 (Int.toNat x5) Ty.val.dflt)))) ((fun (z42 : List Val) => List.set z42 (Int.toNat x5) (Val.mk (Val.kind (List.getD z42 (Int.toNat x5) Ty.val.dflt)) (Val.n (List.getD z42 (Int.toNat x5) Ty.val.dflt)) (Val.step (List.getD z42 (Int.toNat x5) Ty.val.dflt)) r1 (Val.list (List.getD z42 (Int.toNat x5) Ty.val.dflt)) (Val.columns (List.getD z42 (Int.toNat x5) Ty.val.dflt)) (Val.rows (List.getD z42 (Int.toNat x5) Ty.val.dflt)))) ((fun (z41 : List Val) => List.set z41 (Int.toNat x5) (Val.mk (Val.kind (List.getD z41 (Int.toNat x5) Ty.val.dflt)) (Val.n (List.getD z41 (Int.toNat x5) Ty.val.dflt)) (IntKind.i64.wrap ((IntKind.i64.wrap (x1 + 1)) + 1)) (Val.text (List.getD z41 (Int.toNat x5) Ty.val.dflt)) (Val.list (List.getD z41 (Int.toNat x5) Ty.val.dflt)) (Val.columns (List.getD z41 (Int.toNat x5) Ty.val.dflt)) (Val.rows (List.getD z41 (Int.toNat x5) Ty.val.dflt)))) ((fun (z40 : List Val) => List.set z40 (Int.toNat x5) (Val.mk (Val.kind (List.getD z40 (Int.toNat x5) Ty.val.dflt)) (IntKind.i64.wrap (x1 + 1)) (Val.step (List.getD z40 (Int.toNat x5) Ty.val.dflt)) (Val.text (List.getD z40 (Int.toNat x5) Ty.val.dflt)) (Val.list (List.getD z40 (Int.toNat x5) Ty.val.dflt)) (Val.columns (List.getD z40 (Int.toNat x5) Ty.val.dflt)) (Val.rows (List.getD z40 (Int.toNat x5) Ty.val.dflt)))) (List.set x0 (Int.toNat x5) (Val.mk x1 (Val.n (List.getD x0 (Int.toNat x5) Ty.val.dflt)) (Val.step (List.getD x0 (Int.toNat x5) Ty.val.dflt)) (Val.text (List.getD x0 (Int.toNat x5) Ty.val.dflt)) (Val.list (List.getD x0 (Int.toNat x5) Ty.val.dflt)) (Val.columns (List.getD x0 (Int.toNat x5) Ty.val.dflt)) (Val.rows (List.getD x0 (Int.toNat x5) Ty.val.dflt)))))))))), AbC 81 (xCP (Val.rows (List.getD ((fun (z44 : List Val) => List.set z44 (Int.toNat x5) (Val.mk (Val.kind (List.getD z44 (Int.toNat x5) Ty.val.dflt)) (Val.n (List.getD z44 (Int.toNat x5) Ty.val.dflt)) (Val.step (List.getD z44 (Int.toNat x5) Ty.val.dflt)) (Val.text (List.getD z44 (Int.toNat x5) Ty.val.dflt)) (Val.list (List.getD z44 (Int.toNat x5) Ty.val.dflt)) r3.2 (Val.rows (List.getD z44 (Int.toNat x5) Ty.val.dflt)))) ((fun (z43 : List Val) => List.set z43 (Int.toNat x5) (Val.mk (Val.kind (List.getD z43 (Int.toNat x5) Ty.val.dflt)) (Val.n (List.getD z43 (Int.toNat x5) Ty.val.dflt)) (Val.step (List.getD z43 (Int.toNat x5) Ty.val.dflt)) (Val.text (List.getD z43 (Int.toNat x5) Ty.val.dflt)) r2.2 (Val.columns (List.getD z43 (Int.toNat x5) Ty.val.dflt)) (Val.rows (List.getD z43 (Int.toNat x5) Ty.val.dflt)))) ((fun (z42 : List Val) => List.set z42 (Int.toNat x5) (Val.mk (Val.kind (List.getD z42 (Int.toNat x5) Ty.val.dflt)) (Val.n (List.getD z42 (Int.toNat x5) Ty.val.dflt)) (Val.step (List.getD z42 (Int.toNat x5) Ty.val.dflt)) r1 (Val.list (List.getD z42 (Int.toNat x5) Ty.val.dflt)) (Val.columns (List.getD z42 (Int.toNat x5) Ty.val.dflt)) (Val.rows (List.getD z42 (Int.toNat x5) Ty.val.dflt)))) ((fun (z41 : List Val) => List.set z41 (Int.toNat x5) (Val.mk (Val.kind (List.getD z41 (Int.toNat x5) Ty.val.dflt)) (Val.n (List.getD z41 (Int.toNat x5) Ty.val.dflt)) (IntKind.i64.wrap ((IntKind.i64.wrap (x1 + 1)) + 1)) (Val.text (List.getD z41 (Int.toNat x5) Ty.val.dflt)) (Val.list (List.getD z41 (Int.toNat x5) Ty.val.dflt)) (Val.columns (List.getD z41 (Int.toNat x5) Ty.val.dflt)) (Val.rows (List.getD z41 (Int.toNat x5) Ty.val.dflt)))) ((fun (z40 : List Val) => List.set z40 (Int.toNat x5) (Val.mk (Val.kind (List.getD z40 (Int.toNat x5) Ty.val.dflt)) (IntKind.i64.wrap (x1 + 1)) (Val.step (List.getD z40 (Int.toNat x5) Ty.val.dflt)) (Val.text (List.getD z40 (Int.toNat x5) Ty.val.dflt)) (Val.list (List.getD z40 (Int.toNat x5) Ty.val.dflt)) (Val.columns (List.getD z40 (Int.toNat x5) Ty.val.dflt)) (Val.rows (List.getD z40 (Int.toNat x5) Ty.val.dflt)))) (List.set x0 (Int.toNat x5) (Val.mk x1 (Val.n (List.getD x0 (Int.toNat x5) Ty.val.dflt)) (Val.step (List.getD x0 (Int.toNat x5) Ty.val.dflt)) (Val.text (List.getD x0 (Int.toNat x5) Ty.val.dflt)) (Val.list (List.getD x0 (Int.toNat x5) Ty.val.dflt)) (Val.columns (List.getD x0 (Int.toNat x5) Ty.val.dflt)) (Val.rows (List.getD x0 (Int.toNat x5) Ty.val.dflt))))))))) (Int.toNat x5) Ty.val.dflt)) r3.1) (xBG r4), (Int.toNat x5) = (Int.toNat x5), List.length r4.2 = List.length (Val.rows (List.getD ((fun (z44 : List Val) => List.set z44 (Int.toNat x5) (Val.mk (Val.kind (List.getD z44 (Int.toNat x5) Ty.val.dflt)) (Val.n (List.getD z44 (Int.toNat x5) Ty.val.dflt)) (Val.step (List.getD z44 (Int.toNat x5) Ty.val.dflt)) (Val.text (List.getD z44 (Int.toNat x5) Ty.val.dflt)) (Val.list (List.getD z44 (Int.toNat x5) Ty.val.dflt)) r3.2 (Val.rows (List.getD z44 (Int.toNat x5) Ty.val.dflt)))) ((fun (z43 : List Val) => List.set z43 (Int.toNat x5) (Val.mk (Val.kind (List.getD z43 (Int.toNat x5) Ty.val.dflt)) (Val.n (List.getD z43 (Int.toNat x5) Ty.val.dflt)) (Val.step (List.getD z43 (Int.toNat x5) Ty.val.dflt)) (Val.text (List.getD z43 (Int.toNat x5) Ty.val.dflt)) r2.2 (Val.columns (List.getD z43 (Int.toNat x5) Ty.val.dflt)) (Val.rows (List.getD z43 (Int.toNat x5) Ty.val.dflt)))) ((fun (z42 : List Val) => List.set z42 (Int.toNat x5) (Val.mk (Val.kind (List.getD z42 (Int.toNat x5) Ty.val.dflt)) (Val.n (List.getD z42 (Int.toNat x5) Ty.val.dflt)) (Val.step (List.getD z42 (Int.toNat x5) Ty.val.dflt)) r1 (Val.list (List.getD z42 (Int.toNat x5) Ty.val.dflt)) (Val.columns (List.getD z42 (Int.toNat x5) Ty.val.dflt)) (Val.rows (List.getD z42 (Int.toNat x5) Ty.val.dflt)))) ((fun (z41 : List Val) => List.set z41 (Int.toNat x5) (Val.mk (Val.kind (List.getD z41 (Int.toNat x5) Ty.val.dflt)) (Val.n (List.getD z41 (Int.toNat x5) Ty.val.dflt)) (IntKind.i64.wrap ((IntKind.i64.wrap (x1 + 1)) + 1)) (Val.text (List.getD z41 (Int.toNat x5) Ty.val.dflt)) (Val.list (List.getD z41 (Int.toNat x5) Ty.val.dflt)) (Val.columns (List.getD z41 (Int.toNat x5) Ty.val.dflt)) (Val.rows (List.getD z41 (Int.toNat x5) Ty.val.dflt)))) ((fun (z40 : List Val) => List.set z40 (Int.toNat x5) (Val.mk (Val.kind (List.getD z40 (Int.toNat x5) Ty.val.dflt)) (IntKind.i64.wrap (x1 + 1)) (Val.step (List.getD z40 (Int.toNat x5) Ty.val.dflt)) (Val.text (List.getD z40 (Int.toNat x5) Ty.val.dflt)) (Val.list (List.getD z40 (Int.toNat x5) Ty.val.dflt)) (Val.columns (List.getD z40 (Int.toNat x5) Ty.val.dflt)) (Val.rows (List.getD z40 (Int.toNat x5) Ty.val.dflt)))) (List.set x0 (Int.toNat x5) (Val.mk x1 (Val.n (List.getD x0 (Int.toNat x5) Ty.val.dflt)) (Val.step (List.getD x0 (Int.toNat x5) Ty.val.dflt)) (Val.text (List.getD x0 (Int.toNat x5) Ty.val.dflt)) (Val.list (List.getD x0 (Int.toNat x5) Ty.val.dflt)) (Val.columns (List.getD x0 (Int.toNat x5) Ty.val.dflt)) (Val.rows (List.getD x0 (Int.toNat x5) Ty.val.dflt))))))))) (Int.toNat x5) Ty.val.dflt))]) := by kernel_rfl
theorem p67_2_1 (x0 : List Val) (x1 x5 : Int) : run tt (AbsCalls Try.prog) I67 3000 true (stkAt 2 I67.body) ⟨(S67_2 x0 x1 x5), [false], [], []⟩ = some (.done (xAM (x1, x0)) [(decide ((x5 : Int) < (List.length x0 : Int))) = false]) := by kernel_rfl
theorem p67_e_2 (a0 : List Val) (a1 : Int) : run tt (AbsCalls Try.prog) I67 3000 false [.code I67.body] ⟨(zBg 0 (xA0 a0 a1)), [], [], []⟩ = some (.stop (stkAt 2 I67.body) (S67_2 a0 a1 0) []) := by kernel_rfl
theorem c67_2 {N : Nat} {rc_laws_markValueS : (List Val) → Int → Option (Int × (List Val))} (hrc_laws_markValueS : ∀ a0 a1 r, rc_laws_markValueS a0 a1 = some r → AbC 67 (xA0 a0 a1) (xAM r)) : ∀ n x0 x1 x5 r, xBC N rc_laws_markValueS n x0 x1 x5 = some r → Reach Try.prog Try.f67 I67 (stkAt 2 I67.body) (S67_2 x0 x1 x5) (xAM r) := by
 intro n
 induction n with
 | zero => intro x0 x1 x5 r h; have h' : (none : Option (Int × (List Val))) = some r := h; cases h'
 | succ n ih =>
  intro x0 x1 x5 r h
  rw [xBC] at h
  rcases cond_inv h with ⟨h0, h⟩ | ⟨h0, h⟩
  ·obtain ⟨h1, h⟩ := ite_inv h
   obtain ⟨h2, h⟩ := ite_inv h
   obtain ⟨h3, h⟩ := ite_inv h
   obtain ⟨r1, h4, h⟩ := bind_inv h
   obtain ⟨h5, h⟩ := ite_inv h
   obtain ⟨h6, h⟩ := ite_inv h
   obtain ⟨r2, h7, h⟩ := bind_inv h
   obtain ⟨h9, h⟩ := ite_inv h
   obtain ⟨h10, h⟩ := ite_inv h
   obtain ⟨r3, h11, h⟩ := bind_inv h
   obtain ⟨h13, h⟩ := ite_inv h
   obtain ⟨h14, h⟩ := ite_inv h
   obtain ⟨r4, h15, h⟩ := bind_inv h
   obtain ⟨h17, h⟩ := ite_inv h
   exact Reach.stop ttok mix fk67 (p67_2_0 x0 x1 x5 r1 r2 r3 r4) (obs_cons h0 (obs_cons h1 (obs_cons h2 (obs_cons h3 (obs_cons (xAs h4) (obs_cons h5 (obs_cons h6 (obs_cons (hrc_laws_markValueS _ _ _ h7) (obs_cons rfl (obs_cons h9 (obs_cons h10 (obs_cons (xD3 h11) (obs_cons rfl (obs_cons h13 (obs_cons h14 (obs_cons (xEn h15) (obs_cons rfl (obs_cons h17 obs_nil)))))))))))))))))) (ih _ _ _ _ h)
  ·obtain rfl := Option.some.inj h
   exact Reach.done ttok mix fk67 (p67_2_1 x0 x1 x5) (obs_cons h0 obs_nil)
theorem c67_e {N : Nat} {rc_laws_markValueS : (List Val) → Int → Option (Int × (List Val))} (hrc_laws_markValueS : ∀ a0 a1 r, rc_laws_markValueS a0 a1 = some r → AbC 67 (xA0 a0 a1) (xAM r)) : ∀ a0 a1 r, xCD N rc_laws_markValueS a0 a1 = some r → Reach Try.prog Try.f67 I67 [.code I67.body] (zBg 0 (xA0 a0 a1)) (xAM r) := by
 intro a0 a1 r h
 unfold xCD at h
 exact Reach.stop ttok mix fk67 (p67_e_2 a0 a1) obs_nil (c67_2 hrc_laws_markValueS  _ _ _ _ _ h)
theorem xEi {N : Nat} {rc_laws_markValueS : (List Val) → Int → Option (Int × (List Val))} (hrc_laws_markValueS : ∀ a0 a1 r, rc_laws_markValueS a0 a1 = some r → AbC 67 (xA0 a0 a1) (xAM r)) {a0 : List Val} {a1 : Int} {r : Int × (List Val)} (h : xCD N rc_laws_markValueS a0 a1 = some r) : AbC 67 (xA0 a0 a1) (xAM r) :=
 AbsCalls.of_reach fk67 rfl rfl (Nat.le_of_ble_eq_true rfl) (c67_e hrc_laws_markValueS a0 a1 r h)
theorem xEs {N : Nat} : ∀ d, (∀ a0 a1 r, xCk N d a0 a1 = some r → AbC 67 (xA0 a0 a1) (xAM r)) := by
 intro d
 induction d with
 | zero => intro _ _ r h; have h' : (none : Option (Int × (List Val))) = some r := h; cases h'
 | succ d ih => intro _ _ r h; exact xEi (N := N) ih h
theorem laws_markValueS_ok {N : Nat} {a0 : List Val} {a1 : Int} {r : Int × (List Val)} (h : xD4 N a0 a1 = some r) : AbC 67 (xA0 a0 a1) (xAM r) := xEs N _ _ r h
noncomputable def I83 : Info := { body := (Try.f83.body).getD .skip, nt := 22, results := [.tmp 4], keep := [0, 2, 8, 10, 18, 36], live := [(2, [0, 2, 10])], modes := [], ext := [], lnt := [], casts := [], fcast := [] }
theorem fk83 : FnOk Try.prog 83 Try.f83 I83 := ⟨Try.func83, by kernel_rfl, by kernel_rfl, by kernel_rfl, by kernel_rfl⟩
def S83_2 (x0 : List Str) (x1 x5 : Int) : St := [(0, .v false [.sl .ro .str x0]), (2, .v false [.int .i64 x1]), (10, .v false [.int .i64 x5])]
theorem p83_2_0 (x0 : List Str) (x1 x5 : Int) (r1 : Str) : run tt (AbsCalls Try.prog) I83 3000 true (stkAt 2 I83.body) ⟨(S83_2 x0 x1 x5), [true, true], [xAe r1], []⟩ = some (.done (xAw (-1)) [(decide ((x5 : Int) < (List.length x0 : Int))) = true, (0 : Int) ≤ x5 ∧ x5 < (List.length x0), AbC 79 (xAn x1) (xAe r1), (!(((List.getD x0 (Int.toNat x5) Ty.str.dflt) : Str) == r1)) = true]) := by kernel_rfl
theorem p83_2_1 (x0 : List Str) (x1 x5 : Int) (r1 : Str) : run tt (AbsCalls Try.prog) I83 3000 true (stkAt 2 I83.body) ⟨(S83_2 x0 x1 x5), [true, false], [xAe r1], []⟩ = some (.stop (stkAt 2 I83.body) (S83_2 x0 (IntKind.i64.wrap (x1 + 1)) (IntKind.i64.wrap (x5 + 1))) [(decide ((x5 : Int) < (List.length x0 : Int))) = true, (0 : Int) ≤ x5 ∧ x5 < (List.length x0), AbC 79 (xAn x1) (xAe r1), (!(((List.getD x0 (Int.toNat x5) Ty.str.dflt) : Str) == r1)) = false]) := by kernel_rfl
theorem p83_2_2 (x0 : List Str) (x1 x5 : Int) : run tt (AbsCalls Try.prog) I83 3000 true (stkAt 2 I83.body) ⟨(S83_2 x0 x1 x5), [false], [], []⟩ = some (.done (xAw x1) [(decide ((x5 : Int) < (List.length x0 : Int))) = false]) := by kernel_rfl
theorem p83_e_3 (a0 : List Str) (a1 : Int) : run tt (AbsCalls Try.prog) I83 3000 false [.code I83.body] ⟨(zBg 0 (xA1 a0 a1)), [], [], []⟩ = some (.stop (stkAt 2 I83.body) (S83_2 a0 a1 0) []) := by kernel_rfl
theorem c83_2 {N : Nat} : ∀ n x0 x1 x5 r, xBo N n x0 x1 x5 = some r → Reach Try.prog Try.f83 I83 (stkAt 2 I83.body) (S83_2 x0 x1 x5) (xAw r) := by
 intro n
 induction n with
 | zero => intro x0 x1 x5 r h; have h' : (none : Option (Int)) = some r := h; cases h'
 | succ n ih =>
  intro x0 x1 x5 r h
  rw [xBo] at h
  rcases cond_inv h with ⟨h0, h⟩ | ⟨h0, h⟩
  ·obtain ⟨h1, h⟩ := ite_inv h
   obtain ⟨r1, h2, h⟩ := bind_inv h
   rcases cond_inv h with ⟨h3, h⟩ | ⟨h3, h⟩
   ·obtain rfl := Option.some.inj h
    exact Reach.done ttok mix fk83 (p83_2_0 x0 x1 x5 r1) (obs_cons h0 (obs_cons h1 (obs_cons (xAs h2) (obs_cons h3 obs_nil))))
   ·exact Reach.stop ttok mix fk83 (p83_2_1 x0 x1 x5 r1) (obs_cons h0 (obs_cons h1 (obs_cons (xAs h2) (obs_cons h3 obs_nil)))) (ih _ _ _ _ h)
  ·obtain rfl := Option.some.inj h
   exact Reach.done ttok mix fk83 (p83_2_2 x0 x1 x5) (obs_cons h0 obs_nil)
theorem c83_e {N : Nat} : ∀ a0 a1 r, xCo N a0 a1 = some r → Reach Try.prog Try.f83 I83 [.code I83.body] (zBg 0 (xA1 a0 a1)) (xAw r) := by
 intro a0 a1 r h
 unfold xCo at h
 exact Reach.stop ttok mix fk83 (p83_e_3 a0 a1) obs_nil (c83_2   _ _ _ _ _ h)
theorem xBO {N : Nat} {a0 : List Str} {a1 : Int} {r : Int} (h : xCo N  a0 a1 = some r) : AbC 83 (xA1 a0 a1) (xAw r) :=
 AbsCalls.of_reach fk83 rfl rfl (Nat.le_of_ble_eq_true rfl) (c83_e a0 a1 r h)
noncomputable def I131 : Info := { body := (Try.f131.body).getD .skip, nt := 21, results := [.tmp 4], keep := [0, 2, 8, 10, 18, 34], live := [(2, [0, 2, 10])], modes := [], ext := [], lnt := [], casts := [], fcast := [] }
theorem fk131 : FnOk Try.prog 131 Try.f131 I131 := ⟨Try.func131, by kernel_rfl, by kernel_rfl, by kernel_rfl, by kernel_rfl⟩
def S131_2 (x0 : List Int) (x1 x5 : Int) : St := [(0, .v false [.sl .ro .int x0]), (2, .v false [.int .i64 x1]), (10, .v false [.int .i64 x5])]
theorem p131_2_0 (x0 : List Int) (x1 x5 : Int) : run tt (AbsCalls Try.prog) I131 3000 true (stkAt 2 I131.body) ⟨(S131_2 x0 x1 x5), [true, true], [], []⟩ = some (.done (xA2 (-1)) [(decide ((x5 : Int) < (List.length x0 : Int))) = true, (0 : Int) ≤ x5 ∧ x5 < (List.length x0), (((List.getD x0 (Int.toNat x5) Ty.int.dflt) : Int) != x1) = true]) := by kernel_rfl
theorem p131_2_1 (x0 : List Int) (x1 x5 : Int) : run tt (AbsCalls Try.prog) I131 3000 true (stkAt 2 I131.body) ⟨(S131_2 x0 x1 x5), [true, false], [], []⟩ = some (.stop (stkAt 2 I131.body) (S131_2 x0 (IntKind.i64.wrap (x1 + 1)) (IntKind.i64.wrap (x5 + 1))) [(decide ((x5 : Int) < (List.length x0 : Int))) = true, (0 : Int) ≤ x5 ∧ x5 < (List.length x0), (((List.getD x0 (Int.toNat x5) Ty.int.dflt) : Int) != x1) = false]) := by kernel_rfl
theorem p131_2_2 (x0 : List Int) (x1 x5 : Int) : run tt (AbsCalls Try.prog) I131 3000 true (stkAt 2 I131.body) ⟨(S131_2 x0 x1 x5), [false], [], []⟩ = some (.done (xA2 x1) [(decide ((x5 : Int) < (List.length x0 : Int))) = false]) := by kernel_rfl
theorem p131_e_3 (a0 : List Int) (a1 : Int) : run tt (AbsCalls Try.prog) I131 3000 false [.code I131.body] ⟨(zBg 0 (xCn a0 a1)), [], [], []⟩ = some (.stop (stkAt 2 I131.body) (S131_2 a0 a1 0) []) := by kernel_rfl
theorem c131_2 {N : Nat} : ∀ n x0 x1 x5 r, xBY N n x0 x1 x5 = some r → Reach Try.prog Try.f131 I131 (stkAt 2 I131.body) (S131_2 x0 x1 x5) (xA2 r) := by
 intro n
 induction n with
 | zero => intro x0 x1 x5 r h; have h' : (none : Option (Int)) = some r := h; cases h'
 | succ n ih =>
  intro x0 x1 x5 r h
  rw [xBY] at h
  rcases cond_inv h with ⟨h0, h⟩ | ⟨h0, h⟩
  ·obtain ⟨h1, h⟩ := ite_inv h
   rcases cond_inv h with ⟨h2, h⟩ | ⟨h2, h⟩
   ·obtain rfl := Option.some.inj h
    exact Reach.done ttok mix fk131 (p131_2_0 x0 x1 x5) (obs_cons h0 (obs_cons h1 (obs_cons h2 obs_nil)))
   ·exact Reach.stop ttok mix fk131 (p131_2_1 x0 x1 x5) (obs_cons h0 (obs_cons h1 (obs_cons h2 obs_nil))) (ih _ _ _ _ h)
  ·obtain rfl := Option.some.inj h
   exact Reach.done ttok mix fk131 (p131_2_2 x0 x1 x5) (obs_cons h0 obs_nil)
theorem c131_e {N : Nat} : ∀ a0 a1 r, xDx N a0 a1 = some r → Reach Try.prog Try.f131 I131 [.code I131.body] (zBg 0 (xCn a0 a1)) (xA2 r) := by
 intro a0 a1 r h
 unfold xDx at h
 exact Reach.stop ttok mix fk131 (p131_e_3 a0 a1) obs_nil (c131_2   _ _ _ _ _ h)
theorem xDS {N : Nat} {a0 : List Int} {a1 : Int} {r : Int} (h : xDx N  a0 a1 = some r) : AbC 131 (xCn a0 a1) (xA2 r) :=
 AbsCalls.of_reach fk131 rfl rfl (Nat.le_of_ble_eq_true rfl) (c131_e a0 a1 r h)
noncomputable def I132 : Info := { body := (Try.f132.body).getD .skip, nt := 31, results := [.tmp 4], keep := [0, 2, 8, 10, 18, 36, 54], live := [(2, [0, 2, 10])], modes := [], ext := [], lnt := [], casts := [], fcast := [] }
theorem fk132 : FnOk Try.prog 132 Try.f132 I132 := ⟨Try.func132, by kernel_rfl, by kernel_rfl, by kernel_rfl, by kernel_rfl⟩
def S132_2 (x0 : List Org) (x1 x5 : Int) : St := [(0, .v false [.sl .ro .org x0]), (2, .v false [.int .i64 x1]), (10, .v false [.int .i64 x5])]
theorem p132_2_0 (x0 : List Org) (x1 x5 : Int) : run tt (AbsCalls Try.prog) I132 3000 true (stkAt 2 I132.body) ⟨(S132_2 x0 x1 x5), [true, true], [], []⟩ = some (.done (xAY (-1)) [(decide ((x5 : Int) < (List.length x0 : Int))) = true, (0 : Int) ≤ x5 ∧ x5 < (List.length x0), (((Org.cell (List.getD x0 (Int.toNat x5) Ty.org.dflt)) : Int) != x1) = true]) := by kernel_rfl
theorem p132_2_1 (x0 : List Org) (x1 x5 : Int) : run tt (AbsCalls Try.prog) I132 3000 true (stkAt 2 I132.body) ⟨(S132_2 x0 x1 x5), [true, false, true], [], []⟩ = some (.done (xAY (-1)) [(decide ((x5 : Int) < (List.length x0 : Int))) = true, (0 : Int) ≤ x5 ∧ x5 < (List.length x0), (((Org.cell (List.getD x0 (Int.toNat x5) Ty.org.dflt)) : Int) != x1) = false, (0 : Int) ≤ x5 ∧ x5 < (List.length x0), (((Org.row (List.getD x0 (Int.toNat x5) Ty.org.dflt)) : Int) != (IntKind.i64.wrap (x1 + 1))) = true]) := by kernel_rfl
theorem p132_2_2 (x0 : List Org) (x1 x5 : Int) : run tt (AbsCalls Try.prog) I132 3000 true (stkAt 2 I132.body) ⟨(S132_2 x0 x1 x5), [true, false, false], [], []⟩ = some (.stop (stkAt 2 I132.body) (S132_2 x0 (IntKind.i64.wrap ((IntKind.i64.wrap (x1 + 1)) + 1)) (IntKind.i64.wrap (x5 + 1))) [(decide ((x5 : Int) < (List.length x0 : Int))) = true, (0 : Int) ≤ x5 ∧ x5 < (List.length x0), (((Org.cell (List.getD x0 (Int.toNat x5) Ty.org.dflt)) : Int) != x1) = false, (0 : Int) ≤ x5 ∧ x5 < (List.length x0), (((Org.row (List.getD x0 (Int.toNat x5) Ty.org.dflt)) : Int) != (IntKind.i64.wrap (x1 + 1))) = false]) := by kernel_rfl
theorem p132_2_3 (x0 : List Org) (x1 x5 : Int) : run tt (AbsCalls Try.prog) I132 3000 true (stkAt 2 I132.body) ⟨(S132_2 x0 x1 x5), [false], [], []⟩ = some (.done (xAY x1) [(decide ((x5 : Int) < (List.length x0 : Int))) = false]) := by kernel_rfl
theorem p132_e_4 (a0 : List Org) (a1 : Int) : run tt (AbsCalls Try.prog) I132 3000 false [.code I132.body] ⟨(zBg 0 (xCh a0 a1)), [], [], []⟩ = some (.stop (stkAt 2 I132.body) (S132_2 a0 a1 0) []) := by kernel_rfl
theorem c132_2 {N : Nat} : ∀ n x0 x1 x5 r, xBn N n x0 x1 x5 = some r → Reach Try.prog Try.f132 I132 (stkAt 2 I132.body) (S132_2 x0 x1 x5) (xAY r) := by
 intro n
 induction n with
 | zero => intro x0 x1 x5 r h; have h' : (none : Option (Int)) = some r := h; cases h'
 | succ n ih =>
  intro x0 x1 x5 r h
  rw [xBn] at h
  rcases cond_inv h with ⟨h0, h⟩ | ⟨h0, h⟩
  ·obtain ⟨h1, h⟩ := ite_inv h
   rcases cond_inv h with ⟨h2, h⟩ | ⟨h2, h⟩
   ·obtain rfl := Option.some.inj h
    exact Reach.done ttok mix fk132 (p132_2_0 x0 x1 x5) (obs_cons h0 (obs_cons h1 (obs_cons h2 obs_nil)))
   ·rcases cond_inv h with ⟨h4, h⟩ | ⟨h4, h⟩
    ·obtain rfl := Option.some.inj h
     exact Reach.done ttok mix fk132 (p132_2_1 x0 x1 x5) (obs_cons h0 (obs_cons h1 (obs_cons h2 (obs_cons h1 (obs_cons h4 obs_nil)))))
    ·exact Reach.stop ttok mix fk132 (p132_2_2 x0 x1 x5) (obs_cons h0 (obs_cons h1 (obs_cons h2 (obs_cons h1 (obs_cons h4 obs_nil))))) (ih _ _ _ _ h)
  ·obtain rfl := Option.some.inj h
   exact Reach.done ttok mix fk132 (p132_2_3 x0 x1 x5) (obs_cons h0 obs_nil)
theorem c132_e {N : Nat} : ∀ a0 a1 r, xCN N a0 a1 = some r → Reach Try.prog Try.f132 I132 [.code I132.body] (zBg 0 (xCh a0 a1)) (xAY r) := by
 intro a0 a1 r h
 unfold xCN at h
 exact Reach.stop ttok mix fk132 (p132_e_4 a0 a1) obs_nil (c132_2   _ _ _ _ _ h)
theorem xD1 {N : Nat} {a0 : List Org} {a1 : Int} {r : Int} (h : xCN N  a0 a1 = some r) : AbC 132 (xCh a0 a1) (xAY r) :=
 AbsCalls.of_reach fk132 rfl rfl (Nat.le_of_ble_eq_true rfl) (c132_e a0 a1 r h)
noncomputable def I84 : Info := { body := (Try.f84.body).getD .skip, nt := 31, results := [.tmp 4], keep := [0, 2, 8, 10, 18, 40, 58], live := [(2, [0, 2, 10])], modes := [], ext := [], lnt := [], casts := [], fcast := [] }
theorem fk84 : FnOk Try.prog 84 Try.f84 I84 := ⟨Try.func84, by kernel_rfl, by kernel_rfl, by kernel_rfl, by kernel_rfl⟩
def S84_2 (x0 : List Rowd) (x1 x5 : Int) : St := [(0, .v false [.sl .ro .row x0]), (2, .v false [.int .i64 x1]), (10, .v false [.int .i64 x5])]
theorem p84_2_0 (x0 : List Rowd) (x1 x5 r1 : Int) : run tt (AbsCalls Try.prog) I84 3000 true (stkAt 2 I84.body) ⟨(S84_2 x0 x1 x5), [true, true], [xA2 r1], []⟩ = some (.done (xAP (-1)) [(decide ((x5 : Int) < (List.length x0 : Int))) = true, (0 : Int) ≤ x5 ∧ x5 < (List.length x0), AbC 131 (xCn (Rowd.cells (List.getD x0 (Int.toNat x5) Ty.row.dflt)) x1) (xA2 r1), (decide ((r1 : Int) < 0)) = true]) := by kernel_rfl
theorem p84_2_1 (x0 : List Rowd) (x1 x5 r1 r2 : Int) : run tt (AbsCalls Try.prog) I84 3000 true (stkAt 2 I84.body) ⟨(S84_2 x0 x1 x5), [true, false, true], [xA2 r1, xAY r2], []⟩ = some (.done (xAP (-1)) [(decide ((x5 : Int) < (List.length x0 : Int))) = true, (0 : Int) ≤ x5 ∧ x5 < (List.length x0), AbC 131 (xCn (Rowd.cells (List.getD x0 (Int.toNat x5) Ty.row.dflt)) x1) (xA2 r1), (decide ((r1 : Int) < 0)) = false, (0 : Int) ≤ x5 ∧ x5 < (List.length x0), AbC 132 (xCh (Rowd.frm (List.getD x0 (Int.toNat x5) Ty.row.dflt)) r1) (xAY r2), (decide ((r2 : Int) < 0)) = true]) := by kernel_rfl
theorem p84_2_2 (x0 : List Rowd) (x1 x5 r1 r2 : Int) : run tt (AbsCalls Try.prog) I84 3000 true (stkAt 2 I84.body) ⟨(S84_2 x0 x1 x5), [true, false, false], [xA2 r1, xAY r2], []⟩ = some (.stop (stkAt 2 I84.body) (S84_2 x0 r2 (IntKind.i64.wrap (x5 + 1))) [(decide ((x5 : Int) < (List.length x0 : Int))) = true, (0 : Int) ≤ x5 ∧ x5 < (List.length x0), AbC 131 (xCn (Rowd.cells (List.getD x0 (Int.toNat x5) Ty.row.dflt)) x1) (xA2 r1), (decide ((r1 : Int) < 0)) = false, (0 : Int) ≤ x5 ∧ x5 < (List.length x0), AbC 132 (xCh (Rowd.frm (List.getD x0 (Int.toNat x5) Ty.row.dflt)) r1) (xAY r2), (decide ((r2 : Int) < 0)) = false]) := by kernel_rfl
theorem p84_2_3 (x0 : List Rowd) (x1 x5 : Int) : run tt (AbsCalls Try.prog) I84 3000 true (stkAt 2 I84.body) ⟨(S84_2 x0 x1 x5), [false], [], []⟩ = some (.done (xAP x1) [(decide ((x5 : Int) < (List.length x0 : Int))) = false]) := by kernel_rfl
theorem p84_e_4 (a0 : List Rowd) (a1 : Int) : run tt (AbsCalls Try.prog) I84 3000 false [.code I84.body] ⟨(zBg 0 (xBZ a0 a1)), [], [], []⟩ = some (.stop (stkAt 2 I84.body) (S84_2 a0 a1 0) []) := by kernel_rfl
theorem c84_2 {N : Nat} : ∀ n x0 x1 x5 r, xB0 N n x0 x1 x5 = some r → Reach Try.prog Try.f84 I84 (stkAt 2 I84.body) (S84_2 x0 x1 x5) (xAP r) := by
 intro n
 induction n with
 | zero => intro x0 x1 x5 r h; have h' : (none : Option (Int)) = some r := h; cases h'
 | succ n ih =>
  intro x0 x1 x5 r h
  rw [xB0] at h
  rcases cond_inv h with ⟨h0, h⟩ | ⟨h0, h⟩
  ·obtain ⟨h1, h⟩ := ite_inv h
   obtain ⟨r1, h2, h⟩ := bind_inv h
   rcases cond_inv h with ⟨h3, h⟩ | ⟨h3, h⟩
   ·obtain rfl := Option.some.inj h
    exact Reach.done ttok mix fk84 (p84_2_0 x0 x1 x5 r1) (obs_cons h0 (obs_cons h1 (obs_cons (xDS h2) (obs_cons h3 obs_nil))))
   ·obtain ⟨r2, h5, h⟩ := bind_inv h
    rcases cond_inv h with ⟨h6, h⟩ | ⟨h6, h⟩
    ·obtain rfl := Option.some.inj h
     exact Reach.done ttok mix fk84 (p84_2_1 x0 x1 x5 r1 r2) (obs_cons h0 (obs_cons h1 (obs_cons (xDS h2) (obs_cons h3 (obs_cons h1 (obs_cons (xD1 h5) (obs_cons h6 obs_nil)))))))
    ·exact Reach.stop ttok mix fk84 (p84_2_2 x0 x1 x5 r1 r2) (obs_cons h0 (obs_cons h1 (obs_cons (xDS h2) (obs_cons h3 (obs_cons h1 (obs_cons (xD1 h5) (obs_cons h6 obs_nil))))))) (ih _ _ _ _ h)
  ·obtain rfl := Option.some.inj h
   exact Reach.done ttok mix fk84 (p84_2_3 x0 x1 x5) (obs_cons h0 obs_nil)
theorem c84_e {N : Nat} : ∀ a0 a1 r, xDc N a0 a1 = some r → Reach Try.prog Try.f84 I84 [.code I84.body] (zBg 0 (xBZ a0 a1)) (xAP r) := by
 intro a0 a1 r h
 unfold xDc at h
 exact Reach.stop ttok mix fk84 (p84_e_4 a0 a1) obs_nil (c84_2   _ _ _ _ _ h)
theorem xDn {N : Nat} {a0 : List Rowd} {a1 : Int} {r : Int} (h : xDc N  a0 a1 = some r) : AbC 84 (xBZ a0 a1) (xAP r) :=
 AbsCalls.of_reach fk84 rfl rfl (Nat.le_of_ble_eq_true rfl) (c84_e a0 a1 r h)
noncomputable def I82 : Info := { body := (Try.f82.body).getD .skip, nt := 77, results := [.tmp 4], keep := [0, 2, 8, 10, 18, 36, 54, 72, 92, 114, 132, 150], live := [(2, [0, 2, 10])], modes := [], ext := [], lnt := [], casts := [], fcast := [] }
theorem fk82 : FnOk Try.prog 82 Try.f82 I82 := ⟨Try.func82, by kernel_rfl, by kernel_rfl, by kernel_rfl, by kernel_rfl⟩
def S82_2 (x0 : List Val) (x1 x5 : Int) : St := [(0, .v false [.sl .ro .val x0]), (2, .v false [.int .i64 x1]), (10, .v false [.int .i64 x5])]
theorem p82_2_0 (x0 : List Val) (x1 x5 : Int) : run tt (AbsCalls Try.prog) I82 3000 true (stkAt 2 I82.body) ⟨(S82_2 x0 x1 x5), [true, true], [], []⟩ = some (.done (xAk (-1)) [(decide ((x5 : Int) < (List.length x0 : Int))) = true, (0 : Int) ≤ x5 ∧ x5 < (List.length x0), (((Val.kind (List.getD x0 (Int.toNat x5) Ty.val.dflt)) : Int) != x1) = true]) := by kernel_rfl
theorem p82_2_1 (x0 : List Val) (x1 x5 : Int) : run tt (AbsCalls Try.prog) I82 3000 true (stkAt 2 I82.body) ⟨(S82_2 x0 x1 x5), [true, false, true], [], []⟩ = some (.done (xAk (-1)) [(decide ((x5 : Int) < (List.length x0 : Int))) = true, (0 : Int) ≤ x5 ∧ x5 < (List.length x0), (((Val.kind (List.getD x0 (Int.toNat x5) Ty.val.dflt)) : Int) != x1) = false, (0 : Int) ≤ x5 ∧ x5 < (List.length x0), (((Val.n (List.getD x0 (Int.toNat x5) Ty.val.dflt)) : Int) != (IntKind.i64.wrap (x1 + 1))) = true]) := by kernel_rfl
theorem p82_2_2 (x0 : List Val) (x1 x5 : Int) : run tt (AbsCalls Try.prog) I82 3000 true (stkAt 2 I82.body) ⟨(S82_2 x0 x1 x5), [true, false, false, true], [], []⟩ = some (.done (xAk (-1)) [(decide ((x5 : Int) < (List.length x0 : Int))) = true, (0 : Int) ≤ x5 ∧ x5 < (List.length x0), (((Val.kind (List.getD x0 (Int.toNat x5) Ty.val.dflt)) : Int) != x1) = false, (0 : Int) ≤ x5 ∧ x5 < (List.length x0), (((Val.n (List.getD x0 (Int.toNat x5) Ty.val.dflt)) : Int) != (IntKind.i64.wrap (x1 + 1))) = false, (0 : Int) ≤ x5 ∧ x5 < (List.length x0), (((Val.step (List.getD x0 (Int.toNat x5) Ty.val.dflt)) : Int) != (IntKind.i64.wrap ((IntKind.i64.wrap (x1 + 1)) + 1))) = true]) := by kernel_rfl
theorem p82_2_3 (x0 : List Val) (x1 x5 : Int) (r1 : Str) : run tt (AbsCalls Try.prog) I82 3000 true (stkAt 2 I82.body) ⟨(S82_2 x0 x1 x5), [true, false, false, false, true], [xAe r1], []⟩ = some (.done (xAk (-1)) [(decide ((x5 : Int) < (List.length x0 : Int))) = true, (0 : Int) ≤ x5 ∧ x5 < (List.length x0), (((Val.kind (List.getD x0 (Int.toNat x5) Ty.val.dflt)) : Int) != x1) = false, (0 : Int) ≤ x5 ∧ x5 < (List.length x0), (((Val.n (List.getD x0 (Int.toNat x5) Ty.val.dflt)) : Int) != (IntKind.i64.wrap (x1 + 1))) = false, (0 : Int) ≤ x5 ∧ x5 < (List.length x0), (((Val.step (List.getD x0 (Int.toNat x5) Ty.val.dflt)) : Int) != (IntKind.i64.wrap ((IntKind.i64.wrap (x1 + 1)) + 1))) = false, (0 : Int) ≤ x5 ∧ x5 < (List.length x0), AbC 79 (xAn (IntKind.i64.wrap ((IntKind.i64.wrap ((IntKind.i64.wrap (x1 + 1)) + 1)) + 1))) (xAe r1), (!(((Val.text (List.getD x0 (Int.toNat x5) Ty.val.dflt)) : Str) == r1)) = true]) := by kernel_rfl
theorem p82_2_4 (x0 : List Val) (x1 x5 : Int) (r1 : Str) (r2 : Int) : run tt (AbsCalls Try.prog) I82 3000 true (stkAt 2 I82.body) ⟨(S82_2 x0 x1 x5), [true, false, false, false, false, true], [xAe r1, xAk r2], []⟩ = some (.done (xAk (-1)) [(decide ((x5 : Int) < (List.length x0 : Int))) = true, (0 : Int) ≤ x5 ∧ x5 < (List.length x0), (((Val.kind (List.getD x0 (Int.toNat x5) Ty.val.dflt)) : Int) != x1) = false, (0 : Int) ≤ x5 ∧ x5 < (List.length x0), (((Val.n (List.getD x0 (Int.toNat x5) Ty.val.dflt)) : Int) != (IntKind.i64.wrap (x1 + 1))) = false, (0 : Int) ≤ x5 ∧ x5 < (List.length x0), (((Val.step (List.getD x0 (Int.toNat x5) Ty.val.dflt)) : Int) != (IntKind.i64.wrap ((IntKind.i64.wrap (x1 + 1)) + 1))) = false, (0 : Int) ≤ x5 ∧ x5 < (List.length x0), AbC 79 (xAn (IntKind.i64.wrap ((IntKind.i64.wrap ((IntKind.i64.wrap (x1 + 1)) + 1)) + 1))) (xAe r1), (!(((Val.text (List.getD x0 (Int.toNat x5) Ty.val.dflt)) : Str) == r1)) = false, (0 : Int) ≤ x5 ∧ x5 < (List.length x0), AbC 82 (xAE (Val.list (List.getD x0 (Int.toNat x5) Ty.val.dflt)) (IntKind.i64.wrap ((IntKind.i64.wrap ((IntKind.i64.wrap ((IntKind.i64.wrap (x1 + 1)) + 1)) + 1)) + 1))) (xAk r2), (decide ((r2 : Int) < 0)) = true]) := by kernel_rfl
theorem p82_2_5 (x0 : List Val) (x1 x5 : Int) (r1 : Str) (r2 r3 : Int) : run tt (AbsCalls Try.prog) I82 3000 true (stkAt 2 I82.body) ⟨(S82_2 x0 x1 x5), [true, false, false, false, false, false, true], [xAe r1, xAk r2, xAw r3], []⟩ = some (.done (xAk (-1)) [(decide ((x5 : Int) < (List.length x0 : Int))) = true, (0 : Int) ≤ x5 ∧ x5 < (List.length x0), (((Val.kind (List.getD x0 (Int.toNat x5) Ty.val.dflt)) : Int) != x1) = false, (0 : Int) ≤ x5 ∧ x5 < (List.length x0), (((Val.n (List.getD x0 (Int.toNat x5) Ty.val.dflt)) : Int) != (IntKind.i64.wrap (x1 + 1))) = false, (0 : Int) ≤ x5 ∧ x5 < (List.length x0), (((Val.step (List.getD x0 (Int.toNat x5) Ty.val.dflt)) : Int) != (IntKind.i64.wrap ((IntKind.i64.wrap (x1 + 1)) + 1))) = false, (0 : Int) ≤ x5 ∧ x5 < (List.length x0), AbC 79 (xAn (IntKind.i64.wrap ((IntKind.i64.wrap ((IntKind.i64.wrap (x1 + 1)) + 1)) + 1))) (xAe r1), (!(((Val.text (List.getD x0 (Int.toNat x5) Ty.val.dflt)) : Str) == r1)) = false, (0 : Int) ≤ x5 ∧ x5 < (List.length x0), AbC 82 (xAE (Val.list (List.getD x0 (Int.toNat x5) Ty.val.dflt)) (IntKind.i64.wrap ((IntKind.i64.wrap ((IntKind.i64.wrap ((IntKind.i64.wrap (x1 + 1)) + 1)) + 1)) + 1))) (xAk r2), (decide ((r2 : Int) < 0)) = false, (0 : Int) ≤ x5 ∧ x5 < (List.length x0), AbC 83 (xA1 (Val.columns (List.getD x0 (Int.toNat x5) Ty.val.dflt)) r2) (xAw r3), (decide ((r3 : Int) < 0)) = true]) := by kernel_rfl
theorem p82_2_6 (x0 : List Val) (x1 x5 : Int) (r1 : Str) (r2 r3 r4 : Int) : run tt (AbsCalls Try.prog) I82 3000 true (stkAt 2 I82.body) ⟨(S82_2 x0 x1 x5), [true, false, false, false, false, false, false, true], [xAe r1, xAk r2, xAw r3, xAP r4], []⟩ = some (.done (xAk (-1)) [(decide ((x5 : Int) < (List.length x0 : Int))) = true, (0 : Int) ≤ x5 ∧ x5 < (List.length x0), (((Val.kind (List.getD x0 (Int.toNat x5) Ty.val.dflt)) : Int) != x1) = false, (0 : Int) ≤ x5 ∧ x5 < (List.length x0), (((Val.n (List.getD x0 (Int.toNat x5) Ty.val.dflt)) : Int) != (IntKind.i64.wrap (x1 + 1))) = false, (0 : Int) ≤ x5 ∧ x5 < (List.length x0), (((Val.step (List.getD x0 (Int.toNat x5) Ty.val.dflt)) : Int) != (IntKind.i64.wrap ((IntKind.i64.wrap (x1 + 1)) + 1))) = false, (0 : Int) ≤ x5 ∧ x5 < (List.length x0), AbC 79 (xAn (IntKind.i64.wrap ((IntKind.i64.wrap ((IntKind.i64.wrap (x1 + 1)) + 1)) + 1))) (xAe r1), (!(((Val.text (List.getD x0 (Int.toNat x5) Ty.val.dflt)) : Str) == r1)) = false, (0 : Int) ≤ x5 ∧ x5 < (List.length x0), AbC 82 (xAE (Val.list (List.getD x0 (Int.toNat x5) Ty.val.dflt)) (IntKind.i64.wrap ((IntKind.i64.wrap ((IntKind.i64.wrap ((IntKind.i64.wrap (x1 + 1)) + 1)) + 1)) + 1))) (xAk r2), (decide ((r2 : Int) < 0)) = false, (0 : Int) ≤ x5 ∧ x5 < (List.length x0), AbC 83 (xA1 (Val.columns (List.getD x0 (Int.toNat x5) Ty.val.dflt)) r2) (xAw r3), (decide ((r3 : Int) < 0)) = false, (0 : Int) ≤ x5 ∧ x5 < (List.length x0), AbC 84 (xBZ (Val.rows (List.getD x0 (Int.toNat x5) Ty.val.dflt)) r3) (xAP r4), (decide ((r4 : Int) < 0)) = true]) := by kernel_rfl
theorem p82_2_7 (x0 : List Val) (x1 x5 : Int) (r1 : Str) (r2 r3 r4 : Int) : run tt (AbsCalls Try.prog) I82 3000 true (stkAt 2 I82.body) ⟨(S82_2 x0 x1 x5), [true, false, false, false, false, false, false, false], [xAe r1, xAk r2, xAw r3, xAP r4], []⟩ = some (.stop (stkAt 2 I82.body) (S82_2 x0 r4 (IntKind.i64.wrap (x5 + 1))) [(decide ((x5 : Int) < (List.length x0 : Int))) = true, (0 : Int) ≤ x5 ∧ x5 < (List.length x0), (((Val.kind (List.getD x0 (Int.toNat x5) Ty.val.dflt)) : Int) != x1) = false, (0 : Int) ≤ x5 ∧ x5 < (List.length x0), (((Val.n (List.getD x0 (Int.toNat x5) Ty.val.dflt)) : Int) != (IntKind.i64.wrap (x1 + 1))) = false, (0 : Int) ≤ x5 ∧ x5 < (List.length x0), (((Val.step (List.getD x0 (Int.toNat x5) Ty.val.dflt)) : Int) != (IntKind.i64.wrap ((IntKind.i64.wrap (x1 + 1)) + 1))) = false, (0 : Int) ≤ x5 ∧ x5 < (List.length x0), AbC 79 (xAn (IntKind.i64.wrap ((IntKind.i64.wrap ((IntKind.i64.wrap (x1 + 1)) + 1)) + 1))) (xAe r1), (!(((Val.text (List.getD x0 (Int.toNat x5) Ty.val.dflt)) : Str) == r1)) = false, (0 : Int) ≤ x5 ∧ x5 < (List.length x0), AbC 82 (xAE (Val.list (List.getD x0 (Int.toNat x5) Ty.val.dflt)) (IntKind.i64.wrap ((IntKind.i64.wrap ((IntKind.i64.wrap ((IntKind.i64.wrap (x1 + 1)) + 1)) + 1)) + 1))) (xAk r2), (decide ((r2 : Int) < 0)) = false, (0 : Int) ≤ x5 ∧ x5 < (List.length x0), AbC 83 (xA1 (Val.columns (List.getD x0 (Int.toNat x5) Ty.val.dflt)) r2) (xAw r3), (decide ((r3 : Int) < 0)) = false, (0 : Int) ≤ x5 ∧ x5 < (List.length x0), AbC 84 (xBZ (Val.rows (List.getD x0 (Int.toNat x5) Ty.val.dflt)) r3) (xAP r4), (decide ((r4 : Int) < 0)) = false]) := by kernel_rfl
theorem p82_2_8 (x0 : List Val) (x1 x5 : Int) : run tt (AbsCalls Try.prog) I82 3000 true (stkAt 2 I82.body) ⟨(S82_2 x0 x1 x5), [false], [], []⟩ = some (.done (xAk x1) [(decide ((x5 : Int) < (List.length x0 : Int))) = false]) := by kernel_rfl
theorem p82_e_9 (a0 : List Val) (a1 : Int) : run tt (AbsCalls Try.prog) I82 3000 false [.code I82.body] ⟨(zBg 0 (xAE a0 a1)), [], [], []⟩ = some (.stop (stkAt 2 I82.body) (S82_2 a0 a1 0) []) := by kernel_rfl
theorem c82_2 {N : Nat} {rc_laws_heldValueS : (List Val) → Int → Option (Int)} (hrc_laws_heldValueS : ∀ a0 a1 r, rc_laws_heldValueS a0 a1 = some r → AbC 82 (xAE a0 a1) (xAk r)) : ∀ n x0 x1 x5 r, xBB N rc_laws_heldValueS n x0 x1 x5 = some r → Reach Try.prog Try.f82 I82 (stkAt 2 I82.body) (S82_2 x0 x1 x5) (xAk r) := by
 intro n
 induction n with
 | zero => intro x0 x1 x5 r h; have h' : (none : Option (Int)) = some r := h; cases h'
 | succ n ih =>
  intro x0 x1 x5 r h
  rw [xBB] at h
  rcases cond_inv h with ⟨h0, h⟩ | ⟨h0, h⟩
  ·obtain ⟨h1, h⟩ := ite_inv h
   rcases cond_inv h with ⟨h2, h⟩ | ⟨h2, h⟩
   ·obtain rfl := Option.some.inj h
    exact Reach.done ttok mix fk82 (p82_2_0 x0 x1 x5) (obs_cons h0 (obs_cons h1 (obs_cons h2 obs_nil)))
   ·rcases cond_inv h with ⟨h4, h⟩ | ⟨h4, h⟩
    ·obtain rfl := Option.some.inj h
     exact Reach.done ttok mix fk82 (p82_2_1 x0 x1 x5) (obs_cons h0 (obs_cons h1 (obs_cons h2 (obs_cons h1 (obs_cons h4 obs_nil)))))
    ·rcases cond_inv h with ⟨h6, h⟩ | ⟨h6, h⟩
     ·obtain rfl := Option.some.inj h
      exact Reach.done ttok mix fk82 (p82_2_2 x0 x1 x5) (obs_cons h0 (obs_cons h1 (obs_cons h2 (obs_cons h1 (obs_cons h4 (obs_cons h1 (obs_cons h6 obs_nil)))))))
     ·obtain ⟨r1, h8, h⟩ := bind_inv h
      rcases cond_inv h with ⟨h9, h⟩ | ⟨h9, h⟩
      ·obtain rfl := Option.some.inj h
       exact Reach.done ttok mix fk82 (p82_2_3 x0 x1 x5 r1) (obs_cons h0 (obs_cons h1 (obs_cons h2 (obs_cons h1 (obs_cons h4 (obs_cons h1 (obs_cons h6 (obs_cons h1 (obs_cons (xAs h8) (obs_cons h9 obs_nil))))))))))
      ·obtain ⟨r2, h11, h⟩ := bind_inv h
       rcases cond_inv h with ⟨h12, h⟩ | ⟨h12, h⟩
       ·obtain rfl := Option.some.inj h
        exact Reach.done ttok mix fk82 (p82_2_4 x0 x1 x5 r1 r2) (obs_cons h0 (obs_cons h1 (obs_cons h2 (obs_cons h1 (obs_cons h4 (obs_cons h1 (obs_cons h6 (obs_cons h1 (obs_cons (xAs h8) (obs_cons h9 (obs_cons h1 (obs_cons (hrc_laws_heldValueS _ _ _ h11) (obs_cons h12 obs_nil)))))))))))))
       ·obtain ⟨r3, h14, h⟩ := bind_inv h
        rcases cond_inv h with ⟨h15, h⟩ | ⟨h15, h⟩
        ·obtain rfl := Option.some.inj h
         exact Reach.done ttok mix fk82 (p82_2_5 x0 x1 x5 r1 r2 r3) (obs_cons h0 (obs_cons h1 (obs_cons h2 (obs_cons h1 (obs_cons h4 (obs_cons h1 (obs_cons h6 (obs_cons h1 (obs_cons (xAs h8) (obs_cons h9 (obs_cons h1 (obs_cons (hrc_laws_heldValueS _ _ _ h11) (obs_cons h12 (obs_cons h1 (obs_cons (xBO h14) (obs_cons h15 obs_nil))))))))))))))))
        ·obtain ⟨r4, h17, h⟩ := bind_inv h
         rcases cond_inv h with ⟨h18, h⟩ | ⟨h18, h⟩
         ·obtain rfl := Option.some.inj h
          exact Reach.done ttok mix fk82 (p82_2_6 x0 x1 x5 r1 r2 r3 r4) (obs_cons h0 (obs_cons h1 (obs_cons h2 (obs_cons h1 (obs_cons h4 (obs_cons h1 (obs_cons h6 (obs_cons h1 (obs_cons (xAs h8) (obs_cons h9 (obs_cons h1 (obs_cons (hrc_laws_heldValueS _ _ _ h11) (obs_cons h12 (obs_cons h1 (obs_cons (xBO h14) (obs_cons h15 (obs_cons h1 (obs_cons (xDn h17) (obs_cons h18 obs_nil)))))))))))))))))))
         ·exact Reach.stop ttok mix fk82 (p82_2_7 x0 x1 x5 r1 r2 r3 r4) (obs_cons h0 (obs_cons h1 (obs_cons h2 (obs_cons h1 (obs_cons h4 (obs_cons h1 (obs_cons h6 (obs_cons h1 (obs_cons (xAs h8) (obs_cons h9 (obs_cons h1 (obs_cons (hrc_laws_heldValueS _ _ _ h11) (obs_cons h12 (obs_cons h1 (obs_cons (xBO h14) (obs_cons h15 (obs_cons h1 (obs_cons (xDn h17) (obs_cons h18 obs_nil))))))))))))))))))) (ih _ _ _ _ h)
  ·obtain rfl := Option.some.inj h
   exact Reach.done ttok mix fk82 (p82_2_8 x0 x1 x5) (obs_cons h0 obs_nil)
theorem c82_e {N : Nat} {rc_laws_heldValueS : (List Val) → Int → Option (Int)} (hrc_laws_heldValueS : ∀ a0 a1 r, rc_laws_heldValueS a0 a1 = some r → AbC 82 (xAE a0 a1) (xAk r)) : ∀ a0 a1 r, xCC N rc_laws_heldValueS a0 a1 = some r → Reach Try.prog Try.f82 I82 [.code I82.body] (zBg 0 (xAE a0 a1)) (xAk r) := by
 intro a0 a1 r h
 unfold xCC at h
 exact Reach.stop ttok mix fk82 (p82_e_9 a0 a1) obs_nil (c82_2 hrc_laws_heldValueS  _ _ _ _ _ h)
theorem xEh {N : Nat} {rc_laws_heldValueS : (List Val) → Int → Option (Int)} (hrc_laws_heldValueS : ∀ a0 a1 r, rc_laws_heldValueS a0 a1 = some r → AbC 82 (xAE a0 a1) (xAk r)) {a0 : List Val} {a1 : Int} {r : Int} (h : xCC N rc_laws_heldValueS a0 a1 = some r) : AbC 82 (xAE a0 a1) (xAk r) :=
 AbsCalls.of_reach fk82 rfl rfl (Nat.le_of_ble_eq_true rfl) (c82_e hrc_laws_heldValueS a0 a1 r h)
theorem xEr {N : Nat} : ∀ d, (∀ a0 a1 r, xCi N d a0 a1 = some r → AbC 82 (xAE a0 a1) (xAk r)) := by
 intro d
 induction d with
 | zero => intro _ _ r h; have h' : (none : Option (Int)) = some r := h; cases h'
 | succ d ih => intro _ _ r h; exact xEh (N := N) ih h
theorem xC3 {N : Nat} {a0 : List Val} {a1 : Int} {r : Int} (h : xD2 N a0 a1 = some r) : AbC 82 (xAE a0 a1) (xAk r) := xEr N _ _ r h
end Go.Ab.T
end
section
open Go.Proofs
namespace Go.Ab.T
set_option linter.unusedVariables false
set_option maxRecDepth 100000
noncomputable def I30 : Info := { body := (Try.f30.body).getD .skip, nt := 19, results := [.tmp 4], keep := [0, 2, 4, 8, 22, 34, 5], live := [], modes := [], ext := [], lnt := [], casts := [], fcast := [] }
theorem fk30 : FnOk Try.prog 30 Try.f30 I30 := ⟨Try.func30, by kernel_rfl, by kernel_rfl, by kernel_rfl, by kernel_rfl⟩
theorem p30_e_0 (a0 : Rea) (a1 : Int) : run tt (AbsCalls Try.prog) I30 3000 false [.code I30.body] ⟨(zBg 0 (xCz a0 a1)), [true], [], []⟩ = some (.done (xBS (-1)) [(decide (((IntKind.i64.wrap (a1 - (List.length (Rea.text a0) : Int))) : Int) < 0)) = true]) := by kernel_rfl
theorem p30_e_1 (a0 : Rea) (a1 r1 : Int) : run tt (AbsCalls Try.prog) I30 3000 false [.code I30.body] ⟨(zBg 0 (xCz a0 a1)), [false, true], [xAz r1], []⟩ = some (.done (xBS (-1)) [(decide (((IntKind.i64.wrap (a1 - (List.length (Rea.text a0) : Int))) : Int) < 0)) = false, AbC 24 (xAH (Rea.result a0) (IntKind.i64.wrap (a1 - (List.length (Rea.text a0) : Int)))) (xAz r1), (decide ((r1 : Int) < 0)) = true]) := by kernel_rfl
theorem p30_e_2 (a0 : Rea) (a1 r1 : Int) : run tt (AbsCalls Try.prog) I30 3000 false [.code I30.body] ⟨(zBg 0 (xCz a0 a1)), [false, false], [xAz r1], []⟩ = some (.done (xBS r1) [(decide (((IntKind.i64.wrap (a1 - (List.length (Rea.text a0) : Int))) : Int) < 0)) = false, AbC 24 (xAH (Rea.result a0) (IntKind.i64.wrap (a1 - (List.length (Rea.text a0) : Int)))) (xAz r1), (decide ((r1 : Int) < 0)) = false]) := by kernel_rfl
theorem c30_e {N : Nat} : ∀ a0 a1 r, xDJ N a0 a1 = some r → Reach Try.prog Try.f30 I30 [.code I30.body] (zBg 0 (xCz a0 a1)) (xBS r) := by
 intro a0 a1 r h
 unfold xDJ at h
 rcases cond_inv h with ⟨h0, h⟩ | ⟨h0, h⟩
 ·obtain rfl := Option.some.inj h
  exact Reach.done ttok mix fk30 (p30_e_0 a0 a1) (obs_cons h0 obs_nil)
 ·obtain ⟨r1, h1, h⟩ := bind_inv h
  rcases cond_inv h with ⟨h2, h⟩ | ⟨h2, h⟩
  ·obtain rfl := Option.some.inj h
   exact Reach.done ttok mix fk30 (p30_e_1 a0 a1 r1) (obs_cons h0 (obs_cons (xEz h1) (obs_cons h2 obs_nil)))
  ·obtain rfl := Option.some.inj h
   exact Reach.done ttok mix fk30 (p30_e_2 a0 a1 r1) (obs_cons h0 (obs_cons (xEz h1) (obs_cons h2 obs_nil)))
theorem xEM {N : Nat} {a0 : Rea} {a1 : Int} {r : Int} (h : xDJ N  a0 a1 = some r) : AbC 30 (xCz a0 a1) (xBS r) :=
 AbsCalls.of_reach fk30 rfl rfl (Nat.le_of_ble_eq_true rfl) (c30_e a0 a1 r h)
noncomputable def I29 : Info := { body := (Try.f29.body).getD .skip, nt := 27, results := [.tmp 4], keep := [0, 2, 8, 10, 22, 30, 50], live := [(5, [0, 2, 10])], modes := [], ext := [], lnt := [], casts := [], fcast := [] }
theorem fk29 : FnOk Try.prog 29 Try.f29 I29 := ⟨Try.func29, by kernel_rfl, by kernel_rfl, by kernel_rfl, by kernel_rfl⟩
def S29_5 (x0 : List Rea) (x1 x5 : Int) : St := [(0, .v false [.sl .ro .rea x0]), (2, .v false [.int .i64 x1]), (10, .v false [.int .i64 x5])]
theorem p29_5_0 (x0 : List Rea) (x1 x5 r1 : Int) : run tt (AbsCalls Try.prog) I29 3000 true (stkAt 5 I29.body) ⟨(S29_5 x0 x1 x5), [true, true], [xBS r1], []⟩ = some (.done (xAg (-1)) [(decide ((x5 : Int) < (List.length x0 : Int))) = true, (0 : Int) ≤ x5 ∧ x5 < (List.length x0), AbC 30 (xCz (List.getD x0 (Int.toNat x5) Ty.rea.dflt) x1) (xBS r1), (decide ((r1 : Int) < 0)) = true]) := by kernel_rfl
theorem p29_5_1 (x0 : List Rea) (x1 x5 r1 : Int) : run tt (AbsCalls Try.prog) I29 3000 true (stkAt 5 I29.body) ⟨(S29_5 x0 x1 x5), [true, false], [xBS r1], []⟩ = some (.stop (stkAt 5 I29.body) (S29_5 x0 r1 (IntKind.i64.wrap (x5 + 1))) [(decide ((x5 : Int) < (List.length x0 : Int))) = true, (0 : Int) ≤ x5 ∧ x5 < (List.length x0), AbC 30 (xCz (List.getD x0 (Int.toNat x5) Ty.rea.dflt) x1) (xBS r1), (decide ((r1 : Int) < 0)) = false]) := by kernel_rfl
theorem p29_5_2 (x0 : List Rea) (x1 x5 : Int) : run tt (AbsCalls Try.prog) I29 3000 true (stkAt 5 I29.body) ⟨(S29_5 x0 x1 x5), [false], [], []⟩ = some (.done (xAg x1) [(decide ((x5 : Int) < (List.length x0 : Int))) = false]) := by kernel_rfl
theorem p29_e_3 (a0 : List Rea) (a1 : Int) : run tt (AbsCalls Try.prog) I29 3000 false [.code I29.body] ⟨(zBg 0 (xAp a0 a1)), [true], [], []⟩ = some (.done (xAg (-1)) [(decide (((IntKind.i64.wrap (a1 - (List.length a0 : Int))) : Int) < 0)) = true]) := by kernel_rfl
theorem p29_e_4 (a0 : List Rea) (a1 : Int) : run tt (AbsCalls Try.prog) I29 3000 false [.code I29.body] ⟨(zBg 0 (xAp a0 a1)), [false], [], []⟩ = some (.stop (stkAt 5 I29.body) (S29_5 a0 (IntKind.i64.wrap (a1 - (List.length a0 : Int))) 0) [(decide (((IntKind.i64.wrap (a1 - (List.length a0 : Int))) : Int) < 0)) = false]) := by kernel_rfl
theorem c29_5 {N : Nat} : ∀ n x0 x1 x5 r, xC6 N n x0 x1 x5 = some r → Reach Try.prog Try.f29 I29 (stkAt 5 I29.body) (S29_5 x0 x1 x5) (xAg r) := by
 intro n
 induction n with
 | zero => intro x0 x1 x5 r h; have h' : (none : Option (Int)) = some r := h; cases h'
 | succ n ih =>
  intro x0 x1 x5 r h
  rw [xC6] at h
  rcases cond_inv h with ⟨h0, h⟩ | ⟨h0, h⟩
  ·obtain ⟨h1, h⟩ := ite_inv h
   obtain ⟨r1, h2, h⟩ := bind_inv h
   rcases cond_inv h with ⟨h3, h⟩ | ⟨h3, h⟩
   ·obtain rfl := Option.some.inj h
    exact Reach.done ttok mix fk29 (p29_5_0 x0 x1 x5 r1) (obs_cons h0 (obs_cons h1 (obs_cons (xEM h2) (obs_cons h3 obs_nil))))
   ·exact Reach.stop ttok mix fk29 (p29_5_1 x0 x1 x5 r1) (obs_cons h0 (obs_cons h1 (obs_cons (xEM h2) (obs_cons h3 obs_nil)))) (ih _ _ _ _ h)
  ·obtain rfl := Option.some.inj h
   exact Reach.done ttok mix fk29 (p29_5_2 x0 x1 x5) (obs_cons h0 obs_nil)
theorem c29_e {N : Nat} : ∀ a0 a1 r, xDs N a0 a1 = some r → Reach Try.prog Try.f29 I29 [.code I29.body] (zBg 0 (xAp a0 a1)) (xAg r) := by
 intro a0 a1 r h
 unfold xDs at h
 rcases cond_inv h with ⟨h0, h⟩ | ⟨h0, h⟩
 ·obtain rfl := Option.some.inj h
  exact Reach.done ttok mix fk29 (p29_e_3 a0 a1) (obs_cons h0 obs_nil)
 ·exact Reach.stop ttok mix fk29 (p29_e_4 a0 a1) (obs_cons h0 obs_nil) (c29_5   _ _ _ _ _ h)
theorem xAv {N : Nat} {a0 : List Rea} {a1 : Int} {r : Int} (h : xDs N  a0 a1 = some r) : AbC 29 (xAp a0 a1) (xAg r) :=
 AbsCalls.of_reach fk29 rfl rfl (Nat.le_of_ble_eq_true rfl) (c29_e a0 a1 r h)
noncomputable def I33 : Info := { body := (Try.f33.body).getD .skip, nt := 21, results := [.cell 2 55], keep := [0, 2, 4, 6, 3, 5, 7], live := [], modes := [(7, [(0, .take, false)])], ext := [], lnt := [], casts := [], fcast := [] }
theorem fk33 : FnOk Try.prog 33 Try.f33 I33 := ⟨Try.func33, by kernel_rfl, by kernel_rfl, by kernel_rfl, by kernel_rfl⟩
theorem p33_e_0 (a0 : Rea) (r1 : Val) : run tt (AbsCalls Try.prog) I33 3000 false [.code I33.body] ⟨(zBg 0 (xDP a0)), [], [xAW r1], []⟩ = some (.done (xDl (Rea.mk (Rea.kind a0) (Rea.n a0) (Rea.time a0) (Rea.text a0) r1)) [AbC 26 (xA4 (Rea.result a0)) (xAW r1)]) := by kernel_rfl
theorem c33_e {N : Nat} : ∀ a0 r, xDr N a0 = some r → Reach Try.prog Try.f33 I33 [.code I33.body] (zBg 0 (xDP a0)) (xDl r) := by
 intro a0 r h
 unfold xDr at h
 obtain ⟨r1, h0, h⟩ := bind_inv h
 obtain rfl := Option.some.inj h
 exact Reach.done ttok mix fk33 (p33_e_0 a0 r1) (obs_cons (laws_toValue_ok h0) obs_nil)
theorem laws_toRead_ok {N : Nat} {a0 : Rea} {r : Rea} (h : xDr N  a0 = some r) : AbC 33 (xDP a0) (xDl r) :=
 AbsCalls.of_reach fk33 rfl rfl (Nat.le_of_ble_eq_true rfl) (c33_e a0 r h)
noncomputable def I32 : Info := { body := (Try.f32.body).getD .skip, nt := 23, results := [.tmp 2], keep := [0, 4, 6, 8, 22], live := [(3, [0, 6, 8])], modes := [(5, [(0, .ref, false)]), (6, [(0, .take, false)])], ext := [], lnt := [], casts := [], fcast := [] }
theorem fk32 : FnOk Try.prog 32 Try.f32 I32 := ⟨Try.func32, by kernel_rfl, by kernel_rfl, by kernel_rfl, by kernel_rfl⟩
def S32_3 (x0 x3 : List Rea) (x4 : Int) : St := [(0, .v false [.sl .ro .rea x0]), (6, .v false [.sl .own .rea x3]), (8, .v false [.int .i64 x4])]
theorem p32_3_0 (x0 x3 : List Rea) (x4 : Int) (r1 : Rea) : run tt (AbsCalls Try.prog) I32 3000 true (stkAt 3 I32.body) ⟨(S32_3 x0 x3 x4), [true], [xDl r1], []⟩ = some (.stop (stkAt 3 I32.body) (S32_3 x0 (List.set x3 (Int.toNat x4) (Rea.mk (Rea.kind r1) (Rea.n r1) (Rea.time r1) (Rea.text r1) (Val.re (Rea.result r1)))) (IntKind.i64.wrap (x4 + 1))) [(decide ((x4 : Int) < (List.length x0 : Int))) = true, (0 : Int) ≤ x4 ∧ x4 < (List.length x0), AbC 33 (xDP (List.getD x0 (Int.toNat x4) Ty.rea.dflt)) (xDl r1), (0 : Int) ≤ x4 ∧ x4 < (List.length x3)]) := by kernel_rfl
theorem p32_3_1 (x0 x3 : List Rea) (x4 : Int) : run tt (AbsCalls Try.prog) I32 3000 true (stkAt 3 I32.body) ⟨(S32_3 x0 x3 x4), [false], [], []⟩ = some (.done (xAa x3) [(decide ((x4 : Int) < (List.length x0 : Int))) = false]) := by kernel_rfl
theorem p32_e_2 (a0 : List Rea) : run tt (AbsCalls Try.prog) I32 3000 false [.code I32.body] ⟨(zBg 0 (xAc a0)), [], [], []⟩ = some (.stop (stkAt 3 I32.body) (S32_3 a0 (List.replicate (Int.toNat (List.length a0 : Int)) Ty.rea.dflt) 0) [(0 : Int) ≤ (List.length a0 : Int) ∧ (List.length a0 : Int) = (List.length a0 : Int) ∧ (List.length a0 : Int) ≤ Lim]) := by kernel_rfl
theorem c32_3 {N : Nat} : ∀ n x0 x3 x4 r, xC7 N n x0 x3 x4 = some r → Reach Try.prog Try.f32 I32 (stkAt 3 I32.body) (S32_3 x0 x3 x4) (xAa r) := by
 intro n
 induction n with
 | zero => intro x0 x3 x4 r h; have h' : (none : Option ((List Rea))) = some r := h; cases h'
 | succ n ih =>
  intro x0 x3 x4 r h
  rw [xC7] at h
  rcases cond_inv h with ⟨h0, h⟩ | ⟨h0, h⟩
  ·obtain ⟨h1, h⟩ := ite_inv h
   obtain ⟨r1, h2, h⟩ := bind_inv h
   obtain ⟨h3, h⟩ := ite_inv h
   exact Reach.stop ttok mix fk32 (p32_3_0 x0 x3 x4 r1) (obs_cons h0 (obs_cons h1 (obs_cons (laws_toRead_ok h2) (obs_cons h3 obs_nil)))) (ih _ _ _ _ h)
  ·obtain rfl := Option.some.inj h
   exact Reach.done ttok mix fk32 (p32_3_1 x0 x3 x4) (obs_cons h0 obs_nil)
theorem c32_e {N : Nat} : ∀ a0 r, xBu N a0 = some r → Reach Try.prog Try.f32 I32 [.code I32.body] (zBg 0 (xAc a0)) (xAa r) := by
 intro a0 r h
 unfold xBu at h
 obtain ⟨h0, h⟩ := ite_inv h
 exact Reach.stop ttok mix fk32 (p32_e_2 a0) (obs_cons h0 obs_nil) (c32_3   _ _ _ _ _ h)
theorem xAd {N : Nat} {a0 : List Rea} {r : (List Rea)} (h : xBu N  a0 = some r) : AbC 32 (xAc a0) (xAa r) :=
 AbsCalls.of_reach fk32 rfl rfl (Nat.le_of_ble_eq_true rfl) (c32_e a0 r h)
noncomputable def I92 : Info := { body := (Try.f92.body).getD .skip, nt := 8, results := [.cell 2 55], keep := [0, 2, 4, 3, 5], live := [], modes := [(2, [(0, .take, false)])], ext := [], lnt := [], casts := [], fcast := [] }
theorem fk92 : FnOk Try.prog 92 Try.f92 I92 := ⟨Try.func92, by kernel_rfl, by kernel_rfl, by kernel_rfl, by kernel_rfl⟩
theorem p92_e_0 (a0 : Rea) (r1 : Val) : run tt (AbsCalls Try.prog) I92 3000 false [.code I92.body] ⟨(zBg 0 (xC9 a0)), [], [xAN r1], []⟩ = some (.done (xCl (Rea.mk (Rea.kind a0) (Rea.n a0) (Rea.time a0) (Rea.text a0) r1)) [AbC 71 (xBc (Rea.result a0)) (xAN r1)]) := by kernel_rfl
theorem c92_e {N : Nat} : ∀ a0 r, xC8 N a0 = some r → Reach Try.prog Try.f92 I92 [.code I92.body] (zBg 0 (xC9 a0)) (xCl r) := by
 intro a0 r h
 unfold xC8 at h
 obtain ⟨r1, h0, h⟩ := bind_inv h
 obtain rfl := Option.some.inj h
 exact Reach.done ttok mix fk92 (p92_e_0 a0 r1) (obs_cons (xEP h0) obs_nil)
theorem xED {N : Nat} {a0 : Rea} {r : Rea} (h : xC8 N  a0 = some r) : AbC 92 (xC9 a0) (xCl r) :=
 AbsCalls.of_reach fk92 rfl rfl (Nat.le_of_ble_eq_true rfl) (c92_e a0 r h)
noncomputable def I91 : Info := { body := (Try.f91.body).getD .skip, nt := 21, results := [.tmp 2], keep := [0, 4, 6, 8, 18], live := [(3, [0, 6, 8])], modes := [(5, [(0, .take, false), (7, .take, false)]), (6, [(0, .take, false)])], ext := [], lnt := [], casts := [], fcast := [] }
theorem fk91 : FnOk Try.prog 91 Try.f91 I91 := ⟨Try.func91, by kernel_rfl, by kernel_rfl, by kernel_rfl, by kernel_rfl⟩
def S91_3 (x0 x3 : List Rea) (x4 : Int) : St := [(0, .v false [.sl .ro .rea x0]), (6, .v false [.sl .own .rea x3]), (8, .v false [.int .i64 x4])]
theorem p91_3_0 (x0 x3 : List Rea) (x4 : Int) (r1 : Rea) : run tt (AbsCalls Try.prog) I91 3000 true (stkAt 3 I91.body) ⟨(S91_3 x0 x3 x4), [true], [xCl r1], []⟩ = some (.stop (stkAt 3 I91.body) (S91_3 x0 (x3 ++ [(Rea.mk (Rea.kind r1) (Rea.n r1) (Rea.time r1) (Rea.text r1) (Val.re (Rea.result r1)))]) (IntKind.i64.wrap (x4 + 1))) [(decide ((x4 : Int) < (List.length x0 : Int))) = true, (0 : Int) ≤ x4 ∧ x4 < (List.length x0), AbC 92 (xC9 (List.getD x0 (Int.toNat x4) Ty.rea.dflt)) (xCl r1), List.length x3 + List.length [(Rea.mk (Rea.kind r1) (Rea.n r1) (Rea.time r1) (Rea.text r1) (Val.re (Rea.result r1)))] ≤ Lim]) := by kernel_rfl
theorem p91_3_1 (x0 x3 : List Rea) (x4 : Int) : run tt (AbsCalls Try.prog) I91 3000 true (stkAt 3 I91.body) ⟨(S91_3 x0 x3 x4), [false], [], []⟩ = some (.done (xCr x3) [(decide ((x4 : Int) < (List.length x0 : Int))) = false]) := by kernel_rfl
theorem p91_e_2 (a0 : List Rea) : run tt (AbsCalls Try.prog) I91 3000 false [.code I91.body] ⟨(zBg 0 (xDq a0)), [], [], []⟩ = some (.stop (stkAt 3 I91.body) (S91_3 a0 [] 0) []) := by kernel_rfl
theorem c91_3 {N : Nat} : ∀ n x0 x3 x4 r, xB4 N n x0 x3 x4 = some r → Reach Try.prog Try.f91 I91 (stkAt 3 I91.body) (S91_3 x0 x3 x4) (xCr r) := by
 intro n
 induction n with
 | zero => intro x0 x3 x4 r h; have h' : (none : Option ((List Rea))) = some r := h; cases h'
 | succ n ih =>
  intro x0 x3 x4 r h
  rw [xB4] at h
  rcases cond_inv h with ⟨h0, h⟩ | ⟨h0, h⟩
  ·obtain ⟨h1, h⟩ := ite_inv h
   obtain ⟨r1, h2, h⟩ := bind_inv h
   obtain ⟨h3, h⟩ := ite_inv h
   exact Reach.stop ttok mix fk91 (p91_3_0 x0 x3 x4 r1) (obs_cons h0 (obs_cons h1 (obs_cons (xED h2) (obs_cons h3 obs_nil)))) (ih _ _ _ _ h)
  ·obtain rfl := Option.some.inj h
   exact Reach.done ttok mix fk91 (p91_3_1 x0 x3 x4) (obs_cons h0 obs_nil)
theorem c91_e {N : Nat} : ∀ a0 r, xDC N a0 = some r → Reach Try.prog Try.f91 I91 [.code I91.body] (zBg 0 (xDq a0)) (xCr r) := by
 intro a0 r h
 unfold xDC at h
 exact Reach.stop ttok mix fk91 (p91_e_2 a0) obs_nil (c91_3   _ _ _ _ _ h)
theorem spec_l16Reads_ok {N : Nat} {a0 : List Rea} {r : (List Rea)} (h : xDC N  a0 = some r) : AbC 91 (xDq a0) (xCr r) :=
 AbsCalls.of_reach fk91 rfl rfl (Nat.le_of_ble_eq_true rfl) (c91_e a0 r h)
noncomputable def I89 : Info := { body := (Try.f89.body).getD .skip, nt := 31, results := [.tmp 4], keep := [0, 2, 4, 6, 8, 5, 7], live := [], modes := [(1, [(5, .take, false), (12, .take, false), (19, .take, false)])], ext := [], lnt := [], casts := [], fcast := [] }
theorem fk89 : FnOk Try.prog 89 Try.f89 I89 := ⟨Try.func89, by kernel_rfl, by kernel_rfl, by kernel_rfl, by kernel_rfl⟩
theorem p89_e_0 (a0 a1 : Rea) : run tt (AbsCalls Try.prog) I89 3000 false [.code I89.body] ⟨(zBg 0 (xBT a0 a1)), [true, true, true], [], []⟩ = some (.done (xBj (((Rea.time a0) : Int) == (Rea.time a1))) [(((Rea.kind a0) : Int) == (Rea.kind a1)) = true, (((Rea.n a0) : Int) == (Rea.n a1)) = true, (((Rea.text a0) : Str) == (Rea.text a1)) = true]) := by kernel_rfl
theorem p89_e_1 (a0 a1 : Rea) : run tt (AbsCalls Try.prog) I89 3000 false [.code I89.body] ⟨(zBg 0 (xBT a0 a1)), [true, true, false], [], []⟩ = some (.done (xBj false) [(((Rea.kind a0) : Int) == (Rea.kind a1)) = true, (((Rea.n a0) : Int) == (Rea.n a1)) = true, (((Rea.text a0) : Str) == (Rea.text a1)) = false]) := by kernel_rfl
theorem p89_e_2 (a0 a1 : Rea) : run tt (AbsCalls Try.prog) I89 3000 false [.code I89.body] ⟨(zBg 0 (xBT a0 a1)), [true, false, false], [], []⟩ = some (.done (xBj false) [(((Rea.kind a0) : Int) == (Rea.kind a1)) = true, (((Rea.n a0) : Int) == (Rea.n a1)) = false, false = false]) := by kernel_rfl
theorem p89_e_3 (a0 a1 : Rea) : run tt (AbsCalls Try.prog) I89 3000 false [.code I89.body] ⟨(zBg 0 (xBT a0 a1)), [false, false, false], [], []⟩ = some (.done (xBj false) [(((Rea.kind a0) : Int) == (Rea.kind a1)) = false, false = false, false = false]) := by kernel_rfl
theorem c89_e {N : Nat} : ∀ a0 a1 r, xDt N a0 a1 = some r → Reach Try.prog Try.f89 I89 [.code I89.body] (zBg 0 (xBT a0 a1)) (xBj r) := by
 intro a0 a1 r h
 unfold xDt at h
 rcases cond_inv h with ⟨h0, h⟩ | ⟨h0, h⟩
 ·rcases cond_inv h with ⟨h1, h⟩ | ⟨h1, h⟩
  ·rcases cond_inv h with ⟨h2, h⟩ | ⟨h2, h⟩
   ·obtain rfl := Option.some.inj h
    exact Reach.done ttok mix fk89 (p89_e_0 a0 a1) (obs_cons h0 (obs_cons h1 (obs_cons h2 obs_nil)))
   ·obtain rfl := Option.some.inj h
    exact Reach.done ttok mix fk89 (p89_e_1 a0 a1) (obs_cons h0 (obs_cons h1 (obs_cons h2 obs_nil)))
  ·obtain rfl := Option.some.inj h
   exact Reach.done ttok mix fk89 (p89_e_2 a0 a1) (obs_cons h0 (obs_cons h1 (obs_cons rfl obs_nil)))
 ·obtain rfl := Option.some.inj h
  exact Reach.done ttok mix fk89 (p89_e_3 a0 a1) (obs_cons h0 (obs_cons rfl (obs_cons rfl obs_nil)))
theorem xEE {N : Nat} {a0 : Rea} {a1 : Rea} {r : Bool} (h : xDt N  a0 a1 = some r) : AbC 89 (xBT a0 a1) (xBj r) :=
 AbsCalls.of_reach fk89 rfl rfl (Nat.le_of_ble_eq_true rfl) (c89_e a0 a1 r h)
noncomputable def I31 : Info := { body := (Try.f31.body).getD .skip, nt := 26, results := [.cell 4 28, .tmp 5], keep := [0, 2, 6, 8, 10, 12, 20, 36, 7, 9], live := [(2, [0, 6, 8, 12, 7, 9])], modes := [], ext := [], lnt := [], casts := [], fcast := [] }
theorem fk31 : FnOk Try.prog 31 Try.f31 I31 := ⟨Try.func31, by kernel_rfl, by kernel_rfl, by kernel_rfl, by kernel_rfl⟩
def S31_2 (x0 : List Rea) (x6 : Int) (b3 : Rea) (b4 : Val) : St := [(0, .v false [.sl .ro .rea x0]), (6, .v false [.ptr 3 0]), (8, .v false [.ptr 4 0]), (12, .v false [.int .i64 x6]), (7, .v true [.int .i64 (Rea.kind b3), .int .i64 (Rea.n b3), .int .i64 (Rea.time b3), .str (Rea.text b3), .int .i64 (Val.kind (Rea.result b3)), .int .i64 (Val.n (Rea.result b3)), .int .i64 (Val.step (Rea.result b3)), .str (Val.text (Rea.result b3)), .sl .ro .val (Val.list (Rea.result b3)), .sl .ro .str (Val.columns (Rea.result b3)), .sl .ro .row (Val.rows (Rea.result b3))]), (9, .v true [.int .i64 (Val.kind b4), .int .i64 (Val.n b4), .int .i64 (Val.step b4), .str (Val.text b4), .sl .own .val (Val.list b4), .sl .own .str (Val.columns b4), .sl .own .row (Val.rows b4)])]
theorem p31_2_0 (x0 : List Rea) (x6 : Int) (b3 : Rea) (b4 : Val) (r1 : Bool) (r2 : Val) : run tt (AbsCalls Try.prog) I31 3000 true (stkAt 2 I31.body) ⟨(S31_2 x0 x6 b3 b4), [true, true], [xBj r1, xAN r2], []⟩ = some (.done (xBm (r2, true)) [(decide ((x6 : Int) < (List.length x0 : Int))) = true, (0 : Int) ≤ x6 ∧ x6 < (List.length x0), AbC 89 (xBT (List.getD x0 (Int.toNat x6) Ty.rea.dflt) b3) (xBj r1), r1 = true, (0 : Int) ≤ x6 ∧ x6 < (List.length x0), AbC 71 (xBc (Rea.result (List.getD x0 (Int.toNat x6) Ty.rea.dflt))) (xAN r2)]) := by kernel_rfl
theorem p31_2_1 (x0 : List Rea) (x6 : Int) (b3 : Rea) (b4 : Val) (r1 : Bool) : run tt (AbsCalls Try.prog) I31 3000 true (stkAt 2 I31.body) ⟨(S31_2 x0 x6 b3 b4), [true, false], [xBj r1], []⟩ = some (.stop (stkAt 2 I31.body) (S31_2 x0 (IntKind.i64.wrap (x6 + 1)) b3 b4) [(decide ((x6 : Int) < (List.length x0 : Int))) = true, (0 : Int) ≤ x6 ∧ x6 < (List.length x0), AbC 89 (xBT (List.getD x0 (Int.toNat x6) Ty.rea.dflt) b3) (xBj r1), r1 = false]) := by kernel_rfl
theorem p31_2_2 (x0 : List Rea) (x6 : Int) (b3 : Rea) (b4 : Val) : run tt (AbsCalls Try.prog) I31 3000 true (stkAt 2 I31.body) ⟨(S31_2 x0 x6 b3 b4), [false], [], []⟩ = some (.done (xBm ((Val.mk 0 0 0 [] [] [] []), false)) [(decide ((x6 : Int) < (List.length x0 : Int))) = false]) := by kernel_rfl
theorem p31_e_3 (a0 : List Rea) (a1 : Rea) : run tt (AbsCalls Try.prog) I31 3000 false [.code I31.body] ⟨(zBg 0 (xCT a0 a1)), [], [], []⟩ = some (.stop (stkAt 2 I31.body) (S31_2 a0 0 a1 (Val.mk 0 0 0 [] [] [] [])) []) := by kernel_rfl
theorem c31_2 {N : Nat} : ∀ n x0 x6 b3 b4 r, xBH N n x0 x6 b3 b4 = some r → Reach Try.prog Try.f31 I31 (stkAt 2 I31.body) (S31_2 x0 x6 b3 b4) (xBm r) := by
 intro n
 induction n with
 | zero => intro x0 x6 b3 b4 r h; have h' : (none : Option (Val × Bool)) = some r := h; cases h'
 | succ n ih =>
  intro x0 x6 b3 b4 r h
  rw [xBH] at h
  rcases cond_inv h with ⟨h0, h⟩ | ⟨h0, h⟩
  ·obtain ⟨h1, h⟩ := ite_inv h
   obtain ⟨r1, h2, h⟩ := bind_inv h
   rcases cond_inv h with ⟨h3, h⟩ | ⟨h3, h⟩
   ·obtain ⟨r2, h5, h⟩ := bind_inv h
    obtain rfl := Option.some.inj h
    exact Reach.done ttok mix fk31 (p31_2_0 x0 x6 b3 b4 r1 r2) (obs_cons h0 (obs_cons h1 (obs_cons (xEE h2) (obs_cons h3 (obs_cons h1 (obs_cons (xEP h5) obs_nil))))))
   ·exact Reach.stop ttok mix fk31 (p31_2_1 x0 x6 b3 b4 r1) (obs_cons h0 (obs_cons h1 (obs_cons (xEE h2) (obs_cons h3 obs_nil)))) (ih _ _ _ _ _ h)
  ·obtain rfl := Option.some.inj h
   exact Reach.done ttok mix fk31 (p31_2_2 x0 x6 b3 b4) (obs_cons h0 obs_nil)
theorem c31_e {N : Nat} : ∀ a0 a1 r, xDB N a0 a1 = some r → Reach Try.prog Try.f31 I31 [.code I31.body] (zBg 0 (xCT a0 a1)) (xBm r) := by
 intro a0 a1 r h
 unfold xDB at h
 exact Reach.stop ttok mix fk31 (p31_e_3 a0 a1) obs_nil (c31_2   _ _ _ _ _ _ h)
theorem xEp {N : Nat} {a0 : List Rea} {a1 : Rea} {r : Val × Bool} (h : xDB N  a0 a1 = some r) : AbC 31 (xCT a0 a1) (xBm r) :=
 AbsCalls.of_reach fk31 rfl rfl (Nat.le_of_ble_eq_true rfl) (c31_e a0 a1 r h)
noncomputable def I39 : Info := { body := (Try.f39.body).getD .skip, nt := 37, results := [.tmp 4], keep := [0, 2, 8, 10, 12, 16, 28, 54, 15], live := [(3, [2, 10, 12])], modes := [(5, [(6, .take, false)]), (6, [(0, .take, false)]), (7, [(0, .take, false), (7, .take, false)]), (8, [(0, .take, false)])], ext := [], lnt := [], casts := [], fcast := [] }
theorem fk39 : FnOk Try.prog 39 Try.f39 I39 := ⟨Try.func39, by kernel_rfl, by kernel_rfl, by kernel_rfl, by kernel_rfl⟩
def S39_3 (x1 x5 : List Rea) (x6 : Int) : St := [(2, .v false [.sl .ro .rea x1]), (10, .v false [.sl .own .rea x5]), (12, .v false [.int .i64 x6])]
theorem p39_3_0 (x1 x5 : List Rea) (x6 : Int) (r1 : Val × Bool) (r2 : Rea) : run tt (AbsCalls Try.prog) I39 3000 true (stkAt 3 I39.body) ⟨(S39_3 x1 x5 x6), [true, true], [xBm r1, xCl r2], []⟩ = some (.stop (stkAt 3 I39.body) (S39_3 x1 (x5 ++ [(Rea.mk (Rea.kind r2) (Rea.n r2) (Rea.time r2) (Rea.text r2) (Val.re (Rea.result r2)))]) (IntKind.i64.wrap (x6 + 1))) [(decide ((x6 : Int) < (List.length x1 : Int))) = true, (0 : Int) ≤ x6 ∧ x6 < (List.length x1), AbC 31 (xCT x5 (List.getD x1 (Int.toNat x6) Ty.rea.dflt)) (xBm r1), (!r1.2) = true, (0 : Int) ≤ x6 ∧ x6 < (List.length x1), AbC 92 (xC9 (List.getD x1 (Int.toNat x6) Ty.rea.dflt)) (xCl r2), List.length x5 + List.length [(Rea.mk (Rea.kind r2) (Rea.n r2) (Rea.time r2) (Rea.text r2) (Val.re (Rea.result r2)))] ≤ Lim]) := by kernel_rfl
theorem p39_3_1 (x1 x5 : List Rea) (x6 : Int) (r1 : Val × Bool) : run tt (AbsCalls Try.prog) I39 3000 true (stkAt 3 I39.body) ⟨(S39_3 x1 x5 x6), [true, false], [xBm r1], []⟩ = some (.stop (stkAt 3 I39.body) (S39_3 x1 x5 (IntKind.i64.wrap (x6 + 1))) [(decide ((x6 : Int) < (List.length x1 : Int))) = true, (0 : Int) ≤ x6 ∧ x6 < (List.length x1), AbC 31 (xCT x5 (List.getD x1 (Int.toNat x6) Ty.rea.dflt)) (xBm r1), (!r1.2) = false]) := by kernel_rfl
theorem p39_3_2 (x1 x5 : List Rea) (x6 : Int) : run tt (AbsCalls Try.prog) I39 3000 true (stkAt 3 I39.body) ⟨(S39_3 x1 x5 x6), [false], [], []⟩ = some (.done (xAm x5) [(decide ((x6 : Int) < (List.length x1 : Int))) = false]) := by kernel_rfl
theorem p39_e_3 (a0 a1 : List Rea) (r1 : (List Rea)) : run tt (AbsCalls Try.prog) I39 3000 false [.code I39.body] ⟨(zBg 0 (xAI a0 a1)), [], [xCr r1], []⟩ = some (.stop (stkAt 3 I39.body) (S39_3 a1 r1 0) [AbC 91 (xDq a0) (xCr r1)]) := by kernel_rfl
theorem c39_3 {N : Nat} : ∀ n x1 x5 x6 r, xBi N n x1 x5 x6 = some r → Reach Try.prog Try.f39 I39 (stkAt 3 I39.body) (S39_3 x1 x5 x6) (xAm r) := by
 intro n
 induction n with
 | zero => intro x1 x5 x6 r h; have h' : (none : Option ((List Rea))) = some r := h; cases h'
 | succ n ih =>
  intro x1 x5 x6 r h
  rw [xBi] at h
  rcases cond_inv h with ⟨h0, h⟩ | ⟨h0, h⟩
  ·obtain ⟨h1, h⟩ := ite_inv h
   obtain ⟨r1, h2, h⟩ := bind_inv h
   rcases cond_inv h with ⟨h3, h⟩ | ⟨h3, h⟩
   ·obtain ⟨r2, h5, h⟩ := bind_inv h
    obtain ⟨h6, h⟩ := ite_inv h
    exact Reach.stop ttok mix fk39 (p39_3_0 x1 x5 x6 r1 r2) (obs_cons h0 (obs_cons h1 (obs_cons (xEp h2) (obs_cons h3 (obs_cons h1 (obs_cons (xED h5) (obs_cons h6 obs_nil))))))) (ih _ _ _ _ h)
   ·exact Reach.stop ttok mix fk39 (p39_3_1 x1 x5 x6 r1) (obs_cons h0 (obs_cons h1 (obs_cons (xEp h2) (obs_cons h3 obs_nil)))) (ih _ _ _ _ h)
  ·obtain rfl := Option.some.inj h
   exact Reach.done ttok mix fk39 (p39_3_2 x1 x5 x6) (obs_cons h0 obs_nil)
theorem c39_e {N : Nat} : ∀ a0 a1 r, xCI N a0 a1 = some r → Reach Try.prog Try.f39 I39 [.code I39.body] (zBg 0 (xAI a0 a1)) (xAm r) := by
 intro a0 a1 r h
 unfold xCI at h
 obtain ⟨r1, h0, h⟩ := bind_inv h
 exact Reach.stop ttok mix fk39 (p39_e_3 a0 a1 r1) (obs_cons (spec_l16Reads_ok h0) obs_nil) (c39_3   _ _ _ _ _ h)
theorem xAX {N : Nat} {a0 : List Rea} {a1 : List Rea} {r : (List Rea)} (h : xCI N  a0 a1 = some r) : AbC 39 (xAI a0 a1) (xAm r) :=
 AbsCalls.of_reach fk39 rfl rfl (Nat.le_of_ble_eq_true rfl) (c39_e a0 a1 r h)
noncomputable def I93 : Info := { body := (Try.f93.body).getD .skip, nt := 23, results := [.tmp 2], keep := [0, 4, 6, 10, 14, 16, 18, 20, 11], live := [(3, [6, 14, 16, 18])], modes := [(6, [(0, .take, false), (1, .take, false), (3, .take, false)]), (7, [(1, .take, false)]), (8, [(0, .take, false)])], ext := [], lnt := [], casts := [], fcast := [] }
theorem fk93 : FnOk Try.prog 93 Try.f93 I93 := ⟨Try.func93, by kernel_rfl, by kernel_rfl, by kernel_rfl, by kernel_rfl⟩
def S93_3 (x3 x7 : List Rea) (x8 x9 : Int) : St := [(6, .v false [.sl .own .rea x3]), (14, .v false [.sl .ro .rea x7]), (16, .v false [.int .i64 x8]), (18, .v false [.int .i64 x9])]
theorem p93_3_0 (x3 x7 : List Rea) (x8 x9 : Int) (r1 : Val) : run tt (AbsCalls Try.prog) I93 3000 true (stkAt 3 I93.body) ⟨(S93_3 x3 x7 x8 x9), [true], [xAC r1], []⟩ = some (.stop (stkAt 3 I93.body) (S93_3 (x3 ++ [(Rea.mk (Rea.kind (List.getD x7 (Int.toNat x9) Ty.rea.dflt)) (Rea.n (List.getD x7 (Int.toNat x9) Ty.rea.dflt)) (Rea.time (List.getD x7 (Int.toNat x9) Ty.rea.dflt)) (Rea.text (List.getD x7 (Int.toNat x9) Ty.rea.dflt)) (Val.re r1))]) x7 x8 (IntKind.i64.wrap (x9 + 1))) [(decide ((x9 : Int) < x8)) = true, (0 : Int) ≤ x9 ∧ x9 < (List.length x7), AbC 74 (xAK (Rea.result (List.getD x7 (Int.toNat x9) Ty.rea.dflt))) (xAC r1), List.length x3 + List.length [(Rea.mk (Rea.kind (List.getD x7 (Int.toNat x9) Ty.rea.dflt)) (Rea.n (List.getD x7 (Int.toNat x9) Ty.rea.dflt)) (Rea.time (List.getD x7 (Int.toNat x9) Ty.rea.dflt)) (Rea.text (List.getD x7 (Int.toNat x9) Ty.rea.dflt)) (Val.re r1))] ≤ Lim]) := by kernel_rfl
theorem p93_3_1 (x3 x7 : List Rea) (x8 x9 : Int) : run tt (AbsCalls Try.prog) I93 3000 true (stkAt 3 I93.body) ⟨(S93_3 x3 x7 x8 x9), [false], [], []⟩ = some (.done (xBr x3) [(decide ((x9 : Int) < x8)) = false]) := by kernel_rfl
theorem p93_e_2 (a0 : List Rea) : run tt (AbsCalls Try.prog) I93 3000 false [.code I93.body] ⟨(zBg 0 (xCE a0)), [], [], []⟩ = some (.stop (stkAt 3 I93.body) (S93_3 [] a0 (List.length a0 : Int) 0) []) := by kernel_rfl
theorem c93_3 {N : Nat} : ∀ n x3 x7 x8 x9 r, xBI N n x3 x7 x8 x9 = some r → Reach Try.prog Try.f93 I93 (stkAt 3 I93.body) (S93_3 x3 x7 x8 x9) (xBr r) := by
 intro n
 induction n with
 | zero => intro x3 x7 x8 x9 r h; have h' : (none : Option ((List Rea))) = some r := h; cases h'
 | succ n ih =>
  intro x3 x7 x8 x9 r h
  rw [xBI] at h
  rcases cond_inv h with ⟨h0, h⟩ | ⟨h0, h⟩
  ·obtain ⟨h1, h⟩ := ite_inv h
   obtain ⟨r1, h2, h⟩ := bind_inv h
   obtain ⟨h3, h⟩ := ite_inv h
   exact Reach.stop ttok mix fk93 (p93_3_0 x3 x7 x8 x9 r1) (obs_cons h0 (obs_cons h1 (obs_cons (xEc h2) (obs_cons h3 obs_nil)))) (ih _ _ _ _ _ h)
  ·obtain rfl := Option.some.inj h
   exact Reach.done ttok mix fk93 (p93_3_1 x3 x7 x8 x9) (obs_cons h0 obs_nil)
theorem c93_e {N : Nat} : ∀ a0 r, xCt N a0 = some r → Reach Try.prog Try.f93 I93 [.code I93.body] (zBg 0 (xCE a0)) (xBr r) := by
 intro a0 r h
 unfold xCt at h
 exact Reach.stop ttok mix fk93 (p93_e_2 a0) obs_nil (c93_3   _ _ _ _ _ _ h)
theorem xEb {N : Nat} {a0 : List Rea} {r : (List Rea)} (h : xCt N  a0 = some r) : AbC 93 (xCE a0) (xBr r) :=
 AbsCalls.of_reach fk93 rfl rfl (Nat.le_of_ble_eq_true rfl) (c93_e a0 r h)
noncomputable def I90 : Info := { body := (Try.f90.body).getD .skip, nt := 31, results := [.tmp 4], keep := [0, 2, 4, 6, 8, 5, 7], live := [], modes := [(1, [(5, .take, false), (12, .take, false), (19, .take, false)])], ext := [], lnt := [], casts := [], fcast := [] }
theorem fk90 : FnOk Try.prog 90 Try.f90 I90 := ⟨Try.func90, by kernel_rfl, by kernel_rfl, by kernel_rfl, by kernel_rfl⟩
theorem p90_e_0 (a0 a1 : Rea) : run tt (AbsCalls Try.prog) I90 3000 false [.code I90.body] ⟨(zBg 0 (xBF a0 a1)), [true, true, true], [], []⟩ = some (.done (xA8 (((Rea.time a0) : Int) == (Rea.time a1))) [(((Rea.kind a0) : Int) == (Rea.kind a1)) = true, (((Rea.n a0) : Int) == (Rea.n a1)) = true, (((Rea.text a0) : Str) == (Rea.text a1)) = true]) := by kernel_rfl
theorem p90_e_1 (a0 a1 : Rea) : run tt (AbsCalls Try.prog) I90 3000 false [.code I90.body] ⟨(zBg 0 (xBF a0 a1)), [true, true, false], [], []⟩ = some (.done (xA8 false) [(((Rea.kind a0) : Int) == (Rea.kind a1)) = true, (((Rea.n a0) : Int) == (Rea.n a1)) = true, (((Rea.text a0) : Str) == (Rea.text a1)) = false]) := by kernel_rfl
theorem p90_e_2 (a0 a1 : Rea) : run tt (AbsCalls Try.prog) I90 3000 false [.code I90.body] ⟨(zBg 0 (xBF a0 a1)), [true, false, false], [], []⟩ = some (.done (xA8 false) [(((Rea.kind a0) : Int) == (Rea.kind a1)) = true, (((Rea.n a0) : Int) == (Rea.n a1)) = false, false = false]) := by kernel_rfl
theorem p90_e_3 (a0 a1 : Rea) : run tt (AbsCalls Try.prog) I90 3000 false [.code I90.body] ⟨(zBg 0 (xBF a0 a1)), [false, false, false], [], []⟩ = some (.done (xA8 false) [(((Rea.kind a0) : Int) == (Rea.kind a1)) = false, false = false, false = false]) := by kernel_rfl
theorem c90_e {N : Nat} : ∀ a0 a1 r, xDa N a0 a1 = some r → Reach Try.prog Try.f90 I90 [.code I90.body] (zBg 0 (xBF a0 a1)) (xA8 r) := by
 intro a0 a1 r h
 unfold xDa at h
 rcases cond_inv h with ⟨h0, h⟩ | ⟨h0, h⟩
 ·rcases cond_inv h with ⟨h1, h⟩ | ⟨h1, h⟩
  ·rcases cond_inv h with ⟨h2, h⟩ | ⟨h2, h⟩
   ·obtain rfl := Option.some.inj h
    exact Reach.done ttok mix fk90 (p90_e_0 a0 a1) (obs_cons h0 (obs_cons h1 (obs_cons h2 obs_nil)))
   ·obtain rfl := Option.some.inj h
    exact Reach.done ttok mix fk90 (p90_e_1 a0 a1) (obs_cons h0 (obs_cons h1 (obs_cons h2 obs_nil)))
  ·obtain rfl := Option.some.inj h
   exact Reach.done ttok mix fk90 (p90_e_2 a0 a1) (obs_cons h0 (obs_cons h1 (obs_cons rfl obs_nil)))
 ·obtain rfl := Option.some.inj h
  exact Reach.done ttok mix fk90 (p90_e_3 a0 a1) (obs_cons h0 (obs_cons rfl (obs_cons rfl obs_nil)))
theorem xEl {N : Nat} {a0 : Rea} {a1 : Rea} {r : Bool} (h : xDa N  a0 a1 = some r) : AbC 90 (xBF a0 a1) (xA8 r) :=
 AbsCalls.of_reach fk90 rfl rfl (Nat.le_of_ble_eq_true rfl) (c90_e a0 a1 r h)
noncomputable def I34 : Info := { body := (Try.f34.body).getD .skip, nt := 22, results := [.cell 4 28, .tmp 5], keep := [0, 2, 6, 8, 10, 14, 16, 18, 20, 22, 32, 7, 9, 15], live := [(2, [6, 8, 16, 18, 20, 7, 9])], modes := [(6, [(1, .take, false)])], ext := [], lnt := [], casts := [], fcast := [] }
theorem fk34 : FnOk Try.prog 34 Try.f34 I34 := ⟨Try.func34, by kernel_rfl, by kernel_rfl, by kernel_rfl, by kernel_rfl⟩
def S34_2 (x8 : List Rea) (x9 x10 : Int) (b3 : Rea) (b4 : Val) : St := [(6, .v false [.ptr 3 0]), (8, .v false [.ptr 4 0]), (16, .v false [.sl .ro .rea x8]), (18, .v false [.int .i64 x9]), (20, .v false [.int .i64 x10]), (7, .v true [.int .i64 (Rea.kind b3), .int .i64 (Rea.n b3), .int .i64 (Rea.time b3), .str (Rea.text b3), .int .i64 (Val.kind (Rea.result b3)), .int .i64 (Val.n (Rea.result b3)), .int .i64 (Val.step (Rea.result b3)), .str (Val.text (Rea.result b3)), .sl .ro .val (Val.list (Rea.result b3)), .sl .ro .str (Val.columns (Rea.result b3)), .sl .ro .row (Val.rows (Rea.result b3))]), (9, .v true [.int .i64 (Val.kind b4), .int .i64 (Val.n b4), .int .i64 (Val.step b4), .str (Val.text b4), .sl .own .val (Val.list b4), .sl .own .str (Val.columns b4), .sl .own .row (Val.rows b4)])]
theorem p34_2_0 (x8 : List Rea) (x9 x10 : Int) (b3 : Rea) (b4 : Val) (r1 : Bool) (r2 : Val) : run tt (AbsCalls Try.prog) I34 3000 true (stkAt 2 I34.body) ⟨(S34_2 x8 x9 x10 b3 b4), [true, true], [xA8 r1, xAC r2], []⟩ = some (.done (xBk (r2, true)) [(decide ((x10 : Int) < x9)) = true, (0 : Int) ≤ x10 ∧ x10 < (List.length x8), AbC 90 (xBF (List.getD x8 (Int.toNat x10) Ty.rea.dflt) b3) (xA8 r1), r1 = true, AbC 74 (xAK (Rea.result (List.getD x8 (Int.toNat x10) Ty.rea.dflt))) (xAC r2)]) := by kernel_rfl
theorem p34_2_1 (x8 : List Rea) (x9 x10 : Int) (b3 : Rea) (b4 : Val) (r1 : Bool) : run tt (AbsCalls Try.prog) I34 3000 true (stkAt 2 I34.body) ⟨(S34_2 x8 x9 x10 b3 b4), [true, false], [xA8 r1], []⟩ = some (.stop (stkAt 2 I34.body) (S34_2 x8 x9 (IntKind.i64.wrap (x10 + 1)) b3 b4) [(decide ((x10 : Int) < x9)) = true, (0 : Int) ≤ x10 ∧ x10 < (List.length x8), AbC 90 (xBF (List.getD x8 (Int.toNat x10) Ty.rea.dflt) b3) (xA8 r1), r1 = false]) := by kernel_rfl
theorem p34_2_2 (x8 : List Rea) (x9 x10 : Int) (b3 : Rea) (b4 : Val) : run tt (AbsCalls Try.prog) I34 3000 true (stkAt 2 I34.body) ⟨(S34_2 x8 x9 x10 b3 b4), [false], [], []⟩ = some (.done (xBk ((Val.mk 0 0 0 [] [] [] []), false)) [(decide ((x10 : Int) < x9)) = false]) := by kernel_rfl
theorem p34_e_3 (a0 : List Rea) (a1 : Rea) : run tt (AbsCalls Try.prog) I34 3000 false [.code I34.body] ⟨(zBg 0 (xCM a0 a1)), [], [], []⟩ = some (.stop (stkAt 2 I34.body) (S34_2 a0 (List.length a0 : Int) 0 a1 (Val.mk 0 0 0 [] [] [] [])) []) := by kernel_rfl
theorem c34_2 {N : Nat} : ∀ n x8 x9 x10 b3 b4 r, xBE N n x8 x9 x10 b3 b4 = some r → Reach Try.prog Try.f34 I34 (stkAt 2 I34.body) (S34_2 x8 x9 x10 b3 b4) (xBk r) := by
 intro n
 induction n with
 | zero => intro x8 x9 x10 b3 b4 r h; have h' : (none : Option (Val × Bool)) = some r := h; cases h'
 | succ n ih =>
  intro x8 x9 x10 b3 b4 r h
  rw [xBE] at h
  rcases cond_inv h with ⟨h0, h⟩ | ⟨h0, h⟩
  ·obtain ⟨h1, h⟩ := ite_inv h
   obtain ⟨r1, h2, h⟩ := bind_inv h
   rcases cond_inv h with ⟨h3, h⟩ | ⟨h3, h⟩
   ·obtain ⟨r2, h4, h⟩ := bind_inv h
    obtain rfl := Option.some.inj h
    exact Reach.done ttok mix fk34 (p34_2_0 x8 x9 x10 b3 b4 r1 r2) (obs_cons h0 (obs_cons h1 (obs_cons (xEl h2) (obs_cons h3 (obs_cons (xEc h4) obs_nil)))))
   ·exact Reach.stop ttok mix fk34 (p34_2_1 x8 x9 x10 b3 b4 r1) (obs_cons h0 (obs_cons h1 (obs_cons (xEl h2) (obs_cons h3 obs_nil)))) (ih _ _ _ _ _ _ h)
  ·obtain rfl := Option.some.inj h
   exact Reach.done ttok mix fk34 (p34_2_2 x8 x9 x10 b3 b4) (obs_cons h0 obs_nil)
theorem c34_e {N : Nat} : ∀ a0 a1 r, xDv N a0 a1 = some r → Reach Try.prog Try.f34 I34 [.code I34.body] (zBg 0 (xCM a0 a1)) (xBk r) := by
 intro a0 a1 r h
 unfold xDv at h
 exact Reach.stop ttok mix fk34 (p34_e_3 a0 a1) obs_nil (c34_2   _ _ _ _ _ _ _ h)
theorem xEk {N : Nat} {a0 : List Rea} {a1 : Rea} {r : Val × Bool} (h : xDv N  a0 a1 = some r) : AbC 34 (xCM a0 a1) (xBk r) :=
 AbsCalls.of_reach fk34 rfl rfl (Nat.le_of_ble_eq_true rfl) (c34_e a0 a1 r h)
noncomputable def I40 : Info := { body := (Try.f40.body).getD .skip, nt := 33, results := [.tmp 4], keep := [0, 2, 8, 10, 14, 18, 24, 26, 28, 30, 50, 15, 17], live := [(3, [10, 24, 26, 28])], modes := [(5, [(3, .take, false)]), (6, [(0, .take, false)]), (7, [(0, .take, false), (4, .take, false)]), (8, [(1, .take, false)]), (9, [(0, .take, false)])], ext := [], lnt := [], casts := [], fcast := [] }
theorem fk40 : FnOk Try.prog 40 Try.f40 I40 := ⟨Try.func40, by kernel_rfl, by kernel_rfl, by kernel_rfl, by kernel_rfl⟩
def S40_3 (x5 x12 : List Rea) (x13 x14 : Int) : St := [(10, .v false [.sl .own .rea x5]), (24, .v false [.sl .ro .rea x12]), (26, .v false [.int .i64 x13]), (28, .v false [.int .i64 x14])]
theorem p40_3_0 (x5 x12 : List Rea) (x13 x14 : Int) (r1 : Val × Bool) (r2 : (List Rea)) : run tt (AbsCalls Try.prog) I40 3000 true (stkAt 3 I40.body) ⟨(S40_3 x5 x12 x13 x14), [true, true], [xBk r1, xBr r2], []⟩ = some (.stop (stkAt 3 I40.body) (S40_3 (x5 ++ r2) x12 x13 (IntKind.i64.wrap (x14 + 1))) [(decide ((x14 : Int) < x13)) = true, (0 : Int) ≤ x14 ∧ x14 < (List.length x12), AbC 34 (xCM x5 (List.getD x12 (Int.toNat x14) Ty.rea.dflt)) (xBk r1), (!r1.2) = true, AbC 93 (xCE [(Rea.mk (Rea.kind (List.getD x12 (Int.toNat x14) Ty.rea.dflt)) (Rea.n (List.getD x12 (Int.toNat x14) Ty.rea.dflt)) (Rea.time (List.getD x12 (Int.toNat x14) Ty.rea.dflt)) (Rea.text (List.getD x12 (Int.toNat x14) Ty.rea.dflt)) (Val.re (Rea.result (List.getD x12 (Int.toNat x14) Ty.rea.dflt))))]) (xBr r2), List.length x5 + List.length r2 ≤ Lim]) := by kernel_rfl
theorem p40_3_1 (x5 x12 : List Rea) (x13 x14 : Int) (r1 : Val × Bool) : run tt (AbsCalls Try.prog) I40 3000 true (stkAt 3 I40.body) ⟨(S40_3 x5 x12 x13 x14), [true, false], [xBk r1], []⟩ = some (.stop (stkAt 3 I40.body) (S40_3 x5 x12 x13 (IntKind.i64.wrap (x14 + 1))) [(decide ((x14 : Int) < x13)) = true, (0 : Int) ≤ x14 ∧ x14 < (List.length x12), AbC 34 (xCM x5 (List.getD x12 (Int.toNat x14) Ty.rea.dflt)) (xBk r1), (!r1.2) = false]) := by kernel_rfl
theorem p40_3_2 (x5 x12 : List Rea) (x13 x14 : Int) : run tt (AbsCalls Try.prog) I40 3000 true (stkAt 3 I40.body) ⟨(S40_3 x5 x12 x13 x14), [false], [], []⟩ = some (.done (xAi x5) [(decide ((x14 : Int) < x13)) = false]) := by kernel_rfl
theorem p40_e_3 (a0 a1 : List Rea) (r1 : (List Rea)) : run tt (AbsCalls Try.prog) I40 3000 false [.code I40.body] ⟨(zBg 0 (xAx a0 a1)), [], [xBr r1], []⟩ = some (.stop (stkAt 3 I40.body) (S40_3 r1 a1 (List.length a1 : Int) 0) [AbC 93 (xCE a0) (xBr r1)]) := by kernel_rfl
theorem c40_3 {N : Nat} : ∀ n x5 x12 x13 x14 r, xBh N n x5 x12 x13 x14 = some r → Reach Try.prog Try.f40 I40 (stkAt 3 I40.body) (S40_3 x5 x12 x13 x14) (xAi r) := by
 intro n
 induction n with
 | zero => intro x5 x12 x13 x14 r h; have h' : (none : Option ((List Rea))) = some r := h; cases h'
 | succ n ih =>
  intro x5 x12 x13 x14 r h
  rw [xBh] at h
  rcases cond_inv h with ⟨h0, h⟩ | ⟨h0, h⟩
  ·obtain ⟨h1, h⟩ := ite_inv h
   obtain ⟨r1, h2, h⟩ := bind_inv h
   rcases cond_inv h with ⟨h3, h⟩ | ⟨h3, h⟩
   ·obtain ⟨r2, h4, h⟩ := bind_inv h
    obtain ⟨h5, h⟩ := ite_inv h
    exact Reach.stop ttok mix fk40 (p40_3_0 x5 x12 x13 x14 r1 r2) (obs_cons h0 (obs_cons h1 (obs_cons (xEk h2) (obs_cons h3 (obs_cons (xEb h4) (obs_cons h5 obs_nil)))))) (ih _ _ _ _ _ h)
   ·exact Reach.stop ttok mix fk40 (p40_3_1 x5 x12 x13 x14 r1) (obs_cons h0 (obs_cons h1 (obs_cons (xEk h2) (obs_cons h3 obs_nil)))) (ih _ _ _ _ _ h)
  ·obtain rfl := Option.some.inj h
   exact Reach.done ttok mix fk40 (p40_3_2 x5 x12 x13 x14) (obs_cons h0 obs_nil)
theorem c40_e {N : Nat} : ∀ a0 a1 r, xCf N a0 a1 = some r → Reach Try.prog Try.f40 I40 [.code I40.body] (zBg 0 (xAx a0 a1)) (xAi r) := by
 intro a0 a1 r h
 unfold xCf at h
 obtain ⟨r1, h0, h⟩ := bind_inv h
 exact Reach.stop ttok mix fk40 (p40_e_3 a0 a1 r1) (obs_cons (xEb h0) obs_nil) (c40_3   _ _ _ _ _ _ h)
theorem xAF {N : Nat} {a0 : List Rea} {a1 : List Rea} {r : (List Rea)} (h : xCf N  a0 a1 = some r) : AbC 40 (xAx a0 a1) (xAi r) :=
 AbsCalls.of_reach fk40 rfl rfl (Nat.le_of_ble_eq_true rfl) (c40_e a0 a1 r h)
noncomputable def I36 : Info := { body := (Try.f36.body).getD .skip, nt := 31, results := [.tmp 4], keep := [0, 2, 4, 6, 8, 18, 28, 38, 48, 60, 5, 7], live := [], modes := [], ext := [], lnt := [], casts := [], fcast := [] }
theorem fk36 : FnOk Try.prog 36 Try.f36 I36 := ⟨Try.func36, by kernel_rfl, by kernel_rfl, by kernel_rfl, by kernel_rfl⟩
theorem p36_e_0 (a0 a1 : Rea) : run tt (AbsCalls Try.prog) I36 3000 false [.code I36.body] ⟨(zBg 0 (xBw a0 a1)), [true], [], []⟩ = some (.done (xBa false) [(((Rea.kind a0) : Int) != (Rea.kind a1)) = true]) := by kernel_rfl
theorem p36_e_1 (a0 a1 : Rea) : run tt (AbsCalls Try.prog) I36 3000 false [.code I36.body] ⟨(zBg 0 (xBw a0 a1)), [false, true], [], []⟩ = some (.done (xBa false) [(((Rea.kind a0) : Int) != (Rea.kind a1)) = false, (((Rea.n a0) : Int) != (Rea.n a1)) = true]) := by kernel_rfl
theorem p36_e_2 (a0 a1 : Rea) : run tt (AbsCalls Try.prog) I36 3000 false [.code I36.body] ⟨(zBg 0 (xBw a0 a1)), [false, false, true], [], []⟩ = some (.done (xBa false) [(((Rea.kind a0) : Int) != (Rea.kind a1)) = false, (((Rea.n a0) : Int) != (Rea.n a1)) = false, (((Rea.time a0) : Int) != (Rea.time a1)) = true]) := by kernel_rfl
theorem p36_e_3 (a0 a1 : Rea) : run tt (AbsCalls Try.prog) I36 3000 false [.code I36.body] ⟨(zBg 0 (xBw a0 a1)), [false, false, false, true], [], []⟩ = some (.done (xBa false) [(((Rea.kind a0) : Int) != (Rea.kind a1)) = false, (((Rea.n a0) : Int) != (Rea.n a1)) = false, (((Rea.time a0) : Int) != (Rea.time a1)) = false, (!(((Rea.text a0) : Str) == (Rea.text a1))) = true]) := by kernel_rfl
theorem p36_e_4 (a0 a1 : Rea) (r1 : Bool) : run tt (AbsCalls Try.prog) I36 3000 false [.code I36.body] ⟨(zBg 0 (xBw a0 a1)), [false, false, false, false, true], [xAu r1], []⟩ = some (.done (xBa false) [(((Rea.kind a0) : Int) != (Rea.kind a1)) = false, (((Rea.n a0) : Int) != (Rea.n a1)) = false, (((Rea.time a0) : Int) != (Rea.time a1)) = false, (!(((Rea.text a0) : Str) == (Rea.text a1))) = false, AbC 19 (xAD (Rea.result a0) (Rea.result a1)) (xAu r1), (!r1) = true]) := by kernel_rfl
theorem p36_e_5 (a0 a1 : Rea) (r1 : Bool) : run tt (AbsCalls Try.prog) I36 3000 false [.code I36.body] ⟨(zBg 0 (xBw a0 a1)), [false, false, false, false, false], [xAu r1], []⟩ = some (.done (xBa true) [(((Rea.kind a0) : Int) != (Rea.kind a1)) = false, (((Rea.n a0) : Int) != (Rea.n a1)) = false, (((Rea.time a0) : Int) != (Rea.time a1)) = false, (!(((Rea.text a0) : Str) == (Rea.text a1))) = false, AbC 19 (xAD (Rea.result a0) (Rea.result a1)) (xAu r1), (!r1) = false]) := by kernel_rfl
theorem c36_e {N : Nat} : ∀ a0 a1 r, xDG N a0 a1 = some r → Reach Try.prog Try.f36 I36 [.code I36.body] (zBg 0 (xBw a0 a1)) (xBa r) := by
 intro a0 a1 r h
 unfold xDG at h
 rcases cond_inv h with ⟨h0, h⟩ | ⟨h0, h⟩
 ·obtain rfl := Option.some.inj h
  exact Reach.done ttok mix fk36 (p36_e_0 a0 a1) (obs_cons h0 obs_nil)
 ·rcases cond_inv h with ⟨h1, h⟩ | ⟨h1, h⟩
  ·obtain rfl := Option.some.inj h
   exact Reach.done ttok mix fk36 (p36_e_1 a0 a1) (obs_cons h0 (obs_cons h1 obs_nil))
  ·rcases cond_inv h with ⟨h2, h⟩ | ⟨h2, h⟩
   ·obtain rfl := Option.some.inj h
    exact Reach.done ttok mix fk36 (p36_e_2 a0 a1) (obs_cons h0 (obs_cons h1 (obs_cons h2 obs_nil)))
   ·rcases cond_inv h with ⟨h3, h⟩ | ⟨h3, h⟩
    ·obtain rfl := Option.some.inj h
     exact Reach.done ttok mix fk36 (p36_e_3 a0 a1) (obs_cons h0 (obs_cons h1 (obs_cons h2 (obs_cons h3 obs_nil))))
    ·obtain ⟨r1, h4, h⟩ := bind_inv h
     rcases cond_inv h with ⟨h5, h⟩ | ⟨h5, h⟩
     ·obtain rfl := Option.some.inj h
      exact Reach.done ttok mix fk36 (p36_e_4 a0 a1 r1) (obs_cons h0 (obs_cons h1 (obs_cons h2 (obs_cons h3 (obs_cons (xEw h4) (obs_cons h5 obs_nil))))))
     ·obtain rfl := Option.some.inj h
      exact Reach.done ttok mix fk36 (p36_e_5 a0 a1 r1) (obs_cons h0 (obs_cons h1 (obs_cons h2 (obs_cons h3 (obs_cons (xEw h4) (obs_cons h5 obs_nil))))))
theorem xEK {N : Nat} {a0 : Rea} {a1 : Rea} {r : Bool} (h : xDG N  a0 a1 = some r) : AbC 36 (xBw a0 a1) (xBa r) :=
 AbsCalls.of_reach fk36 rfl rfl (Nat.le_of_ble_eq_true rfl) (c36_e a0 a1 r h)
end Go.Ab.T
end
section
open Go.Proofs
namespace Go.Ab.T
set_option linter.unusedVariables false
set_option maxRecDepth 100000
noncomputable def I35 : Info := { body := (Try.f35.body).getD .skip, nt := 27, results := [.tmp 4], keep := [0, 2, 8, 10, 20, 28, 52], live := [(4, [0, 2, 10])], modes := [], ext := [], lnt := [], casts := [], fcast := [] }
theorem fk35 : FnOk Try.prog 35 Try.f35 I35 := ⟨Try.func35, by kernel_rfl, by kernel_rfl, by kernel_rfl, by kernel_rfl⟩
def S35_4 (x0 x1 : List Rea) (x5 : Int) : St := [(0, .v false [.sl .ro .rea x0]), (2, .v false [.sl .ro .rea x1]), (10, .v false [.int .i64 x5])]
theorem p35_4_0 (x0 x1 : List Rea) (x5 : Int) (r1 : Bool) : run tt (AbsCalls Try.prog) I35 3000 true (stkAt 4 I35.body) ⟨(S35_4 x0 x1 x5), [true, true], [xBa r1], []⟩ = some (.done (xAb false) [(decide ((x5 : Int) < (List.length x0 : Int))) = true, (0 : Int) ≤ x5 ∧ x5 < (List.length x0), (0 : Int) ≤ x5 ∧ x5 < (List.length x1), AbC 36 (xBw (List.getD x0 (Int.toNat x5) Ty.rea.dflt) (List.getD x1 (Int.toNat x5) Ty.rea.dflt)) (xBa r1), (!r1) = true]) := by kernel_rfl
theorem p35_4_1 (x0 x1 : List Rea) (x5 : Int) (r1 : Bool) : run tt (AbsCalls Try.prog) I35 3000 true (stkAt 4 I35.body) ⟨(S35_4 x0 x1 x5), [true, false], [xBa r1], []⟩ = some (.stop (stkAt 4 I35.body) (S35_4 x0 x1 (IntKind.i64.wrap (x5 + 1))) [(decide ((x5 : Int) < (List.length x0 : Int))) = true, (0 : Int) ≤ x5 ∧ x5 < (List.length x0), (0 : Int) ≤ x5 ∧ x5 < (List.length x1), AbC 36 (xBw (List.getD x0 (Int.toNat x5) Ty.rea.dflt) (List.getD x1 (Int.toNat x5) Ty.rea.dflt)) (xBa r1), (!r1) = false]) := by kernel_rfl
theorem p35_4_2 (x0 x1 : List Rea) (x5 : Int) : run tt (AbsCalls Try.prog) I35 3000 true (stkAt 4 I35.body) ⟨(S35_4 x0 x1 x5), [false], [], []⟩ = some (.done (xAb true) [(decide ((x5 : Int) < (List.length x0 : Int))) = false]) := by kernel_rfl
theorem p35_e_3 (a0 a1 : List Rea) : run tt (AbsCalls Try.prog) I35 3000 false [.code I35.body] ⟨(zBg 0 (xAh a0 a1)), [true], [], []⟩ = some (.done (xAb false) [(((List.length a0 : Int) : Int) != (List.length a1 : Int)) = true]) := by kernel_rfl
theorem p35_e_4 (a0 a1 : List Rea) : run tt (AbsCalls Try.prog) I35 3000 false [.code I35.body] ⟨(zBg 0 (xAh a0 a1)), [false], [], []⟩ = some (.stop (stkAt 4 I35.body) (S35_4 a0 a1 0) [(((List.length a0 : Int) : Int) != (List.length a1 : Int)) = false]) := by kernel_rfl
theorem c35_4 {N : Nat} : ∀ n x0 x1 x5 r, xCg N n x0 x1 x5 = some r → Reach Try.prog Try.f35 I35 (stkAt 4 I35.body) (S35_4 x0 x1 x5) (xAb r) := by
 intro n
 induction n with
 | zero => intro x0 x1 x5 r h; have h' : (none : Option (Bool)) = some r := h; cases h'
 | succ n ih =>
  intro x0 x1 x5 r h
  rw [xCg] at h
  rcases cond_inv h with ⟨h0, h⟩ | ⟨h0, h⟩
  ·obtain ⟨h1, h⟩ := ite_inv h
   obtain ⟨h2, h⟩ := ite_inv h
   obtain ⟨r1, h3, h⟩ := bind_inv h
   rcases cond_inv h with ⟨h4, h⟩ | ⟨h4, h⟩
   ·obtain rfl := Option.some.inj h
    exact Reach.done ttok mix fk35 (p35_4_0 x0 x1 x5 r1) (obs_cons h0 (obs_cons h1 (obs_cons h2 (obs_cons (xEK h3) (obs_cons h4 obs_nil)))))
   ·exact Reach.stop ttok mix fk35 (p35_4_1 x0 x1 x5 r1) (obs_cons h0 (obs_cons h1 (obs_cons h2 (obs_cons (xEK h3) (obs_cons h4 obs_nil))))) (ih _ _ _ _ h)
  ·obtain rfl := Option.some.inj h
   exact Reach.done ttok mix fk35 (p35_4_2 x0 x1 x5) (obs_cons h0 obs_nil)
theorem c35_e {N : Nat} : ∀ a0 a1 r, xB7 N a0 a1 = some r → Reach Try.prog Try.f35 I35 [.code I35.body] (zBg 0 (xAh a0 a1)) (xAb r) := by
 intro a0 a1 r h
 unfold xB7 at h
 rcases cond_inv h with ⟨h0, h⟩ | ⟨h0, h⟩
 ·obtain rfl := Option.some.inj h
  exact Reach.done ttok mix fk35 (p35_e_3 a0 a1) (obs_cons h0 obs_nil)
 ·exact Reach.stop ttok mix fk35 (p35_e_4 a0 a1) (obs_cons h0 obs_nil) (c35_4   _ _ _ _ _ h)
theorem xAj {N : Nat} {a0 : List Rea} {a1 : List Rea} {r : Bool} (h : xB7 N  a0 a1 = some r) : AbC 35 (xAh a0 a1) (xAb r) :=
 AbsCalls.of_reach fk35 rfl rfl (Nat.le_of_ble_eq_true rfl) (c35_e a0 a1 r h)
noncomputable def I37 : Info := { body := (Try.f37.body).getD .skip, nt := 99, results := [.tmp 4], keep := [0, 2, 8, 10, 18], live := [(2, [0, 2, 10])], modes := [(4, [(0, .ref, false)]), (6, [(0, .ref, false)]), (8, [(0, .ref, false)]), (10, [(0, .ref, false)]), (12, [(0, .ref, false)]), (14, [(0, .ref, false)]), (16, [(0, .ref, false)]), (18, [(0, .ref, false)]), (20, [(0, .ref, false), (5, .ref, false), (7, .ref, false)]), (21, [(0, .ref, false), (5, .ref, false), (7, .ref, false)]), (22, [(0, .ref, false), (5, .ref, false), (7, .ref, false)])], ext := [], lnt := [(0, 0)], casts := [], fcast := [] }
theorem fk37 : FnOk Try.prog 37 Try.f37 I37 := ⟨Try.func37, by kernel_rfl, by kernel_rfl, by kernel_rfl, by kernel_rfl⟩
def S37_2 (x0 : List Rea) (x1 x5 : Int) : St := [(0, .v false [.sl (.lnt 0) .rea x0]), (2, .v false [.int .i64 x1]), (10, .v false [.int .i64 x5])]
theorem p37_2_0 (x0 : List Rea) (x1 x5 : Int) (r1 r2 : Str) (r3 : Int × (List Val)) (r4 : Int × (List Str)) (r5 : Int × (List Rowd)) : run tt (AbsCalls Try.prog) I37 3000 true (stkAt 2 I37.body) ⟨(S37_2 x0 x1 x5), [true], [xAe r1, xAe r2, xAM r3, xA7 r4, xBG r5], []⟩ = some (.stop (stkAt 2 I37.body) (S37_2 ((fun (z103 : List Rea) => List.set z103 (Int.toNat x5) (Rea.mk (Rea.kind (List.getD z103 (Int.toNat x5) Ty.rea.dflt)) (Rea.n (List.getD z103 (Int.toNat x5) Ty.rea.dflt)) (Rea.time (List.getD z103 (Int.toNat x5) Ty.rea.dflt)) (Rea.text (List.getD z103 (Int.toNat x5) Ty.rea.dflt)) (Val.mk (Val.kind (Rea.result (List.getD z103 (Int.toNat x5) Ty.rea.dflt))) (Val.n (Rea.result (List.getD z103 (Int.toNat x5) Ty.rea.dflt))) (Val.step (Rea.result (List.getD z103 (Int.toNat x5) Ty.rea.dflt))) (Val.text (Rea.result (List.getD z103 (Int.toNat x5) Ty.rea.dflt))) (Val.list (Rea.result (List.getD z103 (Int.toNat x5) Ty.rea.dflt))) (Val.columns (Rea.result (List.getD z103 (Int.toNat x5) Ty.rea.dflt))) r5.2))) ((fun (z102 : List Rea) => List.set z102 (Int.toNat x5) (Rea.mk (Rea.kind (List.getD z102 (Int.toNat x5) Ty.rea.dflt)) (Rea.n (List.getD z102 (Int.toNat x5) Ty.rea.dflt)) (Rea.time (List.getD z102 (Int.toNat x5) Ty.rea.dflt)) (Rea.text (List.getD z102 (Int.toNat x5) Ty.rea.dflt)) (Val.mk (Val.kind (Rea.result (List.getD z102 (Int.toNat x5) Ty.rea.dflt))) (Val.n (Rea.result (List.getD z102 (Int.toNat x5) Ty.rea.dflt))) (Val.step (Rea.result (List.getD z102 (Int.toNat x5) Ty.rea.dflt))) (Val.text (Rea.result (List.getD z102 (Int.toNat x5) Ty.rea.dflt))) (Val.list (Rea.result (List.getD z102 (Int.toNat x5) Ty.rea.dflt))) r4.2 (Val.rows (Rea.result (List.getD z102 (Int.toNat x5) Ty.rea.dflt)))))) ((fun (z101 : List Rea) => List.set z101 (Int.toNat x5) (Rea.mk (Rea.kind (List.getD z101 (Int.toNat x5) Ty.rea.dflt)) (Rea.n (List.getD z101 (Int.toNat x5) Ty.rea.dflt)) (Rea.time (List.getD z101 (Int.toNat x5) Ty.rea.dflt)) (Rea.text (List.getD z101 (Int.toNat x5) Ty.rea.dflt)) (Val.mk (Val.kind (Rea.result (List.getD z101 (Int.toNat x5) Ty.rea.dflt))) (Val.n (Rea.result (List.getD z101 (Int.toNat x5) Ty.rea.dflt))) (Val.step (Rea.result (List.getD z101 (Int.toNat x5) Ty.rea.dflt))) (Val.text (Rea.result (List.getD z101 (Int.toNat x5) Ty.rea.dflt))) r3.2 (Val.columns (Rea.result (List.getD z101 (Int.toNat x5) Ty.rea.dflt))) (Val.rows (Rea.result (List.getD z101 (Int.toNat x5) Ty.rea.dflt)))))) ((fun (z100 : List Rea) => List.set z100 (Int.toNat x5) (Rea.mk (Rea.kind (List.getD z100 (Int.toNat x5) Ty.rea.dflt)) (Rea.n (List.getD z100 (Int.toNat x5) Ty.rea.dflt)) (Rea.time (List.getD z100 (Int.toNat x5) Ty.rea.dflt)) (Rea.text (List.getD z100 (Int.toNat x5) Ty.rea.dflt)) (Val.mk (Val.kind (Rea.result (List.getD z100 (Int.toNat x5) Ty.rea.dflt))) (Val.n (Rea.result (List.getD z100 (Int.toNat x5) Ty.rea.dflt))) (Val.step (Rea.result (List.getD z100 (Int.toNat x5) Ty.rea.dflt))) r2 (Val.list (Rea.result (List.getD z100 (Int.toNat x5) Ty.rea.dflt))) (Val.columns (Rea.result (List.getD z100 (Int.toNat x5) Ty.rea.dflt))) (Val.rows (Rea.result (List.getD z100 (Int.toNat x5) Ty.rea.dflt)))))) ((fun (z99 : List Rea) => List.set z99 (Int.toNat x5) (Rea.mk (Rea.kind (List.getD z99 (Int.toNat x5) Ty.rea.dflt)) (Rea.n (List.getD z99 (Int.toNat x5) Ty.rea.dflt)) (Rea.time (List.getD z99 (Int.toNat x5) Ty.rea.dflt)) (Rea.text (List.getD z99 (Int.toNat x5) Ty.rea.dflt)) (Val.mk (Val.kind (Rea.result (List.getD z99 (Int.toNat x5) Ty.rea.dflt))) (Val.n (Rea.result (List.getD z99 (Int.toNat x5) Ty.rea.dflt))) (IntKind.i64.wrap ((IntKind.i64.wrap ((IntKind.i64.wrap ((IntKind.i64.wrap ((IntKind.i64.wrap ((IntKind.i64.wrap (x1 + 1)) + 1)) + 1)) + 1)) + 1)) + 1)) (Val.text (Rea.result (List.getD z99 (Int.toNat x5) Ty.rea.dflt))) (Val.list (Rea.result (List.getD z99 (Int.toNat x5) Ty.rea.dflt))) (Val.columns (Rea.result (List.getD z99 (Int.toNat x5) Ty.rea.dflt))) (Val.rows (Rea.result (List.getD z99 (Int.toNat x5) Ty.rea.dflt)))))) ((fun (z98 : List Rea) => List.set z98 (Int.toNat x5) (Rea.mk (Rea.kind (List.getD z98 (Int.toNat x5) Ty.rea.dflt)) (Rea.n (List.getD z98 (Int.toNat x5) Ty.rea.dflt)) (Rea.time (List.getD z98 (Int.toNat x5) Ty.rea.dflt)) (Rea.text (List.getD z98 (Int.toNat x5) Ty.rea.dflt)) (Val.mk (Val.kind (Rea.result (List.getD z98 (Int.toNat x5) Ty.rea.dflt))) (IntKind.i64.wrap ((IntKind.i64.wrap ((IntKind.i64.wrap ((IntKind.i64.wrap ((IntKind.i64.wrap (x1 + 1)) + 1)) + 1)) + 1)) + 1)) (Val.step (Rea.result (List.getD z98 (Int.toNat x5) Ty.rea.dflt))) (Val.text (Rea.result (List.getD z98 (Int.toNat x5) Ty.rea.dflt))) (Val.list (Rea.result (List.getD z98 (Int.toNat x5) Ty.rea.dflt))) (Val.columns (Rea.result (List.getD z98 (Int.toNat x5) Ty.rea.dflt))) (Val.rows (Rea.result (List.getD z98 (Int.toNat x5) Ty.rea.dflt)))))) ((fun (z97 : List Rea) => List.set z97 (Int.toNat x5) (Rea.mk (Rea.kind (List.getD z97 (Int.toNat x5) Ty.rea.dflt)) (Rea.n (List.getD z97 (Int.toNat x5) Ty.rea.dflt)) (Rea.time (List.getD z97 (Int.toNat x5) Ty.rea.dflt)) (Rea.text (List.getD z97 (Int.toNat x5) Ty.rea.dflt)) (Val.mk (IntKind.i64.wrap ((IntKind.i64.wrap ((IntKind.i64.wrap ((IntKind.i64.wrap (x1 + 1)) + 1)) + 1)) + 1)) (Val.n (Rea.result (List.getD z97 (Int.toNat x5) Ty.rea.dflt))) (Val.step (Rea.result (List.getD z97 (Int.toNat x5) Ty.rea.dflt))) (Val.text (Rea.result (List.getD z97 (Int.toNat x5) Ty.rea.dflt))) (Val.list (Rea.result (List.getD z97 (Int.toNat x5) Ty.rea.dflt))) (Val.columns (Rea.result (List.getD z97 (Int.toNat x5) Ty.rea.dflt))) (Val.rows (Rea.result (List.getD z97 (Int.toNat x5) Ty.rea.dflt)))))) ((fun (z96 : List Rea) => List.set z96 (Int.toNat x5) (Rea.mk (Rea.kind (List.getD z96 (Int.toNat x5) Ty.rea.dflt)) (Rea.n (List.getD z96 (Int.toNat x5) Ty.rea.dflt)) (Rea.time (List.getD z96 (Int.toNat x5) Ty.rea.dflt)) r1 (Val.re (Rea.result (List.getD z96 (Int.toNat x5) Ty.rea.dflt))))) ((fun (z95 : List Rea) => List.set z95 (Int.toNat x5) (Rea.mk (Rea.kind (List.getD z95 (Int.toNat x5) Ty.rea.dflt)) (Rea.n (List.getD z95 (Int.toNat x5) Ty.rea.dflt)) (IntKind.i64.wrap ((IntKind.i64.wrap (x1 + 1)) + 1)) (Rea.text (List.getD z95 (Int.toNat x5) Ty.rea.dflt)) (Val.re (Rea.result (List.getD z95 (Int.toNat x5) Ty.rea.dflt))))) ((fun (z94 : List Rea) => List.set z94 (Int.toNat x5) (Rea.mk (Rea.kind (List.getD z94 (Int.toNat x5) Ty.rea.dflt)) (IntKind.i64.wrap (x1 + 1)) (Rea.time (List.getD z94 (Int.toNat x5) Ty.rea.dflt)) (Rea.text (List.getD z94 (Int.toNat x5) Ty.rea.dflt)) (Val.re (Rea.result (List.getD z94 (Int.toNat x5) Ty.rea.dflt))))) (List.set x0 (Int.toNat x5) (Rea.mk x1 (Rea.n (List.getD x0 (Int.toNat x5) Ty.rea.dflt)) (Rea.time (List.getD x0 (Int.toNat x5) Ty.rea.dflt)) (Rea.text (List.getD x0 (Int.toNat x5) Ty.rea.dflt)) (Val.re (Rea.result (List.getD x0 (Int.toNat x5) Ty.rea.dflt))))))))))))))) r5.1 (IntKind.i64.wrap (x5 + 1))) [(decide ((x5 : Int) < (List.length x0 : Int))) = true, (0 : Int) ≤ x5 ∧ x5 < (List.length x0), (0 : Int) ≤ x5 ∧ x5 < (List.length (List.set x0 (Int.toNat x5) (Rea.mk x1 (Rea.n (List.getD x0 (Int.toNat x5) Ty.rea.dflt)) (Rea.time (List.getD x0 (Int.toNat x5) Ty.rea.dflt)) (Rea.text (List.getD x0 (Int.toNat x5) Ty.rea.dflt)) (Val.re (Rea.result (List.getD x0 (Int.toNat x5) Ty.rea.dflt)))))), (0 : Int) ≤ x5 ∧ x5 < (List.length ((fun (z94 : List Rea) => List.set z94 (Int.toNat x5) (Rea.mk (Rea.kind (List.getD z94 (Int.toNat x5) Ty.rea.dflt)) (IntKind.i64.wrap (x1 + 1)) (Rea.time (List.getD z94 (Int.toNat x5) Ty.rea.dflt)) (Rea.text (List.getD z94 (Int.toNat x5) Ty.rea.dflt)) (Val.re (Rea.result (List.getD z94 (Int.toNat x5) Ty.rea.dflt))))) (List.set x0 (Int.toNat x5) (Rea.mk x1 (Rea.n (List.getD x0 (Int.toNat x5) Ty.rea.dflt)) (Rea.time (List.getD x0 (Int.toNat x5) Ty.rea.dflt)) (Rea.text (List.getD x0 (Int.toNat x5) Ty.rea.dflt)) (Val.re (Rea.result (List.getD x0 (Int.toNat x5) Ty.rea.dflt))))))), AbC 79 (xAn (IntKind.i64.wrap ((IntKind.i64.wrap ((IntKind.i64.wrap (x1 + 1)) + 1)) + 1))) (xAe r1), (0 : Int) ≤ x5 ∧ x5 < (List.length ((fun (z95 : List Rea) => List.set z95 (Int.toNat x5) (Rea.mk (Rea.kind (List.getD z95 (Int.toNat x5) Ty.rea.dflt)) (Rea.n (List.getD z95 (Int.toNat x5) Ty.rea.dflt)) (IntKind.i64.wrap ((IntKind.i64.wrap (x1 + 1)) + 1)) (Rea.text (List.getD z95 (Int.toNat x5) Ty.rea.dflt)) (Val.re (Rea.result (List.getD z95 (Int.toNat x5) Ty.rea.dflt))))) ((fun (z94 : List Rea) => List.set z94 (Int.toNat x5) (Rea.mk (Rea.kind (List.getD z94 (Int.toNat x5) Ty.rea.dflt)) (IntKind.i64.wrap (x1 + 1)) (Rea.time (List.getD z94 (Int.toNat x5) Ty.rea.dflt)) (Rea.text (List.getD z94 (Int.toNat x5) Ty.rea.dflt)) (Val.re (Rea.result (List.getD z94 (Int.toNat x5) Ty.rea.dflt))))) (List.set x0 (Int.toNat x5) (Rea.mk x1 (Rea.n (List.getD x0 (Int.toNat x5) Ty.rea.dflt)) (Rea.time (List.getD x0 (Int.toNat x5) Ty.rea.dflt)) (Rea.text (List.getD x0 (Int.toNat x5) Ty.rea.dflt)) (Val.re (Rea.result (List.getD x0 (Int.toNat x5) Ty.rea.dflt)))))))), (0 : Int) ≤ x5 ∧ x5 < (List.length ((fun (z96 : List Rea) => List.set z96 (Int.toNat x5) (Rea.mk (Rea.kind (List.getD z96 (Int.toNat x5) Ty.rea.dflt)) (Rea.n (List.getD z96 (Int.toNat x5) Ty.rea.dflt)) (Rea.time (List.getD z96 (Int.toNat x5) Ty.rea.dflt)) r1 (Val.re (Rea.result (List.getD z96 (Int.toNat x5) Ty.rea.dflt))))) ((fun (z95 : List Rea) => List.set z95 (Int.toNat x5) (Rea.mk (Rea.kind (List.getD z95 (Int.toNat x5) Ty.rea.dflt)) (Rea.n (List.getD z95 (Int.toNat x5) Ty.rea.dflt)) (IntKind.i64.wrap ((IntKind.i64.wrap (x1 + 1)) + 1)) (Rea.text (List.getD z95 (Int.toNat x5) Ty.rea.dflt)) (Val.re (Rea.result (List.getD z95 (Int.toNat x5) Ty.rea.dflt))))) ((fun (z94 : List Rea) => List.set z94 (Int.toNat x5) (Rea.mk (Rea.kind (List.getD z94 (Int.toNat x5) Ty.rea.dflt)) (IntKind.i64.wrap (x1 + 1)) (Rea.time (List.getD z94 (Int.toNat x5) Ty.rea.dflt)) (Rea.text (List.getD z94 (Int.toNat x5) Ty.rea.dflt)) (Val.re (Rea.result (List.getD z94 (Int.toNat x5) Ty.rea.dflt))))) (List.set x0 (Int.toNat x5) (Rea.mk x1 (Rea.n (List.getD x0 (Int.toNat x5) Ty.rea.dflt)) (Rea.time (List.getD x0 (Int.toNat x5) Ty.rea.dflt)) (Rea.text (List.getD x0 (Int.toNat x5) Ty.rea.dflt)) (Val.re (Rea.result (List.getD x0 (Int.toNat x5) Ty.rea.dflt))))))))), (0 : Int) ≤ x5 ∧ x5 < (List.length ((fun (z97 : List Rea) => List.set z97 (Int.toNat x5) (Rea.mk (Rea.kind (List.getD z97 (Int.toNat x5) Ty.rea.dflt)) (Rea.n (List.getD z97 (Int.toNat x5) Ty.rea.dflt)) (Rea.time (List.getD z97 (Int.toNat x5) Ty.rea.dflt)) (Rea.text (List.getD z97 (Int.toNat x5) Ty.rea.dflt)) (Val.mk (IntKind.i64.wrap ((IntKind.i64.wrap ((IntKind.i64.wrap ((IntKind.i64.wrap (x1 + 1)) + 1)) + 1)) + 1)) (Val.n (Rea.result (List.getD z97 (Int.toNat x5) Ty.rea.dflt))) (Val.step (Rea.result (List.getD z97 (Int.toNat x5) Ty.rea.dflt))) (Val.text (Rea.result (List.getD z97 (Int.toNat x5) Ty.rea.dflt))) (Val.list (Rea.result (List.getD z97 (Int.toNat x5) Ty.rea.dflt))) (Val.columns (Rea.result (List.getD z97 (Int.toNat x5) Ty.rea.dflt))) (Val.rows (Rea.result (List.getD z97 (Int.toNat x5) Ty.rea.dflt)))))) ((fun (z96 : List Rea) => List.set z96 (Int.toNat x5) (Rea.mk (Rea.kind (List.getD z96 (Int.toNat x5) Ty.rea.dflt)) (Rea.n (List.getD z96 (Int.toNat x5) Ty.rea.dflt)) (Rea.time (List.getD z96 (Int.toNat x5) Ty.rea.dflt)) r1 (Val.re (Rea.result (List.getD z96 (Int.toNat x5) Ty.rea.dflt))))) ((fun (z95 : List Rea) => List.set z95 (Int.toNat x5) (Rea.mk (Rea.kind (List.getD z95 (Int.toNat x5) Ty.rea.dflt)) (Rea.n (List.getD z95 (Int.toNat x5) Ty.rea.dflt)) (IntKind.i64.wrap ((IntKind.i64.wrap (x1 + 1)) + 1)) (Rea.text (List.getD z95 (Int.toNat x5) Ty.rea.dflt)) (Val.re (Rea.result (List.getD z95 (Int.toNat x5) Ty.rea.dflt))))) ((fun (z94 : List Rea) => List.set z94 (Int.toNat x5) (Rea.mk (Rea.kind (List.getD z94 (Int.toNat x5) Ty.rea.dflt)) (IntKind.i64.wrap (x1 + 1)) (Rea.time (List.getD z94 (Int.toNat x5) Ty.rea.dflt)) (Rea.text (List.getD z94 (Int.toNat x5) Ty.rea.dflt)) (Val.re (Rea.result (List.getD z94 (Int.toNat x5) Ty.rea.dflt))))) (List.set x0 (Int.toNat x5) (Rea.mk x1 (Rea.n (List.getD x0 (Int.toNat x5) Ty.rea.dflt)) (Rea.time (List.getD x0 (Int.toNat x5) Ty.rea.dflt)) (Rea.text (List.getD x0 (Int.toNat x5) Ty.rea.dflt)) (Val.re (Rea.result (List.getD x0 (Int.toNat x5) Ty.rea.dflt)))))))))), (0 : Int) ≤ x5 ∧ x5 < (List.length ((fun (z98 : List Rea) => List.set z98 (Int.toNat x5) (Rea.mk (Rea.kind (List.getD z98 (Int.toNat x5) Ty.rea.dflt)) (Rea.n (List.getD z98 (Int.toNat x5) Ty.rea.dflt)) (Rea.time (List.getD z98 (Int.toNat x5) Ty.rea.dflt)) (Rea.text (List.getD z98 (Int.toNat x5) Ty.rea.dflt)) (Val.mk (Val.kind (Rea.result (List.getD z98 (Int.toNat x5) Ty.rea.dflt))) (IntKind.i64.wrap ((IntKind.i64.wrap ((IntKind.i64.wrap ((IntKind.i64.wrap ((IntKind.i64.wrap (x1 + 1)) + 1)) + 1)) + 1)) + 1)) (Val.step (Rea.result (List.getD z98 (Int.toNat x5) Ty.rea.dflt))) (Val.text (Rea.result (List.getD z98 (Int.toNat x5) Ty.rea.dflt))) (Val.list (Rea.result (List.getD z98 (Int.toNat x5) Ty.rea.dflt))) (Val.columns (Rea.result (List.getD z98 (Int.toNat x5) Ty.rea.dflt))) (Val.rows (Rea.result (List.getD z98 (Int.toNat x5) Ty.rea.dflt)))))) ((fun (z97 : List Rea) => List.set z97 (Int.toNat x5) (Rea.mk (Rea.kind (List.getD z97 (Int.toNat x5) Ty.rea.dflt)) (Rea.n (List.getD z97 (Int.toNat x5) Ty.rea.dflt)) (Rea.time (List.getD z97 (Int.toNat x5) Ty.rea.dflt)) (Rea.text (List.getD z97 (Int.toNat x5) Ty.rea.dflt)) (Val.mk (IntKind.i64.wrap ((IntKind.i64.wrap ((IntKind.i64.wrap ((IntKind.i64.wrap (x1 + 1)) + 1)) + 1)) + 1)) (Val.n (Rea.result (List.getD z97 (Int.toNat x5) Ty.rea.dflt))) (Val.step (Rea.result (List.getD z97 (Int.toNat x5) Ty.rea.dflt))) (Val.text (Rea.result (List.getD z97 (Int.toNat x5) Ty.rea.dflt))) (Val.list (Rea.result (List.getD z97 (Int.toNat x5) Ty.rea.dflt))) (Val.columns (Rea.result (List.getD z97 (Int.toNat x5) Ty.rea.dflt))) (Val.rows (Rea.result (List.getD z97 (Int.toNat x5) Ty.rea.dflt)))))) ((fun (z96 : List Rea) => List.set z96 (Int.toNat x5) (Rea.mk (Rea.kind (List.getD z96 (Int.toNat x5) Ty.rea.dflt)) (Rea.n (List.getD z96 (Int.toNat x5) Ty.rea.dflt)) (Rea.time (List.getD z96 (Int.toNat x5) Ty.rea.dflt)) r1 (Val.re (Rea.result (List.getD z96 (Int.toNat x5) Ty.rea.dflt))))) ((fun (z95 : List Rea) => List.set z95 (Int.toNat x5) (Rea.mk (Rea.kind (List.getD z95 (Int.toNat x5) Ty.rea.dflt)) (Rea.n (List.getD z95 (Int.toNat x5) Ty.rea.dflt)) (IntKind.i64.wrap ((IntKind.i64.wrap (x1 + 1)) + 1)) (Rea.text (List.getD z95 (Int.toNat x5) Ty.rea.dflt)) (Val.re (Rea.result (List.getD z95 (Int.toNat x5) Ty.rea.dflt))))) ((fun (z94 : List Rea) => List.set z94 (Int.toNat x5) (Rea.mk (Rea.kind (List.getD z94 (Int.toNat x5) Ty.rea.dflt)) (IntKind.i64.wrap (x1 + 1)) (Rea.time (List.getD z94 (Int.toNat x5) Ty.rea.dflt)) (Rea.text (List.getD z94 (Int.toNat x5) Ty.rea.dflt)) (Val.re (Rea.result (List.getD z94 (Int.toNat x5) Ty.rea.dflt))))) (List.set x0 (Int.toNat x5) (Rea.mk x1 (Rea.n (List.getD x0 (Int.toNat x5) Ty.rea.dflt)) (Rea.time (List.getD x0 (Int.toNat x5) Ty.rea.dflt)) (Rea.text (List.getD x0 (Int.toNat x5) Ty.rea.dflt)) (Val.re (Rea.result (List.getD x0 (Int.toNat x5) Ty.rea.dflt))))))))))), AbC 79 (xAn (IntKind.i64.wrap ((IntKind.i64.wrap ((IntKind.i64.wrap ((IntKind.i64.wrap ((IntKind.i64.wrap ((IntKind.i64.wrap ((IntKind.i64.wrap (x1 + 1)) + 1)) + 1)) + 1)) + 1)) + 1)) + 1))) (xAe r2), (0 : Int) ≤ x5 ∧ x5 < (List.length ((fun (z99 : List Rea) => List.set z99 (Int.toNat x5) (Rea.mk (Rea.kind (List.getD z99 (Int.toNat x5) Ty.rea.dflt)) (Rea.n (List.getD z99 (Int.toNat x5) Ty.rea.dflt)) (Rea.time (List.getD z99 (Int.toNat x5) Ty.rea.dflt)) (Rea.text (List.getD z99 (Int.toNat x5) Ty.rea.dflt)) (Val.mk (Val.kind (Rea.result (List.getD z99 (Int.toNat x5) Ty.rea.dflt))) (Val.n (Rea.result (List.getD z99 (Int.toNat x5) Ty.rea.dflt))) (IntKind.i64.wrap ((IntKind.i64.wrap ((IntKind.i64.wrap ((IntKind.i64.wrap ((IntKind.i64.wrap ((IntKind.i64.wrap (x1 + 1)) + 1)) + 1)) + 1)) + 1)) + 1)) (Val.text (Rea.result (List.getD z99 (Int.toNat x5) Ty.rea.dflt))) (Val.list (Rea.result (List.getD z99 (Int.toNat x5) Ty.rea.dflt))) (Val.columns (Rea.result (List.getD z99 (Int.toNat x5) Ty.rea.dflt))) (Val.rows (Rea.result (List.getD z99 (Int.toNat x5) Ty.rea.dflt)))))) ((fun (z98 : List Rea) => List.set z98 (Int.toNat x5) (Rea.mk (Rea.kind (List.getD z98 (Int.toNat x5) Ty.rea.dflt)) (Rea.n (List.getD z98 (Int.toNat x5) Ty.rea.dflt)) (Rea.time (List.getD z98 (Int.toNat x5) Ty.rea.dflt)) (Rea.text (List.getD z98 (Int.toNat x5) Ty.rea.dflt)) (Val.mk (Val.kind (Rea.result (List.getD z98 (Int.toNat x5) Ty.rea.dflt))) (IntKind.i64.wrap ((IntKind.i64.wrap ((IntKind.i64.wrap ((IntKind.i64.wrap ((IntKind.i64.wrap (x1 + 1)) + 1)) + 1)) + 1)) + 1)) (Val.step (Rea.result (List.getD z98 (Int.toNat x5) Ty.rea.dflt))) (Val.text (Rea.result (List.getD z98 (Int.toNat x5) Ty.rea.dflt))) (Val.list (Rea.result (List.getD z98 (Int.toNat x5) Ty.rea.dflt))) (Val.columns (Rea.result (List.getD z98 (Int.toNat x5) Ty.rea.dflt))) (Val.rows (Rea.result (List.getD z98 (Int.toNat x5) Ty.rea.dflt)))))) ((fun (z97 : List Rea) => List.set z97 (Int.toNat x5) (Rea.mk (Rea.kind (List.getD z97 (Int.toNat x5) Ty.rea.dflt)) (Rea.n (List.getD z97 (Int.toNat x5) Ty.rea.dflt)) (Rea.time (List.getD z97 (Int.toNat x5) Ty.rea.dflt)) (Rea.text (List.getD z97 (Int.toNat x5) Ty.rea.dflt)) (Val.mk (IntKind.i64.wrap ((IntKind.i64.wrap ((IntKind.i64.wrap ((IntKind.i64.wrap (x1 + 1)) + 1)) + 1)) + 1)) (Val.n (Rea.result (List.getD z97 (Int.toNat x5) Ty.rea.dflt))) (Val.step (Rea.result (List.getD z97 (Int.toNat x5) Ty.rea.dflt))) (Val.text (Rea.result (List.getD z97 (Int.toNat x5) Ty.rea.dflt))) (Val.list (Rea.result (List.getD z97 (Int.toNat x5) Ty.rea.dflt))) (Val.columns (Rea.result (List.getD z97 (Int.toNat x5) Ty.rea.dflt))) (Val.rows (Rea.result (List.getD z97 (Int.toNat x5) Ty.rea.dflt)))))) ((fun (z96 : List Rea) => List.set z96 (Int.toNat x5) (Rea.mk (Rea.kind (List.getD z96 (Int.toNat x5) Ty.rea.dflt)) (Rea.n (List.getD z96 (Int.toNat x5) Ty.rea.dflt)) (Rea.time (List.getD z96 (Int.toNat x5) Ty.rea.dflt)) r1 (Val.re (Rea.result (List.getD z96 (Int.toNat x5) Ty.rea.dflt))))) ((fun (z95 : List Rea) => List.set z95 (Int.toNat x5) (Rea.mk (Rea.kind (List.getD z95 (Int.toNat x5) Ty.rea.dflt)) (Rea.n (List.getD z95 (Int.toNat x5) Ty.rea.dflt)) (IntKind.i64.wrap ((IntKind.i64.wrap (x1 + 1)) + 1)) (Rea.text (List.getD z95 (Int.toNat x5) Ty.rea.dflt)) (Val.re (Rea.result (List.getD z95 (Int.toNat x5) Ty.rea.dflt))))) ((fun (z94 : List Rea) => List.set z94 (Int.toNat x5) (Rea.mk (Rea.kind (List.getD z94 (Int.toNat x5) Ty.rea.dflt)) (IntKind.i64.wrap (x1 + 1)) (Rea.time (List.getD z94 (Int.toNat x5) Ty.rea.dflt)) (Rea.text (List.getD z94 (Int.toNat x5) Ty.rea.dflt)) (Val.re (Rea.result (List.getD z94 (Int.toNat x5) Ty.rea.dflt))))) (List.set x0 (Int.toNat x5) (Rea.mk x1 (Rea.n (List.getD x0 (Int.toNat x5) Ty.rea.dflt)) (Rea.time (List.getD x0 (Int.toNat x5) Ty.rea.dflt)) (Rea.text (List.getD x0 (Int.toNat x5) Ty.rea.dflt)) (Val.re (Rea.result (List.getD x0 (Int.toNat x5) Ty.rea.dflt)))))))))))), (0 : Int) ≤ x5 ∧ x5 < (List.length ((fun (z100 : List Rea) => List.set z100 (Int.toNat x5) (Rea.mk (Rea.kind (List.getD z100 (Int.toNat x5) Ty.rea.dflt)) (Rea.n (List.getD z100 (Int.toNat x5) Ty.rea.dflt)) (Rea.time (List.getD z100 (Int.toNat x5) Ty.rea.dflt)) (Rea.text (List.getD z100 (Int.toNat x5) Ty.rea.dflt)) (Val.mk (Val.kind (Rea.result (List.getD z100 (Int.toNat x5) Ty.rea.dflt))) (Val.n (Rea.result (List.getD z100 (Int.toNat x5) Ty.rea.dflt))) (Val.step (Rea.result (List.getD z100 (Int.toNat x5) Ty.rea.dflt))) r2 (Val.list (Rea.result (List.getD z100 (Int.toNat x5) Ty.rea.dflt))) (Val.columns (Rea.result (List.getD z100 (Int.toNat x5) Ty.rea.dflt))) (Val.rows (Rea.result (List.getD z100 (Int.toNat x5) Ty.rea.dflt)))))) ((fun (z99 : List Rea) => List.set z99 (Int.toNat x5) (Rea.mk (Rea.kind (List.getD z99 (Int.toNat x5) Ty.rea.dflt)) (Rea.n (List.getD z99 (Int.toNat x5) Ty.rea.dflt)) (Rea.time (List.getD z99 (Int.toNat x5) Ty.rea.dflt)) (Rea.text (List.getD z99 (Int.toNat x5) Ty.rea.dflt)) (Val.mk (Val.kind (Rea.result (List.getD z99 (Int.toNat x5) Ty.rea.dflt))) (Val.n (Rea.result (List.getD z99 (Int.toNat x5) Ty.rea.dflt))) (IntKind.i64.wrap ((IntKind.i64.wrap ((IntKind.i64.wrap ((IntKind.i64.wrap ((IntKind.i64.wrap ((IntKind.i64.wrap (x1 + 1)) + 1)) + 1)) + 1)) + 1)) + 1)) (Val.text (Rea.result (List.getD z99 (Int.toNat x5) Ty.rea.dflt))) (Val.list (Rea.result (List.getD z99 (Int.toNat x5) Ty.rea.dflt))) (Val.columns (Rea.result (List.getD z99 (Int.toNat x5) Ty.rea.dflt))) (Val.rows (Rea.result (List.getD z99 (Int.toNat x5) Ty.rea.dflt)))))) ((fun (z98 : List Rea) => List.set z98 (Int.toNat x5) (Rea.mk (Rea.kind (List.getD z98 (Int.toNat x5) Ty.rea.dflt)) (Rea.n (List.getD z98 (Int.toNat x5) Ty.rea.dflt)) (Rea.time (List.getD z98 (Int.toNat x5) Ty.rea.dflt)) (Rea.text (List.getD z98 (Int.toNat x5) Ty.rea.dflt)) (Val.mk (Val.kind (Rea.result (List.getD z98 (Int.toNat x5) Ty.rea.dflt))) (IntKind.i64.wrap ((IntKind.i64.wrap ((IntKind.i64.wrap ((IntKind.i64.wrap ((IntKind.i64.wrap (x1 + 1)) + 1)) + 1)) + 1)) + 1)) (Val.step (Rea.result (List.getD z98 (Int.toNat x5) Ty.rea.dflt))) (Val.text (Rea.result (List.getD z98 (Int.toNat x5) Ty.rea.dflt))) (Val.list (Rea.result (List.getD z98 (Int.toNat x5) Ty.rea.dflt))) (Val.columns (Rea.result (List.getD z98 (Int.toNat x5) Ty.rea.dflt))) (Val.rows (Rea.result (List.getD z98 (Int.toNat x5) Ty.rea.dflt)))))) ((fun (z97 : List Rea) => List.set z97 (Int.toNat x5) (Rea.mk (Rea.kind (List.getD z97 (Int.toNat x5) Ty.rea.dflt)) (Rea.n (List.getD z97 (Int.toNat x5) Ty.rea.dflt)) (Rea.time (List.getD z97 (Int.toNat x5) Ty.rea.dflt)) (Rea.text (List.getD z97 (Int.toNat x5) Ty.rea.dflt)) (Val.mk (IntKind.i64.wrap ((IntKind.i64.wrap ((IntKind.i64.wrap ((IntKind.i64.wrap (x1 + 1)) + 1)) + 1)) + 1)) (Val.n (Rea.result (List.getD z97 (Int.toNat x5) Ty.rea.dflt))) (Val.step (Rea.result (List.getD z97 (Int.toNat x5) Ty.rea.dflt))) (Val.text (Rea.result (List.getD z97 (Int.toNat x5) Ty.rea.dflt))) (Val.list (Rea.result (List.getD z97 (Int.toNat x5) Ty.rea.dflt))) (Val.columns (Rea.result (List.getD z97 (Int.toNat x5) Ty.rea.dflt))) (Val.rows (Rea.result (List.getD z97 (Int.toNat x5) Ty.rea.dflt)))))) ((fun (z96 : List Rea) => List.set z96 (Int.toNat x5) (Rea.mk (Rea.kind (List.getD z96 (Int.toNat x5) Ty.rea.dflt)) (Rea.n (List.getD z96 (Int.toNat x5) Ty.rea.dflt)) (Rea.time (List.getD z96 (Int.toNat x5) Ty.rea.dflt)) r1 (Val.re (Rea.result (List.getD z96 (Int.toNat x5) Ty.rea.dflt))))) ((fun (z95 : List Rea) => List.set z95 (Int.toNat x5) (Rea.mk (Rea.kind (List.getD z95 (Int.toNat x5) Ty.rea.dflt)) (Rea.n (List.getD z95 (Int.toNat x5) Ty.rea.dflt)) (IntKind.i64.wrap ((IntKind.i64.wrap (x1 + 1)) + 1)) (Rea.text (List.getD z95 (Int.toNat x5) Ty.rea.dflt)) (Val.re (Rea.result (List.getD z95 (Int.toNat x5) Ty.rea.dflt))))) ((fun (z94 : List Rea) => List.set z94 (Int.toNat x5) (Rea.mk (Rea.kind (List.getD z94 (Int.toNat x5) Ty.rea.dflt)) (IntKind.i64.wrap (x1 + 1)) (Rea.time (List.getD z94 (Int.toNat x5) Ty.rea.dflt)) (Rea.text (List.getD z94 (Int.toNat x5) Ty.rea.dflt)) (Val.re (Rea.result (List.getD z94 (Int.toNat x5) Ty.rea.dflt))))) (List.set x0 (Int.toNat x5) (Rea.mk x1 (Rea.n (List.getD x0 (Int.toNat x5) Ty.rea.dflt)) (Rea.time (List.getD x0 (Int.toNat x5) Ty.rea.dflt)) (Rea.text (List.getD x0 (Int.toNat x5) Ty.rea.dflt)) (Val.re (Rea.result (List.getD x0 (Int.toNat x5) Ty.rea.dflt))))))))))))), AbC 67 (xA0 (Val.list (Rea.result (List.getD ((fun (z100 : List Rea) => List.set z100 (Int.toNat x5) (Rea.mk (Rea.kind (List.getD z100 (Int.toNat x5) Ty.rea.dflt)) (Rea.n (List.getD z100 (Int.toNat x5) Ty.rea.dflt)) (Rea.time (List.getD z100 (Int.toNat x5) Ty.rea.dflt)) (Rea.text (List.getD z100 (Int.toNat x5) Ty.rea.dflt)) (Val.mk (Val.kind (Rea.result (List.getD z100 (Int.toNat x5) Ty.rea.dflt))) (Val.n (Rea.result (List.getD z100 (Int.toNat x5) Ty.rea.dflt))) (Val.step (Rea.result (List.getD z100 (Int.toNat x5) Ty.rea.dflt))) r2 (Val.list (Rea.result (List.getD z100 (Int.toNat x5) Ty.rea.dflt))) (Val.columns (Rea.result (List.getD z100 (Int.toNat x5) Ty.rea.dflt))) (Val.rows (Rea.result (List.getD z100 (Int.toNat x5) Ty.rea.dflt)))))) ((fun (z99 : List Rea) => List.set z99 (Int.toNat x5) (Rea.mk (Rea.kind (List.getD z99 (Int.toNat x5) Ty.rea.dflt)) (Rea.n (List.getD z99 (Int.toNat x5) Ty.rea.dflt)) (Rea.time (List.getD z99 (Int.toNat x5) Ty.rea.dflt)) (Rea.text (List.getD z99 (Int.toNat x5) Ty.rea.dflt)) (Val.mk (Val.kind (Rea.result (List.getD z99 (Int.toNat x5) Ty.rea.dflt))) (Val.n (Rea.result (List.getD z99 (Int.toNat x5) Ty.rea.dflt))) (IntKind.i64.wrap ((IntKind.i64.wrap ((IntKind.i64.wrap ((IntKind.i64.wrap ((IntKind.i64.wrap ((IntKind.i64.wrap (x1 + 1)) + 1)) + 1)) + 1)) + 1)) + 1)) (Val.text (Rea.result (List.getD z99 (Int.toNat x5) Ty.rea.dflt))) (Val.list (Rea.result (List.getD z99 (Int.toNat x5) Ty.rea.dflt))) (Val.columns (Rea.result (List.getD z99 (Int.toNat x5) Ty.rea.dflt))) (Val.rows (Rea.result (List.getD z99 (Int.toNat x5) Ty.rea.dflt)))))) ((fun (z98 : List Rea) => List.set z98 (Int.toNat x5) (Rea.mk (Rea.kind (List.getD z98 (Int.toNat x5) Ty.rea.dflt)) (Rea.n (List.getD z98 (Int.toNat x5) Ty.rea.dflt)) (Rea.time (List.getD z98 (Int.toNat x5) Ty.rea.dflt)) (Rea.text (List.getD z98 (Int.toNat x5) Ty.rea.dflt)) (Val.mk (Val.kind (Rea.result (List.getD z98 (Int.toNat x5) Ty.rea.dflt))) (IntKind.i64.wrap ((IntKind.i64.wrap ((IntKind.i64.wrap ((IntKind.i64.wrap ((IntKind.i64.wrap (x1 + 1)) + 1)) + 1)) + 1)) + 1)) (Val.step (Rea.result (List.getD z98 (Int.toNat x5) Ty.rea.dflt))) (Val.text (Rea.result (List.getD z98 (Int.toNat x5) Ty.rea.dflt))) (Val.list (Rea.result (List.getD z98 (Int.toNat x5) Ty.rea.dflt))) (Val.columns (Rea.result (List.getD z98 (Int.toNat x5) Ty.rea.dflt))) (Val.rows (Rea.result (List.getD z98 (Int.toNat x5) Ty.rea.dflt)))))) ((fun (z97 : List Rea) => List.set z97 (Int.toNat x5) (Rea.mk (Rea.kind (List.getD z97 (Int.toNat x5) Ty.rea.dflt)) (Rea.n (List.getD z97 (Int.toNat x5) Ty.rea.dflt)) (Rea.time (List.getD z97 (Int.toNat x5) Ty.rea.dflt)) (Rea.text (List.getD z97 (Int.toNat x5) Ty.rea.dflt)) (Val.mk (IntKind.i64.wrap ((IntKind.i64.wrap ((IntKind.i64.wrap ((IntKind.i64.wrap (x1 + 1)) + 1)) + 1)) + 1)) (Val.n (Rea.result (List.getD z97 (Int.toNat x5) Ty.rea.dflt))) (Val.step (Rea.result (List.getD z97 (Int.toNat x5) Ty.rea.dflt))) (Val.text (Rea.result (List.getD z97 (Int.toNat x5) Ty.rea.dflt))) (Val.list (Rea.result (List.getD z97 (Int.toNat x5) Ty.rea.dflt))) (Val.columns (Rea.result (List.getD z97 (Int.toNat x5) Ty.rea.dflt))) (Val.rows (Rea.result (List.getD z97 (Int.toNat x5) Ty.rea.dflt)))))) ((fun (z96 : List Rea) => List.set z96 (Int.toNat x5) (Rea.mk (Rea.kind (List.getD z96 (Int.toNat x5) Ty.rea.dflt)) (Rea.n (List.getD z96 (Int.toNat x5) Ty.rea.dflt)) (Rea.time (List.getD z96 (Int.toNat x5) Ty.rea.dflt)) r1 (Val.re (Rea.result (List.getD z96 (Int.toNat x5) Ty.rea.dflt))))) ((fun (z95 : List Rea) => List.set z95 (Int.toNat x5) (Rea.mk (Rea.kind (List.getD z95 (Int.toNat x5) Ty.rea.dflt)) (Rea.n (List.getD z95 (Int.toNat x5) Ty.rea.dflt)) (IntKind.i64.wrap ((IntKind.i64.wrap (x1 + 1)) + 1)) (Rea.text (List.getD z95 (Int.toNat x5) Ty.rea.dflt)) (Val.re (Rea.result (List.getD z95 (Int.toNat x5) Ty.rea.dflt))))) ((fun (z94 : List Rea) => List.set z94 (Int.toNat x5) (Rea.mk (Rea.kind (List.getD z94 (Int.toNat x5) Ty.rea.dflt)) (IntKind.i64.wrap (x1 + 1)) (Rea.time (List.getD z94 (Int.toNat x5) Ty.rea.dflt)) (Rea.text (List.getD z94 (Int.toNat x5) Ty.rea.dflt)) (Val.re (Rea.result (List.getD z94 (Int.toNat x5) Ty.rea.dflt))))) (List.set x0 (Int.toNat x5) (Rea.mk x1 (Rea.n (List.getD x0 (Int.toNat x5) Ty.rea.dflt)) (Rea.time (List.getD x0 (Int.toNat x5) Ty.rea.dflt)) (Rea.text (List.getD x0 (Int.toNat x5) Ty.rea.dflt)) (Val.re (Rea.result (List.getD x0 (Int.toNat x5) Ty.rea.dflt)))))))))))) (Int.toNat x5) Ty.rea.dflt))) (IntKind.i64.wrap ((IntKind.i64.wrap ((IntKind.i64.wrap ((IntKind.i64.wrap ((IntKind.i64.wrap ((IntKind.i64.wrap ((IntKind.i64.wrap ((IntKind.i64.wrap (x1 + 1)) + 1)) + 1)) + 1)) + 1)) + 1)) + 1)) + 1))) (xAM r3), (Int.toNat x5) = (Int.toNat x5), List.length r3.2 = List.length (Val.list (Rea.result (List.getD ((fun (z100 : List Rea) => List.set z100 (Int.toNat x5) (Rea.mk (Rea.kind (List.getD z100 (Int.toNat x5) Ty.rea.dflt)) (Rea.n (List.getD z100 (Int.toNat x5) Ty.rea.dflt)) (Rea.time (List.getD z100 (Int.toNat x5) Ty.rea.dflt)) (Rea.text (List.getD z100 (Int.toNat x5) Ty.rea.dflt)) (Val.mk (Val.kind (Rea.result (List.getD z100 (Int.toNat x5) Ty.rea.dflt))) (Val.n (Rea.result (List.getD z100 (Int.toNat x5) Ty.rea.dflt))) (Val.step (Rea.result (List.getD z100 (Int.toNat x5) Ty.rea.dflt))) r2 (Val.list (Rea.result (List.getD z100 (Int.toNat x5) Ty.rea.dflt))) (Val.columns (Rea.result (List.getD z100 (Int.toNat x5) Ty.rea.dflt))) (Val.rows (Rea.result (List.getD z100 (Int.toNat x5) Ty.rea.dflt)))))) ((fun (z99 : List Rea) => List.set z99 (Int.toNat x5) (Rea.mk (Rea.kind (List.getD z99 (Int.toNat x5) Ty.rea.dflt)) (Rea.n (List.getD z99 (Int.toNat x5) Ty.rea.dflt)) (Rea.time (List.getD z99 (Int.toNat x5) Ty.rea.dflt)) (Rea.text (List.getD z99 (Int.toNat x5) Ty.rea.dflt)) (Val.mk (Val.kind (Rea.result (List.getD z99 (Int.toNat x5) Ty.rea.dflt))) (Val.n (Rea.result (List.getD z99 (Int.toNat x5) Ty.rea.dflt))) (IntKind.i64.wrap ((IntKind.i64.wrap ((IntKind.i64.wrap ((IntKind.i64.wrap ((IntKind.i64.wrap ((IntKind.i64.wrap (x1 + 1)) + 1)) + 1)) + 1)) + 1)) + 1)) (Val.text (Rea.result (List.getD z99 (Int.toNat x5) Ty.rea.dflt))) (Val.list (Rea.result (List.getD z99 (Int.toNat x5) Ty.rea.dflt))) (Val.columns (Rea.result (List.getD z99 (Int.toNat x5) Ty.rea.dflt))) (Val.rows (Rea.result (List.getD z99 (Int.toNat x5) Ty.rea.dflt)))))) ((fun (z98 : List Rea) => List.set z98 (Int.toNat x5) (Rea.mk (Rea.kind (List.getD z98 (Int.toNat x5) Ty.rea.dflt)) (Rea.n (List.getD z98 (Int.toNat x5) Ty.rea.dflt)) (Rea.time (List.getD z98 (Int.toNat x5) Ty.rea.dflt)) (Rea.text (List.getD z98 (Int.toNat x5) Ty.rea.dflt)) (Val.mk (Val.kind (Rea.result (List.getD z98 (Int.toNat x5) Ty.rea.dflt))) (IntKind.i64.wrap ((IntKind.i64.wrap ((IntKind.i64.wrap ((IntKind.i64.wrap ((IntKind.i64.wrap (x1 + 1)) + 1)) + 1)) + 1)) + 1)) (Val.step (Rea.result (List.getD z98 (Int.toNat x5) Ty.rea.dflt))) (Val.text (Rea.result (List.getD z98 (Int.toNat x5) Ty.rea.dflt))) (Val.list (Rea.result (List.getD z98 (Int.toNat x5) Ty.rea.dflt))) (Val.columns (Rea.result (List.getD z98 (Int.toNat x5) Ty.rea.dflt))) (Val.rows (Rea.result (List.getD z98 (Int.toNat x5) Ty.rea.dflt)))))) ((fun (z97 : List Rea) => List.set z97 (Int.toNat x5) (Rea.mk (Rea.kind (List.getD z97 (Int.toNat x5) Ty.rea.dflt)) (Rea.n (List.getD z97 (Int.toNat x5) Ty.rea.dflt)) (Rea.time (List.getD z97 (Int.toNat x5) Ty.rea.dflt)) (Rea.text (List.getD z97 (Int.toNat x5) Ty.rea.dflt)) (Val.mk (IntKind.i64.wrap ((IntKind.i64.wrap ((IntKind.i64.wrap ((IntKind.i64.wrap (x1 + 1)) + 1)) + 1)) + 1)) (Val.n (Rea.result (List.getD z97 (Int.toNat x5) Ty.rea.dflt))) (Val.step (Rea.result (List.getD z97 (Int.toNat x5) Ty.rea.dflt))) (Val.text (Rea.result (List.getD z97 (Int.toNat x5) Ty.rea.dflt))) (Val.list (Rea.result (List.getD z97 (Int.toNat x5) Ty.rea.dflt))) (Val.columns (Rea.result (List.getD z97 (Int.toNat x5) Ty.rea.dflt))) (Val.rows (Rea.result (List.getD z97 (Int.toNat x5) Ty.rea.dflt)))))) ((fun (z96 : List Rea) => List.set z96 (Int.toNat x5) (Rea.mk (Rea.kind (List.getD z96 (Int.toNat x5) Ty.rea.dflt)) (Rea.n (List.getD z96 (Int.toNat x5) Ty.rea.dflt)) (Rea.time (List.getD z96 (Int.toNat x5) Ty.rea.dflt)) r1 (Val.re (Rea.result (List.getD z96 (Int.toNat x5) Ty.rea.dflt))))) ((fun (z95 : List Rea) => List.set z95 (Int.toNat x5) (Rea.mk (Rea.kind (List.getD z95 (Int.toNat x5) Ty.rea.dflt)) (Rea.n (List.getD z95 (Int.toNat x5) Ty.rea.dflt)) (IntKind.i64.wrap ((IntKind.i64.wrap (x1 + 1)) + 1)) (Rea.text (List.getD z95 (Int.toNat x5) Ty.rea.dflt)) (Val.re (Rea.result (List.getD z95 (Int.toNat x5) Ty.rea.dflt))))) ((fun (z94 : List Rea) => List.set z94 (Int.toNat x5) (Rea.mk (Rea.kind (List.getD z94 (Int.toNat x5) Ty.rea.dflt)) (IntKind.i64.wrap (x1 + 1)) (Rea.time (List.getD z94 (Int.toNat x5) Ty.rea.dflt)) (Rea.text (List.getD z94 (Int.toNat x5) Ty.rea.dflt)) (Val.re (Rea.result (List.getD z94 (Int.toNat x5) Ty.rea.dflt))))) (List.set x0 (Int.toNat x5) (Rea.mk x1 (Rea.n (List.getD x0 (Int.toNat x5) Ty.rea.dflt)) (Rea.time (List.getD x0 (Int.toNat x5) Ty.rea.dflt)) (Rea.text (List.getD x0 (Int.toNat x5) Ty.rea.dflt)) (Val.re (Rea.result (List.getD x0 (Int.toNat x5) Ty.rea.dflt)))))))))))) (Int.toNat x5) Ty.rea.dflt))), (0 : Int) ≤ x5 ∧ x5 < (List.length ((fun (z101 : List Rea) => List.set z101 (Int.toNat x5) (Rea.mk (Rea.kind (List.getD z101 (Int.toNat x5) Ty.rea.dflt)) (Rea.n (List.getD z101 (Int.toNat x5) Ty.rea.dflt)) (Rea.time (List.getD z101 (Int.toNat x5) Ty.rea.dflt)) (Rea.text (List.getD z101 (Int.toNat x5) Ty.rea.dflt)) (Val.mk (Val.kind (Rea.result (List.getD z101 (Int.toNat x5) Ty.rea.dflt))) (Val.n (Rea.result (List.getD z101 (Int.toNat x5) Ty.rea.dflt))) (Val.step (Rea.result (List.getD z101 (Int.toNat x5) Ty.rea.dflt))) (Val.text (Rea.result (List.getD z101 (Int.toNat x5) Ty.rea.dflt))) r3.2 (Val.columns (Rea.result (List.getD z101 (Int.toNat x5) Ty.rea.dflt))) (Val.rows (Rea.result (List.getD z101 (Int.toNat x5) Ty.rea.dflt)))))) ((fun (z100 : List Rea) => List.set z100 (Int.toNat x5) (Rea.mk (Rea.kind (List.getD z100 (Int.toNat x5) Ty.rea.dflt)) (Rea.n (List.getD z100 (Int.toNat x5) Ty.rea.dflt)) (Rea.time (List.getD z100 (Int.toNat x5) Ty.rea.dflt)) (Rea.text (List.getD z100 (Int.toNat x5) Ty.rea.dflt)) (Val.mk (Val.kind (Rea.result (List.getD z100 (Int.toNat x5) Ty.rea.dflt))) (Val.n (Rea.result (List.getD z100 (Int.toNat x5) Ty.rea.dflt))) (Val.step (Rea.result (List.getD z100 (Int.toNat x5) Ty.rea.dflt))) r2 (Val.list (Rea.result (List.getD z100 (Int.toNat x5) Ty.rea.dflt))) (Val.columns (Rea.result (List.getD z100 (Int.toNat x5) Ty.rea.dflt))) (Val.rows (Rea.result (List.getD z100 (Int.toNat x5) Ty.rea.dflt)))))) ((fun (z99 : List Rea) => List.set z99 (Int.toNat x5) (Rea.mk (Rea.kind (List.getD z99 (Int.toNat x5) Ty.rea.dflt)) (Rea.n (List.getD z99 (Int.toNat x5) Ty.rea.dflt)) (Rea.time (List.getD z99 (Int.toNat x5) Ty.rea.dflt)) (Rea.text (List.getD z99 (Int.toNat x5) Ty.rea.dflt)) (Val.mk (Val.kind (Rea.result (List.getD z99 (Int.toNat x5) Ty.rea.dflt))) (Val.n (Rea.result (List.getD z99 (Int.toNat x5) Ty.rea.dflt))) (IntKind.i64.wrap ((IntKind.i64.wrap ((IntKind.i64.wrap ((IntKind.i64.wrap ((IntKind.i64.wrap ((IntKind.i64.wrap (x1 + 1)) + 1)) + 1)) + 1)) + 1)) + 1)) (Val.text (Rea.result (List.getD z99 (Int.toNat x5) Ty.rea.dflt))) (Val.list (Rea.result (List.getD z99 (Int.toNat x5) Ty.rea.dflt))) (Val.columns (Rea.result (List.getD z99 (Int.toNat x5) Ty.rea.dflt))) (Val.rows (Rea.result (List.getD z99 (Int.toNat x5) Ty.rea.dflt)))))) ((fun (z98 : List Rea) => List.set z98 (Int.toNat x5) (Rea.mk (Rea.kind (List.getD z98 (Int.toNat x5) Ty.rea.dflt)) (Rea.n (List.getD z98 (Int.toNat x5) Ty.rea.dflt)) (Rea.time (List.getD z98 (Int.toNat x5) Ty.rea.dflt)) (Rea.text (List.getD z98 (Int.toNat x5) Ty.rea.dflt)) (Val.mk (Val.kind (Rea.result (List.getD z98 (Int.toNat x5) Ty.rea.dflt))) (IntKind.i64.wrap ((IntKind.i64.wrap ((IntKind.i64.wrap ((IntKind.i64.wrap ((IntKind.i64.wrap (x1 + 1)) + 1)) + 1)) + 1)) + 1)) (Val.step (Rea.result (List.getD z98 (Int.toNat x5) Ty.rea.dflt))) (Val.text (Rea.result (List.getD z98 (Int.toNat x5) Ty.rea.dflt))) (Val.list (Rea.result (List.getD z98 (Int.toNat x5) Ty.rea.dflt))) (Val.columns (Rea.result (List.getD z98 (Int.toNat x5) Ty.rea.dflt))) (Val.rows (Rea.result (List.getD z98 (Int.toNat x5) Ty.rea.dflt)))))) ((fun (z97 : List Rea) => List.set z97 (Int.toNat x5) (Rea.mk (Rea.kind (List.getD z97 (Int.toNat x5) Ty.rea.dflt)) (Rea.n (List.getD z97 (Int.toNat x5) Ty.rea.dflt)) (Rea.time (List.getD z97 (Int.toNat x5) Ty.rea.dflt)) (Rea.text (List.getD z97 (Int.toNat x5) Ty.rea.dflt)) (Val.mk (IntKind.i64.wrap ((IntKind.i64.wrap ((IntKind.i64.wrap ((IntKind.i64.wrap (x1 + 1)) + 1)) + 1)) + 1)) (Val.n (Rea.result (List.getD z97 (Int.toNat x5) Ty.rea.dflt))) (Val.step (Rea.result (List.getD z97 (Int.toNat x5) Ty.rea.dflt))) (Val.text (Rea.result (List.getD z97 (Int.toNat x5) Ty.rea.dflt))) (Val.list (Rea.result (List.getD z97 (Int.toNat x5) Ty.rea.dflt))) (Val.columns (Rea.result (List.getD z97 (Int.toNat x5) Ty.rea.dflt))) (Val.rows (Rea.result (List.getD z97 (Int.toNat x5) Ty.rea.dflt)))))) ((fun (z96 : List Rea) => List.set z96 (Int.toNat x5) (Rea.mk (Rea.kind (List.getD z96 (Int.toNat x5) Ty.rea.dflt)) (Rea.n (List.getD z96 (Int.toNat x5) Ty.rea.dflt)) (Rea.time (List.getD z96 (Int.toNat x5) Ty.rea.dflt)) r1 (Val.re (Rea.result (List.getD z96 (Int.toNat x5) Ty.rea.dflt))))) ((fun (z95 : List Rea) => List.set z95 (Int.toNat x5) (Rea.mk (Rea.kind (List.getD z95 (Int.toNat x5) Ty.rea.dflt)) (Rea.n (List.getD z95 (Int.toNat x5) Ty.rea.dflt)) (IntKind.i64.wrap ((IntKind.i64.wrap (x1 + 1)) + 1)) (Rea.text (List.getD z95 (Int.toNat x5) Ty.rea.dflt)) (Val.re (Rea.result (List.getD z95 (Int.toNat x5) Ty.rea.dflt))))) ((fun (z94 : List Rea) => List.set z94 (Int.toNat x5) (Rea.mk (Rea.kind (List.getD z94 (Int.toNat x5) Ty.rea.dflt)) (IntKind.i64.wrap (x1 + 1)) (Rea.time (List.getD z94 (Int.toNat x5) Ty.rea.dflt)) (Rea.text (List.getD z94 (Int.toNat x5) Ty.rea.dflt)) (Val.re (Rea.result (List.getD z94 (Int.toNat x5) Ty.rea.dflt))))) (List.set x0 (Int.toNat x5) (Rea.mk x1 (Rea.n (List.getD x0 (Int.toNat x5) Ty.rea.dflt)) (Rea.time (List.getD x0 (Int.toNat x5) Ty.rea.dflt)) (Rea.text (List.getD x0 (Int.toNat x5) Ty.rea.dflt)) (Val.re (Rea.result (List.getD x0 (Int.toNat x5) Ty.rea.dflt)))))))))))))), AbC 80 (xCj (Val.columns (Rea.result (List.getD ((fun (z101 : List Rea) => List.set z101 (Int.toNat x5) (Rea.mk (Rea.kind (List.getD z101 (Int.toNat x5) Ty.rea.dflt)) (Rea.n (List.getD z101 (Int.toNat x5) Ty.rea.dflt)) (Rea.time (List.getD z101 (Int.toNat x5) Ty.rea.dflt)) (Rea.text (List.getD z101 (Int.toNat x5) Ty.rea.dflt)) (Val.mk (Val.kind (Rea.result (List.getD z101 (Int.toNat x5) Ty.rea.dflt))) (Val.n (Rea.result (List.getD z101 (Int.toNat x5) Ty.rea.dflt))) (Val.step (Rea.result (List.getD z101 (Int.toNat x5) Ty.rea.dflt))) (Val.text (Rea.result (List.getD z101 (Int.toNat x5) Ty.rea.dflt))) r3.2 (Val.columns (Rea.result (List.getD z101 (Int.toNat x5) Ty.rea.dflt))) (Val.rows (Rea.result (List.getD z101 (Int.toNat x5) Ty.rea.dflt)))))) ((fun (z100 : List Rea) => List.set z100 (Int.toNat x5) (Rea.mk (Rea.kind (List.getD z100 (Int.toNat x5) Ty.rea.dflt)) (Rea.n (List.getD z100 (Int.toNat x5) Ty.rea.dflt)) (Rea.time (List.getD z100 (Int.toNat x5) Ty.rea.dflt)) (Rea.text (List.getD z100 (Int.toNat x5) Ty.rea.dflt)) (Val.mk (Val.kind (Rea.result (List.getD z100 (Int.toNat x5) Ty.rea.dflt))) (Val.n (Rea.result (List.getD z100 (Int.toNat x5) Ty.rea.dflt))) (Val.step (Rea.result (List.getD z100 (Int.toNat x5) Ty.rea.dflt))) r2 (Val.list (Rea.result (List.getD z100 (Int.toNat x5) Ty.rea.dflt))) (Val.columns (Rea.result (List.getD z100 (Int.toNat x5) Ty.rea.dflt))) (Val.rows (Rea.result (List.getD z100 (Int.toNat x5) Ty.rea.dflt)))))) ((fun (z99 : List Rea) => List.set z99 (Int.toNat x5) (Rea.mk (Rea.kind (List.getD z99 (Int.toNat x5) Ty.rea.dflt)) (Rea.n (List.getD z99 (Int.toNat x5) Ty.rea.dflt)) (Rea.time (List.getD z99 (Int.toNat x5) Ty.rea.dflt)) (Rea.text (List.getD z99 (Int.toNat x5) Ty.rea.dflt)) (Val.mk (Val.kind (Rea.result (List.getD z99 (Int.toNat x5) Ty.rea.dflt))) (Val.n (Rea.result (List.getD z99 (Int.toNat x5) Ty.rea.dflt))) (IntKind.i64.wrap ((IntKind.i64.wrap ((IntKind.i64.wrap ((IntKind.i64.wrap ((IntKind.i64.wrap ((IntKind.i64.wrap (x1 + 1)) + 1)) + 1)) + 1)) + 1)) + 1)) (Val.text (Rea.result (List.getD z99 (Int.toNat x5) Ty.rea.dflt))) (Val.list (Rea.result (List.getD z99 (Int.toNat x5) Ty.rea.dflt))) (Val.columns (Rea.result (List.getD z99 (Int.toNat x5) Ty.rea.dflt))) (Val.rows (Rea.result (List.getD z99 (Int.toNat x5) Ty.rea.dflt)))))) ((fun (z98 : List Rea) => List.set z98 (Int.toNat x5) (Rea.mk (Rea.kind (List.getD z98 (Int.toNat x5) Ty.rea.dflt)) (Rea.n (List.getD z98 (Int.toNat x5) Ty.rea.dflt)) (Rea.time (List.getD z98 (Int.toNat x5) Ty.rea.dflt)) (Rea.text (List.getD z98 (Int.toNat x5) Ty.rea.dflt)) (Val.mk (Val.kind (Rea.result (List.getD z98 (Int.toNat x5) Ty.rea.dflt))) (IntKind.i64.wrap ((IntKind.i64.wrap ((IntKind.i64.wrap ((IntKind.i64.wrap ((IntKind.i64.wrap (x1 + 1)) + 1)) + 1)) + 1)) + 1)) (Val.step (Rea.result (List.getD z98 (Int.toNat x5) Ty.rea.dflt))) (Val.text (Rea.result (List.getD z98 (Int.toNat x5) Ty.rea.dflt))) (Val.list (Rea.result (List.getD z98 (Int.toNat x5) Ty.rea.dflt))) (Val.columns (Rea.result (List.getD z98 (Int.toNat x5) Ty.rea.dflt))) (Val.rows (Rea.result (List.getD z98 (Int.toNat x5) Ty.rea.dflt)))))) ((fun (z97 : List Rea) => List.set z97 (Int.toNat x5) (Rea.mk (Rea.kind (List.getD z97 (Int.toNat x5) Ty.rea.dflt)) (Rea.n (List.getD z97 (Int.toNat x5) Ty.rea.dflt)) (Rea.time (List.getD z97 (Int.toNat x5) Ty.rea.dflt)) (Rea.text (List.getD z97 (Int.toNat x5) Ty.rea.dflt)) (Val.mk (IntKind.i64.wrap ((IntKind.i64.wrap ((IntKind.i64.wrap ((IntKind.i64.wrap (x1 + 1)) + 1)) + 1)) + 1)) (Val.n (Rea.result (List.getD z97 (Int.toNat x5) Ty.rea.dflt))) (Val.step (Rea.result (List.getD z97 (Int.toNat x5) Ty.rea.dflt))) (Val.text (Rea.result (List.getD z97 (Int.toNat x5) Ty.rea.dflt))) (Val.list (Rea.result (List.getD z97 (Int.toNat x5) Ty.rea.dflt))) (Val.columns (Rea.result (List.getD z97 (Int.toNat x5) Ty.rea.dflt))) (Val.rows (Rea.result (List.getD z97 (Int.toNat x5) Ty.rea.dflt)))))) ((fun (z96 : List Rea) => List.set z96 (Int.toNat x5) (Rea.mk (Rea.kind (List.getD z96 (Int.toNat x5) Ty.rea.dflt)) (Rea.n (List.getD z96 (Int.toNat x5) Ty.rea.dflt)) (Rea.time (List.getD z96 (Int.toNat x5) Ty.rea.dflt)) r1 (Val.re (Rea.result (List.getD z96 (Int.toNat x5) Ty.rea.dflt))))) ((fun (z95 : List Rea) => List.set z95 (Int.toNat x5) (Rea.mk (Rea.kind (List.getD z95 (Int.toNat x5) Ty.rea.dflt)) (Rea.n (List.getD z95 (Int.toNat x5) Ty.rea.dflt)) (IntKind.i64.wrap ((IntKind.i64.wrap (x1 + 1)) + 1)) (Rea.text (List.getD z95 (Int.toNat x5) Ty.rea.dflt)) (Val.re (Rea.result (List.getD z95 (Int.toNat x5) Ty.rea.dflt))))) ((fun (z94 : List Rea) => List.set z94 (Int.toNat x5) (Rea.mk (Rea.kind (List.getD z94 (Int.toNat x5) Ty.rea.dflt)) (IntKind.i64.wrap (x1 + 1)) (Rea.time (List.getD z94 (Int.toNat x5) Ty.rea.dflt)) (Rea.text (List.getD z94 (Int.toNat x5) Ty.rea.dflt)) (Val.re (Rea.result (List.getD z94 (Int.toNat x5) Ty.rea.dflt))))) (List.set x0 (Int.toNat x5) (Rea.mk x1 (Rea.n (List.getD x0 (Int.toNat x5) Ty.rea.dflt)) (Rea.time (List.getD x0 (Int.toNat x5) Ty.rea.dflt)) (Rea.text (List.getD x0 (Int.toNat x5) Ty.rea.dflt)) (Val.re (Rea.result (List.getD x0 (Int.toNat x5) Ty.rea.dflt))))))))))))) (Int.toNat x5) Ty.rea.dflt))) r3.1) (xA7 r4), (Int.toNat x5) = (Int.toNat x5), List.length r4.2 = List.length (Val.columns (Rea.result (List.getD ((fun (z101 : List Rea) => List.set z101 (Int.toNat x5) (Rea.mk (Rea.kind (List.getD z101 (Int.toNat x5) Ty.rea.dflt)) (Rea.n (List.getD z101 (Int.toNat x5) Ty.rea.dflt)) (Rea.time (List.getD z101 (Int.toNat x5) Ty.rea.dflt)) (Rea.text (List.getD z101 (Int.toNat x5) Ty.rea.dflt)) (Val.mk (Val.kind (Rea.result (List.getD z101 (Int.toNat x5) Ty.rea.dflt))) (Val.n (Rea.result (List.getD z101 (Int.toNat x5) Ty.rea.dflt))) (Val.step (Rea.result (List.getD z101 (Int.toNat x5) Ty.rea.dflt))) (Val.text (Rea.result (List.getD z101 (Int.toNat x5) Ty.rea.dflt))) r3.2 (Val.columns (Rea.result (List.getD z101 (Int.toNat x5) Ty.rea.dflt))) (Val.rows (Rea.result (List.getD z101 (Int.toNat x5) Ty.rea.dflt)))))) ((fun (z100 : List Rea) => List.set z100 (Int.toNat x5) (Rea.mk (Rea.kind (List.getD z100 (Int.toNat x5) Ty.rea.dflt)) (Rea.n (List.getD z100 (Int.toNat x5) Ty.rea.dflt)) (Rea.time (List.getD z100 (Int.toNat x5) Ty.rea.dflt)) (Rea.text (List.getD z100 (Int.toNat x5) Ty.rea.dflt)) (Val.mk (Val.kind (Rea.result (List.getD z100 (Int.toNat x5) Ty.rea.dflt))) (Val.n (Rea.result (List.getD z100 (Int.toNat x5) Ty.rea.dflt))) (Val.step (Rea.result (List.getD z100 (Int.toNat x5) Ty.rea.dflt))) r2 (Val.list (Rea.result (List.getD z100 (Int.toNat x5) Ty.rea.dflt))) (Val.columns (Rea.result (List.getD z100 (Int.toNat x5) Ty.rea.dflt))) (Val.rows (Rea.result (List.getD z100 (Int.toNat x5) Ty.rea.dflt)))))) ((fun (z99 : List Rea) => List.set z99 (Int.toNat x5) (Rea.mk (Rea.kind (List.getD z99 (Int.toNat x5) Ty.rea.dflt)) (Rea.n (List.getD z99 (Int.toNat x5) Ty.rea.dflt)) (Rea.time (List.getD z99 (Int.toNat x5) Ty.rea.dflt)) (Rea.text (List.getD z99 (Int.toNat x5) Ty.rea.dflt)) (Val.mk (Val.kind (Rea.result (List.getD z99 (Int.toNat x5) Ty.rea.dflt))) (Val.n (Rea.result (List.getD z99 (Int.toNat x5) Ty.rea.dflt))) (IntKind.i64.wrap ((IntKind.i64.wrap ((IntKind.i64.wrap ((IntKind.i64.wrap ((IntKind.i64.wrap ((IntKind.i64.wrap (x1 + 1)) + 1)) + 1)) + 1)) + 1)) + 1)) (Val.text (Rea.result (List.getD z99 (Int.toNat x5) Ty.rea.dflt))) (Val.list (Rea.result (List.getD z99 (Int.toNat x5) Ty.rea.dflt))) (Val.columns (Rea.result (List.getD z99 (Int.toNat x5) Ty.rea.dflt))) (Val.rows (Rea.result (List.getD z99 (Int.toNat x5) Ty.rea.dflt)))))) ((fun (z98 : List Rea) => List.set z98 (Int.toNat x5) (Rea.mk (Rea.kind (List.getD z98 (Int.toNat x5) Ty.rea.dflt)) (Rea.n (List.getD z98 (Int.toNat x5) Ty.rea.dflt)) (Rea.time (List.getD z98 (Int.toNat x5) Ty.rea.dflt)) (Rea.text (List.getD z98 (Int.toNat x5) Ty.rea.dflt)) (Val.mk (Val.kind (Rea.result (List.getD z98 (Int.toNat x5) Ty.rea.dflt))) (IntKind.i64.wrap ((IntKind.i64.wrap ((IntKind.i64.wrap ((IntKind.i64.wrap ((IntKind.i64.wrap (x1 + 1)) + 1)) + 1)) + 1)) + 1)) (Val.step (Rea.result (List.getD z98 (Int.toNat x5) Ty.rea.dflt))) (Val.text (Rea.result (List.getD z98 (Int.toNat x5) Ty.rea.dflt))) (Val.list (Rea.result (List.getD z98 (Int.toNat x5) Ty.rea.dflt))) (Val.columns (Rea.result (List.getD z98 (Int.toNat x5) Ty.rea.dflt))) (Val.rows (Rea.result (List.getD z98 (Int.toNat x5) Ty.rea.dflt)))))) ((fun (z97 : List Rea) => List.set z97 (Int.toNat x5) (Rea.mk (Rea.kind (List.getD z97 (Int.toNat x5) Ty.rea.dflt)) (Rea.n (List.getD z97 (Int.toNat x5) Ty.rea.dflt)) (Rea.time (List.getD z97 (Int.toNat x5) Ty.rea.dflt)) (Rea.text (List.getD z97 (Int.toNat x5) Ty.rea.dflt)) (Val.mk (IntKind.i64.wrap ((IntKind.i64.wrap ((IntKind.i64.wrap ((IntKind.i64.wrap (x1 + 1)) + 1)) + 1)) + 1)) (Val.n (Rea.result (List.getD z97 (Int.toNat x5) Ty.rea.dflt))) (Val.step (Rea.result (List.getD z97 (Int.toNat x5) Ty.rea.dflt))) (Val.text (Rea.result (List.getD z97 (Int.toNat x5) Ty.rea.dflt))) (Val.list (Rea.result (List.getD z97 (Int.toNat x5) Ty.rea.dflt))) (Val.columns (Rea.result (List.getD z97 (Int.toNat x5) Ty.rea.dflt))) (Val.rows (Rea.result (List.getD z97 (Int.toNat x5) Ty.rea.dflt)))))) ((fun (z96 : List Rea) => List.set z96 (Int.toNat x5) (Rea.mk (Rea.kind (List.getD z96 (Int.toNat x5) Ty.rea.dflt)) (Rea.n (List.getD z96 (Int.toNat x5) Ty.rea.dflt)) (Rea.time (List.getD z96 (Int.toNat x5) Ty.rea.dflt)) r1 (Val.re (Rea.result (List.getD z96 (Int.toNat x5) Ty.rea.dflt))))) ((fun (z95 : List Rea) => List.set z95 (Int.toNat x5) (Rea.mk (Rea.kind (List.getD z95 (Int.toNat x5) Ty.rea.dflt)) (Rea.n (List.getD z95 (Int.toNat x5) Ty.rea.dflt)) (IntKind.i64.wrap ((IntKind.i64.wrap (x1 + 1)) + 1)) (Rea.text (List.getD z95 (Int.toNat x5) Ty.rea.dflt)) (Val.re (Rea.result (List.getD z95 (Int.toNat x5) Ty.rea.dflt))))) ((fun (z94 : List Rea) => List.set z94 (Int.toNat x5) (Rea.mk (Rea.kind (List.getD z94 (Int.toNat x5) Ty.rea.dflt)) (IntKind.i64.wrap (x1 + 1)) (Rea.time (List.getD z94 (Int.toNat x5) Ty.rea.dflt)) (Rea.text (List.getD z94 (Int.toNat x5) Ty.rea.dflt)) (Val.re (Rea.result (List.getD z94 (Int.toNat x5) Ty.rea.dflt))))) (List.set x0 (Int.toNat x5) (Rea.mk x1 (Rea.n (List.getD x0 (Int.toNat x5) Ty.rea.dflt)) (Rea.time (List.getD x0 (Int.toNat x5) Ty.rea.dflt)) (Rea.text (List.getD x0 (Int.toNat x5) Ty.rea.dflt)) (Val.re (Rea.result (List.getD x0 (Int.toNat x5) Ty.rea.dflt))))))))))))) (Int.toNat x5) Ty.rea.dflt))), (0 : Int) ≤ x5 ∧ x5 < (List.length ((fun (z102 : List Rea) => List.set z102 (Int.toNat x5) (Rea.mk (Rea.kind (List.getD z102 (Int.toNat x5) Ty.rea.dflt)) (Rea.n (List.getD z102 (Int.toNat x5) Ty.rea.dflt)) (Rea.time (List.getD z102 (Int.toNat x5) Ty.rea.dflt)) (Rea.text (List.getD z102 (Int.toNat x5) Ty.rea.dflt)) (Val.mk (Val.kind (Rea.result (List.getD z102 (Int.toNat x5) Ty.rea.dflt))) (Val.n (Rea.result (List.getD z102 (Int.toNat x5) Ty.rea.dflt))) (Val.step (Rea.result (List.getD z102 (Int.toNat x5) Ty.rea.dflt))) (Val.text (Rea.result (List.getD z102 (Int.toNat x5) Ty.rea.dflt))) (Val.list (Rea.result (List.getD z102 (Int.toNat x5) Ty.rea.dflt))) r4.2 (Val.rows (Rea.result (List.getD z102 (Int.toNat x5) Ty.rea.dflt)))))) ((fun (z101 : List Rea) => List.set z101 (Int.toNat x5) (Rea.mk (Rea.kind (List.getD z101 (Int.toNat x5) Ty.rea.dflt)) (Rea.n (List.getD z101 (Int.toNat x5) Ty.rea.dflt)) (Rea.time (List.getD z101 (Int.toNat x5) Ty.rea.dflt)) (Rea.text (List.getD z101 (Int.toNat x5) Ty.rea.dflt)) (Val.mk (Val.kind (Rea.result (List.getD z101 (Int.toNat x5) Ty.rea.dflt))) (Val.n (Rea.result (List.getD z101 (Int.toNat x5) Ty.rea.dflt))) (Val.step (Rea.result (List.getD z101 (Int.toNat x5) Ty.rea.dflt))) (Val.text (Rea.result (List.getD z101 (Int.toNat x5) Ty.rea.dflt))) r3.2 (Val.columns (Rea.result (List.getD z101 (Int.toNat x5) Ty.rea.dflt))) (Val.rows (Rea.result (List.getD z101 (Int.toNat x5) Ty.rea.dflt)))))) ((fun (z100 : List Rea) => List.set z100 (Int.toNat x5) (Rea.mk (Rea.kind (List.getD z100 (Int.toNat x5) Ty.rea.dflt)) (Rea.n (List.getD z100 (Int.toNat x5) Ty.rea.dflt)) (Rea.time (List.getD z100 (Int.toNat x5) Ty.rea.dflt)) (Rea.text (List.getD z100 (Int.toNat x5) Ty.rea.dflt)) (Val.mk (Val.kind (Rea.result (List.getD z100 (Int.toNat x5) Ty.rea.dflt))) (Val.n (Rea.result (List.getD z100 (Int.toNat x5) Ty.rea.dflt))) (Val.step (Rea.result (List.getD z100 (Int.toNat x5) Ty.rea.dflt))) r2 (Val.list (Rea.result (List.getD z100 (Int.toNat x5) Ty.rea.dflt))) (Val.columns (Rea.result (List.getD z100 (Int.toNat x5) Ty.rea.dflt))) (Val.rows (Rea.result (List.getD z100 (Int.toNat x5) Ty.rea.dflt)))))) ((fun (z99 : List Rea) => List.set z99 (Int.toNat x5) (Rea.mk (Rea.kind (List.getD z99 (Int.toNat x5) Ty.rea.dflt)) (Rea.n (List.getD z99 (Int.toNat x5) Ty.rea.dflt)) (Rea.time (List.getD z99 (Int.toNat x5) Ty.rea.dflt)) (Rea.text (List.getD z99 (Int.toNat x5) Ty.rea.dflt)) (Val.mk (Val.kind (Rea.result (List.getD z99 (Int.toNat x5) Ty.rea.dflt))) (Val.n (Rea.result (List.getD z99 (Int.toNat x5) Ty.rea.dflt))) (IntKind.i64.wrap ((IntKind.i64.wrap ((IntKind.i64.wrap ((IntKind.i64.wrap ((IntKind.i64.wrap ((IntKind.i64.wrap (x1 + 1)) + 1)) + 1)) + 1)) + 1)) + 1)) (Val.text (Rea.result (List.getD z99 (Int.toNat x5) Ty.rea.dflt))) (Val.list (Rea.result (List.getD z99 (Int.toNat x5) Ty.rea.dflt))) (Val.columns (Rea.result (List.getD z99 (Int.toNat x5) Ty.rea.dflt))) (Val.rows (Rea.result (List.getD z99 (Int.toNat x5) Ty.rea.dflt)))))) ((fun (z98 : List Rea) => List.set z98 (Int.toNat x5) (Rea.mk (Rea.kind (List.getD z98 (Int.toNat x5) Ty.rea.dflt)) (Rea.n (List.getD z98 (Int.toNat x5) Ty.rea.dflt)) (Rea.time (List.getD z98 (Int.toNat x5) Ty.rea.dflt)) (Rea.text (List.getD z98 (Int.toNat x5) Ty.rea.dflt)) (Val.mk (Val.kind (Rea.result (List.getD z98 (Int.toNat x5) Ty.rea.dflt))) (IntKind.i64.wrap ((IntKind.i64.wrap ((IntKind.i64.wrap ((IntKind.i64.wrap ((IntKind.i64.wrap (x1 + 1)) + 1)) + 1)) + 1)) + 1)) (Val.step (Rea.result (List.getD z98 (Int.toNat x5) Ty.rea.dflt))) (Val.text (Rea.result (List.getD z98 (Int.toNat x5) Ty.rea.dflt))) (Val.list (Rea.result (List.getD z98 (Int.toNat x5) Ty.rea.dflt))) (Val.columns (Rea.result (List.getD z98 (Int.toNat x5) Ty.rea.dflt))) (Val.rows (Rea.result (List.getD z98 (Int.toNat x5) Ty.rea.dflt)))))) ((fun (z97 : List Rea) => List.set z97 (Int.toNat x5) (Rea.mk (Rea.kind (List.getD z97 (Int.toNat x5) Ty.rea.dflt)) (Rea.n (List.getD z97 (Int.toNat x5) Ty.rea.dflt)) (Rea.time (List.getD z97 (Int.toNat x5) Ty.rea.dflt)) (Rea.text (List.getD z97 (Int.toNat x5) Ty.rea.dflt)) (Val.mk (IntKind.i64.wrap ((IntKind.i64.wrap ((IntKind.i64.wrap ((IntKind.i64.wrap (x1 + 1)) + 1)) + 1)) + 1)) (Val.n (Rea.result (List.getD z97 (Int.toNat x5) Ty.rea.dflt))) (Val.step (Rea.result (List.getD z97 (Int.toNat x5) Ty.rea.dflt))) (Val.text (Rea.result (List.getD z97 (Int.toNat x5) Ty.rea.dflt))) (Val.list (Rea.result (List.getD z97 (Int.toNat x5) Ty.rea.dflt))) (Val.columns (Rea.result (List.getD z97 (Int.toNat x5) Ty.rea.dflt))) (Val.rows (Rea.result (List.getD z97 (Int.toNat x5) Ty.rea.dflt)))))) ((fun (z96 : List Rea) => List.set z96 (Int.toNat x5) (Rea.mk (Rea.kind (List.getD z96 (Int.toNat x5) Ty.rea.dflt)) (Rea.n (List.getD z96 (Int.toNat x5) Ty.rea.dflt)) (Rea.time (List.getD z96 (Int.toNat x5) Ty.rea.dflt)) r1 (Val.re (Rea.result (List.getD z96 (Int.toNat x5) Ty.rea.dflt))))) ((fun (z95 : List Rea) => List.set z95 (Int.toNat x5) (Rea.mk (Rea.kind (List.getD z95 (Int.toNat x5) Ty.rea.dflt)) (Rea.n (List.getD z95 (Int.toNat x5) Ty.rea.dflt)) (IntKind.i64.wrap ((IntKind.i64.wrap (x1 + 1)) + 1)) (Rea.text (List.getD z95 (Int.toNat x5) Ty.rea.dflt)) (Val.re (Rea.result (List.getD z95 (Int.toNat x5) Ty.rea.dflt))))) ((fun (z94 : List Rea) => List.set z94 (Int.toNat x5) (Rea.mk (Rea.kind (List.getD z94 (Int.toNat x5) Ty.rea.dflt)) (IntKind.i64.wrap (x1 + 1)) (Rea.time (List.getD z94 (Int.toNat x5) Ty.rea.dflt)) (Rea.text (List.getD z94 (Int.toNat x5) Ty.rea.dflt)) (Val.re (Rea.result (List.getD z94 (Int.toNat x5) Ty.rea.dflt))))) (List.set x0 (Int.toNat x5) (Rea.mk x1 (Rea.n (List.getD x0 (Int.toNat x5) Ty.rea.dflt)) (Rea.time (List.getD x0 (Int.toNat x5) Ty.rea.dflt)) (Rea.text (List.getD x0 (Int.toNat x5) Ty.rea.dflt)) (Val.re (Rea.result (List.getD x0 (Int.toNat x5) Ty.rea.dflt))))))))))))))), AbC 81 (xCP (Val.rows (Rea.result (List.getD ((fun (z102 : List Rea) => List.set z102 (Int.toNat x5) (Rea.mk (Rea.kind (List.getD z102 (Int.toNat x5) Ty.rea.dflt)) (Rea.n (List.getD z102 (Int.toNat x5) Ty.rea.dflt)) (Rea.time (List.getD z102 (Int.toNat x5) Ty.rea.dflt)) (Rea.text (List.getD z102 (Int.toNat x5) Ty.rea.dflt)) (Val.mk (Val.kind (Rea.result (List.getD z102 (Int.toNat x5) Ty.rea.dflt))) (Val.n (Rea.result (List.getD z102 (Int.toNat x5) Ty.rea.dflt))) (Val.step (Rea.result (List.getD z102 (Int.toNat x5) Ty.rea.dflt))) (Val.text (Rea.result (List.getD z102 (Int.toNat x5) Ty.rea.dflt))) (Val.list (Rea.result (List.getD z102 (Int.toNat x5) Ty.rea.dflt))) r4.2 (Val.rows (Rea.result (List.getD z102 (Int.toNat x5) Ty.rea.dflt)))))) ((fun (z101 : List Rea) => List.set z101 (Int.toNat x5) (Rea.mk (Rea.kind (List.getD z101 (Int.toNat x5) Ty.rea.dflt)) (Rea.n (List.getD z101 (Int.toNat x5) Ty.rea.dflt)) (Rea.time (List.getD z101 (Int.toNat x5) Ty.rea.dflt)) (Rea.text (List.getD z101 (Int.toNat x5) Ty.rea.dflt)) (Val.mk (Val.kind (Rea.result (List.getD z101 (Int.toNat x5) Ty.rea.dflt))) (Val.n (Rea.result (List.getD z101 (Int.toNat x5) Ty.rea.dflt))) (Val.step (Rea.result (List.getD z101 (Int.toNat x5) Ty.rea.dflt))) (Val.text (Rea.result (List.getD z101 (Int.toNat x5) Ty.rea.dflt))) r3.2 (Val.columns (Rea.result (List.getD z101 (Int.toNat x5) Ty.rea.dflt))) (Val.rows (Rea.result (List.getD z101 (Int.toNat x5) Ty.rea.dflt)))))) ((fun (z100 : List Rea) => List.set z100 (Int.toNat x5) (Rea.mk (Rea.kind (List.getD z100 (Int.toNat x5) Ty.rea.dflt)) (Rea.n (List.getD z100 (Int.toNat x5) Ty.rea.dflt)) (Rea.time (List.getD z100 (Int.toNat x5) Ty.rea.dflt)) (Rea.text (List.getD z100 (Int.toNat x5) Ty.rea.dflt)) (Val.mk (Val.kind (Rea.result (List.getD z100 (Int.toNat x5) Ty.rea.dflt))) (Val.n (Rea.result (List.getD z100 (Int.toNat x5) Ty.rea.dflt))) (Val.step (Rea.result (List.getD z100 (Int.toNat x5) Ty.rea.dflt))) r2 (Val.list (Rea.result (List.getD z100 (Int.toNat x5) Ty.rea.dflt))) (Val.columns (Rea.result (List.getD z100 (Int.toNat x5) Ty.rea.dflt))) (Val.rows (Rea.result (List.getD z100 (Int.toNat x5) Ty.rea.dflt)))))) ((fun (z99 : List Rea) => List.set z99 (Int.toNat x5) (Rea.mk (Rea.kind (List.getD z99 (Int.toNat x5) Ty.rea.dflt)) (Rea.n (List.getD z99 (Int.toNat x5) Ty.rea.dflt)) (Rea.time (List.getD z99 (Int.toNat x5) Ty.rea.dflt)) (Rea.text (List.getD z99 (Int.toNat x5) Ty.rea.dflt)) (Val.mk (Val.kind (Rea.result (List.getD z99 (Int.toNat x5) Ty.rea.dflt))) (Val.n (Rea.result (List.getD z99 (Int.toNat x5) Ty.rea.dflt))) (IntKind.i64.wrap ((IntKind.i64.wrap ((IntKind.i64.wrap ((IntKind.i64.wrap ((IntKind.i64.wrap ((IntKind.i64.wrap (x1 + 1)) + 1)) + 1)) + 1)) + 1)) + 1)) (Val.text (Rea.result (List.getD z99 (Int.toNat x5) Ty.rea.dflt))) (Val.list (Rea.result (List.getD z99 (Int.toNat x5) Ty.rea.dflt))) (Val.columns (Rea.result (List.getD z99 (Int.toNat x5) Ty.rea.dflt))) (Val.rows (Rea.result (List.getD z99 (Int.toNat x5) Ty.rea.dflt)))))) ((fun (z98 : List Rea) => List.set z98 (Int.toNat x5) (Rea.mk (Rea.kind (List.getD z98 (Int.toNat x5) Ty.rea.dflt)) (Rea.n (List.getD z98 (Int.toNat x5) Ty.rea.dflt)) (Rea.time (List.getD z98 (Int.toNat x5) Ty.rea.dflt)) (Rea.text (List.getD z98 (Int.toNat x5) Ty.rea.dflt)) (Val.mk (Val.kind (Rea.result (List.getD z98 (Int.toNat x5) Ty.rea.dflt))) (IntKind.i64.wrap ((IntKind.i64.wrap ((IntKind.i64.wrap ((IntKind.i64.wrap ((IntKind.i64.wrap (x1 + 1)) + 1)) + 1)) + 1)) + 1)) (Val.step (Rea.result (List.getD z98 (Int.toNat x5) Ty.rea.dflt))) (Val.text (Rea.result (List.getD z98 (Int.toNat x5) Ty.rea.dflt))) (Val.list (Rea.result (List.getD z98 (Int.toNat x5) Ty.rea.dflt))) (Val.columns (Rea.result (List.getD z98 (Int.toNat x5) Ty.rea.dflt))) (Val.rows (Rea.result (List.getD z98 (Int.toNat x5) Ty.rea.dflt)))))) ((fun (z97 : List Rea) => List.set z97 (Int.toNat x5) (Rea.mk (Rea.kind (List.getD z97 (Int.toNat x5) Ty.rea.dflt)) (Rea.n (List.getD z97 (Int.toNat x5) Ty.rea.dflt)) (Rea.time (List.getD z97 (Int.toNat x5) Ty.rea.dflt)) (Rea.text (List.getD z97 (Int.toNat x5) Ty.rea.dflt)) (Val.mk (IntKind.i64.wrap ((IntKind.i64.wrap ((IntKind.i64.wrap ((IntKind.i64.wrap (x1 + 1)) + 1)) + 1)) + 1)) (Val.n (Rea.result (List.getD z97 (Int.toNat x5) Ty.rea.dflt))) (Val.step (Rea.result (List.getD z97 (Int.toNat x5) Ty.rea.dflt))) (Val.text (Rea.result (List.getD z97 (Int.toNat x5) Ty.rea.dflt))) (Val.list (Rea.result (List.getD z97 (Int.toNat x5) Ty.rea.dflt))) (Val.columns (Rea.result (List.getD z97 (Int.toNat x5) Ty.rea.dflt))) (Val.rows (Rea.result (List.getD z97 (Int.toNat x5) Ty.rea.dflt)))))) ((fun (z96 : List Rea) => List.set z96 (Int.toNat x5) (Rea.mk (Rea.kind (List.getD z96 (Int.toNat x5) Ty.rea.dflt)) (Rea.n (List.getD z96 (Int.toNat x5) Ty.rea.dflt)) (Rea.time (List.getD z96 (Int.toNat x5) Ty.rea.dflt)) r1 (Val.re (Rea.result (List.getD z96 (Int.toNat x5) Ty.rea.dflt))))) ((fun (z95 : List Rea) => List.set z95 (Int.toNat x5) (Rea.mk (Rea.kind (List.getD z95 (Int.toNat x5) Ty.rea.dflt)) (Rea.n (List.getD z95 (Int.toNat x5) Ty.rea.dflt)) (IntKind.i64.wrap ((IntKind.i64.wrap (x1 + 1)) + 1)) (Rea.text (List.getD z95 (Int.toNat x5) Ty.rea.dflt)) (Val.re (Rea.result (List.getD z95 (Int.toNat x5) Ty.rea.dflt))))) ((fun (z94 : List Rea) => List.set z94 (Int.toNat x5) (Rea.mk (Rea.kind (List.getD z94 (Int.toNat x5) Ty.rea.dflt)) (IntKind.i64.wrap (x1 + 1)) (Rea.time (List.getD z94 (Int.toNat x5) Ty.rea.dflt)) (Rea.text (List.getD z94 (Int.toNat x5) Ty.rea.dflt)) (Val.re (Rea.result (List.getD z94 (Int.toNat x5) Ty.rea.dflt))))) (List.set x0 (Int.toNat x5) (Rea.mk x1 (Rea.n (List.getD x0 (Int.toNat x5) Ty.rea.dflt)) (Rea.time (List.getD x0 (Int.toNat x5) Ty.rea.dflt)) (Rea.text (List.getD x0 (Int.toNat x5) Ty.rea.dflt)) (Val.re (Rea.result (List.getD x0 (Int.toNat x5) Ty.rea.dflt)))))))))))))) (Int.toNat x5) Ty.rea.dflt))) r4.1) (xBG r5), (Int.toNat x5) = (Int.toNat x5), List.length r5.2 = List.length (Val.rows (Rea.result (List.getD ((fun (z102 : List Rea) => List.set z102 (Int.toNat x5) (Rea.mk (Rea.kind (List.getD z102 (Int.toNat x5) Ty.rea.dflt)) (Rea.n (List.getD z102 (Int.toNat x5) Ty.rea.dflt)) (Rea.time (List.getD z102 (Int.toNat x5) Ty.rea.dflt)) (Rea.text (List.getD z102 (Int.toNat x5) Ty.rea.dflt)) (Val.mk (Val.kind (Rea.result (List.getD z102 (Int.toNat x5) Ty.rea.dflt))) (Val.n (Rea.result (List.getD z102 (Int.toNat x5) Ty.rea.dflt))) (Val.step (Rea.result (List.getD z102 (Int.toNat x5) Ty.rea.dflt))) (Val.text (Rea.result (List.getD z102 (Int.toNat x5) Ty.rea.dflt))) (Val.list (Rea.result (List.getD z102 (Int.toNat x5) Ty.rea.dflt))) r4.2 (Val.rows (Rea.result (List.getD z102 (Int.toNat x5) Ty.rea.dflt)))))) ((fun (z101 : List Rea) => List.set z101 (Int.toNat x5) (Rea.mk (Rea.kind (List.getD z101 (Int.toNat x5) Ty.rea.dflt)) (Rea.n (List.getD z101 (Int.toNat x5) Ty.rea.dflt)) (Rea.time (List.getD z101 (Int.toNat x5) Ty.rea.dflt)) (Rea.text (List.getD z101 (Int.toNat x5) Ty.rea.dflt)) (Val.mk (Val.kind (Rea.result (List.getD z101 (Int.toNat x5) Ty.rea.dflt))) (Val.n (Rea.result (List.getD z101 (Int.toNat x5) Ty.rea.dflt))) (Val.step (Rea.result (List.getD z101 (Int.toNat x5) Ty.rea.dflt))) (Val.text (Rea.result (List.getD z101 (Int.toNat x5) Ty.rea.dflt))) r3.2 (Val.columns (Rea.result (List.getD z101 (Int.toNat x5) Ty.rea.dflt))) (Val.rows (Rea.result (List.getD z101 (Int.toNat x5) Ty.rea.dflt)))))) ((fun (z100 : List Rea) => List.set z100 (Int.toNat x5) (Rea.mk (Rea.kind (List.getD z100 (Int.toNat x5) Ty.rea.dflt)) (Rea.n (List.getD z100 (Int.toNat x5) Ty.rea.dflt)) (Rea.time (List.getD z100 (Int.toNat x5) Ty.rea.dflt)) (Rea.text (List.getD z100 (Int.toNat x5) Ty.rea.dflt)) (Val.mk (Val.kind (Rea.result (List.getD z100 (Int.toNat x5) Ty.rea.dflt))) (Val.n (Rea.result (List.getD z100 (Int.toNat x5) Ty.rea.dflt))) (Val.step (Rea.result (List.getD z100 (Int.toNat x5) Ty.rea.dflt))) r2 (Val.list (Rea.result (List.getD z100 (Int.toNat x5) Ty.rea.dflt))) (Val.columns (Rea.result (List.getD z100 (Int.toNat x5) Ty.rea.dflt))) (Val.rows (Rea.result (List.getD z100 (Int.toNat x5) Ty.rea.dflt)))))) ((fun (z99 : List Rea) => List.set z99 (Int.toNat x5) (Rea.mk (Rea.kind (List.getD z99 (Int.toNat x5) Ty.rea.dflt)) (Rea.n (List.getD z99 (Int.toNat x5) Ty.rea.dflt)) (Rea.time (List.getD z99 (Int.toNat x5) Ty.rea.dflt)) (Rea.text (List.getD z99 (Int.toNat x5) Ty.rea.dflt)) (Val.mk (Val.kind (Rea.result (List.getD z99 (Int.toNat x5) Ty.rea.dflt))) (Val.n (Rea.result (List.getD z99 (Int.toNat x5) Ty.rea.dflt))) (IntKind.i64.wrap ((IntKind.i64.wrap ((IntKind.i64.wrap ((IntKind.i64.wrap ((IntKind.i64.wrap ((IntKind.i64.wrap (x1 + 1)) + 1)) + 1)) + 1)) + 1)) + 1)) (Val.text (Rea.result (List.getD z99 (Int.toNat x5) Ty.rea.dflt))) (Val.list (Rea.result (List.getD z99 (Int.toNat x5) Ty.rea.dflt))) (Val.columns (Rea.result (List.getD z99 (Int.toNat x5) Ty.rea.dflt))) (Val.rows (Rea.result (List.getD z99 (Int.toNat x5) Ty.rea.dflt)))))) ((fun (z98 : List Rea) => List.set z98 (Int.toNat x5) (Rea.mk (Rea.kind (List.getD z98 (Int.toNat x5) Ty.rea.dflt)) (Rea.n (List.getD z98 (Int.toNat x5) Ty.rea.dflt)) (Rea.time (List.getD z98 (Int.toNat x5) Ty.rea.dflt)) (Rea.text (List.getD z98 (Int.toNat x5) Ty.rea.dflt)) (Val.mk (Val.kind (Rea.result (List.getD z98 (Int.toNat x5) Ty.rea.dflt))) (IntKind.i64.wrap ((IntKind.i64.wrap ((IntKind.i64.wrap ((IntKind.i64.wrap ((IntKind.i64.wrap (x1 + 1)) + 1)) + 1)) + 1)) + 1)) (Val.step (Rea.result (List.getD z98 (Int.toNat x5) Ty.rea.dflt))) (Val.text (Rea.result (List.getD z98 (Int.toNat x5) Ty.rea.dflt))) (Val.list (Rea.result (List.getD z98 (Int.toNat x5) Ty.rea.dflt))) (Val.columns (Rea.result (List.getD z98 (Int.toNat x5) Ty.rea.dflt))) (Val.rows (Rea.result (List.getD z98 (Int.toNat x5) Ty.rea.dflt)))))) ((fun (z97 : List Rea) => List.set z97 (Int.toNat x5) (Rea.mk (Rea.kind (List.getD z97 (Int.toNat x5) Ty.rea.dflt)) (Rea.n (List.getD z97 (Int.toNat x5) Ty.rea.dflt)) (Rea.time (List.getD z97 (Int.toNat x5) Ty.rea.dflt)) (Rea.text (List.getD z97 (Int.toNat x5) Ty.rea.dflt)) (Val.mk (IntKind.i64.wrap ((IntKind.i64.wrap ((IntKind.i64.wrap ((IntKind.i64.wrap (x1 + 1)) + 1)) + 1)) + 1)) (Val.n (Rea.result (List.getD z97 (Int.toNat x5) Ty.rea.dflt))) (Val.step (Rea.result (List.getD z97 (Int.toNat x5) Ty.rea.dflt))) (Val.text (Rea.result (List.getD z97 (Int.toNat x5) Ty.rea.dflt))) (Val.list (Rea.result (List.getD z97 (Int.toNat x5) Ty.rea.dflt))) (Val.columns (Rea.result (List.getD z97 (Int.toNat x5) Ty.rea.dflt))) (Val.rows (Rea.result (List.getD z97 (Int.toNat x5) Ty.rea.dflt)))))) ((fun (z96 : List Rea) => List.set z96 (Int.toNat x5) (Rea.mk (Rea.kind (List.getD z96 (Int.toNat x5) Ty.rea.dflt)) (Rea.n (List.getD z96 (Int.toNat x5) Ty.rea.dflt)) (Rea.time (List.getD z96 (Int.toNat x5) Ty.rea.dflt)) r1 (Val.re (Rea.result (List.getD z96 (Int.toNat x5) Ty.rea.dflt))))) ((fun (z95 : List Rea) => List.set z95 (Int.toNat x5) (Rea.mk (Rea.kind (List.getD z95 (Int.toNat x5) Ty.rea.dflt)) (Rea.n (List.getD z95 (Int.toNat x5) Ty.rea.dflt)) (IntKind.i64.wrap ((IntKind.i64.wrap (x1 + 1)) + 1)) (Rea.text (List.getD z95 (Int.toNat x5) Ty.rea.dflt)) (Val.re (Rea.result (List.getD z95 (Int.toNat x5) Ty.rea.dflt))))) ((fun (z94 : List Rea) => List.set z94 (Int.toNat x5) (Rea.mk (Rea.kind (List.getD z94 (Int.toNat x5) Ty.rea.dflt)) (IntKind.i64.wrap (x1 + 1)) (Rea.time (List.getD z94 (Int.toNat x5) Ty.rea.dflt)) (Rea.text (List.getD z94 (Int.toNat x5) Ty.rea.dflt)) (Val.re (Rea.result (List.getD z94 (Int.toNat x5) Ty.rea.dflt))))) (List.set x0 (Int.toNat x5) (Rea.mk x1 (Rea.n (List.getD x0 (Int.toNat x5) Ty.rea.dflt)) (Rea.time (List.getD x0 (Int.toNat x5) Ty.rea.dflt)) (Rea.text (List.getD x0 (Int.toNat x5) Ty.rea.dflt)) (Val.re (Rea.result (List.getD x0 (Int.toNat x5) Ty.rea.dflt)))))))))))))) (Int.toNat x5) Ty.rea.dflt)))]) := by kernel_rfl
theorem p37_2_1 (x0 : List Rea) (x1 x5 : Int) : run tt (AbsCalls Try.prog) I37 3000 true (stkAt 2 I37.body) ⟨(S37_2 x0 x1 x5), [false], [], []⟩ = some (.done (xAf (x1, x0)) [(decide ((x5 : Int) < (List.length x0 : Int))) = false]) := by kernel_rfl
theorem p37_e_2 (a0 : List Rea) (a1 : Int) : run tt (AbsCalls Try.prog) I37 3000 false [.code I37.body] ⟨(zBg 0 (xAo a0 a1)), [], [], []⟩ = some (.stop (stkAt 2 I37.body) (S37_2 a0 a1 0) []) := by kernel_rfl
theorem c37_2 {N : Nat} : ∀ n x0 x1 x5 r, xBQ N n x0 x1 x5 = some r → Reach Try.prog Try.f37 I37 (stkAt 2 I37.body) (S37_2 x0 x1 x5) (xAf r) := by
 intro n
 induction n with
 | zero => intro x0 x1 x5 r h; have h' : (none : Option (Int × (List Rea))) = some r := h; cases h'
 | succ n ih =>
  intro x0 x1 x5 r h
  rw [xBQ] at h
  rcases cond_inv h with ⟨h0, h⟩ | ⟨h0, h⟩
  ·obtain ⟨h1, h⟩ := ite_inv h
   obtain ⟨h2, h⟩ := ite_inv h
   obtain ⟨h3, h⟩ := ite_inv h
   obtain ⟨r1, h4, h⟩ := bind_inv h
   obtain ⟨h5, h⟩ := ite_inv h
   obtain ⟨h6, h⟩ := ite_inv h
   obtain ⟨h7, h⟩ := ite_inv h
   obtain ⟨h8, h⟩ := ite_inv h
   obtain ⟨r2, h9, h⟩ := bind_inv h
   obtain ⟨h10, h⟩ := ite_inv h
   obtain ⟨h11, h⟩ := ite_inv h
   obtain ⟨r3, h12, h⟩ := bind_inv h
   obtain ⟨h14, h⟩ := ite_inv h
   obtain ⟨h15, h⟩ := ite_inv h
   obtain ⟨r4, h16, h⟩ := bind_inv h
   obtain ⟨h18, h⟩ := ite_inv h
   obtain ⟨h19, h⟩ := ite_inv h
   obtain ⟨r5, h20, h⟩ := bind_inv h
   obtain ⟨h22, h⟩ := ite_inv h
   exact Reach.stop ttok mix fk37 (p37_2_0 x0 x1 x5 r1 r2 r3 r4 r5) (obs_cons h0 (obs_cons h1 (obs_cons h2 (obs_cons h3 (obs_cons (xAs h4) (obs_cons h5 (obs_cons h6 (obs_cons h7 (obs_cons h8 (obs_cons (xAs h9) (obs_cons h10 (obs_cons h11 (obs_cons (laws_markValueS_ok h12) (obs_cons rfl (obs_cons h14 (obs_cons h15 (obs_cons (xD3 h16) (obs_cons rfl (obs_cons h18 (obs_cons h19 (obs_cons (xEn h20) (obs_cons rfl (obs_cons h22 obs_nil))))))))))))))))))))))) (ih _ _ _ _ h)
  ·obtain rfl := Option.some.inj h
   exact Reach.done ttok mix fk37 (p37_2_1 x0 x1 x5) (obs_cons h0 obs_nil)
theorem c37_e {N : Nat} : ∀ a0 a1 r, xCx N a0 a1 = some r → Reach Try.prog Try.f37 I37 [.code I37.body] (zBg 0 (xAo a0 a1)) (xAf r) := by
 intro a0 a1 r h
 unfold xCx at h
 exact Reach.stop ttok mix fk37 (p37_e_2 a0 a1) obs_nil (c37_2   _ _ _ _ _ h)
theorem xAt {N : Nat} {a0 : List Rea} {a1 : Int} {r : Int × (List Rea)} (h : xCx N  a0 a1 = some r) : AbC 37 (xAo a0 a1) (xAf r) :=
 AbsCalls.of_reach fk37 rfl rfl (Nat.le_of_ble_eq_true rfl) (c37_e a0 a1 r h)
noncomputable def I41 : Info := { body := (Try.f41.body).getD .skip, nt := 121, results := [.tmp 4], keep := [0, 2, 8, 10, 18, 36, 54, 72, 92, 112, 132, 152, 174, 198, 218, 238], live := [(2, [0, 2, 10])], modes := [], ext := [], lnt := [], casts := [], fcast := [] }
theorem fk41 : FnOk Try.prog 41 Try.f41 I41 := ⟨Try.func41, by kernel_rfl, by kernel_rfl, by kernel_rfl, by kernel_rfl⟩
def xEG (x0 : List Rea) (x1 x5 : Int) : St := [(0, .v false [.sl .ro .rea x0]), (2, .v false [.int .i64 x1]), (10, .v false [.int .i64 x5])]
theorem p41_2_0 (x0 : List Rea) (x1 x5 : Int) : run tt (AbsCalls Try.prog) I41 3000 true (stkAt 2 I41.body) ⟨(xEG x0 x1 x5), [true, true], [], []⟩ = some (.done (xAl (-1)) [(decide ((x5 : Int) < (List.length x0 : Int))) = true, (0 : Int) ≤ x5 ∧ x5 < (List.length x0), (((Rea.kind (List.getD x0 (Int.toNat x5) Ty.rea.dflt)) : Int) != x1) = true]) := by kernel_rfl
theorem p41_2_1 (x0 : List Rea) (x1 x5 : Int) : run tt (AbsCalls Try.prog) I41 3000 true (stkAt 2 I41.body) ⟨(xEG x0 x1 x5), [true, false, true], [], []⟩ = some (.done (xAl (-1)) [(decide ((x5 : Int) < (List.length x0 : Int))) = true, (0 : Int) ≤ x5 ∧ x5 < (List.length x0), (((Rea.kind (List.getD x0 (Int.toNat x5) Ty.rea.dflt)) : Int) != x1) = false, (0 : Int) ≤ x5 ∧ x5 < (List.length x0), (((Rea.n (List.getD x0 (Int.toNat x5) Ty.rea.dflt)) : Int) != (IntKind.i64.wrap (x1 + 1))) = true]) := by kernel_rfl
theorem p41_2_2 (x0 : List Rea) (x1 x5 : Int) : run tt (AbsCalls Try.prog) I41 3000 true (stkAt 2 I41.body) ⟨(xEG x0 x1 x5), [true, false, false, true], [], []⟩ = some (.done (xAl (-1)) [(decide ((x5 : Int) < (List.length x0 : Int))) = true, (0 : Int) ≤ x5 ∧ x5 < (List.length x0), (((Rea.kind (List.getD x0 (Int.toNat x5) Ty.rea.dflt)) : Int) != x1) = false, (0 : Int) ≤ x5 ∧ x5 < (List.length x0), (((Rea.n (List.getD x0 (Int.toNat x5) Ty.rea.dflt)) : Int) != (IntKind.i64.wrap (x1 + 1))) = false, (0 : Int) ≤ x5 ∧ x5 < (List.length x0), (((Rea.time (List.getD x0 (Int.toNat x5) Ty.rea.dflt)) : Int) != (IntKind.i64.wrap ((IntKind.i64.wrap (x1 + 1)) + 1))) = true]) := by kernel_rfl
theorem p41_2_3 (x0 : List Rea) (x1 x5 : Int) (r1 : Str) : run tt (AbsCalls Try.prog) I41 3000 true (stkAt 2 I41.body) ⟨(xEG x0 x1 x5), [true, false, false, false, true], [xAe r1], []⟩ = some (.done (xAl (-1)) [(decide ((x5 : Int) < (List.length x0 : Int))) = true, (0 : Int) ≤ x5 ∧ x5 < (List.length x0), (((Rea.kind (List.getD x0 (Int.toNat x5) Ty.rea.dflt)) : Int) != x1) = false, (0 : Int) ≤ x5 ∧ x5 < (List.length x0), (((Rea.n (List.getD x0 (Int.toNat x5) Ty.rea.dflt)) : Int) != (IntKind.i64.wrap (x1 + 1))) = false, (0 : Int) ≤ x5 ∧ x5 < (List.length x0), (((Rea.time (List.getD x0 (Int.toNat x5) Ty.rea.dflt)) : Int) != (IntKind.i64.wrap ((IntKind.i64.wrap (x1 + 1)) + 1))) = false, (0 : Int) ≤ x5 ∧ x5 < (List.length x0), AbC 79 (xAn (IntKind.i64.wrap ((IntKind.i64.wrap ((IntKind.i64.wrap (x1 + 1)) + 1)) + 1))) (xAe r1), (!(((Rea.text (List.getD x0 (Int.toNat x5) Ty.rea.dflt)) : Str) == r1)) = true]) := by kernel_rfl
theorem p41_2_4 (x0 : List Rea) (x1 x5 : Int) (r1 : Str) : run tt (AbsCalls Try.prog) I41 3000 true (stkAt 2 I41.body) ⟨(xEG x0 x1 x5), [true, false, false, false, false, true], [xAe r1], []⟩ = some (.done (xAl (-1)) [(decide ((x5 : Int) < (List.length x0 : Int))) = true, (0 : Int) ≤ x5 ∧ x5 < (List.length x0), (((Rea.kind (List.getD x0 (Int.toNat x5) Ty.rea.dflt)) : Int) != x1) = false, (0 : Int) ≤ x5 ∧ x5 < (List.length x0), (((Rea.n (List.getD x0 (Int.toNat x5) Ty.rea.dflt)) : Int) != (IntKind.i64.wrap (x1 + 1))) = false, (0 : Int) ≤ x5 ∧ x5 < (List.length x0), (((Rea.time (List.getD x0 (Int.toNat x5) Ty.rea.dflt)) : Int) != (IntKind.i64.wrap ((IntKind.i64.wrap (x1 + 1)) + 1))) = false, (0 : Int) ≤ x5 ∧ x5 < (List.length x0), AbC 79 (xAn (IntKind.i64.wrap ((IntKind.i64.wrap ((IntKind.i64.wrap (x1 + 1)) + 1)) + 1))) (xAe r1), (!(((Rea.text (List.getD x0 (Int.toNat x5) Ty.rea.dflt)) : Str) == r1)) = false, (0 : Int) ≤ x5 ∧ x5 < (List.length x0), (((Val.kind (Rea.result (List.getD x0 (Int.toNat x5) Ty.rea.dflt))) : Int) != (IntKind.i64.wrap ((IntKind.i64.wrap ((IntKind.i64.wrap ((IntKind.i64.wrap (x1 + 1)) + 1)) + 1)) + 1))) = true]) := by kernel_rfl
theorem p41_2_5 (x0 : List Rea) (x1 x5 : Int) (r1 : Str) : run tt (AbsCalls Try.prog) I41 3000 true (stkAt 2 I41.body) ⟨(xEG x0 x1 x5), [true, false, false, false, false, false, true], [xAe r1], []⟩ = some (.done (xAl (-1)) [(decide ((x5 : Int) < (List.length x0 : Int))) = true, (0 : Int) ≤ x5 ∧ x5 < (List.length x0), (((Rea.kind (List.getD x0 (Int.toNat x5) Ty.rea.dflt)) : Int) != x1) = false, (0 : Int) ≤ x5 ∧ x5 < (List.length x0), (((Rea.n (List.getD x0 (Int.toNat x5) Ty.rea.dflt)) : Int) != (IntKind.i64.wrap (x1 + 1))) = false, (0 : Int) ≤ x5 ∧ x5 < (List.length x0), (((Rea.time (List.getD x0 (Int.toNat x5) Ty.rea.dflt)) : Int) != (IntKind.i64.wrap ((IntKind.i64.wrap (x1 + 1)) + 1))) = false, (0 : Int) ≤ x5 ∧ x5 < (List.length x0), AbC 79 (xAn (IntKind.i64.wrap ((IntKind.i64.wrap ((IntKind.i64.wrap (x1 + 1)) + 1)) + 1))) (xAe r1), (!(((Rea.text (List.getD x0 (Int.toNat x5) Ty.rea.dflt)) : Str) == r1)) = false, (0 : Int) ≤ x5 ∧ x5 < (List.length x0), (((Val.kind (Rea.result (List.getD x0 (Int.toNat x5) Ty.rea.dflt))) : Int) != (IntKind.i64.wrap ((IntKind.i64.wrap ((IntKind.i64.wrap ((IntKind.i64.wrap (x1 + 1)) + 1)) + 1)) + 1))) = false, (0 : Int) ≤ x5 ∧ x5 < (List.length x0), (((Val.n (Rea.result (List.getD x0 (Int.toNat x5) Ty.rea.dflt))) : Int) != (IntKind.i64.wrap ((IntKind.i64.wrap ((IntKind.i64.wrap ((IntKind.i64.wrap ((IntKind.i64.wrap (x1 + 1)) + 1)) + 1)) + 1)) + 1))) = true]) := by kernel_rfl
theorem p41_2_6 (x0 : List Rea) (x1 x5 : Int) (r1 : Str) : run tt (AbsCalls Try.prog) I41 3000 true (stkAt 2 I41.body) ⟨(xEG x0 x1 x5), [true, false, false, false, false, false, false, true], [xAe r1], []⟩ = some (.done (xAl (-1)) [(decide ((x5 : Int) < (List.length x0 : Int))) = true, (0 : Int) ≤ x5 ∧ x5 < (List.length x0), (((Rea.kind (List.getD x0 (Int.toNat x5) Ty.rea.dflt)) : Int) != x1) = false, (0 : Int) ≤ x5 ∧ x5 < (List.length x0), (((Rea.n (List.getD x0 (Int.toNat x5) Ty.rea.dflt)) : Int) != (IntKind.i64.wrap (x1 + 1))) = false, (0 : Int) ≤ x5 ∧ x5 < (List.length x0), (((Rea.time (List.getD x0 (Int.toNat x5) Ty.rea.dflt)) : Int) != (IntKind.i64.wrap ((IntKind.i64.wrap (x1 + 1)) + 1))) = false, (0 : Int) ≤ x5 ∧ x5 < (List.length x0), AbC 79 (xAn (IntKind.i64.wrap ((IntKind.i64.wrap ((IntKind.i64.wrap (x1 + 1)) + 1)) + 1))) (xAe r1), (!(((Rea.text (List.getD x0 (Int.toNat x5) Ty.rea.dflt)) : Str) == r1)) = false, (0 : Int) ≤ x5 ∧ x5 < (List.length x0), (((Val.kind (Rea.result (List.getD x0 (Int.toNat x5) Ty.rea.dflt))) : Int) != (IntKind.i64.wrap ((IntKind.i64.wrap ((IntKind.i64.wrap ((IntKind.i64.wrap (x1 + 1)) + 1)) + 1)) + 1))) = false, (0 : Int) ≤ x5 ∧ x5 < (List.length x0), (((Val.n (Rea.result (List.getD x0 (Int.toNat x5) Ty.rea.dflt))) : Int) != (IntKind.i64.wrap ((IntKind.i64.wrap ((IntKind.i64.wrap ((IntKind.i64.wrap ((IntKind.i64.wrap (x1 + 1)) + 1)) + 1)) + 1)) + 1))) = false, (0 : Int) ≤ x5 ∧ x5 < (List.length x0), (((Val.step (Rea.result (List.getD x0 (Int.toNat x5) Ty.rea.dflt))) : Int) != (IntKind.i64.wrap ((IntKind.i64.wrap ((IntKind.i64.wrap ((IntKind.i64.wrap ((IntKind.i64.wrap ((IntKind.i64.wrap (x1 + 1)) + 1)) + 1)) + 1)) + 1)) + 1))) = true]) := by kernel_rfl
theorem p41_2_7 (x0 : List Rea) (x1 x5 : Int) (r1 r2 : Str) : run tt (AbsCalls Try.prog) I41 3000 true (stkAt 2 I41.body) ⟨(xEG x0 x1 x5), [true, false, false, false, false, false, false, false, true], [xAe r1, xAe r2], []⟩ = some (.done (xAl (-1)) [(decide ((x5 : Int) < (List.length x0 : Int))) = true, (0 : Int) ≤ x5 ∧ x5 < (List.length x0), (((Rea.kind (List.getD x0 (Int.toNat x5) Ty.rea.dflt)) : Int) != x1) = false, (0 : Int) ≤ x5 ∧ x5 < (List.length x0), (((Rea.n (List.getD x0 (Int.toNat x5) Ty.rea.dflt)) : Int) != (IntKind.i64.wrap (x1 + 1))) = false, (0 : Int) ≤ x5 ∧ x5 < (List.length x0), (((Rea.time (List.getD x0 (Int.toNat x5) Ty.rea.dflt)) : Int) != (IntKind.i64.wrap ((IntKind.i64.wrap (x1 + 1)) + 1))) = false, (0 : Int) ≤ x5 ∧ x5 < (List.length x0), AbC 79 (xAn (IntKind.i64.wrap ((IntKind.i64.wrap ((IntKind.i64.wrap (x1 + 1)) + 1)) + 1))) (xAe r1), (!(((Rea.text (List.getD x0 (Int.toNat x5) Ty.rea.dflt)) : Str) == r1)) = false, (0 : Int) ≤ x5 ∧ x5 < (List.length x0), (((Val.kind (Rea.result (List.getD x0 (Int.toNat x5) Ty.rea.dflt))) : Int) != (IntKind.i64.wrap ((IntKind.i64.wrap ((IntKind.i64.wrap ((IntKind.i64.wrap (x1 + 1)) + 1)) + 1)) + 1))) = false, (0 : Int) ≤ x5 ∧ x5 < (List.length x0), (((Val.n (Rea.result (List.getD x0 (Int.toNat x5) Ty.rea.dflt))) : Int) != (IntKind.i64.wrap ((IntKind.i64.wrap ((IntKind.i64.wrap ((IntKind.i64.wrap ((IntKind.i64.wrap (x1 + 1)) + 1)) + 1)) + 1)) + 1))) = false, (0 : Int) ≤ x5 ∧ x5 < (List.length x0), (((Val.step (Rea.result (List.getD x0 (Int.toNat x5) Ty.rea.dflt))) : Int) != (IntKind.i64.wrap ((IntKind.i64.wrap ((IntKind.i64.wrap ((IntKind.i64.wrap ((IntKind.i64.wrap ((IntKind.i64.wrap (x1 + 1)) + 1)) + 1)) + 1)) + 1)) + 1))) = false, (0 : Int) ≤ x5 ∧ x5 < (List.length x0), AbC 79 (xAn (IntKind.i64.wrap ((IntKind.i64.wrap ((IntKind.i64.wrap ((IntKind.i64.wrap ((IntKind.i64.wrap ((IntKind.i64.wrap ((IntKind.i64.wrap (x1 + 1)) + 1)) + 1)) + 1)) + 1)) + 1)) + 1))) (xAe r2), (!(((Val.text (Rea.result (List.getD x0 (Int.toNat x5) Ty.rea.dflt))) : Str) == r2)) = true]) := by kernel_rfl
theorem p41_2_8 (x0 : List Rea) (x1 x5 : Int) (r1 r2 : Str) (r3 : Int) : run tt (AbsCalls Try.prog) I41 3000 true (stkAt 2 I41.body) ⟨(xEG x0 x1 x5), [true, false, false, false, false, false, false, false, false, true], [xAe r1, xAe r2, xAk r3], []⟩ = some (.done (xAl (-1)) [(decide ((x5 : Int) < (List.length x0 : Int))) = true, (0 : Int) ≤ x5 ∧ x5 < (List.length x0), (((Rea.kind (List.getD x0 (Int.toNat x5) Ty.rea.dflt)) : Int) != x1) = false, (0 : Int) ≤ x5 ∧ x5 < (List.length x0), (((Rea.n (List.getD x0 (Int.toNat x5) Ty.rea.dflt)) : Int) != (IntKind.i64.wrap (x1 + 1))) = false, (0 : Int) ≤ x5 ∧ x5 < (List.length x0), (((Rea.time (List.getD x0 (Int.toNat x5) Ty.rea.dflt)) : Int) != (IntKind.i64.wrap ((IntKind.i64.wrap (x1 + 1)) + 1))) = false, (0 : Int) ≤ x5 ∧ x5 < (List.length x0), AbC 79 (xAn (IntKind.i64.wrap ((IntKind.i64.wrap ((IntKind.i64.wrap (x1 + 1)) + 1)) + 1))) (xAe r1), (!(((Rea.text (List.getD x0 (Int.toNat x5) Ty.rea.dflt)) : Str) == r1)) = false, (0 : Int) ≤ x5 ∧ x5 < (List.length x0), (((Val.kind (Rea.result (List.getD x0 (Int.toNat x5) Ty.rea.dflt))) : Int) != (IntKind.i64.wrap ((IntKind.i64.wrap ((IntKind.i64.wrap ((IntKind.i64.wrap (x1 + 1)) + 1)) + 1)) + 1))) = false, (0 : Int) ≤ x5 ∧ x5 < (List.length x0), (((Val.n (Rea.result (List.getD x0 (Int.toNat x5) Ty.rea.dflt))) : Int) != (IntKind.i64.wrap ((IntKind.i64.wrap ((IntKind.i64.wrap ((IntKind.i64.wrap ((IntKind.i64.wrap (x1 + 1)) + 1)) + 1)) + 1)) + 1))) = false, (0 : Int) ≤ x5 ∧ x5 < (List.length x0), (((Val.step (Rea.result (List.getD x0 (Int.toNat x5) Ty.rea.dflt))) : Int) != (IntKind.i64.wrap ((IntKind.i64.wrap ((IntKind.i64.wrap ((IntKind.i64.wrap ((IntKind.i64.wrap ((IntKind.i64.wrap (x1 + 1)) + 1)) + 1)) + 1)) + 1)) + 1))) = false, (0 : Int) ≤ x5 ∧ x5 < (List.length x0), AbC 79 (xAn (IntKind.i64.wrap ((IntKind.i64.wrap ((IntKind.i64.wrap ((IntKind.i64.wrap ((IntKind.i64.wrap ((IntKind.i64.wrap ((IntKind.i64.wrap (x1 + 1)) + 1)) + 1)) + 1)) + 1)) + 1)) + 1))) (xAe r2), (!(((Val.text (Rea.result (List.getD x0 (Int.toNat x5) Ty.rea.dflt))) : Str) == r2)) = false, (0 : Int) ≤ x5 ∧ x5 < (List.length x0), AbC 82 (xAE (Val.list (Rea.result (List.getD x0 (Int.toNat x5) Ty.rea.dflt))) (IntKind.i64.wrap ((IntKind.i64.wrap ((IntKind.i64.wrap ((IntKind.i64.wrap ((IntKind.i64.wrap ((IntKind.i64.wrap ((IntKind.i64.wrap ((IntKind.i64.wrap (x1 + 1)) + 1)) + 1)) + 1)) + 1)) + 1)) + 1)) + 1))) (xAk r3), (decide ((r3 : Int) < 0)) = true]) := by kernel_rfl
theorem p41_2_9 (x0 : List Rea) (x1 x5 : Int) (r1 r2 : Str) (r3 r4 : Int) : run tt (AbsCalls Try.prog) I41 3000 true (stkAt 2 I41.body) ⟨(xEG x0 x1 x5), [true, false, false, false, false, false, false, false, false, false, true], [xAe r1, xAe r2, xAk r3, xAw r4], []⟩ = some (.done (xAl (-1)) [(decide ((x5 : Int) < (List.length x0 : Int))) = true, (0 : Int) ≤ x5 ∧ x5 < (List.length x0), (((Rea.kind (List.getD x0 (Int.toNat x5) Ty.rea.dflt)) : Int) != x1) = false, (0 : Int) ≤ x5 ∧ x5 < (List.length x0), (((Rea.n (List.getD x0 (Int.toNat x5) Ty.rea.dflt)) : Int) != (IntKind.i64.wrap (x1 + 1))) = false, (0 : Int) ≤ x5 ∧ x5 < (List.length x0), (((Rea.time (List.getD x0 (Int.toNat x5) Ty.rea.dflt)) : Int) != (IntKind.i64.wrap ((IntKind.i64.wrap (x1 + 1)) + 1))) = false, (0 : Int) ≤ x5 ∧ x5 < (List.length x0), AbC 79 (xAn (IntKind.i64.wrap ((IntKind.i64.wrap ((IntKind.i64.wrap (x1 + 1)) + 1)) + 1))) (xAe r1), (!(((Rea.text (List.getD x0 (Int.toNat x5) Ty.rea.dflt)) : Str) == r1)) = false, (0 : Int) ≤ x5 ∧ x5 < (List.length x0), (((Val.kind (Rea.result (List.getD x0 (Int.toNat x5) Ty.rea.dflt))) : Int) != (IntKind.i64.wrap ((IntKind.i64.wrap ((IntKind.i64.wrap ((IntKind.i64.wrap (x1 + 1)) + 1)) + 1)) + 1))) = false, (0 : Int) ≤ x5 ∧ x5 < (List.length x0), (((Val.n (Rea.result (List.getD x0 (Int.toNat x5) Ty.rea.dflt))) : Int) != (IntKind.i64.wrap ((IntKind.i64.wrap ((IntKind.i64.wrap ((IntKind.i64.wrap ((IntKind.i64.wrap (x1 + 1)) + 1)) + 1)) + 1)) + 1))) = false, (0 : Int) ≤ x5 ∧ x5 < (List.length x0), (((Val.step (Rea.result (List.getD x0 (Int.toNat x5) Ty.rea.dflt))) : Int) != (IntKind.i64.wrap ((IntKind.i64.wrap ((IntKind.i64.wrap ((IntKind.i64.wrap ((IntKind.i64.wrap ((IntKind.i64.wrap (x1 + 1)) + 1)) + 1)) + 1)) + 1)) + 1))) = false, (0 : Int) ≤ x5 ∧ x5 < (List.length x0), AbC 79 (xAn (IntKind.i64.wrap ((IntKind.i64.wrap ((IntKind.i64.wrap ((IntKind.i64.wrap ((IntKind.i64.wrap ((IntKind.i64.wrap ((IntKind.i64.wrap (x1 + 1)) + 1)) + 1)) + 1)) + 1)) + 1)) + 1))) (xAe r2), (!(((Val.text (Rea.result (List.getD x0 (Int.toNat x5) Ty.rea.dflt))) : Str) == r2)) = false, (0 : Int) ≤ x5 ∧ x5 < (List.length x0), AbC 82 (xAE (Val.list (Rea.result (List.getD x0 (Int.toNat x5) Ty.rea.dflt))) (IntKind.i64.wrap ((IntKind.i64.wrap ((IntKind.i64.wrap ((IntKind.i64.wrap ((IntKind.i64.wrap ((IntKind.i64.wrap ((IntKind.i64.wrap ((IntKind.i64.wrap (x1 + 1)) + 1)) + 1)) + 1)) + 1)) + 1)) + 1)) + 1))) (xAk r3), (decide ((r3 : Int) < 0)) = false, (0 : Int) ≤ x5 ∧ x5 < (List.length x0), AbC 83 (xA1 (Val.columns (Rea.result (List.getD x0 (Int.toNat x5) Ty.rea.dflt))) r3) (xAw r4), (decide ((r4 : Int) < 0)) = true]) := by kernel_rfl
theorem p41_2_10 (x0 : List Rea) (x1 x5 : Int) (r1 r2 : Str) (r3 r4 r5 : Int) : run tt (AbsCalls Try.prog) I41 3000 true (stkAt 2 I41.body) ⟨(xEG x0 x1 x5), [true, false, false, false, false, false, false, false, false, false, false, true], [xAe r1, xAe r2, xAk r3, xAw r4, xAP r5], []⟩ = some (.done (xAl (-1)) [(decide ((x5 : Int) < (List.length x0 : Int))) = true, (0 : Int) ≤ x5 ∧ x5 < (List.length x0), (((Rea.kind (List.getD x0 (Int.toNat x5) Ty.rea.dflt)) : Int) != x1) = false, (0 : Int) ≤ x5 ∧ x5 < (List.length x0), (((Rea.n (List.getD x0 (Int.toNat x5) Ty.rea.dflt)) : Int) != (IntKind.i64.wrap (x1 + 1))) = false, (0 : Int) ≤ x5 ∧ x5 < (List.length x0), (((Rea.time (List.getD x0 (Int.toNat x5) Ty.rea.dflt)) : Int) != (IntKind.i64.wrap ((IntKind.i64.wrap (x1 + 1)) + 1))) = false, (0 : Int) ≤ x5 ∧ x5 < (List.length x0), AbC 79 (xAn (IntKind.i64.wrap ((IntKind.i64.wrap ((IntKind.i64.wrap (x1 + 1)) + 1)) + 1))) (xAe r1), (!(((Rea.text (List.getD x0 (Int.toNat x5) Ty.rea.dflt)) : Str) == r1)) = false, (0 : Int) ≤ x5 ∧ x5 < (List.length x0), (((Val.kind (Rea.result (List.getD x0 (Int.toNat x5) Ty.rea.dflt))) : Int) != (IntKind.i64.wrap ((IntKind.i64.wrap ((IntKind.i64.wrap ((IntKind.i64.wrap (x1 + 1)) + 1)) + 1)) + 1))) = false, (0 : Int) ≤ x5 ∧ x5 < (List.length x0), (((Val.n (Rea.result (List.getD x0 (Int.toNat x5) Ty.rea.dflt))) : Int) != (IntKind.i64.wrap ((IntKind.i64.wrap ((IntKind.i64.wrap ((IntKind.i64.wrap ((IntKind.i64.wrap (x1 + 1)) + 1)) + 1)) + 1)) + 1))) = false, (0 : Int) ≤ x5 ∧ x5 < (List.length x0), (((Val.step (Rea.result (List.getD x0 (Int.toNat x5) Ty.rea.dflt))) : Int) != (IntKind.i64.wrap ((IntKind.i64.wrap ((IntKind.i64.wrap ((IntKind.i64.wrap ((IntKind.i64.wrap ((IntKind.i64.wrap (x1 + 1)) + 1)) + 1)) + 1)) + 1)) + 1))) = false, (0 : Int) ≤ x5 ∧ x5 < (List.length x0), AbC 79 (xAn (IntKind.i64.wrap ((IntKind.i64.wrap ((IntKind.i64.wrap ((IntKind.i64.wrap ((IntKind.i64.wrap ((IntKind.i64.wrap ((IntKind.i64.wrap (x1 + 1)) + 1)) + 1)) + 1)) + 1)) + 1)) + 1))) (xAe r2), (!(((Val.text (Rea.result (List.getD x0 (Int.toNat x5) Ty.rea.dflt))) : Str) == r2)) = false, (0 : Int) ≤ x5 ∧ x5 < (List.length x0), AbC 82 (xAE (Val.list (Rea.result (List.getD x0 (Int.toNat x5) Ty.rea.dflt))) (IntKind.i64.wrap ((IntKind.i64.wrap ((IntKind.i64.wrap ((IntKind.i64.wrap ((IntKind.i64.wrap ((IntKind.i64.wrap ((IntKind.i64.wrap ((IntKind.i64.wrap (x1 + 1)) + 1)) + 1)) + 1)) + 1)) + 1)) + 1)) + 1))) (xAk r3), (decide ((r3 : Int) < 0)) = false, (0 : Int) ≤ x5 ∧ x5 < (List.length x0), AbC 83 (xA1 (Val.columns (Rea.result (List.getD x0 (Int.toNat x5) Ty.rea.dflt))) r3) (xAw r4), (decide ((r4 : Int) < 0)) = false, (0 : Int) ≤ x5 ∧ x5 < (List.length x0), AbC 84 (xBZ (Val.rows (Rea.result (List.getD x0 (Int.toNat x5) Ty.rea.dflt))) r4) (xAP r5), (decide ((r5 : Int) < 0)) = true]) := by kernel_rfl
theorem p41_2_11 (x0 : List Rea) (x1 x5 : Int) (r1 r2 : Str) (r3 r4 r5 : Int) : run tt (AbsCalls Try.prog) I41 3000 true (stkAt 2 I41.body) ⟨(xEG x0 x1 x5), [true, false, false, false, false, false, false, false, false, false, false, false], [xAe r1, xAe r2, xAk r3, xAw r4, xAP r5], []⟩ = some (.stop (stkAt 2 I41.body) (xEG x0 r5 (IntKind.i64.wrap (x5 + 1))) [(decide ((x5 : Int) < (List.length x0 : Int))) = true, (0 : Int) ≤ x5 ∧ x5 < (List.length x0), (((Rea.kind (List.getD x0 (Int.toNat x5) Ty.rea.dflt)) : Int) != x1) = false, (0 : Int) ≤ x5 ∧ x5 < (List.length x0), (((Rea.n (List.getD x0 (Int.toNat x5) Ty.rea.dflt)) : Int) != (IntKind.i64.wrap (x1 + 1))) = false, (0 : Int) ≤ x5 ∧ x5 < (List.length x0), (((Rea.time (List.getD x0 (Int.toNat x5) Ty.rea.dflt)) : Int) != (IntKind.i64.wrap ((IntKind.i64.wrap (x1 + 1)) + 1))) = false, (0 : Int) ≤ x5 ∧ x5 < (List.length x0), AbC 79 (xAn (IntKind.i64.wrap ((IntKind.i64.wrap ((IntKind.i64.wrap (x1 + 1)) + 1)) + 1))) (xAe r1), (!(((Rea.text (List.getD x0 (Int.toNat x5) Ty.rea.dflt)) : Str) == r1)) = false, (0 : Int) ≤ x5 ∧ x5 < (List.length x0), (((Val.kind (Rea.result (List.getD x0 (Int.toNat x5) Ty.rea.dflt))) : Int) != (IntKind.i64.wrap ((IntKind.i64.wrap ((IntKind.i64.wrap ((IntKind.i64.wrap (x1 + 1)) + 1)) + 1)) + 1))) = false, (0 : Int) ≤ x5 ∧ x5 < (List.length x0), (((Val.n (Rea.result (List.getD x0 (Int.toNat x5) Ty.rea.dflt))) : Int) != (IntKind.i64.wrap ((IntKind.i64.wrap ((IntKind.i64.wrap ((IntKind.i64.wrap ((IntKind.i64.wrap (x1 + 1)) + 1)) + 1)) + 1)) + 1))) = false, (0 : Int) ≤ x5 ∧ x5 < (List.length x0), (((Val.step (Rea.result (List.getD x0 (Int.toNat x5) Ty.rea.dflt))) : Int) != (IntKind.i64.wrap ((IntKind.i64.wrap ((IntKind.i64.wrap ((IntKind.i64.wrap ((IntKind.i64.wrap ((IntKind.i64.wrap (x1 + 1)) + 1)) + 1)) + 1)) + 1)) + 1))) = false, (0 : Int) ≤ x5 ∧ x5 < (List.length x0), AbC 79 (xAn (IntKind.i64.wrap ((IntKind.i64.wrap ((IntKind.i64.wrap ((IntKind.i64.wrap ((IntKind.i64.wrap ((IntKind.i64.wrap ((IntKind.i64.wrap (x1 + 1)) + 1)) + 1)) + 1)) + 1)) + 1)) + 1))) (xAe r2), (!(((Val.text (Rea.result (List.getD x0 (Int.toNat x5) Ty.rea.dflt))) : Str) == r2)) = false, (0 : Int) ≤ x5 ∧ x5 < (List.length x0), AbC 82 (xAE (Val.list (Rea.result (List.getD x0 (Int.toNat x5) Ty.rea.dflt))) (IntKind.i64.wrap ((IntKind.i64.wrap ((IntKind.i64.wrap ((IntKind.i64.wrap ((IntKind.i64.wrap ((IntKind.i64.wrap ((IntKind.i64.wrap ((IntKind.i64.wrap (x1 + 1)) + 1)) + 1)) + 1)) + 1)) + 1)) + 1)) + 1))) (xAk r3), (decide ((r3 : Int) < 0)) = false, (0 : Int) ≤ x5 ∧ x5 < (List.length x0), AbC 83 (xA1 (Val.columns (Rea.result (List.getD x0 (Int.toNat x5) Ty.rea.dflt))) r3) (xAw r4), (decide ((r4 : Int) < 0)) = false, (0 : Int) ≤ x5 ∧ x5 < (List.length x0), AbC 84 (xBZ (Val.rows (Rea.result (List.getD x0 (Int.toNat x5) Ty.rea.dflt))) r4) (xAP r5), (decide ((r5 : Int) < 0)) = false]) := by kernel_rfl
theorem p41_2_12 (x0 : List Rea) (x1 x5 : Int) : run tt (AbsCalls Try.prog) I41 3000 true (stkAt 2 I41.body) ⟨(xEG x0 x1 x5), [false], [], []⟩ = some (.done (xAl x1) [(decide ((x5 : Int) < (List.length x0 : Int))) = false]) := by kernel_rfl
theorem p41_e_13 (a0 : List Rea) (a1 : Int) : run tt (AbsCalls Try.prog) I41 3000 false [.code I41.body] ⟨(zBg 0 (xAT a0 a1)), [], [], []⟩ = some (.stop (stkAt 2 I41.body) (xEG a0 a1 0) []) := by kernel_rfl
theorem c41_2 {N : Nat} : ∀ n x0 x1 x5 r, xBN N n x0 x1 x5 = some r → Reach Try.prog Try.f41 I41 (stkAt 2 I41.body) (xEG x0 x1 x5) (xAl r) := by
 intro n
 induction n with
 | zero => intro x0 x1 x5 r h; have h' : (none : Option (Int)) = some r := h; cases h'
 | succ n ih =>
  intro x0 x1 x5 r h
  rw [xBN] at h
  rcases cond_inv h with ⟨h0, h⟩ | ⟨h0, h⟩
  ·obtain ⟨h1, h⟩ := ite_inv h
   rcases cond_inv h with ⟨h2, h⟩ | ⟨h2, h⟩
   ·obtain rfl := Option.some.inj h
    exact Reach.done ttok mix fk41 (p41_2_0 x0 x1 x5) (obs_cons h0 (obs_cons h1 (obs_cons h2 obs_nil)))
   ·rcases cond_inv h with ⟨h4, h⟩ | ⟨h4, h⟩
    ·obtain rfl := Option.some.inj h
     exact Reach.done ttok mix fk41 (p41_2_1 x0 x1 x5) (obs_cons h0 (obs_cons h1 (obs_cons h2 (obs_cons h1 (obs_cons h4 obs_nil)))))
    ·rcases cond_inv h with ⟨h6, h⟩ | ⟨h6, h⟩
     ·obtain rfl := Option.some.inj h
      exact Reach.done ttok mix fk41 (p41_2_2 x0 x1 x5) (obs_cons h0 (obs_cons h1 (obs_cons h2 (obs_cons h1 (obs_cons h4 (obs_cons h1 (obs_cons h6 obs_nil)))))))
     ·obtain ⟨r1, h8, h⟩ := bind_inv h
      rcases cond_inv h with ⟨h9, h⟩ | ⟨h9, h⟩
      ·obtain rfl := Option.some.inj h
       exact Reach.done ttok mix fk41 (p41_2_3 x0 x1 x5 r1) (obs_cons h0 (obs_cons h1 (obs_cons h2 (obs_cons h1 (obs_cons h4 (obs_cons h1 (obs_cons h6 (obs_cons h1 (obs_cons (xAs h8) (obs_cons h9 obs_nil))))))))))
      ·rcases cond_inv h with ⟨h11, h⟩ | ⟨h11, h⟩
       ·obtain rfl := Option.some.inj h
        exact Reach.done ttok mix fk41 (p41_2_4 x0 x1 x5 r1) (obs_cons h0 (obs_cons h1 (obs_cons h2 (obs_cons h1 (obs_cons h4 (obs_cons h1 (obs_cons h6 (obs_cons h1 (obs_cons (xAs h8) (obs_cons h9 (obs_cons h1 (obs_cons h11 obs_nil))))))))))))
       ·rcases cond_inv h with ⟨h13, h⟩ | ⟨h13, h⟩
        ·obtain rfl := Option.some.inj h
         exact Reach.done ttok mix fk41 (p41_2_5 x0 x1 x5 r1) (obs_cons h0 (obs_cons h1 (obs_cons h2 (obs_cons h1 (obs_cons h4 (obs_cons h1 (obs_cons h6 (obs_cons h1 (obs_cons (xAs h8) (obs_cons h9 (obs_cons h1 (obs_cons h11 (obs_cons h1 (obs_cons h13 obs_nil))))))))))))))
        ·rcases cond_inv h with ⟨h15, h⟩ | ⟨h15, h⟩
         ·obtain rfl := Option.some.inj h
          exact Reach.done ttok mix fk41 (p41_2_6 x0 x1 x5 r1) (obs_cons h0 (obs_cons h1 (obs_cons h2 (obs_cons h1 (obs_cons h4 (obs_cons h1 (obs_cons h6 (obs_cons h1 (obs_cons (xAs h8) (obs_cons h9 (obs_cons h1 (obs_cons h11 (obs_cons h1 (obs_cons h13 (obs_cons h1 (obs_cons h15 obs_nil))))))))))))))))
         ·obtain ⟨r2, h17, h⟩ := bind_inv h
          rcases cond_inv h with ⟨h18, h⟩ | ⟨h18, h⟩
          ·obtain rfl := Option.some.inj h
           exact Reach.done ttok mix fk41 (p41_2_7 x0 x1 x5 r1 r2) (obs_cons h0 (obs_cons h1 (obs_cons h2 (obs_cons h1 (obs_cons h4 (obs_cons h1 (obs_cons h6 (obs_cons h1 (obs_cons (xAs h8) (obs_cons h9 (obs_cons h1 (obs_cons h11 (obs_cons h1 (obs_cons h13 (obs_cons h1 (obs_cons h15 (obs_cons h1 (obs_cons (xAs h17) (obs_cons h18 obs_nil)))))))))))))))))))
          ·obtain ⟨r3, h20, h⟩ := bind_inv h
           rcases cond_inv h with ⟨h21, h⟩ | ⟨h21, h⟩
           ·obtain rfl := Option.some.inj h
            exact Reach.done ttok mix fk41 (p41_2_8 x0 x1 x5 r1 r2 r3) (obs_cons h0 (obs_cons h1 (obs_cons h2 (obs_cons h1 (obs_cons h4 (obs_cons h1 (obs_cons h6 (obs_cons h1 (obs_cons (xAs h8) (obs_cons h9 (obs_cons h1 (obs_cons h11 (obs_cons h1 (obs_cons h13 (obs_cons h1 (obs_cons h15 (obs_cons h1 (obs_cons (xAs h17) (obs_cons h18 (obs_cons h1 (obs_cons (xC3 h20) (obs_cons h21 obs_nil))))))))))))))))))))))
           ·obtain ⟨r4, h23, h⟩ := bind_inv h
            rcases cond_inv h with ⟨h24, h⟩ | ⟨h24, h⟩
            ·obtain rfl := Option.some.inj h
             exact Reach.done ttok mix fk41 (p41_2_9 x0 x1 x5 r1 r2 r3 r4) (obs_cons h0 (obs_cons h1 (obs_cons h2 (obs_cons h1 (obs_cons h4 (obs_cons h1 (obs_cons h6 (obs_cons h1 (obs_cons (xAs h8) (obs_cons h9 (obs_cons h1 (obs_cons h11 (obs_cons h1 (obs_cons h13 (obs_cons h1 (obs_cons h15 (obs_cons h1 (obs_cons (xAs h17) (obs_cons h18 (obs_cons h1 (obs_cons (xC3 h20) (obs_cons h21 (obs_cons h1 (obs_cons (xBO h23) (obs_cons h24 obs_nil)))))))))))))))))))))))))
            ·obtain ⟨r5, h26, h⟩ := bind_inv h
             rcases cond_inv h with ⟨h27, h⟩ | ⟨h27, h⟩
             ·obtain rfl := Option.some.inj h
              exact Reach.done ttok mix fk41 (p41_2_10 x0 x1 x5 r1 r2 r3 r4 r5) (obs_cons h0 (obs_cons h1 (obs_cons h2 (obs_cons h1 (obs_cons h4 (obs_cons h1 (obs_cons h6 (obs_cons h1 (obs_cons (xAs h8) (obs_cons h9 (obs_cons h1 (obs_cons h11 (obs_cons h1 (obs_cons h13 (obs_cons h1 (obs_cons h15 (obs_cons h1 (obs_cons (xAs h17) (obs_cons h18 (obs_cons h1 (obs_cons (xC3 h20) (obs_cons h21 (obs_cons h1 (obs_cons (xBO h23) (obs_cons h24 (obs_cons h1 (obs_cons (xDn h26) (obs_cons h27 obs_nil))))))))))))))))))))))))))))
             ·exact Reach.stop ttok mix fk41 (p41_2_11 x0 x1 x5 r1 r2 r3 r4 r5) (obs_cons h0 (obs_cons h1 (obs_cons h2 (obs_cons h1 (obs_cons h4 (obs_cons h1 (obs_cons h6 (obs_cons h1 (obs_cons (xAs h8) (obs_cons h9 (obs_cons h1 (obs_cons h11 (obs_cons h1 (obs_cons h13 (obs_cons h1 (obs_cons h15 (obs_cons h1 (obs_cons (xAs h17) (obs_cons h18 (obs_cons h1 (obs_cons (xC3 h20) (obs_cons h21 (obs_cons h1 (obs_cons (xBO h23) (obs_cons h24 (obs_cons h1 (obs_cons (xDn h26) (obs_cons h27 obs_nil)))))))))))))))))))))))))))) (ih _ _ _ _ h)
  ·obtain rfl := Option.some.inj h
   exact Reach.done ttok mix fk41 (p41_2_12 x0 x1 x5) (obs_cons h0 obs_nil)
theorem c41_e {N : Nat} : ∀ a0 a1 r, xCX N a0 a1 = some r → Reach Try.prog Try.f41 I41 [.code I41.body] (zBg 0 (xAT a0 a1)) (xAl r) := by
 intro a0 a1 r h
 unfold xCX at h
 exact Reach.stop ttok mix fk41 (p41_e_13 a0 a1) obs_nil (c41_2   _ _ _ _ _ h)
theorem xBd {N : Nat} {a0 : List Rea} {a1 : Int} {r : Int} (h : xCX N  a0 a1 = some r) : AbC 41 (xAT a0 a1) (xAl r) :=
 AbsCalls.of_reach fk41 rfl rfl (Nat.le_of_ble_eq_true rfl) (c41_e a0 a1 r h)
noncomputable def I6 : Info := { body := (Try.f6.body).getD .skip, nt := 92, results := [.tmp 4], keep := [0, 2, 8, 10, 12, 14, 16, 18, 20, 22, 24, 26, 36, 46, 78, 88, 98, 126, 142, 148, 166, 176, 182], live := [], modes := [(19, [(0, .ref, false), (2, .ref, false)]), (20, [(0, .ref, false), (2, .ref, false)]), (21, [(2, .take, false)]), (24, [(0, .ref, false), (2, .ref, false)]), (32, [(0, .take, false)])], ext := [], lnt := [], casts := [], fcast := [] }
theorem fk6 : FnOk Try.prog 6 Try.f6 I6 := ⟨Try.func6, by kernel_rfl, by kernel_rfl, by kernel_rfl, by kernel_rfl⟩
theorem p6_e_0 (a0 a1 : List Rea) (r1 : Int) : run tt (AbsCalls Try.prog) I6 3000 false [.code I6.body] ⟨(zBg 0 (xAq a0 a1)), [true], [xAg r1], []⟩ = some (.done (xAr true) [AbC 29 (xAp a0 1048576) (xAg r1), (decide ((r1 : Int) < 0)) = true]) := by kernel_rfl
theorem p6_e_1 (a0 a1 : List Rea) (r1 r2 : Int) : run tt (AbsCalls Try.prog) I6 3000 false [.code I6.body] ⟨(zBg 0 (xAq a0 a1)), [false, true], [xAg r1, xAg r2], []⟩ = some (.done (xAr true) [AbC 29 (xAp a0 1048576) (xAg r1), (decide ((r1 : Int) < 0)) = false, AbC 29 (xAp a1 r1) (xAg r2), (decide ((r2 : Int) < 0)) = true]) := by kernel_rfl
theorem p6_e_2 (a0 a1 : List Rea) (r1 r2 : Int) (r3 : (List Rea)) (r4 : (List Rea)) (r5 : (List Rea)) (r6 : (List Rea)) (r7 : (List Rea)) (r8 : (List Rea)) (r9 : Bool) : run tt (AbsCalls Try.prog) I6 3000 false [.code I6.body] ⟨(zBg 0 (xAq a0 a1)), [false, false, true], [xAg r1, xAg r2, xAa r3, xAa r4, xAm r5, xAa r6, xAa r7, xAi r8, xAb r9], []⟩ = some (.done (xAr false) [AbC 29 (xAp a0 1048576) (xAg r1), (decide ((r1 : Int) < 0)) = false, AbC 29 (xAp a1 r1) (xAg r2), (decide ((r2 : Int) < 0)) = false, AbC 32 (xAc a0) (xAa r3), AbC 32 (xAc a1) (xAa r4), AbC 39 (xAI r3 r4) (xAm r5), AbC 32 (xAc a0) (xAa r6), AbC 32 (xAc a1) (xAa r7), AbC 40 (xAx r6 r7) (xAi r8), AbC 35 (xAh r8 r5) (xAb r9), (!r9) = true]) := by kernel_rfl
theorem p6_e_3 (a0 a1 : List Rea) (r1 r2 : Int) (r3 : (List Rea)) (r4 : (List Rea)) (r5 : (List Rea)) (r6 : (List Rea)) (r7 : (List Rea)) (r8 : (List Rea)) (r9 : Bool) (r10 : (List Rea)) (r11 : Bool) : run tt (AbsCalls Try.prog) I6 3000 false [.code I6.body] ⟨(zBg 0 (xAq a0 a1)), [false, false, false, true], [xAg r1, xAg r2, xAa r3, xAa r4, xAm r5, xAa r6, xAa r7, xAi r8, xAb r9, xAa r10, xAb r11], []⟩ = some (.done (xAr false) [AbC 29 (xAp a0 1048576) (xAg r1), (decide ((r1 : Int) < 0)) = false, AbC 29 (xAp a1 r1) (xAg r2), (decide ((r2 : Int) < 0)) = false, AbC 32 (xAc a0) (xAa r3), AbC 32 (xAc a1) (xAa r4), AbC 39 (xAI r3 r4) (xAm r5), AbC 32 (xAc a0) (xAa r6), AbC 32 (xAc a1) (xAa r7), AbC 40 (xAx r6 r7) (xAi r8), AbC 35 (xAh r8 r5) (xAb r9), (!r9) = false, AbC 32 (xAc a0) (xAa r10), AbC 35 (xAh r6 r10) (xAb r11), (!r11) = true]) := by kernel_rfl
theorem p6_e_4 (a0 a1 : List Rea) (r1 r2 : Int) (r3 : (List Rea)) (r4 : (List Rea)) (r5 : (List Rea)) (r6 : (List Rea)) (r7 : (List Rea)) (r8 : (List Rea)) (r9 : Bool) (r10 : (List Rea)) (r11 : Bool) (r12 : (List Rea)) (r13 : Bool) : run tt (AbsCalls Try.prog) I6 3000 false [.code I6.body] ⟨(zBg 0 (xAq a0 a1)), [false, false, false, false, true], [xAg r1, xAg r2, xAa r3, xAa r4, xAm r5, xAa r6, xAa r7, xAi r8, xAb r9, xAa r10, xAb r11, xAa r12, xAb r13], []⟩ = some (.done (xAr false) [AbC 29 (xAp a0 1048576) (xAg r1), (decide ((r1 : Int) < 0)) = false, AbC 29 (xAp a1 r1) (xAg r2), (decide ((r2 : Int) < 0)) = false, AbC 32 (xAc a0) (xAa r3), AbC 32 (xAc a1) (xAa r4), AbC 39 (xAI r3 r4) (xAm r5), AbC 32 (xAc a0) (xAa r6), AbC 32 (xAc a1) (xAa r7), AbC 40 (xAx r6 r7) (xAi r8), AbC 35 (xAh r8 r5) (xAb r9), (!r9) = false, AbC 32 (xAc a0) (xAa r10), AbC 35 (xAh r6 r10) (xAb r11), (!r11) = false, AbC 32 (xAc a1) (xAa r12), AbC 35 (xAh r7 r12) (xAb r13), (!r13) = true]) := by kernel_rfl
theorem p6_e_5 (a0 a1 : List Rea) (r1 r2 : Int) (r3 : (List Rea)) (r4 : (List Rea)) (r5 : (List Rea)) (r6 : (List Rea)) (r7 : (List Rea)) (r8 : (List Rea)) (r9 : Bool) (r10 : (List Rea)) (r11 : Bool) (r12 : (List Rea)) (r13 : Bool) (r14 : Int × (List Rea)) (r15 : Int × (List Rea)) : run tt (AbsCalls Try.prog) I6 3000 false [.code I6.body] ⟨(zBg 0 (xAq a0 a1)), [false, false, false, false, false, true, true], [xAg r1, xAg r2, xAa r3, xAa r4, xAm r5, xAa r6, xAa r7, xAi r8, xAb r9, xAa r10, xAb r11, xAa r12, xAb r13, xAf r14, xAf r15], []⟩ = some (.done (xAr false) [AbC 29 (xAp a0 1048576) (xAg r1), (decide ((r1 : Int) < 0)) = false, AbC 29 (xAp a1 r1) (xAg r2), (decide ((r2 : Int) < 0)) = false, AbC 32 (xAc a0) (xAa r3), AbC 32 (xAc a1) (xAa r4), AbC 39 (xAI r3 r4) (xAm r5), AbC 32 (xAc a0) (xAa r6), AbC 32 (xAc a1) (xAa r7), AbC 40 (xAx r6 r7) (xAi r8), AbC 35 (xAh r8 r5) (xAb r9), (!r9) = false, AbC 32 (xAc a0) (xAa r10), AbC 35 (xAh r6 r10) (xAb r11), (!r11) = false, AbC 32 (xAc a1) (xAa r12), AbC 35 (xAh r7 r12) (xAb r13), (!r13) = false, AbC 37 (xAo r6 1) (xAf r14), List.length r14.2 = List.length r6, AbC 37 (xAo r7 r14.1) (xAf r15), List.length r15.2 = List.length r7, (decide ((r15.1 : Int) < 0)) = true, true = true]) := by kernel_rfl
theorem p6_e_6 (a0 a1 : List Rea) (r1 r2 : Int) (r3 : (List Rea)) (r4 : (List Rea)) (r5 : (List Rea)) (r6 : (List Rea)) (r7 : (List Rea)) (r8 : (List Rea)) (r9 : Bool) (r10 : (List Rea)) (r11 : Bool) (r12 : (List Rea)) (r13 : Bool) (r14 : Int × (List Rea)) (r15 : Int × (List Rea)) (r16 : Bool) : run tt (AbsCalls Try.prog) I6 3000 false [.code I6.body] ⟨(zBg 0 (xAq a0 a1)), [false, false, false, false, false, false, true], [xAg r1, xAg r2, xAa r3, xAa r4, xAm r5, xAa r6, xAa r7, xAi r8, xAb r9, xAa r10, xAb r11, xAa r12, xAb r13, xAf r14, xAf r15, xAb r16], []⟩ = some (.done (xAr false) [AbC 29 (xAp a0 1048576) (xAg r1), (decide ((r1 : Int) < 0)) = false, AbC 29 (xAp a1 r1) (xAg r2), (decide ((r2 : Int) < 0)) = false, AbC 32 (xAc a0) (xAa r3), AbC 32 (xAc a1) (xAa r4), AbC 39 (xAI r3 r4) (xAm r5), AbC 32 (xAc a0) (xAa r6), AbC 32 (xAc a1) (xAa r7), AbC 40 (xAx r6 r7) (xAi r8), AbC 35 (xAh r8 r5) (xAb r9), (!r9) = false, AbC 32 (xAc a0) (xAa r10), AbC 35 (xAh r6 r10) (xAb r11), (!r11) = false, AbC 32 (xAc a1) (xAa r12), AbC 35 (xAh r7 r12) (xAb r13), (!r13) = false, AbC 37 (xAo r6 1) (xAf r14), List.length r14.2 = List.length r6, AbC 37 (xAo r7 r14.1) (xAf r15), List.length r15.2 = List.length r7, (decide ((r15.1 : Int) < 0)) = false, AbC 35 (xAh r8 r5) (xAb r16), (!r16) = true]) := by kernel_rfl
theorem p6_e_7 (a0 a1 : List Rea) (r1 r2 : Int) (r3 : (List Rea)) (r4 : (List Rea)) (r5 : (List Rea)) (r6 : (List Rea)) (r7 : (List Rea)) (r8 : (List Rea)) (r9 : Bool) (r10 : (List Rea)) (r11 : Bool) (r12 : (List Rea)) (r13 : Bool) (r14 : Int × (List Rea)) (r15 : Int × (List Rea)) (r16 : Bool) (r17 : Int × (List Rea)) (r18 : Int) : run tt (AbsCalls Try.prog) I6 3000 false [.code I6.body] ⟨(zBg 0 (xAq a0 a1)), [false, false, false, false, false, false, false, true], [xAg r1, xAg r2, xAa r3, xAa r4, xAm r5, xAa r6, xAa r7, xAi r8, xAb r9, xAa r10, xAb r11, xAa r12, xAb r13, xAf r14, xAf r15, xAb r16, xAf r17, xAl r18], []⟩ = some (.done (xAr false) [AbC 29 (xAp a0 1048576) (xAg r1), (decide ((r1 : Int) < 0)) = false, AbC 29 (xAp a1 r1) (xAg r2), (decide ((r2 : Int) < 0)) = false, AbC 32 (xAc a0) (xAa r3), AbC 32 (xAc a1) (xAa r4), AbC 39 (xAI r3 r4) (xAm r5), AbC 32 (xAc a0) (xAa r6), AbC 32 (xAc a1) (xAa r7), AbC 40 (xAx r6 r7) (xAi r8), AbC 35 (xAh r8 r5) (xAb r9), (!r9) = false, AbC 32 (xAc a0) (xAa r10), AbC 35 (xAh r6 r10) (xAb r11), (!r11) = false, AbC 32 (xAc a1) (xAa r12), AbC 35 (xAh r7 r12) (xAb r13), (!r13) = false, AbC 37 (xAo r6 1) (xAf r14), List.length r14.2 = List.length r6, AbC 37 (xAo r7 r14.1) (xAf r15), List.length r15.2 = List.length r7, (decide ((r15.1 : Int) < 0)) = false, AbC 35 (xAh r8 r5) (xAb r16), (!r16) = false, AbC 37 (xAo r8 1) (xAf r17), List.length r17.2 = List.length r8, AbC 41 (xAT r17.2 1) (xAl r18), (decide ((r18 : Int) < 0)) = true]) := by kernel_rfl
theorem p6_e_8 (a0 a1 : List Rea) (r1 r2 : Int) (r3 : (List Rea)) (r4 : (List Rea)) (r5 : (List Rea)) (r6 : (List Rea)) (r7 : (List Rea)) (r8 : (List Rea)) (r9 : Bool) (r10 : (List Rea)) (r11 : Bool) (r12 : (List Rea)) (r13 : Bool) (r14 : Int × (List Rea)) (r15 : Int × (List Rea)) (r16 : Bool) (r17 : Int × (List Rea)) (r18 : Int) : run tt (AbsCalls Try.prog) I6 3000 false [.code I6.body] ⟨(zBg 0 (xAq a0 a1)), [false, false, false, false, false, false, false, false, true], [xAg r1, xAg r2, xAa r3, xAa r4, xAm r5, xAa r6, xAa r7, xAi r8, xAb r9, xAa r10, xAb r11, xAa r12, xAb r13, xAf r14, xAf r15, xAb r16, xAf r17, xAl r18], []⟩ = some (.done (xAr false) [AbC 29 (xAp a0 1048576) (xAg r1), (decide ((r1 : Int) < 0)) = false, AbC 29 (xAp a1 r1) (xAg r2), (decide ((r2 : Int) < 0)) = false, AbC 32 (xAc a0) (xAa r3), AbC 32 (xAc a1) (xAa r4), AbC 39 (xAI r3 r4) (xAm r5), AbC 32 (xAc a0) (xAa r6), AbC 32 (xAc a1) (xAa r7), AbC 40 (xAx r6 r7) (xAi r8), AbC 35 (xAh r8 r5) (xAb r9), (!r9) = false, AbC 32 (xAc a0) (xAa r10), AbC 35 (xAh r6 r10) (xAb r11), (!r11) = false, AbC 32 (xAc a1) (xAa r12), AbC 35 (xAh r7 r12) (xAb r13), (!r13) = false, AbC 37 (xAo r6 1) (xAf r14), List.length r14.2 = List.length r6, AbC 37 (xAo r7 r14.1) (xAf r15), List.length r15.2 = List.length r7, (decide ((r15.1 : Int) < 0)) = false, AbC 35 (xAh r8 r5) (xAb r16), (!r16) = false, AbC 37 (xAo r8 1) (xAf r17), List.length r17.2 = List.length r8, AbC 41 (xAT r17.2 1) (xAl r18), (decide ((r18 : Int) < 0)) = false, ((r18 : Int) != r17.1) = true]) := by kernel_rfl
theorem p6_e_9 (a0 a1 : List Rea) (r1 r2 : Int) (r3 : (List Rea)) (r4 : (List Rea)) (r5 : (List Rea)) (r6 : (List Rea)) (r7 : (List Rea)) (r8 : (List Rea)) (r9 : Bool) (r10 : (List Rea)) (r11 : Bool) (r12 : (List Rea)) (r13 : Bool) (r14 : Int × (List Rea)) (r15 : Int × (List Rea)) (r16 : Bool) (r17 : Int × (List Rea)) (r18 : Int) (r19 : (List Rea)) (r20 : (List Rea)) (r21 : (List Rea)) (r22 : Bool) : run tt (AbsCalls Try.prog) I6 3000 false [.code I6.body] ⟨(zBg 0 (xAq a0 a1)), [false, false, false, false, false, false, false, false, false, true], [xAg r1, xAg r2, xAa r3, xAa r4, xAm r5, xAa r6, xAa r7, xAi r8, xAb r9, xAa r10, xAb r11, xAa r12, xAb r13, xAf r14, xAf r15, xAb r16, xAf r17, xAl r18, xAa r19, xAa r20, xAi r21, xAb r22], []⟩ = some (.done (xAr false) [AbC 29 (xAp a0 1048576) (xAg r1), (decide ((r1 : Int) < 0)) = false, AbC 29 (xAp a1 r1) (xAg r2), (decide ((r2 : Int) < 0)) = false, AbC 32 (xAc a0) (xAa r3), AbC 32 (xAc a1) (xAa r4), AbC 39 (xAI r3 r4) (xAm r5), AbC 32 (xAc a0) (xAa r6), AbC 32 (xAc a1) (xAa r7), AbC 40 (xAx r6 r7) (xAi r8), AbC 35 (xAh r8 r5) (xAb r9), (!r9) = false, AbC 32 (xAc a0) (xAa r10), AbC 35 (xAh r6 r10) (xAb r11), (!r11) = false, AbC 32 (xAc a1) (xAa r12), AbC 35 (xAh r7 r12) (xAb r13), (!r13) = false, AbC 37 (xAo r6 1) (xAf r14), List.length r14.2 = List.length r6, AbC 37 (xAo r7 r14.1) (xAf r15), List.length r15.2 = List.length r7, (decide ((r15.1 : Int) < 0)) = false, AbC 35 (xAh r8 r5) (xAb r16), (!r16) = false, AbC 37 (xAo r8 1) (xAf r17), List.length r17.2 = List.length r8, AbC 41 (xAT r17.2 1) (xAl r18), (decide ((r18 : Int) < 0)) = false, ((r18 : Int) != r17.1) = false, AbC 32 (xAc a0) (xAa r19), AbC 32 (xAc a1) (xAa r20), AbC 40 (xAx r19 r20) (xAi r21), AbC 35 (xAh r21 r5) (xAb r22), (!r22) = true]) := by kernel_rfl
theorem p6_e_10 (a0 a1 : List Rea) (r1 r2 : Int) (r3 : (List Rea)) (r4 : (List Rea)) (r5 : (List Rea)) (r6 : (List Rea)) (r7 : (List Rea)) (r8 : (List Rea)) (r9 : Bool) (r10 : (List Rea)) (r11 : Bool) (r12 : (List Rea)) (r13 : Bool) (r14 : Int × (List Rea)) (r15 : Int × (List Rea)) (r16 : Bool) (r17 : Int × (List Rea)) (r18 : Int) (r19 : (List Rea)) (r20 : (List Rea)) (r21 : (List Rea)) (r22 : Bool) (r23 : Int) : run tt (AbsCalls Try.prog) I6 3000 false [.code I6.body] ⟨(zBg 0 (xAq a0 a1)), [false, false, false, false, false, false, false, false, false, false, true], [xAg r1, xAg r2, xAa r3, xAa r4, xAm r5, xAa r6, xAa r7, xAi r8, xAb r9, xAa r10, xAb r11, xAa r12, xAb r13, xAf r14, xAf r15, xAb r16, xAf r17, xAl r18, xAa r19, xAa r20, xAi r21, xAb r22, xAl r23], []⟩ = some (.done (xAr false) [AbC 29 (xAp a0 1048576) (xAg r1), (decide ((r1 : Int) < 0)) = false, AbC 29 (xAp a1 r1) (xAg r2), (decide ((r2 : Int) < 0)) = false, AbC 32 (xAc a0) (xAa r3), AbC 32 (xAc a1) (xAa r4), AbC 39 (xAI r3 r4) (xAm r5), AbC 32 (xAc a0) (xAa r6), AbC 32 (xAc a1) (xAa r7), AbC 40 (xAx r6 r7) (xAi r8), AbC 35 (xAh r8 r5) (xAb r9), (!r9) = false, AbC 32 (xAc a0) (xAa r10), AbC 35 (xAh r6 r10) (xAb r11), (!r11) = false, AbC 32 (xAc a1) (xAa r12), AbC 35 (xAh r7 r12) (xAb r13), (!r13) = false, AbC 37 (xAo r6 1) (xAf r14), List.length r14.2 = List.length r6, AbC 37 (xAo r7 r14.1) (xAf r15), List.length r15.2 = List.length r7, (decide ((r15.1 : Int) < 0)) = false, AbC 35 (xAh r8 r5) (xAb r16), (!r16) = false, AbC 37 (xAo r8 1) (xAf r17), List.length r17.2 = List.length r8, AbC 41 (xAT r17.2 1) (xAl r18), (decide ((r18 : Int) < 0)) = false, ((r18 : Int) != r17.1) = false, AbC 32 (xAc a0) (xAa r19), AbC 32 (xAc a1) (xAa r20), AbC 40 (xAx r19 r20) (xAi r21), AbC 35 (xAh r21 r5) (xAb r22), (!r22) = false, AbC 41 (xAT r17.2 1) (xAl r23), (decide ((r23 : Int) < 0)) = true]) := by kernel_rfl
theorem p6_e_11 (a0 a1 : List Rea) (r1 r2 : Int) (r3 : (List Rea)) (r4 : (List Rea)) (r5 : (List Rea)) (r6 : (List Rea)) (r7 : (List Rea)) (r8 : (List Rea)) (r9 : Bool) (r10 : (List Rea)) (r11 : Bool) (r12 : (List Rea)) (r13 : Bool) (r14 : Int × (List Rea)) (r15 : Int × (List Rea)) (r16 : Bool) (r17 : Int × (List Rea)) (r18 : Int) (r19 : (List Rea)) (r20 : (List Rea)) (r21 : (List Rea)) (r22 : Bool) (r23 : Int) : run tt (AbsCalls Try.prog) I6 3000 false [.code I6.body] ⟨(zBg 0 (xAq a0 a1)), [false, false, false, false, false, false, false, false, false, false, false, true], [xAg r1, xAg r2, xAa r3, xAa r4, xAm r5, xAa r6, xAa r7, xAi r8, xAb r9, xAa r10, xAb r11, xAa r12, xAb r13, xAf r14, xAf r15, xAb r16, xAf r17, xAl r18, xAa r19, xAa r20, xAi r21, xAb r22, xAl r23], []⟩ = some (.done (xAr false) [AbC 29 (xAp a0 1048576) (xAg r1), (decide ((r1 : Int) < 0)) = false, AbC 29 (xAp a1 r1) (xAg r2), (decide ((r2 : Int) < 0)) = false, AbC 32 (xAc a0) (xAa r3), AbC 32 (xAc a1) (xAa r4), AbC 39 (xAI r3 r4) (xAm r5), AbC 32 (xAc a0) (xAa r6), AbC 32 (xAc a1) (xAa r7), AbC 40 (xAx r6 r7) (xAi r8), AbC 35 (xAh r8 r5) (xAb r9), (!r9) = false, AbC 32 (xAc a0) (xAa r10), AbC 35 (xAh r6 r10) (xAb r11), (!r11) = false, AbC 32 (xAc a1) (xAa r12), AbC 35 (xAh r7 r12) (xAb r13), (!r13) = false, AbC 37 (xAo r6 1) (xAf r14), List.length r14.2 = List.length r6, AbC 37 (xAo r7 r14.1) (xAf r15), List.length r15.2 = List.length r7, (decide ((r15.1 : Int) < 0)) = false, AbC 35 (xAh r8 r5) (xAb r16), (!r16) = false, AbC 37 (xAo r8 1) (xAf r17), List.length r17.2 = List.length r8, AbC 41 (xAT r17.2 1) (xAl r18), (decide ((r18 : Int) < 0)) = false, ((r18 : Int) != r17.1) = false, AbC 32 (xAc a0) (xAa r19), AbC 32 (xAc a1) (xAa r20), AbC 40 (xAx r19 r20) (xAi r21), AbC 35 (xAh r21 r5) (xAb r22), (!r22) = false, AbC 41 (xAT r17.2 1) (xAl r23), (decide ((r23 : Int) < 0)) = false, ((r23 : Int) != r17.1) = true]) := by kernel_rfl
theorem p6_e_12 (a0 a1 : List Rea) (r1 r2 : Int) (r3 : (List Rea)) (r4 : (List Rea)) (r5 : (List Rea)) (r6 : (List Rea)) (r7 : (List Rea)) (r8 : (List Rea)) (r9 : Bool) (r10 : (List Rea)) (r11 : Bool) (r12 : (List Rea)) (r13 : Bool) (r14 : Int × (List Rea)) (r15 : Int × (List Rea)) (r16 : Bool) (r17 : Int × (List Rea)) (r18 : Int) (r19 : (List Rea)) (r20 : (List Rea)) (r21 : (List Rea)) (r22 : Bool) (r23 : Int) : run tt (AbsCalls Try.prog) I6 3000 false [.code I6.body] ⟨(zBg 0 (xAq a0 a1)), [false, false, false, false, false, false, false, false, false, false, false, false], [xAg r1, xAg r2, xAa r3, xAa r4, xAm r5, xAa r6, xAa r7, xAi r8, xAb r9, xAa r10, xAb r11, xAa r12, xAb r13, xAf r14, xAf r15, xAb r16, xAf r17, xAl r18, xAa r19, xAa r20, xAi r21, xAb r22, xAl r23], []⟩ = some (.done (xAr true) [AbC 29 (xAp a0 1048576) (xAg r1), (decide ((r1 : Int) < 0)) = false, AbC 29 (xAp a1 r1) (xAg r2), (decide ((r2 : Int) < 0)) = false, AbC 32 (xAc a0) (xAa r3), AbC 32 (xAc a1) (xAa r4), AbC 39 (xAI r3 r4) (xAm r5), AbC 32 (xAc a0) (xAa r6), AbC 32 (xAc a1) (xAa r7), AbC 40 (xAx r6 r7) (xAi r8), AbC 35 (xAh r8 r5) (xAb r9), (!r9) = false, AbC 32 (xAc a0) (xAa r10), AbC 35 (xAh r6 r10) (xAb r11), (!r11) = false, AbC 32 (xAc a1) (xAa r12), AbC 35 (xAh r7 r12) (xAb r13), (!r13) = false, AbC 37 (xAo r6 1) (xAf r14), List.length r14.2 = List.length r6, AbC 37 (xAo r7 r14.1) (xAf r15), List.length r15.2 = List.length r7, (decide ((r15.1 : Int) < 0)) = false, AbC 35 (xAh r8 r5) (xAb r16), (!r16) = false, AbC 37 (xAo r8 1) (xAf r17), List.length r17.2 = List.length r8, AbC 41 (xAT r17.2 1) (xAl r18), (decide ((r18 : Int) < 0)) = false, ((r18 : Int) != r17.1) = false, AbC 32 (xAc a0) (xAa r19), AbC 32 (xAc a1) (xAa r20), AbC 40 (xAx r19 r20) (xAi r21), AbC 35 (xAh r21 r5) (xAb r22), (!r22) = false, AbC 41 (xAT r17.2 1) (xAl r23), (decide ((r23 : Int) < 0)) = false, ((r23 : Int) != r17.1) = false]) := by kernel_rfl
theorem c6_e {N : Nat} : ∀ a0 a1 r, xA6 N a0 a1 = some r → Reach Try.prog Try.f6 I6 [.code I6.body] (zBg 0 (xAq a0 a1)) (xAr r) := by
 intro a0 a1 r h
 unfold xA6 at h
 obtain ⟨r1, h0, h⟩ := bind_inv h
 rcases cond_inv h with ⟨h1, h⟩ | ⟨h1, h⟩
 ·obtain rfl := Option.some.inj h
  exact Reach.done ttok mix fk6 (p6_e_0 a0 a1 r1) (obs_cons (xAv h0) (obs_cons h1 obs_nil))
 ·obtain ⟨r2, h2, h⟩ := bind_inv h
  rcases cond_inv h with ⟨h3, h⟩ | ⟨h3, h⟩
  ·obtain rfl := Option.some.inj h
   exact Reach.done ttok mix fk6 (p6_e_1 a0 a1 r1 r2) (obs_cons (xAv h0) (obs_cons h1 (obs_cons (xAv h2) (obs_cons h3 obs_nil))))
  ·obtain ⟨r3, h4, h⟩ := bind_inv h
   obtain ⟨r4, h5, h⟩ := bind_inv h
   obtain ⟨r5, h6, h⟩ := bind_inv h
   obtain ⟨r6, h7, h⟩ := bind_inv h
   obtain ⟨r7, h8, h⟩ := bind_inv h
   obtain ⟨r8, h9, h⟩ := bind_inv h
   obtain ⟨r9, h10, h⟩ := bind_inv h
   rcases cond_inv h with ⟨h11, h⟩ | ⟨h11, h⟩
   ·obtain rfl := Option.some.inj h
    exact Reach.done ttok mix fk6 (p6_e_2 a0 a1 r1 r2 r3 r4 r5 r6 r7 r8 r9) (obs_cons (xAv h0) (obs_cons h1 (obs_cons (xAv h2) (obs_cons h3 (obs_cons (xAd h4) (obs_cons (xAd h5) (obs_cons (xAX h6) (obs_cons (xAd h7) (obs_cons (xAd h8) (obs_cons (xAF h9) (obs_cons (xAj h10) (obs_cons h11 obs_nil))))))))))))
   ·obtain ⟨r10, h12, h⟩ := bind_inv h
    obtain ⟨r11, h13, h⟩ := bind_inv h
    rcases cond_inv h with ⟨h14, h⟩ | ⟨h14, h⟩
    ·obtain rfl := Option.some.inj h
     exact Reach.done ttok mix fk6 (p6_e_3 a0 a1 r1 r2 r3 r4 r5 r6 r7 r8 r9 r10 r11) (obs_cons (xAv h0) (obs_cons h1 (obs_cons (xAv h2) (obs_cons h3 (obs_cons (xAd h4) (obs_cons (xAd h5) (obs_cons (xAX h6) (obs_cons (xAd h7) (obs_cons (xAd h8) (obs_cons (xAF h9) (obs_cons (xAj h10) (obs_cons h11 (obs_cons (xAd h12) (obs_cons (xAj h13) (obs_cons h14 obs_nil)))))))))))))))
    ·obtain ⟨r12, h15, h⟩ := bind_inv h
     obtain ⟨r13, h16, h⟩ := bind_inv h
     rcases cond_inv h with ⟨h17, h⟩ | ⟨h17, h⟩
     ·obtain rfl := Option.some.inj h
      exact Reach.done ttok mix fk6 (p6_e_4 a0 a1 r1 r2 r3 r4 r5 r6 r7 r8 r9 r10 r11 r12 r13) (obs_cons (xAv h0) (obs_cons h1 (obs_cons (xAv h2) (obs_cons h3 (obs_cons (xAd h4) (obs_cons (xAd h5) (obs_cons (xAX h6) (obs_cons (xAd h7) (obs_cons (xAd h8) (obs_cons (xAF h9) (obs_cons (xAj h10) (obs_cons h11 (obs_cons (xAd h12) (obs_cons (xAj h13) (obs_cons h14 (obs_cons (xAd h15) (obs_cons (xAj h16) (obs_cons h17 obs_nil))))))))))))))))))
     ·obtain ⟨r14, h18, h⟩ := bind_inv h
      obtain ⟨h19, h⟩ := ite_inv h
      obtain ⟨r15, h20, h⟩ := bind_inv h
      obtain ⟨h21, h⟩ := ite_inv h
      rcases cond_inv h with ⟨h22, h⟩ | ⟨h22, h⟩
      ·obtain rfl := Option.some.inj h
       exact Reach.done ttok mix fk6 (p6_e_5 a0 a1 r1 r2 r3 r4 r5 r6 r7 r8 r9 r10 r11 r12 r13 r14 r15) (obs_cons (xAv h0) (obs_cons h1 (obs_cons (xAv h2) (obs_cons h3 (obs_cons (xAd h4) (obs_cons (xAd h5) (obs_cons (xAX h6) (obs_cons (xAd h7) (obs_cons (xAd h8) (obs_cons (xAF h9) (obs_cons (xAj h10) (obs_cons h11 (obs_cons (xAd h12) (obs_cons (xAj h13) (obs_cons h14 (obs_cons (xAd h15) (obs_cons (xAj h16) (obs_cons h17 (obs_cons (xAt h18) (obs_cons h19 (obs_cons (xAt h20) (obs_cons h21 (obs_cons h22 (obs_cons rfl obs_nil))))))))))))))))))))))))
      ·obtain ⟨r16, h23, h⟩ := bind_inv h
       rcases cond_inv h with ⟨h24, h⟩ | ⟨h24, h⟩
       ·obtain rfl := Option.some.inj h
        exact Reach.done ttok mix fk6 (p6_e_6 a0 a1 r1 r2 r3 r4 r5 r6 r7 r8 r9 r10 r11 r12 r13 r14 r15 r16) (obs_cons (xAv h0) (obs_cons h1 (obs_cons (xAv h2) (obs_cons h3 (obs_cons (xAd h4) (obs_cons (xAd h5) (obs_cons (xAX h6) (obs_cons (xAd h7) (obs_cons (xAd h8) (obs_cons (xAF h9) (obs_cons (xAj h10) (obs_cons h11 (obs_cons (xAd h12) (obs_cons (xAj h13) (obs_cons h14 (obs_cons (xAd h15) (obs_cons (xAj h16) (obs_cons h17 (obs_cons (xAt h18) (obs_cons h19 (obs_cons (xAt h20) (obs_cons h21 (obs_cons h22 (obs_cons (xAj h23) (obs_cons h24 obs_nil)))))))))))))))))))))))))
       ·obtain ⟨r17, h25, h⟩ := bind_inv h
        obtain ⟨h26, h⟩ := ite_inv h
        obtain ⟨r18, h27, h⟩ := bind_inv h
        rcases cond_inv h with ⟨h28, h⟩ | ⟨h28, h⟩
        ·obtain rfl := Option.some.inj h
         exact Reach.done ttok mix fk6 (p6_e_7 a0 a1 r1 r2 r3 r4 r5 r6 r7 r8 r9 r10 r11 r12 r13 r14 r15 r16 r17 r18) (obs_cons (xAv h0) (obs_cons h1 (obs_cons (xAv h2) (obs_cons h3 (obs_cons (xAd h4) (obs_cons (xAd h5) (obs_cons (xAX h6) (obs_cons (xAd h7) (obs_cons (xAd h8) (obs_cons (xAF h9) (obs_cons (xAj h10) (obs_cons h11 (obs_cons (xAd h12) (obs_cons (xAj h13) (obs_cons h14 (obs_cons (xAd h15) (obs_cons (xAj h16) (obs_cons h17 (obs_cons (xAt h18) (obs_cons h19 (obs_cons (xAt h20) (obs_cons h21 (obs_cons h22 (obs_cons (xAj h23) (obs_cons h24 (obs_cons (xAt h25) (obs_cons h26 (obs_cons (xBd h27) (obs_cons h28 obs_nil)))))))))))))))))))))))))))))
        ·rcases cond_inv h with ⟨h29, h⟩ | ⟨h29, h⟩
         ·obtain rfl := Option.some.inj h
          exact Reach.done ttok mix fk6 (p6_e_8 a0 a1 r1 r2 r3 r4 r5 r6 r7 r8 r9 r10 r11 r12 r13 r14 r15 r16 r17 r18) (obs_cons (xAv h0) (obs_cons h1 (obs_cons (xAv h2) (obs_cons h3 (obs_cons (xAd h4) (obs_cons (xAd h5) (obs_cons (xAX h6) (obs_cons (xAd h7) (obs_cons (xAd h8) (obs_cons (xAF h9) (obs_cons (xAj h10) (obs_cons h11 (obs_cons (xAd h12) (obs_cons (xAj h13) (obs_cons h14 (obs_cons (xAd h15) (obs_cons (xAj h16) (obs_cons h17 (obs_cons (xAt h18) (obs_cons h19 (obs_cons (xAt h20) (obs_cons h21 (obs_cons h22 (obs_cons (xAj h23) (obs_cons h24 (obs_cons (xAt h25) (obs_cons h26 (obs_cons (xBd h27) (obs_cons h28 (obs_cons h29 obs_nil))))))))))))))))))))))))))))))
         ·obtain ⟨r19, h30, h⟩ := bind_inv h
          obtain ⟨r20, h31, h⟩ := bind_inv h
          obtain ⟨r21, h32, h⟩ := bind_inv h
          obtain ⟨r22, h33, h⟩ := bind_inv h
          rcases cond_inv h with ⟨h34, h⟩ | ⟨h34, h⟩
          ·obtain rfl := Option.some.inj h
           exact Reach.done ttok mix fk6 (p6_e_9 a0 a1 r1 r2 r3 r4 r5 r6 r7 r8 r9 r10 r11 r12 r13 r14 r15 r16 r17 r18 r19 r20 r21 r22) (obs_cons (xAv h0) (obs_cons h1 (obs_cons (xAv h2) (obs_cons h3 (obs_cons (xAd h4) (obs_cons (xAd h5) (obs_cons (xAX h6) (obs_cons (xAd h7) (obs_cons (xAd h8) (obs_cons (xAF h9) (obs_cons (xAj h10) (obs_cons h11 (obs_cons (xAd h12) (obs_cons (xAj h13) (obs_cons h14 (obs_cons (xAd h15) (obs_cons (xAj h16) (obs_cons h17 (obs_cons (xAt h18) (obs_cons h19 (obs_cons (xAt h20) (obs_cons h21 (obs_cons h22 (obs_cons (xAj h23) (obs_cons h24 (obs_cons (xAt h25) (obs_cons h26 (obs_cons (xBd h27) (obs_cons h28 (obs_cons h29 (obs_cons (xAd h30) (obs_cons (xAd h31) (obs_cons (xAF h32) (obs_cons (xAj h33) (obs_cons h34 obs_nil)))))))))))))))))))))))))))))))))))
          ·obtain ⟨r23, h35, h⟩ := bind_inv h
           rcases cond_inv h with ⟨h36, h⟩ | ⟨h36, h⟩
           ·obtain rfl := Option.some.inj h
            exact Reach.done ttok mix fk6 (p6_e_10 a0 a1 r1 r2 r3 r4 r5 r6 r7 r8 r9 r10 r11 r12 r13 r14 r15 r16 r17 r18 r19 r20 r21 r22 r23) (obs_cons (xAv h0) (obs_cons h1 (obs_cons (xAv h2) (obs_cons h3 (obs_cons (xAd h4) (obs_cons (xAd h5) (obs_cons (xAX h6) (obs_cons (xAd h7) (obs_cons (xAd h8) (obs_cons (xAF h9) (obs_cons (xAj h10) (obs_cons h11 (obs_cons (xAd h12) (obs_cons (xAj h13) (obs_cons h14 (obs_cons (xAd h15) (obs_cons (xAj h16) (obs_cons h17 (obs_cons (xAt h18) (obs_cons h19 (obs_cons (xAt h20) (obs_cons h21 (obs_cons h22 (obs_cons (xAj h23) (obs_cons h24 (obs_cons (xAt h25) (obs_cons h26 (obs_cons (xBd h27) (obs_cons h28 (obs_cons h29 (obs_cons (xAd h30) (obs_cons (xAd h31) (obs_cons (xAF h32) (obs_cons (xAj h33) (obs_cons h34 (obs_cons (xBd h35) (obs_cons h36 obs_nil)))))))))))))))))))))))))))))))))))))
           ·rcases cond_inv h with ⟨h37, h⟩ | ⟨h37, h⟩
            ·obtain rfl := Option.some.inj h
             exact Reach.done ttok mix fk6 (p6_e_11 a0 a1 r1 r2 r3 r4 r5 r6 r7 r8 r9 r10 r11 r12 r13 r14 r15 r16 r17 r18 r19 r20 r21 r22 r23) (obs_cons (xAv h0) (obs_cons h1 (obs_cons (xAv h2) (obs_cons h3 (obs_cons (xAd h4) (obs_cons (xAd h5) (obs_cons (xAX h6) (obs_cons (xAd h7) (obs_cons (xAd h8) (obs_cons (xAF h9) (obs_cons (xAj h10) (obs_cons h11 (obs_cons (xAd h12) (obs_cons (xAj h13) (obs_cons h14 (obs_cons (xAd h15) (obs_cons (xAj h16) (obs_cons h17 (obs_cons (xAt h18) (obs_cons h19 (obs_cons (xAt h20) (obs_cons h21 (obs_cons h22 (obs_cons (xAj h23) (obs_cons h24 (obs_cons (xAt h25) (obs_cons h26 (obs_cons (xBd h27) (obs_cons h28 (obs_cons h29 (obs_cons (xAd h30) (obs_cons (xAd h31) (obs_cons (xAF h32) (obs_cons (xAj h33) (obs_cons h34 (obs_cons (xBd h35) (obs_cons h36 (obs_cons h37 obs_nil))))))))))))))))))))))))))))))))))))))
            ·obtain rfl := Option.some.inj h
             exact Reach.done ttok mix fk6 (p6_e_12 a0 a1 r1 r2 r3 r4 r5 r6 r7 r8 r9 r10 r11 r12 r13 r14 r15 r16 r17 r18 r19 r20 r21 r22 r23) (obs_cons (xAv h0) (obs_cons h1 (obs_cons (xAv h2) (obs_cons h3 (obs_cons (xAd h4) (obs_cons (xAd h5) (obs_cons (xAX h6) (obs_cons (xAd h7) (obs_cons (xAd h8) (obs_cons (xAF h9) (obs_cons (xAj h10) (obs_cons h11 (obs_cons (xAd h12) (obs_cons (xAj h13) (obs_cons h14 (obs_cons (xAd h15) (obs_cons (xAj h16) (obs_cons h17 (obs_cons (xAt h18) (obs_cons h19 (obs_cons (xAt h20) (obs_cons h21 (obs_cons h22 (obs_cons (xAj h23) (obs_cons h24 (obs_cons (xAt h25) (obs_cons h26 (obs_cons (xBd h27) (obs_cons h28 (obs_cons h29 (obs_cons (xAd h30) (obs_cons (xAd h31) (obs_cons (xAF h32) (obs_cons (xAj h33) (obs_cons h34 (obs_cons (xBd h35) (obs_cons h36 (obs_cons h37 obs_nil))))))))))))))))))))))))))))))))))))))
theorem laws_FnExactMergeReads_ok {N : Nat} {a0 : List Rea} {a1 : List Rea} {r : Bool} (h : xA6 N  a0 a1 = some r) : AbC 6 (xAq a0 a1) (xAr r) :=
 AbsCalls.of_reach fk6 rfl rfl (Nat.le_of_ble_eq_true rfl) (c6_e a0 a1 r h)
end Go.Ab.T
end
section
namespace Go.Ab
set_option linter.unusedVariables false
def Big (p : Nat → Prop) : Prop := ∃ k, ∀ N, k ≤ N → p N
def Big2 (p : Nat → Nat → Prop) : Prop := ∃ k, ∀ N n, k ≤ N → k ≤ n → p N n
theorem Big.imp {p q : Nat → Prop} (h : Big p) (f : ∀ N, p N → q N) : Big q := h.elim fun k hk => ⟨k, fun N hN => f N (hk N hN)⟩
theorem Big2.imp {p q : Nat → Nat → Prop} (h : Big2 p) (f : ∀ N n, p N n → q N n) : Big2 q := h.elim fun k hk => ⟨k, fun N n h1 h2 => f N n (hk N n h1 h2)⟩
theorem Big.of {p : Nat → Prop} (h : ∀ N, p N) : Big p := ⟨0, fun N _ => h N⟩
theorem Big2.of {p : Nat → Nat → Prop} (h : ∀ N n, p N n) : Big2 p := ⟨0, fun N n _ _ => h N n⟩
theorem Big.and {p q : Nat → Prop} (h : Big p) (h' : Big q) : Big fun N => p N ∧ q N := by
  obtain ⟨a, ha⟩ := h; obtain ⟨b, hb⟩ := h'
  exact ⟨max a b, fun N hN => ⟨ha N (by omega), hb N (by omega)⟩⟩
theorem Big2.and {p q : Nat → Nat → Prop} (h : Big2 p) (h' : Big2 q) : Big2 fun N n => p N n ∧ q N n := by
  obtain ⟨a, ha⟩ := h; obtain ⟨b, hb⟩ := h'
  exact ⟨max a b, fun N n h1 h2 => ⟨ha N n (by omega) (by omega), hb N n (by omega) (by omega)⟩⟩
theorem Big.two {p : Nat → Prop} (h : Big p) : Big2 fun N _ => p N := h.elim fun k hk => ⟨k, fun N _ h _ => hk N h⟩
theorem Big2.diag {p : Nat → Nat → Prop} (h : Big2 p) : Big fun N => p N N := h.elim fun k hk => ⟨k, fun N h => hk N N h h⟩
theorem Big2.succ {p : Nat → Nat → Prop} (h : Big2 fun N n => p N (n + 1)) : Big2 p := by
  obtain ⟨k, hk⟩ := h
  refine ⟨k + 1, fun N n h1 h2 => ?_⟩
  obtain ⟨m, rfl⟩ : ∃ m, n = m + 1 := ⟨n - 1, by omega⟩
  exact hk N m (by omega) (by omega)
theorem Big.list {α : Type} {p : α → Nat → Prop} {l : List α} (h : ∀ x ∈ l, Big (p x)) : Big fun N => ∀ x ∈ l, p x N := by
  induction l with
  | nil => exact .of fun N x hx => by cases hx
  | cons a l ih =>
    refine ((h a List.mem_cons_self).and (ih fun x hx => h x (List.mem_cons_of_mem _ hx))).imp fun N ⟨h1, h2⟩ x hx => ?_
    rcases List.mem_cons.1 hx with rfl | hx
    · exact h1
    · exact h2 x hx
theorem Big2.list {α : Type} {p : α → Nat → Nat → Prop} {l : List α} (h : ∀ x ∈ l, Big2 (p x)) : Big2 fun N n => ∀ x ∈ l, p x N n := by
  induction l with
  | nil => exact .of fun N n x hx => by cases hx
  | cons a l ih =>
    refine ((h a List.mem_cons_self).and (ih fun x hx => h x (List.mem_cons_of_mem _ hx))).imp fun N n ⟨h1, h2⟩ x hx => ?_
    rcases List.mem_cons.1 hx with rfl | hx
    · exact h1
    · exact h2 x hx
theorem Big.get {p : Nat → Prop} (h : Big p) : ∃ N, p N := h.elim fun k hk => ⟨k, hk k (Nat.le_refl k)⟩
def I64 (x : Int) : Prop := -9223372036854775808 ≤ x ∧ x ≤ 9223372036854775807
theorem wrap_i64_def (x : Int) : IntKind.i64.wrap x = if x % 18446744073709551616 ≥ 9223372036854775808 then x % 18446744073709551616 - 18446744073709551616 else x % 18446744073709551616 := by
  show (if (true && decide (x % 18446744073709551616 ≥ 9223372036854775808)) = true then x % 18446744073709551616 - 18446744073709551616 else x % 18446744073709551616) = _
  simp only [Bool.true_and, decide_eq_true_eq]
theorem xBf {x : Int} (h1 : -9223372036854775808 ≤ x) (h2 : x ≤ 9223372036854775807) : IntKind.i64.wrap x = x := by
  rw [wrap_i64_def]
  split <;> omega
theorem drop_cons {α : Type} {xs : List α} {i : Nat} {x : α} {l : List α} (h : xs.drop i = x :: l) : i < xs.length ∧ xs[i]? = some x ∧ xs.drop (i + 1) = l := by
  have h1 : i < xs.length := by
    rcases Nat.lt_or_ge i xs.length with h1 | h1
    · exact h1
    · rw [List.drop_eq_nil_of_le h1] at h; cases h
  rw [List.drop_eq_getElem_cons h1] at h
  cases h
  exact ⟨h1, by simp [h1], rfl⟩
theorem drop_nil {α : Type} {xs : List α} {i : Nat} (h : xs.drop i = []) : xs.length ≤ i := by simpa using h
end Go.Ab
end
section
namespace Go.Ab
set_option linter.unusedVariables false
inductive DK (K : Nat) : D → Prop where
  | int {k n} (h : (Lit.int k n).wf = true) : DK K (.int k n)
  | bool (b) : DK K (.bool b)
  | str {s : Str} (h : s.length ≤ K) : DK K (.str s)
  | sl {sz rows} (h : rows.length ≤ K) (hr : ∀ r ∈ rows, ∀ x ∈ r, DK K x) : DK K (.sl sz rows)
theorem DFit.dk {d : D} (h : DFit d) : DK maxLen d := by
  induction h with
  | int h => exact .int h
  | bool b => exact .bool b
  | str h => exact .str h
  | sl h _ ih => exact .sl h ih
theorem wf_i64 {n : Int} : (Lit.int .i64 n).wf = true ↔ I64 n := by
  show (decide (_ ≤ n) && decide (n ≤ _)) = true ↔ _
  rw [Bool.and_eq_true, decide_eq_true_eq, decide_eq_true_eq]
  exact Iff.rfl
theorem DK.i64 {K : Nat} {n : Int} : DK K (.int .i64 n) ↔ I64 n := ⟨fun h => by cases h with | int h => exact wf_i64.1 h, fun h => .int (wf_i64.2 h)⟩
theorem DK.str_iff {K : Nat} {s : Str} : DK K (.str s) ↔ s.length ≤ K := ⟨fun h => by cases h; assumption, .str⟩
theorem DK.sl_iff {K sz : Nat} {α : Type} {f : α → List D} {xs : List α} : DK K (.sl sz (xs.map f)) ↔ xs.length ≤ K ∧ ∀ x ∈ xs, ∀ d ∈ f x, DK K d := by
  constructor
  · intro h
    cases h with
    | sl h hr => exact ⟨by simpa using h, fun x hx => hr _ (List.mem_map_of_mem hx)⟩
  · rintro ⟨h, hr⟩
    refine .sl (by simpa using h) fun r hr' => ?_
    obtain ⟨x, hx, rfl⟩ := List.mem_map.1 hr'
    exact hr x hx
def LFit {α : Type} (K : Nat) (p : α → Prop) (l : List α) : Prop := l.length ≤ K ∧ ∀ x ∈ l, p x
def Ty.Fit (K : Nat) (T : Ty) (x : T.den) : Prop := ∀ d ∈ T.toD x, DK K d
def Org.Fit (o : Org) : Prop := I64 o.cell ∧ I64 o.row
def Rowd.Fit (K : Nat) (r : Rowd) : Prop := LFit K I64 r.cells ∧ LFit K Org.Fit r.frm
def Str.Fit (K : Nat) (s : Str) : Prop := s.length ≤ K
def Val.Fit (K : Nat) (v : Val) : Prop := ∀ d ∈ Val.toD v, DK K d
def Fil.Fit (K : Nat) (v : Fil) : Prop := Str.Fit K v.name ∧ I64 v.n
def Rea.Fit (K : Nat) (v : Rea) : Prop := I64 v.kind ∧ I64 v.n ∧ I64 v.time ∧ Str.Fit K v.text ∧ v.result.Fit K
theorem rowd_fit {K : Nat} {r : Rowd} : (∀ d ∈ Rowd.toD r, DK K d) ↔ r.Fit K := by
  simp only [Rowd.toD, List.mem_cons, List.not_mem_nil, or_false, forall_eq_or_imp, forall_eq, DK.sl_iff, DK.i64, Rowd.Fit, LFit, Org.Fit]
theorem fil_fit {K : Nat} {r : Fil} : Ty.Fit K .fil r ↔ r.Fit K := by
  simp only [Ty.Fit, Ty.toD, List.mem_cons, List.not_mem_nil, or_false, forall_eq_or_imp, forall_eq, DK.str_iff, DK.i64, Fil.Fit, Str.Fit]
theorem rea_fit {K : Nat} {r : Rea} : Ty.Fit K .rea r ↔ r.Fit K := by
  simp only [Ty.Fit, Ty.toD, List.cons_append, List.nil_append, List.mem_cons, forall_eq_or_imp, DK.str_iff, DK.i64, Rea.Fit, Str.Fit, Val.Fit]
theorem Val.fit_iff {K : Nat} {v : Val} : v.Fit K ↔ I64 v.kind ∧ I64 v.n ∧ I64 v.step ∧ Str.Fit K v.text ∧ LFit K (Val.Fit K) v.list ∧ LFit K (Str.Fit K) v.columns ∧ LFit K (Rowd.Fit K) v.rows := by
  cases v
  simp only [Val.Fit, Val.toD, Val.toDs_eq, List.mem_cons, List.not_mem_nil, or_false, forall_eq_or_imp, forall_eq, DK.sl_iff, DK.i64, DK.str_iff, Str.Fit, LFit, Val.kind, Val.n, Val.step, Val.text, Val.list, Val.columns, Val.rows, rowd_fit]
theorem sizeOf_mem_list {l : List Val} {x : Val} (h : x ∈ l) (k n s : Int) (t : Str) (c : List Str) (r : List Rowd) : SizeOf.sizeOf x < SizeOf.sizeOf (Val.mk k n s t l c r) := by
  have := List.sizeOf_lt_of_mem h
  simp only [Val.mk.sizeOf_spec]
  omega
theorem Val.ind {p : Val → Prop} (h : ∀ k n s t l c r, (∀ x ∈ l, p x) → p (.mk k n s t l c r)) : ∀ v, p v
  | .mk k n s t l c r => h k n s t l c r fun x hx => Val.ind h x
termination_by v => SizeOf.sizeOf v
decreasing_by exact sizeOf_mem_list hx k n s t c r
theorem cell_sl {T : Ty} {f : Fl} {xs : List T.den} (h : DK maxLen (CV.sl f T xs).toD) : LFit maxLen (T.Fit maxLen) xs := DK.sl_iff.1 h
theorem LFit.imp {α : Type} {K : Nat} {p q : α → Prop} {l : List α} (h : LFit K p l) (f : ∀ x, p x → q x) : LFit K q l := ⟨h.1, fun x hx => f x (h.2 x hx)⟩
end Go.Ab
end
section
namespace Go.Ab
set_option linter.unusedVariables false
theorem whileLoop {σ ρ : Type} {L : Nat → σ → Option ρ} (m : σ → Nat) (Inv : σ → Prop) (Post : ρ → Prop)
    (hstep : ∀ s, Inv s → (∃ s', Inv s' ∧ m s' < m s ∧ ∀ n, L (n + 1) s = L n s') ∨ (∃ r, Post r ∧ ∀ n, L (n + 1) s = some r)) :
    ∀ n s, Inv s → m s < n → ∃ r, Post r ∧ L n s = some r := by
  intro n
  induction n with
  | zero => intro s _ h; omega
  | succ n ih =>
    intro s hs hn
    rcases hstep s hs with ⟨s', h1, h2, h3⟩ | ⟨r, h1, h2⟩
    · obtain ⟨r, h4, h5⟩ := ih s' h1 (by omega)
      exact ⟨r, h4, by rw [h3]; exact h5⟩
    · exact ⟨r, h1, h2 n⟩
theorem xDu {α σ ρ : Type} {L : Nat → Int → σ → Option ρ} (x0 : List α) (g : List α → σ → ρ) (Inv : Nat → σ → Prop)
    (hnil : ∀ n s, Inv x0.length s → L (n + 1) (x0.length : Nat) s = some (g [] s))
    (hcons : ∀ i x l s, x0.drop i = x :: l → i < x0.length → x0[i]? = some x → Inv i s →
      (∃ s', Inv (i + 1) s' ∧ g (x :: l) s = g l s' ∧ ∀ n, L (n + 1) (i : Nat) s = L n ((i + 1 : Nat) : Int) s') ∨ (∀ n, L (n + 1) (i : Nat) s = some (g (x :: l) s))) :
    ∀ n i s, Inv i s → i ≤ x0.length → x0.length < n + i → L n (i : Nat) s = some (g (x0.drop i) s) := by
  intro n
  induction n with
  | zero => intro i s _ h1 h2; omega
  | succ n ih =>
    intro i s hs hi hn
    cases hd : x0.drop i with
    | nil =>
      have := drop_nil hd
      obtain rfl : i = x0.length := by omega
      exact hnil n s hs
    | cons x l =>
      obtain ⟨h1, h2, h3⟩ := drop_cons hd
      rcases hcons i x l s hd h1 h2 hs with ⟨s', h4, h5, h6⟩ | h
      · rw [h6, ih (i + 1) s' h4 (by omega) (by omega), h3, h5]
      · exact h n
theorem xBg {α : Type} {xs : List α} {i : Nat} {x : α} (h : xs[i]? = some x) (d : α) : xs.getD i d = x := by simp [List.getD, h]
theorem xAR {i : Nat} {len : Nat} (h : i < len) (hl : len ≤ 9223372036854775807) : IntKind.i64.wrap ((i : Int) + 1) = ((i + 1 : Nat) : Int) := by
  rw [xBf (by omega) (by omega)]; omega
def left (s : Nat) (l : Int) : Int := if (s : Int) ≤ l then l - s else -1
theorem left_of {s : Nat} {l : Int} (h : (s : Int) ≤ l) : left s l = l - s := by unfold left; rw [if_pos h]
theorem left_not {s : Nat} {l : Int} (h : ¬ (s : Int) ≤ l) : left s l = -1 := by unfold left; rw [if_neg h]
theorem szThen {s b : Nat} {F : Option Int} {R : Int → Option Int} {l : Int} (hl : s ≤ 9223372036854775807) (h0 : 0 ≤ l) (h1 : l ≤ 1048576)
    (hF : F = bif decide (IntKind.i64.wrap (l - (s : Int)) < 0) then some (-1) else R (IntKind.i64.wrap (l - (s : Int))))
    (hR : ∀ m, 0 ≤ m → m ≤ 1048576 → R m = some (left b m)) : F = some (left (s + b) l) := by
  rw [hF, xBf (by omega) (by omega)]
  by_cases h : (s : Int) ≤ l
  · rw [decide_eq_false (by omega), cond_false, hR _ (by omega) (by omega)]
    unfold left
    split <;> split <;> first | rfl | omega | (congr 1; omega)
  · rw [decide_eq_true (by omega), cond_true, left_not (by omega)]
theorem szLast {s : Nat} {l : Int} (hl : s ≤ 9223372036854775807) (h0 : 0 ≤ l) (h1 : l ≤ 1048576) :
    (bif decide (IntKind.i64.wrap (l - (s : Int)) < 0) then some (-1) else some (IntKind.i64.wrap (l - (s : Int)))) = some (left s l) := by
  rw [xBf (by omega) (by omega)]
  unfold left
  by_cases h : (s : Int) ≤ l
  · rw [decide_eq_false (by omega), if_pos h]; rfl
  · rw [decide_eq_true (by omega), if_neg h]; rfl
theorem szBind {a b : Nat} {l : Int} {x : Option Int} {R : Int → Option Int} (h0 : 0 ≤ l) (h1 : l ≤ 1048576) (h : x = some (left a l)) (hR : ∀ m, 0 ≤ m → m ≤ 1048576 → R m = some (left b m)) :
    (x.bind fun r1 => bif decide (r1 < 0) then (some (-1) : Option Int) else R r1) = some (left (a + b) l) := by
  rw [h, Option.bind_some]
  by_cases h : (a : Int) ≤ l
  · rw [left_of h, decide_eq_false (by omega), cond_false, hR _ (by omega) (by omega)]
    unfold left
    split <;> split <;> first | rfl | omega | (congr 1; omega)
  · rw [left_not h, left_not (by omega)]; rfl
theorem left_two {a : Nat} {l : Int} {x : Option Int} (h : x = some (left a l)) : (x.bind fun r1 => bif decide (r1 < 0) then (some (-1) : Option Int) else some r1) = some (left a l) := by
  rw [h, Option.bind_some]
  unfold left
  split
  · rw [decide_eq_false (by omega)]; rfl
  · rfl
section
variable {α : Type} {d : α}
theorem szLoop {L : Nat → List α → Int → Int → Option Int} {sz : α → Int → Option Int} {size : α → Nat} {x0 : List α}
    (hL : ∀ n x1 x5, L (n + 1) x0 x1 x5 = bif decide (x5 < (x0.length : Int)) then (if (0 : Int) ≤ x5 ∧ x5 < (x0.length : Int) then Option.bind (sz (x0.getD x5.toNat d) x1) fun r1 => bif decide (r1 < 0) then some (-1) else L n x0 r1 (IntKind.i64.wrap (x5 + 1)) else none) else some x1)
    (hlen : x0.length ≤ 9223372036854775807) (hsz : ∀ x ∈ x0, ∀ l, 0 ≤ l → l ≤ 1048576 → sz x l = some (left (size x) l)) {n : Nat} (hn : x0.length < n) {l : Int} (h0 : 0 ≤ l) (h1 : l ≤ 1048576) :
    L n x0 l 0 = some (left (x0.map size).sum l) := by
  have key := xDu (L := fun n i s => L n x0 s i) x0 (fun l s => left (l.map size).sum s) (fun _ s => 0 ≤ s ∧ s ≤ 1048576) (fun n s hs => by
      have hs : 0 ≤ s ∧ s ≤ 1048576 := hs
      simp only [hL]; simp [left]; omega)
    (fun i x r s hd hi hx hs => by
      have hs : 0 ≤ s ∧ s ≤ 1048576 := hs
      have hi' : (i : Int) < (x0.length : Int) := by omega
      have hm : x ∈ x0 := List.mem_of_getElem? hx
      by_cases hle : (size x : Int) ≤ s
      · refine .inl ⟨s - size x, by omega, ?_, fun n => ?_⟩
        · simp only [List.map_cons, List.sum_cons, left]
          split <;> split <;> omega
        · simp only [hL, decide_eq_true hi', cond_true, Int.toNat_natCast, xBg hx, hsz x hm s hs.1 hs.2, left_of hle, Option.bind_some, xAR hi hlen]
          rw [if_pos (by omega), decide_eq_false (by omega), cond_false]
      · refine .inr fun n => ?_
        simp only [hL, decide_eq_true hi', cond_true, Int.toNat_natCast, xBg hx, hsz x hm s hs.1 hs.2, left_not hle, Option.bind_some]
        rw [if_pos (by omega), decide_eq_true (by omega), cond_true]
        simp only [List.map_cons, List.sum_cons, left]
        rw [if_neg (by omega)])
    n 0 l ⟨h0, h1⟩ (by omega) (by omega)
  simpa using key
theorem szLoopG {L : Nat → List α → Int → Int → Option Int} {sz : α → Int → Option Int} {size : α → Nat} {x0 : List α}
    (hL : ∀ n x1 x5, L (n + 1) x0 x1 x5 = bif decide (x5 < (x0.length : Int)) then (if (0 : Int) ≤ x5 ∧ x5 < (x0.length : Int) then Option.bind (sz (x0.getD x5.toNat d) x1) fun r1 => bif decide (r1 < 0) then some (-1) else L n x0 r1 (IntKind.i64.wrap (x5 + 1)) else none) else some x1)
    (hlen : x0.length ≤ 9223372036854775807) (hsz : ∀ x ∈ x0, ∀ l, 0 ≤ l → l ≤ 1048576 → ∃ r, sz x l = some r ∧ ((size x : Int) ≤ l → r = l - size x) ∧ (¬ (size x : Int) ≤ l → r < 0)) {n : Nat} (hn : x0.length < n) {l : Int} (h0 : 0 ≤ l) (h1 : l ≤ 1048576) :
    L n x0 l 0 = some (left (x0.map size).sum l) := by
  have key := xDu (L := fun n i s => L n x0 s i) x0 (fun l s => left (l.map size).sum s) (fun _ s => 0 ≤ s ∧ s ≤ 1048576) (fun n s hs => by
      have hs : 0 ≤ s ∧ s ≤ 1048576 := hs
      simp only [hL]; simp [left]; omega)
    (fun i x r s hd hi hx hs => by
      have hs : 0 ≤ s ∧ s ≤ 1048576 := hs
      have hi' : (i : Int) < (x0.length : Int) := by omega
      have hm : x ∈ x0 := List.mem_of_getElem? hx
      obtain ⟨q, hq, hq1, hq2⟩ := hsz x hm s hs.1 hs.2
      by_cases hle : (size x : Int) ≤ s
      · refine .inl ⟨s - size x, by omega, ?_, fun n => ?_⟩
        · simp only [List.map_cons, List.sum_cons, left]
          split <;> split <;> omega
        · simp only [hL, decide_eq_true hi', cond_true, Int.toNat_natCast, xBg hx, hq, hq1 hle, Option.bind_some, xAR hi hlen]
          rw [if_pos (by omega), decide_eq_false (by omega), cond_false]
      · refine .inr fun n => ?_
        simp only [hL, decide_eq_true hi', cond_true, Int.toNat_natCast, xBg hx, hq, Option.bind_some]
        have := hq2 hle
        rw [if_pos (by omega), decide_eq_true (by omega), cond_true]
        simp only [List.map_cons, List.sum_cons, left]
        rw [if_neg (by omega)])
    n 0 l ⟨h0, h1⟩ (by omega) (by omega)
  simpa using key
theorem toLoop {L : Nat → List α → List α → Int → Option (List α)} {to : α → Option α} {re : α → α} {x0 : List α}
    (hL : ∀ n x3 x4, L (n + 1) x0 x3 x4 = bif decide (x4 < (x0.length : Int)) then (if (0 : Int) ≤ x4 ∧ x4 < (x0.length : Int) then Option.bind (to (x0.getD x4.toNat d)) fun r1 => (if (0 : Int) ≤ x4 ∧ x4 < (x3.length : Int) then L n x0 (x3.set x4.toNat (re r1)) (IntKind.i64.wrap (x4 + 1)) else none) else none) else some x3)
    (hlen : x0.length ≤ 9223372036854775807) (hto : ∀ x ∈ x0, ∃ y, to x = some y ∧ re y = x) {n : Nat} (hn : x0.length < n) :
    L n x0 (List.replicate x0.length d) 0 = some x0 := by
  have key := xDu (L := fun n i s => L n x0 s i) x0 (fun _ _ => x0) (fun i s => s = x0.take i ++ List.replicate (x0.length - i) d) (fun n s hs => by
      have hs : s = x0.take x0.length ++ List.replicate (x0.length - x0.length) d := hs
      simp only [hL]; simp [hs])
    (fun i x r s hd hi hx hs => by
      have hs : s = x0.take i ++ List.replicate (x0.length - i) d := hs
      have hi' : (i : Int) < (x0.length : Int) := by omega
      have hm : x ∈ x0 := List.mem_of_getElem? hx
      obtain ⟨y, h1, h2⟩ := hto x hm
      have hsl : s.length = x0.length := by rw [hs]; simp; omega
      refine .inl ⟨s.set i x, ?_, rfl, fun n => ?_⟩
      · show s.set i x = x0.take (i + 1) ++ List.replicate (x0.length - (i + 1)) d
        rw [hs, List.set_append]
        have : (x0.take i).length = i := by simp; omega
        rw [this, if_neg (by omega), List.take_add_one, hx, Option.toList_some, List.append_assoc, Nat.sub_self]
        rw [show x0.length - i = (x0.length - (i + 1)) + 1 from by omega, List.replicate_succ, List.set_cons_zero]
        rfl
      · simp only [hL, decide_eq_true hi', cond_true, Int.toNat_natCast, xBg hx, h1, h2, Option.bind_some, xAR hi hlen, hsl]
        rw [if_pos (by omega), if_pos (by omega)])
    n 0 (List.replicate x0.length d) (by simp) (by omega) (by omega)
  exact key
theorem eqLoop {L : Nat → Int → Option Bool} {x0 : List α} (hend : ∀ n, L (n + 1) (x0.length : Nat) = some true)
    (hcons : ∀ (i : Nat) x n, i < x0.length → x0[i]? = some x → x ∈ x0 → L (n + 1) (i : Nat) = L n ((i + 1 : Nat) : Int)) {n : Nat} (hn : x0.length < n) : L n 0 = some true := by
  have key := xDu (σ := Unit) (L := fun n i _ => L n i) x0 (fun _ _ => true) (fun _ _ => True) (fun n _ _ => hend n)
    (fun i x r s hd hi hx _ => .inl ⟨(), trivial, rfl, fun n => hcons i x n hi hx (List.mem_of_getElem? hx)⟩) n 0 () trivial (by omega) (by omega)
  exact key
end
end Go.Ab
end
section
namespace Go.Ab
set_option linter.unusedVariables false
theorem vk (a b c : Int) (t : Str) (l : List Val) (k : List Str) (r : List Rowd) : (Val.mk a b c t l k r).kind = a := rfl
theorem vn (a b c : Int) (t : Str) (l : List Val) (k : List Str) (r : List Rowd) : (Val.mk a b c t l k r).n = b := rfl
theorem vs (a b c : Int) (t : Str) (l : List Val) (k : List Str) (r : List Rowd) : (Val.mk a b c t l k r).step = c := rfl
theorem vt (a b c : Int) (t : Str) (l : List Val) (k : List Str) (r : List Rowd) : (Val.mk a b c t l k r).text = t := rfl
theorem vl (a b c : Int) (t : Str) (l : List Val) (k : List Str) (r : List Rowd) : (Val.mk a b c t l k r).list = l := rfl
theorem vc (a b c : Int) (t : Str) (l : List Val) (k : List Str) (r : List Rowd) : (Val.mk a b c t l k r).columns = k := rfl
theorem vr (a b c : Int) (t : Str) (l : List Val) (k : List Str) (r : List Rowd) : (Val.mk a b c t l k r).rows = r := rfl
theorem ek (a b : Int) (t : Str) (l : List Exp) : (Exp.mk a b t l).kind = a := rfl
theorem ea (a b : Int) (t : Str) (l : List Exp) : (Exp.mk a b t l).args = l := rfl
def Rowd.size (r : Rowd) : Nat := r.cells.length + r.frm.length
mutual
def Val.size : Val → Nat
  | .mk _ _ _ t l c r => t.length + (l.length + Val.sizes l) + (c.length + (c.map List.length).sum) + (r.length + (r.map Rowd.size).sum)
def Val.sizes : List Val → Nat
  | [] => 0
  | x :: r => Val.size x + Val.sizes r
end
theorem Val.sizes_eq (l : List Val) : Val.sizes l = (l.map Val.size).sum := by
  induction l with
  | nil => rfl
  | cons x l ih => simp [Val.sizes, ih]
theorem size_mem {α : Type} {f : α → Nat} {l : List α} {x : α} (h : x ∈ l) : f x ≤ (l.map f).sum := by
  induction l with
  | nil => cases h
  | cons a l ih =>
    simp only [List.map_cons, List.sum_cons]
    rcases List.mem_cons.1 h with rfl | h
    · omega
    · have := ih h; omega
theorem Val.size_eq (e : Val) : e.size = e.text.length + (e.list.length + (e.list.map Val.size).sum) + (e.columns.length + (e.columns.map List.length).sum) + (e.rows.length + (e.rows.map Rowd.size).sum) := by
  cases e; simp [Val.size, Val.sizes_eq, Val.text, Val.list, Val.columns, Val.rows]
theorem xEC {α : Type} {K M : Nat} {p q : α → Prop} {f : α → Nat} {l : List α} (h : LFit M p l) (hs : l.length + (l.map f).sum ≤ K) (hpq : ∀ x ∈ l, p x → f x ≤ K → q x) : LFit K q l :=
  ⟨by omega, fun x hx => hpq x hx (h.2 x hx) (by have := size_mem (f := f) hx; omega)⟩
theorem Rowd.fit_size {K M : Nat} {r : Rowd} (h : r.Fit M) (hs : r.size ≤ K) : r.Fit K := by
  unfold Rowd.size at hs
  exact ⟨⟨by omega, h.1.2⟩, ⟨by omega, h.2.2⟩⟩
theorem Val.fit_size {K M : Nat} : ∀ e : Val, e.Fit M → e.size ≤ K → e.Fit K := by
  refine Val.ind fun k n s t l c r ih h hs => ?_
  rw [Val.fit_iff] at h ⊢
  obtain ⟨h1, h2, h3, h4, h5, h6, h7⟩ := h
  have hs := hs
  rw [Val.size_eq] at hs
  exact ⟨h1, h2, h3, show List.length _ ≤ K from by omega, xEC h5 (by omega) fun x hx => ih x hx, xEC (f := List.length) h6 (by omega) fun x hx _ h => h, xEC (f := Rowd.size) h7 (by omega) fun x hx => Rowd.fit_size⟩
theorem xD8 (n : Nat) : Big fun N => n < N := ⟨n + 1, fun N h => by omega⟩
end Go.Ab
end
section
namespace Go.Ab
set_option linter.unusedVariables false
theorem xEF {α : Type} {Lm : Nat → List α → Int → Int → Option (Int × List α)} {Lh : Nat → List α → Int → Int → Option Int} {c : α → Nat} {x0 : List α} {k0 B : Int} {n : Nat}
    (hm : ∀ n xs k, xs.length = x0.length → Lm (n + 1) xs k (xs.length : Nat) = some (k, xs)) (hh : ∀ n ys k, ys.length = x0.length → Lh (n + 1) ys k (ys.length : Nat) = some k)
    (hx : ∀ x ∈ x0, ∀ k, k0 ≤ k → k + c x ≤ B → ∃ y, (∀ n xs (i : Nat), xs.length = x0.length → xs[i]? = some x → Lm (n + 1) xs k i = Lm n (xs.set i y) (k + c x) ((i + 1 : Nat) : Int)) ∧
      (∀ n ys (i : Nat), ys.length = x0.length → ys[i]? = some y → Lh (n + 1) ys k i = Lh n ys (k + c x) ((i + 1 : Nat) : Int)))
    (hk : k0 + (x0.map c).sum ≤ B) (hn : x0.length < n) : ∃ ys, ys.length = x0.length ∧ Lm n x0 k0 0 = some (k0 + (x0.map c).sum, ys) ∧ Lh n ys k0 0 = some (k0 + (x0.map c).sum) := by
  have key : ∀ (l pre : List α) (k : Int) (n : Nat), pre.length + l.length = x0.length → (∀ x ∈ l, x ∈ x0) → k0 ≤ k → k + (l.map c).sum ≤ B → l.length < n →
      ∃ ys, ys.length = l.length ∧ Lm n (pre ++ l) k (pre.length : Nat) = some (k + (l.map c).sum, pre ++ ys) ∧ ∀ pre' : List α, pre'.length = pre.length → Lh n (pre' ++ ys) k (pre.length : Nat) = some (k + (l.map c).sum) := by
    intro l
    induction l with
    | nil =>
      intro pre k n hl hmem h0 hB hn
      obtain ⟨n, rfl⟩ : ∃ m, n = m + 1 := ⟨n - 1, by simp at hn; omega⟩
      refine ⟨[], rfl, ?_, fun pre' hp => ?_⟩
      · have := hm n (pre ++ []) k (by simpa using hl)
        simpa using this
      · have := hh n (pre' ++ []) k (by simp [hp]; simpa using hl)
        simp only [List.append_nil, hp] at this
        simpa using this
    | cons x l ih =>
      intro pre k n hl hmem h0 hB hn
      obtain ⟨n, rfl⟩ : ∃ m, n = m + 1 := ⟨n - 1, by simp at hn; omega⟩
      simp only [List.map_cons, List.sum_cons, List.length_cons] at hB hl hn
      obtain ⟨y, h1, h2⟩ := hx x (hmem x List.mem_cons_self) k h0 (by omega)
      obtain ⟨ys, g1, g2, g3⟩ := ih (pre ++ [y]) (k + c x) n (by simp; omega) (fun z hz => hmem z (List.mem_cons_of_mem _ hz)) (by omega) (by omega) (by omega)
      refine ⟨y :: ys, by simp [g1], ?_, fun pre' hp => ?_⟩
      · rw [h1 n (pre ++ x :: l) pre.length (by simp; omega) (by simp)]
        rw [List.set_append, if_neg (by omega), Nat.sub_self, List.set_cons_zero]
        have e : ((pre.length + 1 : Nat) : Int) = ((pre ++ [y]).length : Nat) := by simp
        rw [e, show pre ++ y :: l = (pre ++ [y]) ++ l from by simp, g2]
        simp only [List.map_cons, List.sum_cons, List.append_assoc, List.cons_append, List.nil_append]
        congr 2
        omega
      · rw [h2 n (pre' ++ y :: ys) pre.length (by simp [hp, g1]; omega) (by rw [← hp]; simp)]
        have e : ((pre.length + 1 : Nat) : Int) = ((pre ++ [y]).length : Nat) := by simp
        rw [e, show pre' ++ y :: ys = (pre' ++ [y]) ++ ys from by simp, g3 (pre' ++ [y]) (by simp [hp])]
        simp only [List.map_cons, List.sum_cons]
        congr 1
        omega
  obtain ⟨ys, h1, h2, h3⟩ := key x0 [] k0 n (by simp) (fun x h => h) (Int.le_refl _) hk hn
  exact ⟨ys, h1, h2, by simpa using h3 [] rfl⟩
theorem sum_le_mul {α : Type} {f g : α → Nat} {l : List α} {a : Nat} (h : ∀ x ∈ l, f x ≤ a + a * g x) : (l.map f).sum ≤ a * (l.length + (l.map g).sum) := by
  induction l with
  | nil => simp
  | cons x l ih =>
    have h1 := h x List.mem_cons_self
    have h2 := ih fun y hy => h y (List.mem_cons_of_mem _ hy)
    simp only [List.map_cons, List.sum_cons, List.length_cons, Nat.mul_add] at h2 ⊢
    omega
theorem xDT {α : Type} {xs : List α} {i : Nat} (h : i < xs.length) (y d : α) : (xs.set i y).getD i d = y := by simp [List.getD, h]
end Go.Ab
end
section
namespace Go.Ab
set_option linter.unusedVariables false
set_option linter.unusedSimpArgs false
theorem left_ge {s : Nat} {l : Int} (h : ¬ left s l < 0) : (s : Int) ≤ l := by unfold left at h; split at h <;> omega
end Go.Ab
end
section
namespace Go.Ab
set_option linter.unusedVariables false
set_option linter.unusedSimpArgs false
theorem xDV {N : Nat} (hN : 274877906944 < N) {k : Int} (h0 : 0 ≤ k) (h1 : k ≤ 137438953472) : ∃ t, xBe N k = some t := by
  unfold xBe
  cases decide (k ≤ 0)
  · rw [cond_false]
    obtain ⟨r, _, hr⟩ := whileLoop (L := fun n (s : Int × Str) => xB3 N n s.1 s.2) (fun s => s.1.toNat) (fun s => 0 ≤ s.1 ∧ (s.2.length : Int) + s.1 ≤ 137438953472) (fun _ => True) (fun s hs => by
      obtain ⟨x, t⟩ := s
      obtain ⟨g0, g1⟩ := hs
      have g0 : 0 ≤ x := g0
      have g1 : (t.length : Int) + x ≤ 137438953472 := g1
      by_cases hx : x > 0
      · have hq : Int.tdiv x 10 = x / 10 := Int.tdiv_eq_ediv_of_nonneg g0
        refine .inl ⟨(IntKind.i64.wrap (Int.tdiv x 10), (List.map (fun n => UInt8.ofNat (Int.toNat n)) [(IntKind.u8.wrap ((IntKind.i64.wrap (48 + (Int.tmod x 10)))))]) ++ t), ?_, ?_, fun n => ?_⟩
        · show 0 ≤ IntKind.i64.wrap (Int.tdiv x 10) ∧ _
          rw [hq, xBf (by omega) (by omega)]
          simp only [List.map_cons, List.map_nil, List.cons_append, List.nil_append, List.length_cons]
          omega
        · show (IntKind.i64.wrap (Int.tdiv x 10)).toNat < x.toNat
          rw [hq, xBf (by omega) (by omega)]
          omega
        · simp only [xB3, decide_eq_true hx, cond_true]
          rw [if_pos (by simp only [List.map_cons, List.map_nil, List.length_cons, List.length_nil]; unfold Lim; omega)]
      · refine .inr ⟨[109] ++ t, trivial, fun n => ?_⟩
        simp only [xB3, decide_eq_false hx, cond_false]
        rw [if_pos (by simp only [List.length_cons, List.length_nil]; unfold Lim; omega)]) N (k, []) ⟨h0, by simpa using h1⟩ (by show k.toNat < N; omega)
    exact ⟨r, hr⟩
  · exact ⟨_, rfl⟩
end Go.Ab
end
