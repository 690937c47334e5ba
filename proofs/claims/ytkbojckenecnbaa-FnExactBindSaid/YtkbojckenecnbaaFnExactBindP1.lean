/- The statement FnExactBind holds: plain functions, certificates, laws. Conditions: none. -/
import Derived.Test.YtkbojckenecnbaaL2
import Derived.Test.YtkbojckenecnbaaFnExactBindP0
set_option linter.all false
section
open Go.Proofs
namespace Go.Ab.T
set_option linter.unusedVariables false
set_option maxRecDepth 100000
noncomputable def I130 : Info := { body := (Try.f130.body).getD .skip, nt := 19, results := [.tmp 4], keep := [0, 2, 8, 10, 18], live := [(2, [0, 2, 10])], modes := [(4, [(0, .ref, false)])], ext := [], lnt := [(0, 0)], casts := [], fcast := [] }
theorem fk130 : FnOk Try.prog 130 Try.f130 I130 := ⟨Try.func130, by kernel_rfl, by kernel_rfl, by kernel_rfl, by kernel_rfl⟩
def S130_2 (x0 : List Int) (x1 : Int) (x5 : Int) : St := [(0, .v false [.sl (.lnt 0) .int x0]), (2, .v false [.int .i64 x1]), (10, .v false [.int .i64 x5])]
theorem p130_2_0 (x0 : List Int) (x1 : Int) (x5 : Int) : run tt (AbsCalls Try.prog) I130 3000 true (stkAt 2 I130.body) ⟨(S130_2 x0 x1 x5), [true], [], []⟩ = some (.stop (stkAt 2 I130.body) (S130_2 (List.set x0 (Int.toNat x5) x1) (IntKind.i64.wrap (x1 + 1)) (IntKind.i64.wrap (x5 + 1))) [(decide ((x5 : Int) < (List.length x0 : Int))) = true, (0 : Int) ≤ x5 ∧ x5 < (List.length x0)]) := by kernel_rfl
theorem p130_2_1 (x0 : List Int) (x1 : Int) (x5 : Int) : run tt (AbsCalls Try.prog) I130 3000 true (stkAt 2 I130.body) ⟨(S130_2 x0 x1 x5), [false], [], []⟩ = some (.done (laws_markIntS_ro (x1, x0)) [(decide ((x5 : Int) < (List.length x0 : Int))) = false]) := by kernel_rfl
theorem p130_e_2 (a0 : List Int) (a1 : Int) : run tt (AbsCalls Try.prog) I130 3000 false [.code I130.body] ⟨(entry 0 (laws_markIntS_as a0 a1)), [], [], []⟩ = some (.stop (stkAt 2 I130.body) (S130_2 a0 a1 0) []) := by kernel_rfl
theorem c130_2 {N : Nat} : ∀ n x0 x1 x5 r, laws_markIntS_b2 N n x0 x1 x5 = some r → Reach Try.prog Try.f130 I130 (stkAt 2 I130.body) (S130_2 x0 x1 x5) (laws_markIntS_ro r) := by
  intro n
  induction n with
  | zero => intro x0 x1 x5 r h; have h' : (none : Option (Int × (List Int))) = some r := h; cases h'
  | succ n ih =>
    intro x0 x1 x5 r h
    rw [laws_markIntS_b2] at h
    rcases cond_inv h with ⟨h0, h⟩ | ⟨h0, h⟩
    · obtain ⟨h1, h⟩ := ite_inv h
      exact Reach.stop ttok mix fk130 (p130_2_0 x0 x1 x5) (obs_cons h0 (obs_cons h1 obs_nil)) (ih _ _ _ _ h)
    · obtain rfl := Option.some.inj h
      exact Reach.done ttok mix fk130 (p130_2_1 x0 x1 x5) (obs_cons h0 obs_nil)
theorem c130_e {N : Nat} : ∀ a0 a1 r, laws_markIntS N a0 a1 = some r → Reach Try.prog Try.f130 I130 [.code I130.body] (entry 0 (laws_markIntS_as a0 a1)) (laws_markIntS_ro r) := by
  intro a0 a1 r h
  unfold laws_markIntS at h
  exact Reach.stop ttok mix fk130 (p130_e_2 a0 a1) obs_nil (c130_2   _ _ _ _ _ h)
theorem laws_markIntS_ok {N : Nat} {a0 : List Int} {a1 : Int} {r : Int × (List Int)} (h : laws_markIntS N  a0 a1 = some r) : AbsCalls Try.prog 130 (laws_markIntS_as a0 a1) (laws_markIntS_ro r) :=
 AbsCalls.of_reach fk130 rfl rfl (Nat.le_of_ble_eq_true rfl) (c130_e a0 a1 r h)
noncomputable def I59 : Info := { body := (Try.f59.body).getD .skip, nt := 27, results := [.tmp 4], keep := [0, 2, 8, 10, 18], live := [(2, [0, 2, 10])], modes := [(4, [(0, .ref, false)]), (6, [(0, .ref, false)])], ext := [], lnt := [(0, 0)], casts := [], fcast := [] }
theorem fk59 : FnOk Try.prog 59 Try.f59 I59 := ⟨Try.func59, by kernel_rfl, by kernel_rfl, by kernel_rfl, by kernel_rfl⟩
def S59_2 (x0 : List Org) (x1 : Int) (x5 : Int) : St := [(0, .v false [.sl (.lnt 0) .org x0]), (2, .v false [.int .i64 x1]), (10, .v false [.int .i64 x5])]
theorem p59_2_0 (x0 : List Org) (x1 : Int) (x5 : Int) : run tt (AbsCalls Try.prog) I59 3000 true (stkAt 2 I59.body) ⟨(S59_2 x0 x1 x5), [true], [], []⟩ = some (.stop (stkAt 2 I59.body) (S59_2 ((fun (z1 : List Org) => List.set z1 (Int.toNat x5) (Org.mk (Org.cell (List.getD z1 (Int.toNat x5) Ty.org.dflt)) (IntKind.i64.wrap (x1 + 1)))) (List.set x0 (Int.toNat x5) (Org.mk x1 (Org.row (List.getD x0 (Int.toNat x5) Ty.org.dflt))))) (IntKind.i64.wrap ((IntKind.i64.wrap (x1 + 1)) + 1)) (IntKind.i64.wrap (x5 + 1))) [(decide ((x5 : Int) < (List.length x0 : Int))) = true, (0 : Int) ≤ x5 ∧ x5 < (List.length x0), (0 : Int) ≤ x5 ∧ x5 < (List.length (List.set x0 (Int.toNat x5) (Org.mk x1 (Org.row (List.getD x0 (Int.toNat x5) Ty.org.dflt)))))]) := by kernel_rfl
theorem p59_2_1 (x0 : List Org) (x1 : Int) (x5 : Int) : run tt (AbsCalls Try.prog) I59 3000 true (stkAt 2 I59.body) ⟨(S59_2 x0 x1 x5), [false], [], []⟩ = some (.done (laws_markOriginS_ro (x1, x0)) [(decide ((x5 : Int) < (List.length x0 : Int))) = false]) := by kernel_rfl
theorem p59_e_2 (a0 : List Org) (a1 : Int) : run tt (AbsCalls Try.prog) I59 3000 false [.code I59.body] ⟨(entry 0 (laws_markOriginS_as a0 a1)), [], [], []⟩ = some (.stop (stkAt 2 I59.body) (S59_2 a0 a1 0) []) := by kernel_rfl
theorem c59_2 {N : Nat} : ∀ n x0 x1 x5 r, laws_markOriginS_b2 N n x0 x1 x5 = some r → Reach Try.prog Try.f59 I59 (stkAt 2 I59.body) (S59_2 x0 x1 x5) (laws_markOriginS_ro r) := by
  intro n
  induction n with
  | zero => intro x0 x1 x5 r h; have h' : (none : Option (Int × (List Org))) = some r := h; cases h'
  | succ n ih =>
    intro x0 x1 x5 r h
    rw [laws_markOriginS_b2] at h
    rcases cond_inv h with ⟨h0, h⟩ | ⟨h0, h⟩
    · obtain ⟨h1, h⟩ := ite_inv h
      obtain ⟨h2, h⟩ := ite_inv h
      exact Reach.stop ttok mix fk59 (p59_2_0 x0 x1 x5) (obs_cons h0 (obs_cons h1 (obs_cons h2 obs_nil))) (ih _ _ _ _ h)
    · obtain rfl := Option.some.inj h
      exact Reach.done ttok mix fk59 (p59_2_1 x0 x1 x5) (obs_cons h0 obs_nil)
theorem c59_e {N : Nat} : ∀ a0 a1 r, laws_markOriginS N a0 a1 = some r → Reach Try.prog Try.f59 I59 [.code I59.body] (entry 0 (laws_markOriginS_as a0 a1)) (laws_markOriginS_ro r) := by
  intro a0 a1 r h
  unfold laws_markOriginS at h
  exact Reach.stop ttok mix fk59 (p59_e_2 a0 a1) obs_nil (c59_2   _ _ _ _ _ h)
theorem laws_markOriginS_ok {N : Nat} {a0 : List Org} {a1 : Int} {r : Int × (List Org)} (h : laws_markOriginS N  a0 a1 = some r) : AbsCalls Try.prog 59 (laws_markOriginS_as a0 a1) (laws_markOriginS_ro r) :=
 AbsCalls.of_reach fk59 rfl rfl (Nat.le_of_ble_eq_true rfl) (c59_e a0 a1 r h)
noncomputable def I81 : Info := { body := (Try.f81.body).getD .skip, nt := 27, results := [.tmp 4], keep := [0, 2, 8, 10, 18], live := [(2, [0, 2, 10])], modes := [(4, [(0, .ref, false), (4, .ref, false), (6, .ref, false)]), (5, [(0, .ref, false), (4, .ref, false), (6, .ref, false)])], ext := [], lnt := [(0, 0)], casts := [], fcast := [] }
theorem fk81 : FnOk Try.prog 81 Try.f81 I81 := ⟨Try.func81, by kernel_rfl, by kernel_rfl, by kernel_rfl, by kernel_rfl⟩
def S81_2 (x0 : List Rowd) (x1 : Int) (x5 : Int) : St := [(0, .v false [.sl (.lnt 0) .row x0]), (2, .v false [.int .i64 x1]), (10, .v false [.int .i64 x5])]
theorem p81_2_0 (x0 : List Rowd) (x1 : Int) (x5 : Int) (r1 : Int × (List Int)) (r2 : Int × (List Org)) : run tt (AbsCalls Try.prog) I81 3000 true (stkAt 2 I81.body) ⟨(S81_2 x0 x1 x5), [true], [laws_markIntS_ro r1, laws_markOriginS_ro r2], []⟩ = some (.stop (stkAt 2 I81.body) (S81_2 ((fun (z1 : List Rowd) => List.set z1 (Int.toNat x5) (Rowd.mk (Rowd.cells (List.getD z1 (Int.toNat x5) Ty.row.dflt)) r2.2)) (List.set x0 (Int.toNat x5) (Rowd.mk r1.2 (Rowd.frm (List.getD x0 (Int.toNat x5) Ty.row.dflt))))) r2.1 (IntKind.i64.wrap (x5 + 1))) [(decide ((x5 : Int) < (List.length x0 : Int))) = true, (0 : Int) ≤ x5 ∧ x5 < (List.length x0), AbsCalls Try.prog 130 (laws_markIntS_as (Rowd.cells (List.getD x0 (Int.toNat x5) Ty.row.dflt)) x1) (laws_markIntS_ro r1), (Int.toNat x5) = (Int.toNat x5), List.length r1.2 = List.length (Rowd.cells (List.getD x0 (Int.toNat x5) Ty.row.dflt)), (0 : Int) ≤ x5 ∧ x5 < (List.length (List.set x0 (Int.toNat x5) (Rowd.mk r1.2 (Rowd.frm (List.getD x0 (Int.toNat x5) Ty.row.dflt))))), AbsCalls Try.prog 59 (laws_markOriginS_as (Rowd.frm (List.getD (List.set x0 (Int.toNat x5) (Rowd.mk r1.2 (Rowd.frm (List.getD x0 (Int.toNat x5) Ty.row.dflt)))) (Int.toNat x5) Ty.row.dflt)) r1.1) (laws_markOriginS_ro r2), (Int.toNat x5) = (Int.toNat x5), List.length r2.2 = List.length (Rowd.frm (List.getD (List.set x0 (Int.toNat x5) (Rowd.mk r1.2 (Rowd.frm (List.getD x0 (Int.toNat x5) Ty.row.dflt)))) (Int.toNat x5) Ty.row.dflt))]) := by kernel_rfl
theorem p81_2_1 (x0 : List Rowd) (x1 : Int) (x5 : Int) : run tt (AbsCalls Try.prog) I81 3000 true (stkAt 2 I81.body) ⟨(S81_2 x0 x1 x5), [false], [], []⟩ = some (.done (laws_markRowS_ro (x1, x0)) [(decide ((x5 : Int) < (List.length x0 : Int))) = false]) := by kernel_rfl
theorem p81_e_2 (a0 : List Rowd) (a1 : Int) : run tt (AbsCalls Try.prog) I81 3000 false [.code I81.body] ⟨(entry 0 (laws_markRowS_as a0 a1)), [], [], []⟩ = some (.stop (stkAt 2 I81.body) (S81_2 a0 a1 0) []) := by kernel_rfl
theorem c81_2 {N : Nat} : ∀ n x0 x1 x5 r, laws_markRowS_b2 N n x0 x1 x5 = some r → Reach Try.prog Try.f81 I81 (stkAt 2 I81.body) (S81_2 x0 x1 x5) (laws_markRowS_ro r) := by
  intro n
  induction n with
  | zero => intro x0 x1 x5 r h; have h' : (none : Option (Int × (List Rowd))) = some r := h; cases h'
  | succ n ih =>
    intro x0 x1 x5 r h
    rw [laws_markRowS_b2] at h
    rcases cond_inv h with ⟨h0, h⟩ | ⟨h0, h⟩
    · obtain ⟨h1, h⟩ := ite_inv h
      obtain ⟨r1, h2, h⟩ := bind_inv h
      obtain ⟨h4, h⟩ := ite_inv h
      obtain ⟨h5, h⟩ := ite_inv h
      obtain ⟨r2, h6, h⟩ := bind_inv h
      obtain ⟨h8, h⟩ := ite_inv h
      exact Reach.stop ttok mix fk81 (p81_2_0 x0 x1 x5 r1 r2) (obs_cons h0 (obs_cons h1 (obs_cons (laws_markIntS_ok h2) (obs_cons rfl (obs_cons h4 (obs_cons h5 (obs_cons (laws_markOriginS_ok h6) (obs_cons rfl (obs_cons h8 obs_nil))))))))) (ih _ _ _ _ h)
    · obtain rfl := Option.some.inj h
      exact Reach.done ttok mix fk81 (p81_2_1 x0 x1 x5) (obs_cons h0 obs_nil)
theorem c81_e {N : Nat} : ∀ a0 a1 r, laws_markRowS N a0 a1 = some r → Reach Try.prog Try.f81 I81 [.code I81.body] (entry 0 (laws_markRowS_as a0 a1)) (laws_markRowS_ro r) := by
  intro a0 a1 r h
  unfold laws_markRowS at h
  exact Reach.stop ttok mix fk81 (p81_e_2 a0 a1) obs_nil (c81_2   _ _ _ _ _ h)
theorem laws_markRowS_ok {N : Nat} {a0 : List Rowd} {a1 : Int} {r : Int × (List Rowd)} (h : laws_markRowS N  a0 a1 = some r) : AbsCalls Try.prog 81 (laws_markRowS_as a0 a1) (laws_markRowS_ro r) :=
 AbsCalls.of_reach fk81 rfl rfl (Nat.le_of_ble_eq_true rfl) (c81_e a0 a1 r h)
noncomputable def I67 : Info := { body := (Try.f67.body).getD .skip, nt := 63, results := [.tmp 4], keep := [0, 2, 8, 10, 18], live := [(2, [0, 2, 10])], modes := [(4, [(0, .ref, false)]), (6, [(0, .ref, false)]), (8, [(0, .ref, false)]), (10, [(0, .ref, false)]), (12, [(0, .ref, false), (4, .ref, false), (6, .ref, false)]), (13, [(0, .ref, false), (4, .ref, false), (6, .ref, false)]), (14, [(0, .ref, false), (4, .ref, false), (6, .ref, false)])], ext := [], lnt := [(0, 0)], casts := [], fcast := [] }
theorem fk67 : FnOk Try.prog 67 Try.f67 I67 := ⟨Try.func67, by kernel_rfl, by kernel_rfl, by kernel_rfl, by kernel_rfl⟩
def S67_2 (x0 : List Val) (x1 : Int) (x5 : Int) : St := [(0, .v false [.sl (.lnt 0) .val x0]), (2, .v false [.int .i64 x1]), (10, .v false [.int .i64 x5])]
theorem p67_2_0 (x0 : List Val) (x1 : Int) (x5 : Int) (r1 : Str) (r2 : Int × (List Val)) (r3 : Int × (List Str)) (r4 : Int × (List Rowd)) : run tt (AbsCalls Try.prog) I67 3000 true (stkAt 2 I67.body) ⟨(S67_2 x0 x1 x5), [true], [laws_markText_ro r1, laws_markValueS_ro r2, laws_markStringS_ro r3, laws_markRowS_ro r4], []⟩ = some (.stop (stkAt 2 I67.body) (S67_2 ((fun (z45 : List Val) => List.set z45 (Int.toNat x5) (Val.mk (Val.kind (List.getD z45 (Int.toNat x5) Ty.val.dflt)) (Val.n (List.getD z45 (Int.toNat x5) Ty.val.dflt)) (Val.step (List.getD z45 (Int.toNat x5) Ty.val.dflt)) (Val.text (List.getD z45 (Int.toNat x5) Ty.val.dflt)) (Val.list (List.getD z45 (Int.toNat x5) Ty.val.dflt)) (Val.columns (List.getD z45 (Int.toNat x5) Ty.val.dflt)) r4.2)) ((fun (z44 : List Val) => List.set z44 (Int.toNat x5) (Val.mk (Val.kind (List.getD z44 (Int.toNat x5) Ty.val.dflt)) (Val.n (List.getD z44 (Int.toNat x5) Ty.val.dflt)) (Val.step (List.getD z44 (Int.toNat x5) Ty.val.dflt)) (Val.text (List.getD z44 (Int.toNat x5) Ty.val.dflt)) (Val.list (List.getD z44 (Int.toNat x5) Ty.val.dflt)) r3.2 (Val.rows (List.getD z44 (Int.toNat x5) Ty.val.dflt)))) ((fun (z43 : List Val) => List.set z43 (Int.toNat x5) (Val.mk (Val.kind (List.getD z43 (Int.toNat x5) Ty.val.dflt)) (Val.n (List.getD z43 (Int.toNat x5) Ty.val.dflt)) (Val.step (List.getD z43 (Int.toNat x5) Ty.val.dflt)) (Val.text (List.getD z43 (Int.toNat x5) Ty.val.dflt)) r2.2 (Val.columns (List.getD z43 (Int.toNat x5) Ty.val.dflt)) (Val.rows (List.getD z43 (Int.toNat x5) Ty.val.dflt)))) ((fun (z42 : List Val) => List.set z42 (Int.toNat x5) (Val.mk (Val.kind (List.getD z42 (Int.toNat x5) Ty.val.dflt)) (Val.n (List.getD z42 (Int.toNat x5) Ty.val.dflt)) (Val.step (List.getD z42 (Int.toNat x5) Ty.val.dflt)) r1 (Val.list (List.getD z42 (Int.toNat x5) Ty.val.dflt)) (Val.columns (List.getD z42 (Int.toNat x5) Ty.val.dflt)) (Val.rows (List.getD z42 (Int.toNat x5) Ty.val.dflt)))) ((fun (z41 : List Val) => List.set z41 (Int.toNat x5) (Val.mk (Val.kind (List.getD z41 (Int.toNat x5) Ty.val.dflt)) (Val.n (List.getD z41 (Int.toNat x5) Ty.val.dflt)) (IntKind.i64.wrap ((IntKind.i64.wrap (x1 + 1)) + 1)) (Val.text (List.getD z41 (Int.toNat x5) Ty.val.dflt)) (Val.list (List.getD z41 (Int.toNat x5) Ty.val.dflt)) (Val.columns (List.getD z41 (Int.toNat x5) Ty.val.dflt)) (Val.rows (List.getD z41 (Int.toNat x5) Ty.val.dflt)))) ((fun (z40 : List Val) => List.set z40 (Int.toNat x5) (Val.mk (Val.kind (List.getD z40 (Int.toNat x5) Ty.val.dflt)) (IntKind.i64.wrap (x1 + 1)) (Val.step (List.getD z40 (Int.toNat x5) Ty.val.dflt)) (Val.text (List.getD z40 (Int.toNat x5) Ty.val.dflt)) (Val.list (List.getD z40 (Int.toNat x5) Ty.val.dflt)) (Val.columns (List.getD z40 (Int.toNat x5) Ty.val.dflt)) (Val.rows (List.getD z40 (Int.toNat x5) Ty.val.dflt)))) (List.set x0 (Int.toNat x5) (Val.mk x1 (Val.n (List.getD x0 (Int.toNat x5) Ty.val.dflt)) (Val.step (List.getD x0 (Int.toNat x5) Ty.val.dflt)) (Val.text (List.getD x0 (Int.toNat x5) Ty.val.dflt)) (Val.list (List.getD x0 (Int.toNat x5) Ty.val.dflt)) (Val.columns (List.getD x0 (Int.toNat x5) Ty.val.dflt)) (Val.rows (List.getD x0 (Int.toNat x5) Ty.val.dflt)))))))))) r4.1 (IntKind.i64.wrap (x5 + 1))) [(decide ((x5 : Int) < (List.length x0 : Int))) = true, (0 : Int) ≤ x5 ∧ x5 < (List.length x0), (0 : Int) ≤ x5 ∧ x5 < (List.length (List.set x0 (Int.toNat x5) (Val.mk x1 (Val.n (List.getD x0 (Int.toNat x5) Ty.val.dflt)) (Val.step (List.getD x0 (Int.toNat x5) Ty.val.dflt)) (Val.text (List.getD x0 (Int.toNat x5) Ty.val.dflt)) (Val.list (List.getD x0 (Int.toNat x5) Ty.val.dflt)) (Val.columns (List.getD x0 (Int.toNat x5) Ty.val.dflt)) (Val.rows (List.getD x0 (Int.toNat x5) Ty.val.dflt))))), (0 : Int) ≤ x5 ∧ x5 < (List.length ((fun (z40 : List Val) => List.set z40 (Int.toNat x5) (Val.mk (Val.kind (List.getD z40 (Int.toNat x5) Ty.val.dflt)) (IntKind.i64.wrap (x1 + 1)) (Val.step (List.getD z40 (Int.toNat x5) Ty.val.dflt)) (Val.text (List.getD z40 (Int.toNat x5) Ty.val.dflt)) (Val.list (List.getD z40 (Int.toNat x5) Ty.val.dflt)) (Val.columns (List.getD z40 (Int.toNat x5) Ty.val.dflt)) (Val.rows (List.getD z40 (Int.toNat x5) Ty.val.dflt)))) (List.set x0 (Int.toNat x5) (Val.mk x1 (Val.n (List.getD x0 (Int.toNat x5) Ty.val.dflt)) (Val.step (List.getD x0 (Int.toNat x5) Ty.val.dflt)) (Val.text (List.getD x0 (Int.toNat x5) Ty.val.dflt)) (Val.list (List.getD x0 (Int.toNat x5) Ty.val.dflt)) (Val.columns (List.getD x0 (Int.toNat x5) Ty.val.dflt)) (Val.rows (List.getD x0 (Int.toNat x5) Ty.val.dflt)))))), AbsCalls Try.prog 79 (laws_markText_as (IntKind.i64.wrap ((IntKind.i64.wrap ((IntKind.i64.wrap (x1 + 1)) + 1)) + 1))) (laws_markText_ro r1), (0 : Int) ≤ x5 ∧ x5 < (List.length ((fun (z41 : List Val) => List.set z41 (Int.toNat x5) (Val.mk (Val.kind (List.getD z41 (Int.toNat x5) Ty.val.dflt)) (Val.n (List.getD z41 (Int.toNat x5) Ty.val.dflt)) (IntKind.i64.wrap ((IntKind.i64.wrap (x1 + 1)) + 1)) (Val.text (List.getD z41 (Int.toNat x5) Ty.val.dflt)) (Val.list (List.getD z41 (Int.toNat x5) Ty.val.dflt)) (Val.columns (List.getD z41 (Int.toNat x5) Ty.val.dflt)) (Val.rows (List.getD z41 (Int.toNat x5) Ty.val.dflt)))) ((fun (z40 : List Val) => List.set z40 (Int.toNat x5) (Val.mk (Val.kind (List.getD z40 (Int.toNat x5) Ty.val.dflt)) (IntKind.i64.wrap (x1 + 1)) (Val.step (List.getD z40 (Int.toNat x5) Ty.val.dflt)) (Val.text (List.getD z40 (Int.toNat x5) Ty.val.dflt)) (Val.list (List.getD z40 (Int.toNat x5) Ty.val.dflt)) (Val.columns (List.getD z40 (Int.toNat x5) Ty.val.dflt)) (Val.rows (List.getD z40 (Int.toNat x5) Ty.val.dflt)))) (List.set x0 (Int.toNat x5) (Val.mk x1 (Val.n (List.getD x0 (Int.toNat x5) Ty.val.dflt)) (Val.step (List.getD x0 (Int.toNat x5) Ty.val.dflt)) (Val.text (List.getD x0 (Int.toNat x5) Ty.val.dflt)) (Val.list (List.getD x0 (Int.toNat x5) Ty.val.dflt)) (Val.columns (List.getD x0 (Int.toNat x5) Ty.val.dflt)) (Val.rows (List.getD x0 (Int.toNat x5) Ty.val.dflt))))))), (0 : Int) ≤ x5 ∧ x5 < (List.length ((fun (z42 : List Val) => List.set z42 (Int.toNat x5) (Val.mk (Val.kind (List.getD z42 (Int.toNat x5) Ty.val.dflt)) (Val.n (List.getD z42 (Int.toNat x5) Ty.val.dflt)) (Val.step (List.getD z42 (Int.toNat x5) Ty.val.dflt)) r1 (Val.list (List.getD z42 (Int.toNat x5) Ty.val.dflt)) (Val.columns (List.getD z42 (Int.toNat x5) Ty.val.dflt)) (Val.rows (List.getD z42 (Int.toNat x5) Ty.val.dflt)))) ((fun (z41 : List Val) => List.set z41 (Int.toNat x5) (Val.mk (Val.kind (List.getD z41 (Int.toNat x5) Ty.val.dflt)) (Val.n (List.getD z41 (Int.toNat x5) Ty.val.dflt)) (IntKind.i64.wrap ((IntKind.i64.wrap (x1 + 1)) + 1)) (Val.text (List.getD z41 (Int.toNat x5) Ty.val.dflt)) (Val.list (List.getD z41 (Int.toNat x5) Ty.val.dflt)) (Val.columns (List.getD z41 (Int.toNat x5) Ty.val.dflt)) (Val.rows (List.getD z41 (Int.toNat x5) Ty.val.dflt)))) ((fun (z40 : List Val) => List.set z40 (Int.toNat x5) (Val.mk (Val.kind (List.getD z40 (Int.toNat x5) Ty.val.dflt)) (IntKind.i64.wrap (x1 + 1)) (Val.step (List.getD z40 (Int.toNat x5) Ty.val.dflt)) (Val.text (List.getD z40 (Int.toNat x5) Ty.val.dflt)) (Val.list (List.getD z40 (Int.toNat x5) Ty.val.dflt)) (Val.columns (List.getD z40 (Int.toNat x5) Ty.val.dflt)) (Val.rows (List.getD z40 (Int.toNat x5) Ty.val.dflt)))) (List.set x0 (Int.toNat x5) (Val.mk x1 (Val.n (List.getD x0 (Int.toNat x5) Ty.val.dflt)) (Val.step (List.getD x0 (Int.toNat x5) Ty.val.dflt)) (Val.text (List.getD x0 (Int.toNat x5) Ty.val.dflt)) (Val.list (List.getD x0 (Int.toNat x5) Ty.val.dflt)) (Val.columns (List.getD x0 (Int.toNat x5) Ty.val.dflt)) (Val.rows (List.getD x0 (Int.toNat x5) Ty.val.dflt)))))))), AbsCalls Try.prog 67 (laws_markValueS_as (Val.list (List.getD ((fun (z42 : List Val) => List.set z42 (Int.toNat x5) (Val.mk (Val.kind (List.getD z42 (Int.toNat x5) Ty.val.dflt)) (Val.n (List.getD z42 (Int.toNat x5) Ty.val.dflt)) (Val.step (List.getD z42 (Int.toNat x5) Ty.val.dflt)) r1 (Val.list (List.getD z42 (Int.toNat x5) Ty.val.dflt)) (Val.columns (List.getD z42 (Int.toNat x5) Ty.val.dflt)) (Val.rows (List.getD z42 (Int.toNat x5) Ty.val.dflt)))) ((fun (z41 : List Val) => List.set z41 (Int.toNat x5) (Val.mk (Val.kind (List.getD z41 (Int.toNat x5) Ty.val.dflt)) (Val.n (List.getD z41 (Int.toNat x5) Ty.val.dflt)) (IntKind.i64.wrap ((IntKind.i64.wrap (x1 + 1)) + 1)) (Val.text (List.getD z41 (Int.toNat x5) Ty.val.dflt)) (Val.list (List.getD z41 (Int.toNat x5) Ty.val.dflt)) (Val.columns (List.getD z41 (Int.toNat x5) Ty.val.dflt)) (Val.rows (List.getD z41 (Int.toNat x5) Ty.val.dflt)))) ((fun (z40 : List Val) => List.set z40 (Int.toNat x5) (Val.mk (Val.kind (List.getD z40 (Int.toNat x5) Ty.val.dflt)) (IntKind.i64.wrap (x1 + 1)) (Val.step (List.getD z40 (Int.toNat x5) Ty.val.dflt)) (Val.text (List.getD z40 (Int.toNat x5) Ty.val.dflt)) (Val.list (List.getD z40 (Int.toNat x5) Ty.val.dflt)) (Val.columns (List.getD z40 (Int.toNat x5) Ty.val.dflt)) (Val.rows (List.getD z40 (Int.toNat x5) Ty.val.dflt)))) (List.set x0 (Int.toNat x5) (Val.mk x1 (Val.n (List.getD x0 (Int.toNat x5) Ty.val.dflt)) (Val.step (List.getD x0 (Int.toNat x5) Ty.val.dflt)) (Val.text (List.getD x0 (Int.toNat x5) Ty.val.dflt)) (Val.list (List.getD x0 (Int.toNat x5) Ty.val.dflt)) (Val.columns (List.getD x0 (Int.toNat x5) Ty.val.dflt)) (Val.rows (List.getD x0 (Int.toNat x5) Ty.val.dflt))))))) (Int.toNat x5) Ty.val.dflt)) (IntKind.i64.wrap ((IntKind.i64.wrap ((IntKind.i64.wrap ((IntKind.i64.wrap (x1 + 1)) + 1)) + 1)) + 1))) (laws_markValueS_ro r2), (Int.toNat x5) = (Int.toNat x5), List.length r2.2 = List.length (Val.list (List.getD ((fun (z42 : List Val) => List.set z42 (Int.toNat x5) (Val.mk (Val.kind (List.getD z42 (Int.toNat x5) Ty.val.dflt)) (Val.n (List.getD z42 (Int.toNat x5) Ty.val.dflt)) (Val.step (List.getD z42 (Int.toNat x5) Ty.val.dflt)) r1 (Val.list (List.getD z42 (Int.toNat x5) Ty.val.dflt)) (Val.columns (List.getD z42 (Int.toNat x5) Ty.val.dflt)) (Val.rows (List.getD z42 (Int.toNat x5) Ty.val.dflt)))) ((fun (z41 : List Val) => List.set z41 (Int.toNat x5) (Val.mk (Val.kind (List.getD z41 (Int.toNat x5) Ty.val.dflt)) (Val.n (List.getD z41 (Int.toNat x5) Ty.val.dflt)) (IntKind.i64.wrap ((IntKind.i64.wrap (x1 + 1)) + 1)) (Val.text (List.getD z41 (Int.toNat x5) Ty.val.dflt)) (Val.list (List.getD z41 (Int.toNat x5) Ty.val.dflt)) (Val.columns (List.getD z41 (Int.toNat x5) Ty.val.dflt)) (Val.rows (List.getD z41 (Int.toNat x5) Ty.val.dflt)))) ((fun (z40 : List Val) => List.set z40 (Int.toNat x5) (Val.mk (Val.kind (List.getD z40 (Int.toNat x5) Ty.val.dflt)) (IntKind.i64.wrap (x1 + 1)) (Val.step (List.getD z40 (Int.toNat x5) Ty.val.dflt)) (Val.text (List.getD z40 (Int.toNat x5) Ty.val.dflt)) (Val.list (List.getD z40 (Int.toNat x5) Ty.val.dflt)) (Val.columns (List.getD z40 (Int.toNat x5) Ty.val.dflt)) (Val.rows (List.getD z40 (Int.toNat x5) Ty.val.dflt)))) (List.set x0 (Int.toNat x5) (Val.mk x1 (Val.n (List.getD x0 (Int.toNat x5) Ty.val.dflt)) (Val.step (List.getD x0 (Int.toNat x5) Ty.val.dflt)) (Val.text (List.getD x0 (Int.toNat x5) Ty.val.dflt)) (Val.list (List.getD x0 (Int.toNat x5) Ty.val.dflt)) (Val.columns (List.getD x0 (Int.toNat x5) Ty.val.dflt)) (Val.rows (List.getD x0 (Int.toNat x5) Ty.val.dflt))))))) (Int.toNat x5) Ty.val.dflt)), (0 : Int) ≤ x5 ∧ x5 < (List.length ((fun (z43 : List Val) => List.set z43 (Int.toNat x5) (Val.mk (Val.kind (List.getD z43 (Int.toNat x5) Ty.val.dflt)) (Val.n (List.getD z43 (Int.toNat x5) Ty.val.dflt)) (Val.step (List.getD z43 (Int.toNat x5) Ty.val.dflt)) (Val.text (List.getD z43 (Int.toNat x5) Ty.val.dflt)) r2.2 (Val.columns (List.getD z43 (Int.toNat x5) Ty.val.dflt)) (Val.rows (List.getD z43 (Int.toNat x5) Ty.val.dflt)))) ((fun (z42 : List Val) => List.set z42 (Int.toNat x5) (Val.mk (Val.kind (List.getD z42 (Int.toNat x5) Ty.val.dflt)) (Val.n (List.getD z42 (Int.toNat x5) Ty.val.dflt)) (Val.step (List.getD z42 (Int.toNat x5) Ty.val.dflt)) r1 (Val.list (List.getD z42 (Int.toNat x5) Ty.val.dflt)) (Val.columns (List.getD z42 (Int.toNat x5) Ty.val.dflt)) (Val.rows (List.getD z42 (Int.toNat x5) Ty.val.dflt)))) ((fun (z41 : List Val) => List.set z41 (Int.toNat x5) (Val.mk (Val.kind (List.getD z41 (Int.toNat x5) Ty.val.dflt)) (Val.n (List.getD z41 (Int.toNat x5) Ty.val.dflt)) (IntKind.i64.wrap ((IntKind.i64.wrap (x1 + 1)) + 1)) (Val.text (List.getD z41 (Int.toNat x5) Ty.val.dflt)) (Val.list (List.getD z41 (Int.toNat x5) Ty.val.dflt)) (Val.columns (List.getD z41 (Int.toNat x5) Ty.val.dflt)) (Val.rows (List.getD z41 (Int.toNat x5) Ty.val.dflt)))) ((fun (z40 : List Val) => List.set z40 (Int.toNat x5) (Val.mk (Val.kind (List.getD z40 (Int.toNat x5) Ty.val.dflt)) (IntKind.i64.wrap (x1 + 1)) (Val.step (List.getD z40 (Int.toNat x5) Ty.val.dflt)) (Val.text (List.getD z40 (Int.toNat x5) Ty.val.dflt)) (Val.list (List.getD z40 (Int.toNat x5) Ty.val.dflt)) (Val.columns (List.getD z40 (Int.toNat x5) Ty.val.dflt)) (Val.rows (List.getD z40 (Int.toNat x5) Ty.val.dflt)))) (List.set x0 (Int.toNat x5) (Val.mk x1 (Val.n (List.getD x0 (Int.toNat x5) Ty.val.dflt)) (Val.step (List.getD x0 (Int.toNat x5) Ty.val.dflt)) (Val.text (List.getD x0 (Int.toNat x5) Ty.val.dflt)) (Val.list (List.getD x0 (Int.toNat x5) Ty.val.dflt)) (Val.columns (List.getD x0 (Int.toNat x5) Ty.val.dflt)) (Val.rows (List.getD x0 (Int.toNat x5) Ty.val.dflt))))))))), AbsCalls Try.prog 80 (laws_markStringS_as (Val.columns (List.getD ((fun (z43 : List Val) => List.set z43 (Int.toNat x5) (Val.mk (Val.kind (List.getD z43 (Int.toNat x5) Ty.val.dflt)) (Val.n (List.getD z43 (Int.toNat x5) Ty.val.dflt)) (Val.step (List.getD z43 (Int.toNat x5) Ty.val.dflt)) (Val.text (List.getD z43 (Int.toNat x5) Ty.val.dflt)) r2.2 (Val.columns (List.getD z43 (Int.toNat x5) Ty.val.dflt)) (Val.rows (List.getD z43 (Int.toNat x5) Ty.val.dflt)))) ((fun (z42 : List Val) => List.set z42 (Int.toNat x5) (Val.mk (Val.kind (List.getD z42 (Int.toNat x5) Ty.val.dflt)) (Val.n (List.getD z42 (Int.toNat x5) Ty.val.dflt)) (Val.step (List.getD z42 (Int.toNat x5) Ty.val.dflt)) r1 (Val.list (List.getD z42 (Int.toNat x5) Ty.val.dflt)) (Val.columns (List.getD z42 (Int.toNat x5) Ty.val.dflt)) (Val.rows (List.getD z42 (Int.toNat x5) Ty.val.dflt)))) ((fun (z41 : List Val) => List.set z41 (Int.toNat x5) (Val.mk (Val.kind (List.getD z41 (Int.toNat x5) Ty.val.dflt)) (Val.n (List.getD z41 (Int.toNat x5) Ty.val.dflt)) (IntKind.i64.wrap ((IntKind.i64.wrap (x1 + 1)) + 1)) (Val.text (List.getD z41 (Int.toNat x5) Ty.val.dflt)) (Val.list (List.getD z41 (Int.toNat x5) Ty.val.dflt)) (Val.columns (List.getD z41 (Int.toNat x5) Ty.val.dflt)) (Val.rows (List.getD z41 (Int.toNat x5) Ty.val.dflt)))) ((fun (z40 : List Val) => List.set z40 (Int.toNat x5) (Val.mk (Val.kind (List.getD z40 (Int.toNat x5) Ty.val.dflt)) (IntKind.i64.wrap (x1 + 1)) (Val.step (List.getD z40 (Int.toNat x5) Ty.val.dflt)) (Val.text (List.getD z40 (Int.toNat x5) Ty.val.dflt)) (Val.list (List.getD z40 (Int.toNat x5) Ty.val.dflt)) (Val.columns (List.getD z40 (Int.toNat x5) Ty.val.dflt)) (Val.rows (List.getD z40 (Int.toNat x5) Ty.val.dflt)))) (List.set x0 (Int.toNat x5) (Val.mk x1 (Val.n (List.getD x0 (Int.toNat x5) Ty.val.dflt)) (Val.step (List.getD x0 (Int.toNat x5) Ty.val.dflt)) (Val.text (List.getD x0 (Int.toNat x5) Ty.val.dflt)) (Val.list (List.getD x0 (Int.toNat x5) Ty.val.dflt)) (Val.columns (List.getD x0 (Int.toNat x5) Ty.val.dflt)) (Val.rows (List.getD x0 (Int.toNat x5) Ty.val.dflt)))))))) (Int.toNat x5) Ty.val.dflt)) r2.1) (laws_markStringS_ro r3), (Int.toNat x5) = (Int.toNat x5), List.length r3.2 = List.length (Val.columns (List.getD ((fun (z43 : List Val) => List.set z43 (Int.toNat x5) (Val.mk (Val.kind (List.getD z43 (Int.toNat x5) Ty.val.dflt)) (Val.n (List.getD z43 (Int.toNat x5) Ty.val.dflt)) (Val.step (List.getD z43 (Int.toNat x5) Ty.val.dflt)) (Val.text (List.getD z43 (Int.toNat x5) Ty.val.dflt)) r2.2 (Val.columns (List.getD z43 (Int.toNat x5) Ty.val.dflt)) (Val.rows (List.getD z43 (Int.toNat x5) Ty.val.dflt)))) ((fun (z42 : List Val) => List.set z42 (Int.toNat x5) (Val.mk (Val.kind (List.getD z42 (Int.toNat x5) Ty.val.dflt)) (Val.n (List.getD z42 (Int.toNat x5) Ty.val.dflt)) (Val.step (List.getD z42 (Int.toNat x5) Ty.val.dflt)) r1 (Val.list (List.getD z42 (Int.toNat x5) Ty.val.dflt)) (Val.columns (List.getD z42 (Int.toNat x5) Ty.val.dflt)) (Val.rows (List.getD z42 (Int.toNat x5) Ty.val.dflt)))) ((fun (z41 : List Val) => List.set z41 (Int.toNat x5) (Val.mk (Val.kind (List.getD z41 (Int.toNat x5) Ty.val.dflt)) (Val.n (List.getD z41 (Int.toNat x5) Ty.val.dflt)) (IntKind.i64.wrap ((IntKind.i64.wrap (x1 + 1)) + 1)) (Val.text (List.getD z41 (Int.toNat x5) Ty.val.dflt)) (Val.list (List.getD z41 (Int.toNat x5) Ty.val.dflt)) (Val.columns (List.getD z41 (Int.toNat x5) Ty.val.dflt)) (Val.rows (List.getD z41 (Int.toNat x5) Ty.val.dflt)))) ((fun (z40 : List Val) => List.set z40 (Int.toNat x5) (Val.mk (Val.kind (List.getD z40 (Int.toNat x5) Ty.val.dflt)) (IntKind.i64.wrap (x1 + 1)) (Val.step (List.getD z40 (Int.toNat x5) Ty.val.dflt)) (Val.text (List.getD z40 (Int.toNat x5) Ty.val.dflt)) (Val.list (List.getD z40 (Int.toNat x5) Ty.val.dflt)) (Val.columns (List.getD z40 (Int.toNat x5) Ty.val.dflt)) (Val.rows (List.getD z40 (Int.toNat x5) Ty.val.dflt)))) (List.set x0 (Int.toNat x5) (Val.mk x1 (Val.n (List.getD x0 (Int.toNat x5) Ty.val.dflt)) (Val.step (List.getD x0 (Int.toNat x5) Ty.val.dflt)) (Val.text (List.getD x0 (Int.toNat x5) Ty.val.dflt)) (Val.list (List.getD x0 (Int.toNat x5) Ty.val.dflt)) (Val.columns (List.getD x0 (Int.toNat x5) Ty.val.dflt)) (Val.rows (List.getD x0 (Int.toNat x5) Ty.val.dflt)))))))) (Int.toNat x5) Ty.val.dflt)), (0 : Int) ≤ x5 ∧ x5 < (List.length ((fun (z44 : List Val) => List.set z44 (Int.toNat x5) (Val.mk (Val.kind (List.getD z44 (Int.toNat x5) Ty.val.dflt)) (Val.n (List.getD z44 (Int.toNat x5) Ty.val.dflt)) (Val.step (List.getD z44 (Int.toNat x5) Ty.val.dflt)) (Val.text (List.getD z44 (Int.toNat x5) Ty.val.dflt)) (Val.list (List.getD z44 (Int.toNat x5) Ty.val.dflt)) r3.2 (Val.rows (List.getD z44 (Int.toNat x5) Ty.val.dflt)))) ((fun (z43 : List Val) => List.set z43 (Int.toNat x5) (Val.mk (Val.kind (List.getD z43 (Int.toNat x5) Ty.val.dflt)) (Val.n (List.getD z43 (Int.toNat x5) Ty.val.dflt)) (Val.step (List.getD z43 (Int.toNat x5) Ty.val.dflt)) (Val.text (List.getD z43 (Int.toNat x5) Ty.val.dflt)) r2.2 (Val.columns (List.getD z43 (Int.toNat x5) Ty.val.dflt)) (Val.rows (List.getD z43 (Int.toNat x5) Ty.val.dflt)))) ((fun (z42 : List Val) => List.set z42 (Int.toNat x5) (Val.mk (Val.kind (List.getD z42 (Int.toNat x5) Ty.val.dflt)) (Val.n (List.getD z42 (Int.toNat x5) Ty.val.dflt)) (Val.step (List.getD z42 (Int.toNat x5) Ty.val.dflt)) r1 (Val.list (List.getD z42 (Int.toNat x5) Ty.val.dflt)) (Val.columns (List.getD z42 (Int.toNat x5) Ty.val.dflt)) (Val.rows (List.getD z42 (Int.toNat x5) Ty.val.dflt)))) ((fun (z41 : List Val) => List.set z41 (Int.toNat x5) (Val.mk (Val.kind (List.getD z41 (Int.toNat x5) Ty.val.dflt)) (Val.n (List.getD z41 (Int.toNat x5) Ty.val.dflt)) (IntKind.i64.wrap ((IntKind.i64.wrap (x1 + 1)) + 1)) (Val.text (List.getD z41 (Int.toNat x5) Ty.val.dflt)) (Val.list (List.getD z41 (Int.toNat x5) Ty.val.dflt)) (Val.columns (List.getD z41 (Int.toNat x5) Ty.val.dflt)) (Val.rows (List.getD z41 (Int.toNat x5) Ty.val.dflt)))) ((fun (z40 : List Val) => List.set z40 (Int.toNat x5) (Val.mk (Val.kind (List.getD z40 (Int.toNat x5) Ty.val.dflt)) (IntKind.i64.wrap (x1 + 1)) (Val.step (List.getD z40 (Int.toNat x5) Ty.val.dflt)) (Val.text (List.getD z40 (Int.toNat x5) Ty.val.dflt)) (Val.list (List.getD z40 (Int.toNat x5) Ty.val.dflt)) (Val.columns (List.getD z40 (Int.toNat x5) Ty.val.dflt)) (Val.rows (List.getD z40 (Int.toNat x5) Ty.val.dflt)))) (List.set x0 (Int.toNat x5) (Val.mk x1 (Val.n (List.getD x0 (Int.toNat x5) Ty.val.dflt)) (Val.step (List.getD x0 (Int.toNat x5) Ty.val.dflt)) (Val.text (List.getD x0 (Int.toNat x5) Ty.val.dflt)) (Val.list (List.getD x0 (Int.toNat x5) Ty.val.dflt)) (Val.columns (List.getD x0 (Int.toNat x5) Ty.val.dflt)) (Val.rows (List.getD x0 (Int.toNat x5) Ty.val.dflt)))))))))), AbsCalls Try.prog 81 (laws_markRowS_as (Val.rows (List.getD ((fun (z44 : List Val) => List.set z44 (Int.toNat x5) (Val.mk (Val.kind (List.getD z44 (Int.toNat x5) Ty.val.dflt)) (Val.n (List.getD z44 (Int.toNat x5) Ty.val.dflt)) (Val.step (List.getD z44 (Int.toNat x5) Ty.val.dflt)) (Val.text (List.getD z44 (Int.toNat x5) Ty.val.dflt)) (Val.list (List.getD z44 (Int.toNat x5) Ty.val.dflt)) r3.2 (Val.rows (List.getD z44 (Int.toNat x5) Ty.val.dflt)))) ((fun (z43 : List Val) => List.set z43 (Int.toNat x5) (Val.mk (Val.kind (List.getD z43 (Int.toNat x5) Ty.val.dflt)) (Val.n (List.getD z43 (Int.toNat x5) Ty.val.dflt)) (Val.step (List.getD z43 (Int.toNat x5) Ty.val.dflt)) (Val.text (List.getD z43 (Int.toNat x5) Ty.val.dflt)) r2.2 (Val.columns (List.getD z43 (Int.toNat x5) Ty.val.dflt)) (Val.rows (List.getD z43 (Int.toNat x5) Ty.val.dflt)))) ((fun (z42 : List Val) => List.set z42 (Int.toNat x5) (Val.mk (Val.kind (List.getD z42 (Int.toNat x5) Ty.val.dflt)) (Val.n (List.getD z42 (Int.toNat x5) Ty.val.dflt)) (Val.step (List.getD z42 (Int.toNat x5) Ty.val.dflt)) r1 (Val.list (List.getD z42 (Int.toNat x5) Ty.val.dflt)) (Val.columns (List.getD z42 (Int.toNat x5) Ty.val.dflt)) (Val.rows (List.getD z42 (Int.toNat x5) Ty.val.dflt)))) ((fun (z41 : List Val) => List.set z41 (Int.toNat x5) (Val.mk (Val.kind (List.getD z41 (Int.toNat x5) Ty.val.dflt)) (Val.n (List.getD z41 (Int.toNat x5) Ty.val.dflt)) (IntKind.i64.wrap ((IntKind.i64.wrap (x1 + 1)) + 1)) (Val.text (List.getD z41 (Int.toNat x5) Ty.val.dflt)) (Val.list (List.getD z41 (Int.toNat x5) Ty.val.dflt)) (Val.columns (List.getD z41 (Int.toNat x5) Ty.val.dflt)) (Val.rows (List.getD z41 (Int.toNat x5) Ty.val.dflt)))) ((fun (z40 : List Val) => List.set z40 (Int.toNat x5) (Val.mk (Val.kind (List.getD z40 (Int.toNat x5) Ty.val.dflt)) (IntKind.i64.wrap (x1 + 1)) (Val.step (List.getD z40 (Int.toNat x5) Ty.val.dflt)) (Val.text (List.getD z40 (Int.toNat x5) Ty.val.dflt)) (Val.list (List.getD z40 (Int.toNat x5) Ty.val.dflt)) (Val.columns (List.getD z40 (Int.toNat x5) Ty.val.dflt)) (Val.rows (List.getD z40 (Int.toNat x5) Ty.val.dflt)))) (List.set x0 (Int.toNat x5) (Val.mk x1 (Val.n (List.getD x0 (Int.toNat x5) Ty.val.dflt)) (Val.step (List.getD x0 (Int.toNat x5) Ty.val.dflt)) (Val.text (List.getD x0 (Int.toNat x5) Ty.val.dflt)) (Val.list (List.getD x0 (Int.toNat x5) Ty.val.dflt)) (Val.columns (List.getD x0 (Int.toNat x5) Ty.val.dflt)) (Val.rows (List.getD x0 (Int.toNat x5) Ty.val.dflt))))))))) (Int.toNat x5) Ty.val.dflt)) r3.1) (laws_markRowS_ro r4), (Int.toNat x5) = (Int.toNat x5), List.length r4.2 = List.length (Val.rows (List.getD ((fun (z44 : List Val) => List.set z44 (Int.toNat x5) (Val.mk (Val.kind (List.getD z44 (Int.toNat x5) Ty.val.dflt)) (Val.n (List.getD z44 (Int.toNat x5) Ty.val.dflt)) (Val.step (List.getD z44 (Int.toNat x5) Ty.val.dflt)) (Val.text (List.getD z44 (Int.toNat x5) Ty.val.dflt)) (Val.list (List.getD z44 (Int.toNat x5) Ty.val.dflt)) r3.2 (Val.rows (List.getD z44 (Int.toNat x5) Ty.val.dflt)))) ((fun (z43 : List Val) => List.set z43 (Int.toNat x5) (Val.mk (Val.kind (List.getD z43 (Int.toNat x5) Ty.val.dflt)) (Val.n (List.getD z43 (Int.toNat x5) Ty.val.dflt)) (Val.step (List.getD z43 (Int.toNat x5) Ty.val.dflt)) (Val.text (List.getD z43 (Int.toNat x5) Ty.val.dflt)) r2.2 (Val.columns (List.getD z43 (Int.toNat x5) Ty.val.dflt)) (Val.rows (List.getD z43 (Int.toNat x5) Ty.val.dflt)))) ((fun (z42 : List Val) => List.set z42 (Int.toNat x5) (Val.mk (Val.kind (List.getD z42 (Int.toNat x5) Ty.val.dflt)) (Val.n (List.getD z42 (Int.toNat x5) Ty.val.dflt)) (Val.step (List.getD z42 (Int.toNat x5) Ty.val.dflt)) r1 (Val.list (List.getD z42 (Int.toNat x5) Ty.val.dflt)) (Val.columns (List.getD z42 (Int.toNat x5) Ty.val.dflt)) (Val.rows (List.getD z42 (Int.toNat x5) Ty.val.dflt)))) ((fun (z41 : List Val) => List.set z41 (Int.toNat x5) (Val.mk (Val.kind (List.getD z41 (Int.toNat x5) Ty.val.dflt)) (Val.n (List.getD z41 (Int.toNat x5) Ty.val.dflt)) (IntKind.i64.wrap ((IntKind.i64.wrap (x1 + 1)) + 1)) (Val.text (List.getD z41 (Int.toNat x5) Ty.val.dflt)) (Val.list (List.getD z41 (Int.toNat x5) Ty.val.dflt)) (Val.columns (List.getD z41 (Int.toNat x5) Ty.val.dflt)) (Val.rows (List.getD z41 (Int.toNat x5) Ty.val.dflt)))) ((fun (z40 : List Val) => List.set z40 (Int.toNat x5) (Val.mk (Val.kind (List.getD z40 (Int.toNat x5) Ty.val.dflt)) (IntKind.i64.wrap (x1 + 1)) (Val.step (List.getD z40 (Int.toNat x5) Ty.val.dflt)) (Val.text (List.getD z40 (Int.toNat x5) Ty.val.dflt)) (Val.list (List.getD z40 (Int.toNat x5) Ty.val.dflt)) (Val.columns (List.getD z40 (Int.toNat x5) Ty.val.dflt)) (Val.rows (List.getD z40 (Int.toNat x5) Ty.val.dflt)))) (List.set x0 (Int.toNat x5) (Val.mk x1 (Val.n (List.getD x0 (Int.toNat x5) Ty.val.dflt)) (Val.step (List.getD x0 (Int.toNat x5) Ty.val.dflt)) (Val.text (List.getD x0 (Int.toNat x5) Ty.val.dflt)) (Val.list (List.getD x0 (Int.toNat x5) Ty.val.dflt)) (Val.columns (List.getD x0 (Int.toNat x5) Ty.val.dflt)) (Val.rows (List.getD x0 (Int.toNat x5) Ty.val.dflt))))))))) (Int.toNat x5) Ty.val.dflt))]) := by kernel_rfl
theorem p67_2_1 (x0 : List Val) (x1 : Int) (x5 : Int) : run tt (AbsCalls Try.prog) I67 3000 true (stkAt 2 I67.body) ⟨(S67_2 x0 x1 x5), [false], [], []⟩ = some (.done (laws_markValueS_ro (x1, x0)) [(decide ((x5 : Int) < (List.length x0 : Int))) = false]) := by kernel_rfl
theorem p67_e_2 (a0 : List Val) (a1 : Int) : run tt (AbsCalls Try.prog) I67 3000 false [.code I67.body] ⟨(entry 0 (laws_markValueS_as a0 a1)), [], [], []⟩ = some (.stop (stkAt 2 I67.body) (S67_2 a0 a1 0) []) := by kernel_rfl
theorem c67_2 {N : Nat} {rc_laws_markValueS : (List Val) → Int → Option (Int × (List Val))} (hrc_laws_markValueS : ∀ a0 a1 r, rc_laws_markValueS a0 a1 = some r → AbsCalls Try.prog 67 (laws_markValueS_as a0 a1) (laws_markValueS_ro r)) : ∀ n x0 x1 x5 r, laws_markValueS_b2 N rc_laws_markValueS n x0 x1 x5 = some r → Reach Try.prog Try.f67 I67 (stkAt 2 I67.body) (S67_2 x0 x1 x5) (laws_markValueS_ro r) := by
  intro n
  induction n with
  | zero => intro x0 x1 x5 r h; have h' : (none : Option (Int × (List Val))) = some r := h; cases h'
  | succ n ih =>
    intro x0 x1 x5 r h
    rw [laws_markValueS_b2] at h
    rcases cond_inv h with ⟨h0, h⟩ | ⟨h0, h⟩
    · obtain ⟨h1, h⟩ := ite_inv h
      obtain ⟨h2, h⟩ := ite_inv h
      obtain ⟨h3, h⟩ := ite_inv h
      obtain ⟨r1, h4, h⟩ := bind_inv h
      obtain ⟨h5, h⟩ := ite_inv h
      obtain ⟨h6, h⟩ := ite_inv h
      obtain ⟨r2, h7, h⟩ := bind_inv h
      obtain ⟨h9, h⟩ := ite_inv h
      obtain ⟨h10, h⟩ := ite_inv h
      obtain ⟨r3, h11, h⟩ := bind_inv h
      obtain ⟨h13, h⟩ := ite_inv h
      obtain ⟨h14, h⟩ := ite_inv h
      obtain ⟨r4, h15, h⟩ := bind_inv h
      obtain ⟨h17, h⟩ := ite_inv h
      exact Reach.stop ttok mix fk67 (p67_2_0 x0 x1 x5 r1 r2 r3 r4) (obs_cons h0 (obs_cons h1 (obs_cons h2 (obs_cons h3 (obs_cons (laws_markText_ok h4) (obs_cons h5 (obs_cons h6 (obs_cons (hrc_laws_markValueS _ _ _ h7) (obs_cons rfl (obs_cons h9 (obs_cons h10 (obs_cons (laws_markStringS_ok h11) (obs_cons rfl (obs_cons h13 (obs_cons h14 (obs_cons (laws_markRowS_ok h15) (obs_cons rfl (obs_cons h17 obs_nil)))))))))))))))))) (ih _ _ _ _ h)
    · obtain rfl := Option.some.inj h
      exact Reach.done ttok mix fk67 (p67_2_1 x0 x1 x5) (obs_cons h0 obs_nil)
theorem c67_e {N : Nat} {rc_laws_markValueS : (List Val) → Int → Option (Int × (List Val))} (hrc_laws_markValueS : ∀ a0 a1 r, rc_laws_markValueS a0 a1 = some r → AbsCalls Try.prog 67 (laws_markValueS_as a0 a1) (laws_markValueS_ro r)) : ∀ a0 a1 r, laws_markValueS_body N rc_laws_markValueS a0 a1 = some r → Reach Try.prog Try.f67 I67 [.code I67.body] (entry 0 (laws_markValueS_as a0 a1)) (laws_markValueS_ro r) := by
  intro a0 a1 r h
  unfold laws_markValueS_body at h
  exact Reach.stop ttok mix fk67 (p67_e_2 a0 a1) obs_nil (c67_2 hrc_laws_markValueS  _ _ _ _ _ h)
theorem laws_markValueS_body_ok {N : Nat} {rc_laws_markValueS : (List Val) → Int → Option (Int × (List Val))} (hrc_laws_markValueS : ∀ a0 a1 r, rc_laws_markValueS a0 a1 = some r → AbsCalls Try.prog 67 (laws_markValueS_as a0 a1) (laws_markValueS_ro r)) {a0 : List Val} {a1 : Int} {r : Int × (List Val)} (h : laws_markValueS_body N rc_laws_markValueS a0 a1 = some r) : AbsCalls Try.prog 67 (laws_markValueS_as a0 a1) (laws_markValueS_ro r) :=
 AbsCalls.of_reach fk67 rfl rfl (Nat.le_of_ble_eq_true rfl) (c67_e hrc_laws_markValueS a0 a1 r h)
theorem laws_markValueS_fix_ok {N : Nat} : ∀ d, (∀ a0 a1 r, laws_markValueS_fix N d a0 a1 = some r → AbsCalls Try.prog 67 (laws_markValueS_as a0 a1) (laws_markValueS_ro r)) := by
  intro d
  induction d with
  | zero => intro _ _ r h; have h' : (none : Option (Int × (List Val))) = some r := h; cases h'
  | succ d ih => intro _ _ r h; exact laws_markValueS_body_ok (N := N) ih h
theorem laws_markValueS_ok {N : Nat} {a0 : List Val} {a1 : Int} {r : Int × (List Val)} (h : laws_markValueS N a0 a1 = some r) : AbsCalls Try.prog 67 (laws_markValueS_as a0 a1) (laws_markValueS_ro r) := laws_markValueS_fix_ok N _ _ r h
noncomputable def I21 : Info := { body := (Try.f21.body).getD .skip, nt := 78, results := [.tmp 4], keep := [0, 2, 8, 10, 18], live := [(2, [0, 2, 10])], modes := [(4, [(0, .ref, false)]), (6, [(0, .ref, false)]), (8, [(0, .ref, false)]), (10, [(0, .ref, false)]), (12, [(0, .ref, false)]), (14, [(0, .ref, false), (5, .ref, false), (7, .ref, false)]), (15, [(0, .ref, false), (5, .ref, false), (7, .ref, false)]), (16, [(0, .ref, false), (5, .ref, false), (7, .ref, false)])], ext := [], lnt := [(0, 0)], casts := [], fcast := [] }
theorem fk21 : FnOk Try.prog 21 Try.f21 I21 := ⟨Try.func21, by kernel_rfl, by kernel_rfl, by kernel_rfl, by kernel_rfl⟩
def S21_2 (x0 : List Bnd) (x1 : Int) (x5 : Int) : St := [(0, .v false [.sl (.lnt 0) .bnd x0]), (2, .v false [.int .i64 x1]), (10, .v false [.int .i64 x5])]
theorem p21_2_0 (x0 : List Bnd) (x1 : Int) (x5 : Int) (r1 : Str) (r2 : Str) (r3 : Int × (List Val)) (r4 : Int × (List Str)) (r5 : Int × (List Rowd)) : run tt (AbsCalls Try.prog) I21 3000 true (stkAt 2 I21.body) ⟨(S21_2 x0 x1 x5), [true], [laws_markText_ro r1, laws_markText_ro r2, laws_markValueS_ro r3, laws_markStringS_ro r4, laws_markRowS_ro r5], []⟩ = some (.stop (stkAt 2 I21.body) (S21_2 ((fun (z58 : List Bnd) => List.set z58 (Int.toNat x5) (Bnd.mk (Bnd.name (List.getD z58 (Int.toNat x5) Ty.bnd.dflt)) (Val.mk (Val.kind (Bnd.value (List.getD z58 (Int.toNat x5) Ty.bnd.dflt))) (Val.n (Bnd.value (List.getD z58 (Int.toNat x5) Ty.bnd.dflt))) (Val.step (Bnd.value (List.getD z58 (Int.toNat x5) Ty.bnd.dflt))) (Val.text (Bnd.value (List.getD z58 (Int.toNat x5) Ty.bnd.dflt))) (Val.list (Bnd.value (List.getD z58 (Int.toNat x5) Ty.bnd.dflt))) (Val.columns (Bnd.value (List.getD z58 (Int.toNat x5) Ty.bnd.dflt))) r5.2))) ((fun (z57 : List Bnd) => List.set z57 (Int.toNat x5) (Bnd.mk (Bnd.name (List.getD z57 (Int.toNat x5) Ty.bnd.dflt)) (Val.mk (Val.kind (Bnd.value (List.getD z57 (Int.toNat x5) Ty.bnd.dflt))) (Val.n (Bnd.value (List.getD z57 (Int.toNat x5) Ty.bnd.dflt))) (Val.step (Bnd.value (List.getD z57 (Int.toNat x5) Ty.bnd.dflt))) (Val.text (Bnd.value (List.getD z57 (Int.toNat x5) Ty.bnd.dflt))) (Val.list (Bnd.value (List.getD z57 (Int.toNat x5) Ty.bnd.dflt))) r4.2 (Val.rows (Bnd.value (List.getD z57 (Int.toNat x5) Ty.bnd.dflt)))))) ((fun (z56 : List Bnd) => List.set z56 (Int.toNat x5) (Bnd.mk (Bnd.name (List.getD z56 (Int.toNat x5) Ty.bnd.dflt)) (Val.mk (Val.kind (Bnd.value (List.getD z56 (Int.toNat x5) Ty.bnd.dflt))) (Val.n (Bnd.value (List.getD z56 (Int.toNat x5) Ty.bnd.dflt))) (Val.step (Bnd.value (List.getD z56 (Int.toNat x5) Ty.bnd.dflt))) (Val.text (Bnd.value (List.getD z56 (Int.toNat x5) Ty.bnd.dflt))) r3.2 (Val.columns (Bnd.value (List.getD z56 (Int.toNat x5) Ty.bnd.dflt))) (Val.rows (Bnd.value (List.getD z56 (Int.toNat x5) Ty.bnd.dflt)))))) ((fun (z55 : List Bnd) => List.set z55 (Int.toNat x5) (Bnd.mk (Bnd.name (List.getD z55 (Int.toNat x5) Ty.bnd.dflt)) (Val.mk (Val.kind (Bnd.value (List.getD z55 (Int.toNat x5) Ty.bnd.dflt))) (Val.n (Bnd.value (List.getD z55 (Int.toNat x5) Ty.bnd.dflt))) (Val.step (Bnd.value (List.getD z55 (Int.toNat x5) Ty.bnd.dflt))) r2 (Val.list (Bnd.value (List.getD z55 (Int.toNat x5) Ty.bnd.dflt))) (Val.columns (Bnd.value (List.getD z55 (Int.toNat x5) Ty.bnd.dflt))) (Val.rows (Bnd.value (List.getD z55 (Int.toNat x5) Ty.bnd.dflt)))))) ((fun (z54 : List Bnd) => List.set z54 (Int.toNat x5) (Bnd.mk (Bnd.name (List.getD z54 (Int.toNat x5) Ty.bnd.dflt)) (Val.mk (Val.kind (Bnd.value (List.getD z54 (Int.toNat x5) Ty.bnd.dflt))) (Val.n (Bnd.value (List.getD z54 (Int.toNat x5) Ty.bnd.dflt))) (IntKind.i64.wrap ((IntKind.i64.wrap ((IntKind.i64.wrap (x1 + 1)) + 1)) + 1)) (Val.text (Bnd.value (List.getD z54 (Int.toNat x5) Ty.bnd.dflt))) (Val.list (Bnd.value (List.getD z54 (Int.toNat x5) Ty.bnd.dflt))) (Val.columns (Bnd.value (List.getD z54 (Int.toNat x5) Ty.bnd.dflt))) (Val.rows (Bnd.value (List.getD z54 (Int.toNat x5) Ty.bnd.dflt)))))) ((fun (z53 : List Bnd) => List.set z53 (Int.toNat x5) (Bnd.mk (Bnd.name (List.getD z53 (Int.toNat x5) Ty.bnd.dflt)) (Val.mk (Val.kind (Bnd.value (List.getD z53 (Int.toNat x5) Ty.bnd.dflt))) (IntKind.i64.wrap ((IntKind.i64.wrap (x1 + 1)) + 1)) (Val.step (Bnd.value (List.getD z53 (Int.toNat x5) Ty.bnd.dflt))) (Val.text (Bnd.value (List.getD z53 (Int.toNat x5) Ty.bnd.dflt))) (Val.list (Bnd.value (List.getD z53 (Int.toNat x5) Ty.bnd.dflt))) (Val.columns (Bnd.value (List.getD z53 (Int.toNat x5) Ty.bnd.dflt))) (Val.rows (Bnd.value (List.getD z53 (Int.toNat x5) Ty.bnd.dflt)))))) ((fun (z52 : List Bnd) => List.set z52 (Int.toNat x5) (Bnd.mk (Bnd.name (List.getD z52 (Int.toNat x5) Ty.bnd.dflt)) (Val.mk (IntKind.i64.wrap (x1 + 1)) (Val.n (Bnd.value (List.getD z52 (Int.toNat x5) Ty.bnd.dflt))) (Val.step (Bnd.value (List.getD z52 (Int.toNat x5) Ty.bnd.dflt))) (Val.text (Bnd.value (List.getD z52 (Int.toNat x5) Ty.bnd.dflt))) (Val.list (Bnd.value (List.getD z52 (Int.toNat x5) Ty.bnd.dflt))) (Val.columns (Bnd.value (List.getD z52 (Int.toNat x5) Ty.bnd.dflt))) (Val.rows (Bnd.value (List.getD z52 (Int.toNat x5) Ty.bnd.dflt)))))) (List.set x0 (Int.toNat x5) (Bnd.mk r1 (Val.re (Bnd.value (List.getD x0 (Int.toNat x5) Ty.bnd.dflt)))))))))))) r5.1 (IntKind.i64.wrap (x5 + 1))) [(decide ((x5 : Int) < (List.length x0 : Int))) = true, AbsCalls Try.prog 79 (laws_markText_as x1) (laws_markText_ro r1), (0 : Int) ≤ x5 ∧ x5 < (List.length x0), (0 : Int) ≤ x5 ∧ x5 < (List.length (List.set x0 (Int.toNat x5) (Bnd.mk r1 (Val.re (Bnd.value (List.getD x0 (Int.toNat x5) Ty.bnd.dflt)))))), (0 : Int) ≤ x5 ∧ x5 < (List.length ((fun (z52 : List Bnd) => List.set z52 (Int.toNat x5) (Bnd.mk (Bnd.name (List.getD z52 (Int.toNat x5) Ty.bnd.dflt)) (Val.mk (IntKind.i64.wrap (x1 + 1)) (Val.n (Bnd.value (List.getD z52 (Int.toNat x5) Ty.bnd.dflt))) (Val.step (Bnd.value (List.getD z52 (Int.toNat x5) Ty.bnd.dflt))) (Val.text (Bnd.value (List.getD z52 (Int.toNat x5) Ty.bnd.dflt))) (Val.list (Bnd.value (List.getD z52 (Int.toNat x5) Ty.bnd.dflt))) (Val.columns (Bnd.value (List.getD z52 (Int.toNat x5) Ty.bnd.dflt))) (Val.rows (Bnd.value (List.getD z52 (Int.toNat x5) Ty.bnd.dflt)))))) (List.set x0 (Int.toNat x5) (Bnd.mk r1 (Val.re (Bnd.value (List.getD x0 (Int.toNat x5) Ty.bnd.dflt))))))), (0 : Int) ≤ x5 ∧ x5 < (List.length ((fun (z53 : List Bnd) => List.set z53 (Int.toNat x5) (Bnd.mk (Bnd.name (List.getD z53 (Int.toNat x5) Ty.bnd.dflt)) (Val.mk (Val.kind (Bnd.value (List.getD z53 (Int.toNat x5) Ty.bnd.dflt))) (IntKind.i64.wrap ((IntKind.i64.wrap (x1 + 1)) + 1)) (Val.step (Bnd.value (List.getD z53 (Int.toNat x5) Ty.bnd.dflt))) (Val.text (Bnd.value (List.getD z53 (Int.toNat x5) Ty.bnd.dflt))) (Val.list (Bnd.value (List.getD z53 (Int.toNat x5) Ty.bnd.dflt))) (Val.columns (Bnd.value (List.getD z53 (Int.toNat x5) Ty.bnd.dflt))) (Val.rows (Bnd.value (List.getD z53 (Int.toNat x5) Ty.bnd.dflt)))))) ((fun (z52 : List Bnd) => List.set z52 (Int.toNat x5) (Bnd.mk (Bnd.name (List.getD z52 (Int.toNat x5) Ty.bnd.dflt)) (Val.mk (IntKind.i64.wrap (x1 + 1)) (Val.n (Bnd.value (List.getD z52 (Int.toNat x5) Ty.bnd.dflt))) (Val.step (Bnd.value (List.getD z52 (Int.toNat x5) Ty.bnd.dflt))) (Val.text (Bnd.value (List.getD z52 (Int.toNat x5) Ty.bnd.dflt))) (Val.list (Bnd.value (List.getD z52 (Int.toNat x5) Ty.bnd.dflt))) (Val.columns (Bnd.value (List.getD z52 (Int.toNat x5) Ty.bnd.dflt))) (Val.rows (Bnd.value (List.getD z52 (Int.toNat x5) Ty.bnd.dflt)))))) (List.set x0 (Int.toNat x5) (Bnd.mk r1 (Val.re (Bnd.value (List.getD x0 (Int.toNat x5) Ty.bnd.dflt)))))))), AbsCalls Try.prog 79 (laws_markText_as (IntKind.i64.wrap ((IntKind.i64.wrap ((IntKind.i64.wrap ((IntKind.i64.wrap (x1 + 1)) + 1)) + 1)) + 1))) (laws_markText_ro r2), (0 : Int) ≤ x5 ∧ x5 < (List.length ((fun (z54 : List Bnd) => List.set z54 (Int.toNat x5) (Bnd.mk (Bnd.name (List.getD z54 (Int.toNat x5) Ty.bnd.dflt)) (Val.mk (Val.kind (Bnd.value (List.getD z54 (Int.toNat x5) Ty.bnd.dflt))) (Val.n (Bnd.value (List.getD z54 (Int.toNat x5) Ty.bnd.dflt))) (IntKind.i64.wrap ((IntKind.i64.wrap ((IntKind.i64.wrap (x1 + 1)) + 1)) + 1)) (Val.text (Bnd.value (List.getD z54 (Int.toNat x5) Ty.bnd.dflt))) (Val.list (Bnd.value (List.getD z54 (Int.toNat x5) Ty.bnd.dflt))) (Val.columns (Bnd.value (List.getD z54 (Int.toNat x5) Ty.bnd.dflt))) (Val.rows (Bnd.value (List.getD z54 (Int.toNat x5) Ty.bnd.dflt)))))) ((fun (z53 : List Bnd) => List.set z53 (Int.toNat x5) (Bnd.mk (Bnd.name (List.getD z53 (Int.toNat x5) Ty.bnd.dflt)) (Val.mk (Val.kind (Bnd.value (List.getD z53 (Int.toNat x5) Ty.bnd.dflt))) (IntKind.i64.wrap ((IntKind.i64.wrap (x1 + 1)) + 1)) (Val.step (Bnd.value (List.getD z53 (Int.toNat x5) Ty.bnd.dflt))) (Val.text (Bnd.value (List.getD z53 (Int.toNat x5) Ty.bnd.dflt))) (Val.list (Bnd.value (List.getD z53 (Int.toNat x5) Ty.bnd.dflt))) (Val.columns (Bnd.value (List.getD z53 (Int.toNat x5) Ty.bnd.dflt))) (Val.rows (Bnd.value (List.getD z53 (Int.toNat x5) Ty.bnd.dflt)))))) ((fun (z52 : List Bnd) => List.set z52 (Int.toNat x5) (Bnd.mk (Bnd.name (List.getD z52 (Int.toNat x5) Ty.bnd.dflt)) (Val.mk (IntKind.i64.wrap (x1 + 1)) (Val.n (Bnd.value (List.getD z52 (Int.toNat x5) Ty.bnd.dflt))) (Val.step (Bnd.value (List.getD z52 (Int.toNat x5) Ty.bnd.dflt))) (Val.text (Bnd.value (List.getD z52 (Int.toNat x5) Ty.bnd.dflt))) (Val.list (Bnd.value (List.getD z52 (Int.toNat x5) Ty.bnd.dflt))) (Val.columns (Bnd.value (List.getD z52 (Int.toNat x5) Ty.bnd.dflt))) (Val.rows (Bnd.value (List.getD z52 (Int.toNat x5) Ty.bnd.dflt)))))) (List.set x0 (Int.toNat x5) (Bnd.mk r1 (Val.re (Bnd.value (List.getD x0 (Int.toNat x5) Ty.bnd.dflt))))))))), (0 : Int) ≤ x5 ∧ x5 < (List.length ((fun (z55 : List Bnd) => List.set z55 (Int.toNat x5) (Bnd.mk (Bnd.name (List.getD z55 (Int.toNat x5) Ty.bnd.dflt)) (Val.mk (Val.kind (Bnd.value (List.getD z55 (Int.toNat x5) Ty.bnd.dflt))) (Val.n (Bnd.value (List.getD z55 (Int.toNat x5) Ty.bnd.dflt))) (Val.step (Bnd.value (List.getD z55 (Int.toNat x5) Ty.bnd.dflt))) r2 (Val.list (Bnd.value (List.getD z55 (Int.toNat x5) Ty.bnd.dflt))) (Val.columns (Bnd.value (List.getD z55 (Int.toNat x5) Ty.bnd.dflt))) (Val.rows (Bnd.value (List.getD z55 (Int.toNat x5) Ty.bnd.dflt)))))) ((fun (z54 : List Bnd) => List.set z54 (Int.toNat x5) (Bnd.mk (Bnd.name (List.getD z54 (Int.toNat x5) Ty.bnd.dflt)) (Val.mk (Val.kind (Bnd.value (List.getD z54 (Int.toNat x5) Ty.bnd.dflt))) (Val.n (Bnd.value (List.getD z54 (Int.toNat x5) Ty.bnd.dflt))) (IntKind.i64.wrap ((IntKind.i64.wrap ((IntKind.i64.wrap (x1 + 1)) + 1)) + 1)) (Val.text (Bnd.value (List.getD z54 (Int.toNat x5) Ty.bnd.dflt))) (Val.list (Bnd.value (List.getD z54 (Int.toNat x5) Ty.bnd.dflt))) (Val.columns (Bnd.value (List.getD z54 (Int.toNat x5) Ty.bnd.dflt))) (Val.rows (Bnd.value (List.getD z54 (Int.toNat x5) Ty.bnd.dflt)))))) ((fun (z53 : List Bnd) => List.set z53 (Int.toNat x5) (Bnd.mk (Bnd.name (List.getD z53 (Int.toNat x5) Ty.bnd.dflt)) (Val.mk (Val.kind (Bnd.value (List.getD z53 (Int.toNat x5) Ty.bnd.dflt))) (IntKind.i64.wrap ((IntKind.i64.wrap (x1 + 1)) + 1)) (Val.step (Bnd.value (List.getD z53 (Int.toNat x5) Ty.bnd.dflt))) (Val.text (Bnd.value (List.getD z53 (Int.toNat x5) Ty.bnd.dflt))) (Val.list (Bnd.value (List.getD z53 (Int.toNat x5) Ty.bnd.dflt))) (Val.columns (Bnd.value (List.getD z53 (Int.toNat x5) Ty.bnd.dflt))) (Val.rows (Bnd.value (List.getD z53 (Int.toNat x5) Ty.bnd.dflt)))))) ((fun (z52 : List Bnd) => List.set z52 (Int.toNat x5) (Bnd.mk (Bnd.name (List.getD z52 (Int.toNat x5) Ty.bnd.dflt)) (Val.mk (IntKind.i64.wrap (x1 + 1)) (Val.n (Bnd.value (List.getD z52 (Int.toNat x5) Ty.bnd.dflt))) (Val.step (Bnd.value (List.getD z52 (Int.toNat x5) Ty.bnd.dflt))) (Val.text (Bnd.value (List.getD z52 (Int.toNat x5) Ty.bnd.dflt))) (Val.list (Bnd.value (List.getD z52 (Int.toNat x5) Ty.bnd.dflt))) (Val.columns (Bnd.value (List.getD z52 (Int.toNat x5) Ty.bnd.dflt))) (Val.rows (Bnd.value (List.getD z52 (Int.toNat x5) Ty.bnd.dflt)))))) (List.set x0 (Int.toNat x5) (Bnd.mk r1 (Val.re (Bnd.value (List.getD x0 (Int.toNat x5) Ty.bnd.dflt)))))))))), AbsCalls Try.prog 67 (laws_markValueS_as (Val.list (Bnd.value (List.getD ((fun (z55 : List Bnd) => List.set z55 (Int.toNat x5) (Bnd.mk (Bnd.name (List.getD z55 (Int.toNat x5) Ty.bnd.dflt)) (Val.mk (Val.kind (Bnd.value (List.getD z55 (Int.toNat x5) Ty.bnd.dflt))) (Val.n (Bnd.value (List.getD z55 (Int.toNat x5) Ty.bnd.dflt))) (Val.step (Bnd.value (List.getD z55 (Int.toNat x5) Ty.bnd.dflt))) r2 (Val.list (Bnd.value (List.getD z55 (Int.toNat x5) Ty.bnd.dflt))) (Val.columns (Bnd.value (List.getD z55 (Int.toNat x5) Ty.bnd.dflt))) (Val.rows (Bnd.value (List.getD z55 (Int.toNat x5) Ty.bnd.dflt)))))) ((fun (z54 : List Bnd) => List.set z54 (Int.toNat x5) (Bnd.mk (Bnd.name (List.getD z54 (Int.toNat x5) Ty.bnd.dflt)) (Val.mk (Val.kind (Bnd.value (List.getD z54 (Int.toNat x5) Ty.bnd.dflt))) (Val.n (Bnd.value (List.getD z54 (Int.toNat x5) Ty.bnd.dflt))) (IntKind.i64.wrap ((IntKind.i64.wrap ((IntKind.i64.wrap (x1 + 1)) + 1)) + 1)) (Val.text (Bnd.value (List.getD z54 (Int.toNat x5) Ty.bnd.dflt))) (Val.list (Bnd.value (List.getD z54 (Int.toNat x5) Ty.bnd.dflt))) (Val.columns (Bnd.value (List.getD z54 (Int.toNat x5) Ty.bnd.dflt))) (Val.rows (Bnd.value (List.getD z54 (Int.toNat x5) Ty.bnd.dflt)))))) ((fun (z53 : List Bnd) => List.set z53 (Int.toNat x5) (Bnd.mk (Bnd.name (List.getD z53 (Int.toNat x5) Ty.bnd.dflt)) (Val.mk (Val.kind (Bnd.value (List.getD z53 (Int.toNat x5) Ty.bnd.dflt))) (IntKind.i64.wrap ((IntKind.i64.wrap (x1 + 1)) + 1)) (Val.step (Bnd.value (List.getD z53 (Int.toNat x5) Ty.bnd.dflt))) (Val.text (Bnd.value (List.getD z53 (Int.toNat x5) Ty.bnd.dflt))) (Val.list (Bnd.value (List.getD z53 (Int.toNat x5) Ty.bnd.dflt))) (Val.columns (Bnd.value (List.getD z53 (Int.toNat x5) Ty.bnd.dflt))) (Val.rows (Bnd.value (List.getD z53 (Int.toNat x5) Ty.bnd.dflt)))))) ((fun (z52 : List Bnd) => List.set z52 (Int.toNat x5) (Bnd.mk (Bnd.name (List.getD z52 (Int.toNat x5) Ty.bnd.dflt)) (Val.mk (IntKind.i64.wrap (x1 + 1)) (Val.n (Bnd.value (List.getD z52 (Int.toNat x5) Ty.bnd.dflt))) (Val.step (Bnd.value (List.getD z52 (Int.toNat x5) Ty.bnd.dflt))) (Val.text (Bnd.value (List.getD z52 (Int.toNat x5) Ty.bnd.dflt))) (Val.list (Bnd.value (List.getD z52 (Int.toNat x5) Ty.bnd.dflt))) (Val.columns (Bnd.value (List.getD z52 (Int.toNat x5) Ty.bnd.dflt))) (Val.rows (Bnd.value (List.getD z52 (Int.toNat x5) Ty.bnd.dflt)))))) (List.set x0 (Int.toNat x5) (Bnd.mk r1 (Val.re (Bnd.value (List.getD x0 (Int.toNat x5) Ty.bnd.dflt))))))))) (Int.toNat x5) Ty.bnd.dflt))) (IntKind.i64.wrap ((IntKind.i64.wrap ((IntKind.i64.wrap ((IntKind.i64.wrap ((IntKind.i64.wrap (x1 + 1)) + 1)) + 1)) + 1)) + 1))) (laws_markValueS_ro r3), (Int.toNat x5) = (Int.toNat x5), List.length r3.2 = List.length (Val.list (Bnd.value (List.getD ((fun (z55 : List Bnd) => List.set z55 (Int.toNat x5) (Bnd.mk (Bnd.name (List.getD z55 (Int.toNat x5) Ty.bnd.dflt)) (Val.mk (Val.kind (Bnd.value (List.getD z55 (Int.toNat x5) Ty.bnd.dflt))) (Val.n (Bnd.value (List.getD z55 (Int.toNat x5) Ty.bnd.dflt))) (Val.step (Bnd.value (List.getD z55 (Int.toNat x5) Ty.bnd.dflt))) r2 (Val.list (Bnd.value (List.getD z55 (Int.toNat x5) Ty.bnd.dflt))) (Val.columns (Bnd.value (List.getD z55 (Int.toNat x5) Ty.bnd.dflt))) (Val.rows (Bnd.value (List.getD z55 (Int.toNat x5) Ty.bnd.dflt)))))) ((fun (z54 : List Bnd) => List.set z54 (Int.toNat x5) (Bnd.mk (Bnd.name (List.getD z54 (Int.toNat x5) Ty.bnd.dflt)) (Val.mk (Val.kind (Bnd.value (List.getD z54 (Int.toNat x5) Ty.bnd.dflt))) (Val.n (Bnd.value (List.getD z54 (Int.toNat x5) Ty.bnd.dflt))) (IntKind.i64.wrap ((IntKind.i64.wrap ((IntKind.i64.wrap (x1 + 1)) + 1)) + 1)) (Val.text (Bnd.value (List.getD z54 (Int.toNat x5) Ty.bnd.dflt))) (Val.list (Bnd.value (List.getD z54 (Int.toNat x5) Ty.bnd.dflt))) (Val.columns (Bnd.value (List.getD z54 (Int.toNat x5) Ty.bnd.dflt))) (Val.rows (Bnd.value (List.getD z54 (Int.toNat x5) Ty.bnd.dflt)))))) ((fun (z53 : List Bnd) => List.set z53 (Int.toNat x5) (Bnd.mk (Bnd.name (List.getD z53 (Int.toNat x5) Ty.bnd.dflt)) (Val.mk (Val.kind (Bnd.value (List.getD z53 (Int.toNat x5) Ty.bnd.dflt))) (IntKind.i64.wrap ((IntKind.i64.wrap (x1 + 1)) + 1)) (Val.step (Bnd.value (List.getD z53 (Int.toNat x5) Ty.bnd.dflt))) (Val.text (Bnd.value (List.getD z53 (Int.toNat x5) Ty.bnd.dflt))) (Val.list (Bnd.value (List.getD z53 (Int.toNat x5) Ty.bnd.dflt))) (Val.columns (Bnd.value (List.getD z53 (Int.toNat x5) Ty.bnd.dflt))) (Val.rows (Bnd.value (List.getD z53 (Int.toNat x5) Ty.bnd.dflt)))))) ((fun (z52 : List Bnd) => List.set z52 (Int.toNat x5) (Bnd.mk (Bnd.name (List.getD z52 (Int.toNat x5) Ty.bnd.dflt)) (Val.mk (IntKind.i64.wrap (x1 + 1)) (Val.n (Bnd.value (List.getD z52 (Int.toNat x5) Ty.bnd.dflt))) (Val.step (Bnd.value (List.getD z52 (Int.toNat x5) Ty.bnd.dflt))) (Val.text (Bnd.value (List.getD z52 (Int.toNat x5) Ty.bnd.dflt))) (Val.list (Bnd.value (List.getD z52 (Int.toNat x5) Ty.bnd.dflt))) (Val.columns (Bnd.value (List.getD z52 (Int.toNat x5) Ty.bnd.dflt))) (Val.rows (Bnd.value (List.getD z52 (Int.toNat x5) Ty.bnd.dflt)))))) (List.set x0 (Int.toNat x5) (Bnd.mk r1 (Val.re (Bnd.value (List.getD x0 (Int.toNat x5) Ty.bnd.dflt))))))))) (Int.toNat x5) Ty.bnd.dflt))), (0 : Int) ≤ x5 ∧ x5 < (List.length ((fun (z56 : List Bnd) => List.set z56 (Int.toNat x5) (Bnd.mk (Bnd.name (List.getD z56 (Int.toNat x5) Ty.bnd.dflt)) (Val.mk (Val.kind (Bnd.value (List.getD z56 (Int.toNat x5) Ty.bnd.dflt))) (Val.n (Bnd.value (List.getD z56 (Int.toNat x5) Ty.bnd.dflt))) (Val.step (Bnd.value (List.getD z56 (Int.toNat x5) Ty.bnd.dflt))) (Val.text (Bnd.value (List.getD z56 (Int.toNat x5) Ty.bnd.dflt))) r3.2 (Val.columns (Bnd.value (List.getD z56 (Int.toNat x5) Ty.bnd.dflt))) (Val.rows (Bnd.value (List.getD z56 (Int.toNat x5) Ty.bnd.dflt)))))) ((fun (z55 : List Bnd) => List.set z55 (Int.toNat x5) (Bnd.mk (Bnd.name (List.getD z55 (Int.toNat x5) Ty.bnd.dflt)) (Val.mk (Val.kind (Bnd.value (List.getD z55 (Int.toNat x5) Ty.bnd.dflt))) (Val.n (Bnd.value (List.getD z55 (Int.toNat x5) Ty.bnd.dflt))) (Val.step (Bnd.value (List.getD z55 (Int.toNat x5) Ty.bnd.dflt))) r2 (Val.list (Bnd.value (List.getD z55 (Int.toNat x5) Ty.bnd.dflt))) (Val.columns (Bnd.value (List.getD z55 (Int.toNat x5) Ty.bnd.dflt))) (Val.rows (Bnd.value (List.getD z55 (Int.toNat x5) Ty.bnd.dflt)))))) ((fun (z54 : List Bnd) => List.set z54 (Int.toNat x5) (Bnd.mk (Bnd.name (List.getD z54 (Int.toNat x5) Ty.bnd.dflt)) (Val.mk (Val.kind (Bnd.value (List.getD z54 (Int.toNat x5) Ty.bnd.dflt))) (Val.n (Bnd.value (List.getD z54 (Int.toNat x5) Ty.bnd.dflt))) (IntKind.i64.wrap ((IntKind.i64.wrap ((IntKind.i64.wrap (x1 + 1)) + 1)) + 1)) (Val.text (Bnd.value (List.getD z54 (Int.toNat x5) Ty.bnd.dflt))) (Val.list (Bnd.value (List.getD z54 (Int.toNat x5) Ty.bnd.dflt))) (Val.columns (Bnd.value (List.getD z54 (Int.toNat x5) Ty.bnd.dflt))) (Val.rows (Bnd.value (List.getD z54 (Int.toNat x5) Ty.bnd.dflt)))))) ((fun (z53 : List Bnd) => List.set z53 (Int.toNat x5) (Bnd.mk (Bnd.name (List.getD z53 (Int.toNat x5) Ty.bnd.dflt)) (Val.mk (Val.kind (Bnd.value (List.getD z53 (Int.toNat x5) Ty.bnd.dflt))) (IntKind.i64.wrap ((IntKind.i64.wrap (x1 + 1)) + 1)) (Val.step (Bnd.value (List.getD z53 (Int.toNat x5) Ty.bnd.dflt))) (Val.text (Bnd.value (List.getD z53 (Int.toNat x5) Ty.bnd.dflt))) (Val.list (Bnd.value (List.getD z53 (Int.toNat x5) Ty.bnd.dflt))) (Val.columns (Bnd.value (List.getD z53 (Int.toNat x5) Ty.bnd.dflt))) (Val.rows (Bnd.value (List.getD z53 (Int.toNat x5) Ty.bnd.dflt)))))) ((fun (z52 : List Bnd) => List.set z52 (Int.toNat x5) (Bnd.mk (Bnd.name (List.getD z52 (Int.toNat x5) Ty.bnd.dflt)) (Val.mk (IntKind.i64.wrap (x1 + 1)) (Val.n (Bnd.value (List.getD z52 (Int.toNat x5) Ty.bnd.dflt))) (Val.step (Bnd.value (List.getD z52 (Int.toNat x5) Ty.bnd.dflt))) (Val.text (Bnd.value (List.getD z52 (Int.toNat x5) Ty.bnd.dflt))) (Val.list (Bnd.value (List.getD z52 (Int.toNat x5) Ty.bnd.dflt))) (Val.columns (Bnd.value (List.getD z52 (Int.toNat x5) Ty.bnd.dflt))) (Val.rows (Bnd.value (List.getD z52 (Int.toNat x5) Ty.bnd.dflt)))))) (List.set x0 (Int.toNat x5) (Bnd.mk r1 (Val.re (Bnd.value (List.getD x0 (Int.toNat x5) Ty.bnd.dflt))))))))))), AbsCalls Try.prog 80 (laws_markStringS_as (Val.columns (Bnd.value (List.getD ((fun (z56 : List Bnd) => List.set z56 (Int.toNat x5) (Bnd.mk (Bnd.name (List.getD z56 (Int.toNat x5) Ty.bnd.dflt)) (Val.mk (Val.kind (Bnd.value (List.getD z56 (Int.toNat x5) Ty.bnd.dflt))) (Val.n (Bnd.value (List.getD z56 (Int.toNat x5) Ty.bnd.dflt))) (Val.step (Bnd.value (List.getD z56 (Int.toNat x5) Ty.bnd.dflt))) (Val.text (Bnd.value (List.getD z56 (Int.toNat x5) Ty.bnd.dflt))) r3.2 (Val.columns (Bnd.value (List.getD z56 (Int.toNat x5) Ty.bnd.dflt))) (Val.rows (Bnd.value (List.getD z56 (Int.toNat x5) Ty.bnd.dflt)))))) ((fun (z55 : List Bnd) => List.set z55 (Int.toNat x5) (Bnd.mk (Bnd.name (List.getD z55 (Int.toNat x5) Ty.bnd.dflt)) (Val.mk (Val.kind (Bnd.value (List.getD z55 (Int.toNat x5) Ty.bnd.dflt))) (Val.n (Bnd.value (List.getD z55 (Int.toNat x5) Ty.bnd.dflt))) (Val.step (Bnd.value (List.getD z55 (Int.toNat x5) Ty.bnd.dflt))) r2 (Val.list (Bnd.value (List.getD z55 (Int.toNat x5) Ty.bnd.dflt))) (Val.columns (Bnd.value (List.getD z55 (Int.toNat x5) Ty.bnd.dflt))) (Val.rows (Bnd.value (List.getD z55 (Int.toNat x5) Ty.bnd.dflt)))))) ((fun (z54 : List Bnd) => List.set z54 (Int.toNat x5) (Bnd.mk (Bnd.name (List.getD z54 (Int.toNat x5) Ty.bnd.dflt)) (Val.mk (Val.kind (Bnd.value (List.getD z54 (Int.toNat x5) Ty.bnd.dflt))) (Val.n (Bnd.value (List.getD z54 (Int.toNat x5) Ty.bnd.dflt))) (IntKind.i64.wrap ((IntKind.i64.wrap ((IntKind.i64.wrap (x1 + 1)) + 1)) + 1)) (Val.text (Bnd.value (List.getD z54 (Int.toNat x5) Ty.bnd.dflt))) (Val.list (Bnd.value (List.getD z54 (Int.toNat x5) Ty.bnd.dflt))) (Val.columns (Bnd.value (List.getD z54 (Int.toNat x5) Ty.bnd.dflt))) (Val.rows (Bnd.value (List.getD z54 (Int.toNat x5) Ty.bnd.dflt)))))) ((fun (z53 : List Bnd) => List.set z53 (Int.toNat x5) (Bnd.mk (Bnd.name (List.getD z53 (Int.toNat x5) Ty.bnd.dflt)) (Val.mk (Val.kind (Bnd.value (List.getD z53 (Int.toNat x5) Ty.bnd.dflt))) (IntKind.i64.wrap ((IntKind.i64.wrap (x1 + 1)) + 1)) (Val.step (Bnd.value (List.getD z53 (Int.toNat x5) Ty.bnd.dflt))) (Val.text (Bnd.value (List.getD z53 (Int.toNat x5) Ty.bnd.dflt))) (Val.list (Bnd.value (List.getD z53 (Int.toNat x5) Ty.bnd.dflt))) (Val.columns (Bnd.value (List.getD z53 (Int.toNat x5) Ty.bnd.dflt))) (Val.rows (Bnd.value (List.getD z53 (Int.toNat x5) Ty.bnd.dflt)))))) ((fun (z52 : List Bnd) => List.set z52 (Int.toNat x5) (Bnd.mk (Bnd.name (List.getD z52 (Int.toNat x5) Ty.bnd.dflt)) (Val.mk (IntKind.i64.wrap (x1 + 1)) (Val.n (Bnd.value (List.getD z52 (Int.toNat x5) Ty.bnd.dflt))) (Val.step (Bnd.value (List.getD z52 (Int.toNat x5) Ty.bnd.dflt))) (Val.text (Bnd.value (List.getD z52 (Int.toNat x5) Ty.bnd.dflt))) (Val.list (Bnd.value (List.getD z52 (Int.toNat x5) Ty.bnd.dflt))) (Val.columns (Bnd.value (List.getD z52 (Int.toNat x5) Ty.bnd.dflt))) (Val.rows (Bnd.value (List.getD z52 (Int.toNat x5) Ty.bnd.dflt)))))) (List.set x0 (Int.toNat x5) (Bnd.mk r1 (Val.re (Bnd.value (List.getD x0 (Int.toNat x5) Ty.bnd.dflt)))))))))) (Int.toNat x5) Ty.bnd.dflt))) r3.1) (laws_markStringS_ro r4), (Int.toNat x5) = (Int.toNat x5), List.length r4.2 = List.length (Val.columns (Bnd.value (List.getD ((fun (z56 : List Bnd) => List.set z56 (Int.toNat x5) (Bnd.mk (Bnd.name (List.getD z56 (Int.toNat x5) Ty.bnd.dflt)) (Val.mk (Val.kind (Bnd.value (List.getD z56 (Int.toNat x5) Ty.bnd.dflt))) (Val.n (Bnd.value (List.getD z56 (Int.toNat x5) Ty.bnd.dflt))) (Val.step (Bnd.value (List.getD z56 (Int.toNat x5) Ty.bnd.dflt))) (Val.text (Bnd.value (List.getD z56 (Int.toNat x5) Ty.bnd.dflt))) r3.2 (Val.columns (Bnd.value (List.getD z56 (Int.toNat x5) Ty.bnd.dflt))) (Val.rows (Bnd.value (List.getD z56 (Int.toNat x5) Ty.bnd.dflt)))))) ((fun (z55 : List Bnd) => List.set z55 (Int.toNat x5) (Bnd.mk (Bnd.name (List.getD z55 (Int.toNat x5) Ty.bnd.dflt)) (Val.mk (Val.kind (Bnd.value (List.getD z55 (Int.toNat x5) Ty.bnd.dflt))) (Val.n (Bnd.value (List.getD z55 (Int.toNat x5) Ty.bnd.dflt))) (Val.step (Bnd.value (List.getD z55 (Int.toNat x5) Ty.bnd.dflt))) r2 (Val.list (Bnd.value (List.getD z55 (Int.toNat x5) Ty.bnd.dflt))) (Val.columns (Bnd.value (List.getD z55 (Int.toNat x5) Ty.bnd.dflt))) (Val.rows (Bnd.value (List.getD z55 (Int.toNat x5) Ty.bnd.dflt)))))) ((fun (z54 : List Bnd) => List.set z54 (Int.toNat x5) (Bnd.mk (Bnd.name (List.getD z54 (Int.toNat x5) Ty.bnd.dflt)) (Val.mk (Val.kind (Bnd.value (List.getD z54 (Int.toNat x5) Ty.bnd.dflt))) (Val.n (Bnd.value (List.getD z54 (Int.toNat x5) Ty.bnd.dflt))) (IntKind.i64.wrap ((IntKind.i64.wrap ((IntKind.i64.wrap (x1 + 1)) + 1)) + 1)) (Val.text (Bnd.value (List.getD z54 (Int.toNat x5) Ty.bnd.dflt))) (Val.list (Bnd.value (List.getD z54 (Int.toNat x5) Ty.bnd.dflt))) (Val.columns (Bnd.value (List.getD z54 (Int.toNat x5) Ty.bnd.dflt))) (Val.rows (Bnd.value (List.getD z54 (Int.toNat x5) Ty.bnd.dflt)))))) ((fun (z53 : List Bnd) => List.set z53 (Int.toNat x5) (Bnd.mk (Bnd.name (List.getD z53 (Int.toNat x5) Ty.bnd.dflt)) (Val.mk (Val.kind (Bnd.value (List.getD z53 (Int.toNat x5) Ty.bnd.dflt))) (IntKind.i64.wrap ((IntKind.i64.wrap (x1 + 1)) + 1)) (Val.step (Bnd.value (List.getD z53 (Int.toNat x5) Ty.bnd.dflt))) (Val.text (Bnd.value (List.getD z53 (Int.toNat x5) Ty.bnd.dflt))) (Val.list (Bnd.value (List.getD z53 (Int.toNat x5) Ty.bnd.dflt))) (Val.columns (Bnd.value (List.getD z53 (Int.toNat x5) Ty.bnd.dflt))) (Val.rows (Bnd.value (List.getD z53 (Int.toNat x5) Ty.bnd.dflt)))))) ((fun (z52 : List Bnd) => List.set z52 (Int.toNat x5) (Bnd.mk (Bnd.name (List.getD z52 (Int.toNat x5) Ty.bnd.dflt)) (Val.mk (IntKind.i64.wrap (x1 + 1)) (Val.n (Bnd.value (List.getD z52 (Int.toNat x5) Ty.bnd.dflt))) (Val.step (Bnd.value (List.getD z52 (Int.toNat x5) Ty.bnd.dflt))) (Val.text (Bnd.value (List.getD z52 (Int.toNat x5) Ty.bnd.dflt))) (Val.list (Bnd.value (List.getD z52 (Int.toNat x5) Ty.bnd.dflt))) (Val.columns (Bnd.value (List.getD z52 (Int.toNat x5) Ty.bnd.dflt))) (Val.rows (Bnd.value (List.getD z52 (Int.toNat x5) Ty.bnd.dflt)))))) (List.set x0 (Int.toNat x5) (Bnd.mk r1 (Val.re (Bnd.value (List.getD x0 (Int.toNat x5) Ty.bnd.dflt)))))))))) (Int.toNat x5) Ty.bnd.dflt))), (0 : Int) ≤ x5 ∧ x5 < (List.length ((fun (z57 : List Bnd) => List.set z57 (Int.toNat x5) (Bnd.mk (Bnd.name (List.getD z57 (Int.toNat x5) Ty.bnd.dflt)) (Val.mk (Val.kind (Bnd.value (List.getD z57 (Int.toNat x5) Ty.bnd.dflt))) (Val.n (Bnd.value (List.getD z57 (Int.toNat x5) Ty.bnd.dflt))) (Val.step (Bnd.value (List.getD z57 (Int.toNat x5) Ty.bnd.dflt))) (Val.text (Bnd.value (List.getD z57 (Int.toNat x5) Ty.bnd.dflt))) (Val.list (Bnd.value (List.getD z57 (Int.toNat x5) Ty.bnd.dflt))) r4.2 (Val.rows (Bnd.value (List.getD z57 (Int.toNat x5) Ty.bnd.dflt)))))) ((fun (z56 : List Bnd) => List.set z56 (Int.toNat x5) (Bnd.mk (Bnd.name (List.getD z56 (Int.toNat x5) Ty.bnd.dflt)) (Val.mk (Val.kind (Bnd.value (List.getD z56 (Int.toNat x5) Ty.bnd.dflt))) (Val.n (Bnd.value (List.getD z56 (Int.toNat x5) Ty.bnd.dflt))) (Val.step (Bnd.value (List.getD z56 (Int.toNat x5) Ty.bnd.dflt))) (Val.text (Bnd.value (List.getD z56 (Int.toNat x5) Ty.bnd.dflt))) r3.2 (Val.columns (Bnd.value (List.getD z56 (Int.toNat x5) Ty.bnd.dflt))) (Val.rows (Bnd.value (List.getD z56 (Int.toNat x5) Ty.bnd.dflt)))))) ((fun (z55 : List Bnd) => List.set z55 (Int.toNat x5) (Bnd.mk (Bnd.name (List.getD z55 (Int.toNat x5) Ty.bnd.dflt)) (Val.mk (Val.kind (Bnd.value (List.getD z55 (Int.toNat x5) Ty.bnd.dflt))) (Val.n (Bnd.value (List.getD z55 (Int.toNat x5) Ty.bnd.dflt))) (Val.step (Bnd.value (List.getD z55 (Int.toNat x5) Ty.bnd.dflt))) r2 (Val.list (Bnd.value (List.getD z55 (Int.toNat x5) Ty.bnd.dflt))) (Val.columns (Bnd.value (List.getD z55 (Int.toNat x5) Ty.bnd.dflt))) (Val.rows (Bnd.value (List.getD z55 (Int.toNat x5) Ty.bnd.dflt)))))) ((fun (z54 : List Bnd) => List.set z54 (Int.toNat x5) (Bnd.mk (Bnd.name (List.getD z54 (Int.toNat x5) Ty.bnd.dflt)) (Val.mk (Val.kind (Bnd.value (List.getD z54 (Int.toNat x5) Ty.bnd.dflt))) (Val.n (Bnd.value (List.getD z54 (Int.toNat x5) Ty.bnd.dflt))) (IntKind.i64.wrap ((IntKind.i64.wrap ((IntKind.i64.wrap (x1 + 1)) + 1)) + 1)) (Val.text (Bnd.value (List.getD z54 (Int.toNat x5) Ty.bnd.dflt))) (Val.list (Bnd.value (List.getD z54 (Int.toNat x5) Ty.bnd.dflt))) (Val.columns (Bnd.value (List.getD z54 (Int.toNat x5) Ty.bnd.dflt))) (Val.rows (Bnd.value (List.getD z54 (Int.toNat x5) Ty.bnd.dflt)))))) ((fun (z53 : List Bnd) => List.set z53 (Int.toNat x5) (Bnd.mk (Bnd.name (List.getD z53 (Int.toNat x5) Ty.bnd.dflt)) (Val.mk (Val.kind (Bnd.value (List.getD z53 (Int.toNat x5) Ty.bnd.dflt))) (IntKind.i64.wrap ((IntKind.i64.wrap (x1 + 1)) + 1)) (Val.step (Bnd.value (List.getD z53 (Int.toNat x5) Ty.bnd.dflt))) (Val.text (Bnd.value (List.getD z53 (Int.toNat x5) Ty.bnd.dflt))) (Val.list (Bnd.value (List.getD z53 (Int.toNat x5) Ty.bnd.dflt))) (Val.columns (Bnd.value (List.getD z53 (Int.toNat x5) Ty.bnd.dflt))) (Val.rows (Bnd.value (List.getD z53 (Int.toNat x5) Ty.bnd.dflt)))))) ((fun (z52 : List Bnd) => List.set z52 (Int.toNat x5) (Bnd.mk (Bnd.name (List.getD z52 (Int.toNat x5) Ty.bnd.dflt)) (Val.mk (IntKind.i64.wrap (x1 + 1)) (Val.n (Bnd.value (List.getD z52 (Int.toNat x5) Ty.bnd.dflt))) (Val.step (Bnd.value (List.getD z52 (Int.toNat x5) Ty.bnd.dflt))) (Val.text (Bnd.value (List.getD z52 (Int.toNat x5) Ty.bnd.dflt))) (Val.list (Bnd.value (List.getD z52 (Int.toNat x5) Ty.bnd.dflt))) (Val.columns (Bnd.value (List.getD z52 (Int.toNat x5) Ty.bnd.dflt))) (Val.rows (Bnd.value (List.getD z52 (Int.toNat x5) Ty.bnd.dflt)))))) (List.set x0 (Int.toNat x5) (Bnd.mk r1 (Val.re (Bnd.value (List.getD x0 (Int.toNat x5) Ty.bnd.dflt)))))))))))), AbsCalls Try.prog 81 (laws_markRowS_as (Val.rows (Bnd.value (List.getD ((fun (z57 : List Bnd) => List.set z57 (Int.toNat x5) (Bnd.mk (Bnd.name (List.getD z57 (Int.toNat x5) Ty.bnd.dflt)) (Val.mk (Val.kind (Bnd.value (List.getD z57 (Int.toNat x5) Ty.bnd.dflt))) (Val.n (Bnd.value (List.getD z57 (Int.toNat x5) Ty.bnd.dflt))) (Val.step (Bnd.value (List.getD z57 (Int.toNat x5) Ty.bnd.dflt))) (Val.text (Bnd.value (List.getD z57 (Int.toNat x5) Ty.bnd.dflt))) (Val.list (Bnd.value (List.getD z57 (Int.toNat x5) Ty.bnd.dflt))) r4.2 (Val.rows (Bnd.value (List.getD z57 (Int.toNat x5) Ty.bnd.dflt)))))) ((fun (z56 : List Bnd) => List.set z56 (Int.toNat x5) (Bnd.mk (Bnd.name (List.getD z56 (Int.toNat x5) Ty.bnd.dflt)) (Val.mk (Val.kind (Bnd.value (List.getD z56 (Int.toNat x5) Ty.bnd.dflt))) (Val.n (Bnd.value (List.getD z56 (Int.toNat x5) Ty.bnd.dflt))) (Val.step (Bnd.value (List.getD z56 (Int.toNat x5) Ty.bnd.dflt))) (Val.text (Bnd.value (List.getD z56 (Int.toNat x5) Ty.bnd.dflt))) r3.2 (Val.columns (Bnd.value (List.getD z56 (Int.toNat x5) Ty.bnd.dflt))) (Val.rows (Bnd.value (List.getD z56 (Int.toNat x5) Ty.bnd.dflt)))))) ((fun (z55 : List Bnd) => List.set z55 (Int.toNat x5) (Bnd.mk (Bnd.name (List.getD z55 (Int.toNat x5) Ty.bnd.dflt)) (Val.mk (Val.kind (Bnd.value (List.getD z55 (Int.toNat x5) Ty.bnd.dflt))) (Val.n (Bnd.value (List.getD z55 (Int.toNat x5) Ty.bnd.dflt))) (Val.step (Bnd.value (List.getD z55 (Int.toNat x5) Ty.bnd.dflt))) r2 (Val.list (Bnd.value (List.getD z55 (Int.toNat x5) Ty.bnd.dflt))) (Val.columns (Bnd.value (List.getD z55 (Int.toNat x5) Ty.bnd.dflt))) (Val.rows (Bnd.value (List.getD z55 (Int.toNat x5) Ty.bnd.dflt)))))) ((fun (z54 : List Bnd) => List.set z54 (Int.toNat x5) (Bnd.mk (Bnd.name (List.getD z54 (Int.toNat x5) Ty.bnd.dflt)) (Val.mk (Val.kind (Bnd.value (List.getD z54 (Int.toNat x5) Ty.bnd.dflt))) (Val.n (Bnd.value (List.getD z54 (Int.toNat x5) Ty.bnd.dflt))) (IntKind.i64.wrap ((IntKind.i64.wrap ((IntKind.i64.wrap (x1 + 1)) + 1)) + 1)) (Val.text (Bnd.value (List.getD z54 (Int.toNat x5) Ty.bnd.dflt))) (Val.list (Bnd.value (List.getD z54 (Int.toNat x5) Ty.bnd.dflt))) (Val.columns (Bnd.value (List.getD z54 (Int.toNat x5) Ty.bnd.dflt))) (Val.rows (Bnd.value (List.getD z54 (Int.toNat x5) Ty.bnd.dflt)))))) ((fun (z53 : List Bnd) => List.set z53 (Int.toNat x5) (Bnd.mk (Bnd.name (List.getD z53 (Int.toNat x5) Ty.bnd.dflt)) (Val.mk (Val.kind (Bnd.value (List.getD z53 (Int.toNat x5) Ty.bnd.dflt))) (IntKind.i64.wrap ((IntKind.i64.wrap (x1 + 1)) + 1)) (Val.step (Bnd.value (List.getD z53 (Int.toNat x5) Ty.bnd.dflt))) (Val.text (Bnd.value (List.getD z53 (Int.toNat x5) Ty.bnd.dflt))) (Val.list (Bnd.value (List.getD z53 (Int.toNat x5) Ty.bnd.dflt))) (Val.columns (Bnd.value (List.getD z53 (Int.toNat x5) Ty.bnd.dflt))) (Val.rows (Bnd.value (List.getD z53 (Int.toNat x5) Ty.bnd.dflt)))))) ((fun (z52 : List Bnd) => List.set z52 (Int.toNat x5) (Bnd.mk (Bnd.name (List.getD z52 (Int.toNat x5) Ty.bnd.dflt)) (Val.mk (IntKind.i64.wrap (x1 + 1)) (Val.n (Bnd.value (List.getD z52 (Int.toNat x5) Ty.bnd.dflt))) (Val.step (Bnd.value (List.getD z52 (Int.toNat x5) Ty.bnd.dflt))) (Val.text (Bnd.value (List.getD z52 (Int.toNat x5) Ty.bnd.dflt))) (Val.list (Bnd.value (List.getD z52 (Int.toNat x5) Ty.bnd.dflt))) (Val.columns (Bnd.value (List.getD z52 (Int.toNat x5) Ty.bnd.dflt))) (Val.rows (Bnd.value (List.getD z52 (Int.toNat x5) Ty.bnd.dflt)))))) (List.set x0 (Int.toNat x5) (Bnd.mk r1 (Val.re (Bnd.value (List.getD x0 (Int.toNat x5) Ty.bnd.dflt))))))))))) (Int.toNat x5) Ty.bnd.dflt))) r4.1) (laws_markRowS_ro r5), (Int.toNat x5) = (Int.toNat x5), List.length r5.2 = List.length (Val.rows (Bnd.value (List.getD ((fun (z57 : List Bnd) => List.set z57 (Int.toNat x5) (Bnd.mk (Bnd.name (List.getD z57 (Int.toNat x5) Ty.bnd.dflt)) (Val.mk (Val.kind (Bnd.value (List.getD z57 (Int.toNat x5) Ty.bnd.dflt))) (Val.n (Bnd.value (List.getD z57 (Int.toNat x5) Ty.bnd.dflt))) (Val.step (Bnd.value (List.getD z57 (Int.toNat x5) Ty.bnd.dflt))) (Val.text (Bnd.value (List.getD z57 (Int.toNat x5) Ty.bnd.dflt))) (Val.list (Bnd.value (List.getD z57 (Int.toNat x5) Ty.bnd.dflt))) r4.2 (Val.rows (Bnd.value (List.getD z57 (Int.toNat x5) Ty.bnd.dflt)))))) ((fun (z56 : List Bnd) => List.set z56 (Int.toNat x5) (Bnd.mk (Bnd.name (List.getD z56 (Int.toNat x5) Ty.bnd.dflt)) (Val.mk (Val.kind (Bnd.value (List.getD z56 (Int.toNat x5) Ty.bnd.dflt))) (Val.n (Bnd.value (List.getD z56 (Int.toNat x5) Ty.bnd.dflt))) (Val.step (Bnd.value (List.getD z56 (Int.toNat x5) Ty.bnd.dflt))) (Val.text (Bnd.value (List.getD z56 (Int.toNat x5) Ty.bnd.dflt))) r3.2 (Val.columns (Bnd.value (List.getD z56 (Int.toNat x5) Ty.bnd.dflt))) (Val.rows (Bnd.value (List.getD z56 (Int.toNat x5) Ty.bnd.dflt)))))) ((fun (z55 : List Bnd) => List.set z55 (Int.toNat x5) (Bnd.mk (Bnd.name (List.getD z55 (Int.toNat x5) Ty.bnd.dflt)) (Val.mk (Val.kind (Bnd.value (List.getD z55 (Int.toNat x5) Ty.bnd.dflt))) (Val.n (Bnd.value (List.getD z55 (Int.toNat x5) Ty.bnd.dflt))) (Val.step (Bnd.value (List.getD z55 (Int.toNat x5) Ty.bnd.dflt))) r2 (Val.list (Bnd.value (List.getD z55 (Int.toNat x5) Ty.bnd.dflt))) (Val.columns (Bnd.value (List.getD z55 (Int.toNat x5) Ty.bnd.dflt))) (Val.rows (Bnd.value (List.getD z55 (Int.toNat x5) Ty.bnd.dflt)))))) ((fun (z54 : List Bnd) => List.set z54 (Int.toNat x5) (Bnd.mk (Bnd.name (List.getD z54 (Int.toNat x5) Ty.bnd.dflt)) (Val.mk (Val.kind (Bnd.value (List.getD z54 (Int.toNat x5) Ty.bnd.dflt))) (Val.n (Bnd.value (List.getD z54 (Int.toNat x5) Ty.bnd.dflt))) (IntKind.i64.wrap ((IntKind.i64.wrap ((IntKind.i64.wrap (x1 + 1)) + 1)) + 1)) (Val.text (Bnd.value (List.getD z54 (Int.toNat x5) Ty.bnd.dflt))) (Val.list (Bnd.value (List.getD z54 (Int.toNat x5) Ty.bnd.dflt))) (Val.columns (Bnd.value (List.getD z54 (Int.toNat x5) Ty.bnd.dflt))) (Val.rows (Bnd.value (List.getD z54 (Int.toNat x5) Ty.bnd.dflt)))))) ((fun (z53 : List Bnd) => List.set z53 (Int.toNat x5) (Bnd.mk (Bnd.name (List.getD z53 (Int.toNat x5) Ty.bnd.dflt)) (Val.mk (Val.kind (Bnd.value (List.getD z53 (Int.toNat x5) Ty.bnd.dflt))) (IntKind.i64.wrap ((IntKind.i64.wrap (x1 + 1)) + 1)) (Val.step (Bnd.value (List.getD z53 (Int.toNat x5) Ty.bnd.dflt))) (Val.text (Bnd.value (List.getD z53 (Int.toNat x5) Ty.bnd.dflt))) (Val.list (Bnd.value (List.getD z53 (Int.toNat x5) Ty.bnd.dflt))) (Val.columns (Bnd.value (List.getD z53 (Int.toNat x5) Ty.bnd.dflt))) (Val.rows (Bnd.value (List.getD z53 (Int.toNat x5) Ty.bnd.dflt)))))) ((fun (z52 : List Bnd) => List.set z52 (Int.toNat x5) (Bnd.mk (Bnd.name (List.getD z52 (Int.toNat x5) Ty.bnd.dflt)) (Val.mk (IntKind.i64.wrap (x1 + 1)) (Val.n (Bnd.value (List.getD z52 (Int.toNat x5) Ty.bnd.dflt))) (Val.step (Bnd.value (List.getD z52 (Int.toNat x5) Ty.bnd.dflt))) (Val.text (Bnd.value (List.getD z52 (Int.toNat x5) Ty.bnd.dflt))) (Val.list (Bnd.value (List.getD z52 (Int.toNat x5) Ty.bnd.dflt))) (Val.columns (Bnd.value (List.getD z52 (Int.toNat x5) Ty.bnd.dflt))) (Val.rows (Bnd.value (List.getD z52 (Int.toNat x5) Ty.bnd.dflt)))))) (List.set x0 (Int.toNat x5) (Bnd.mk r1 (Val.re (Bnd.value (List.getD x0 (Int.toNat x5) Ty.bnd.dflt))))))))))) (Int.toNat x5) Ty.bnd.dflt)))]) := by kernel_rfl
theorem p21_2_1 (x0 : List Bnd) (x1 : Int) (x5 : Int) : run tt (AbsCalls Try.prog) I21 3000 true (stkAt 2 I21.body) ⟨(S21_2 x0 x1 x5), [false], [], []⟩ = some (.done (laws_markBindingS_ro (x1, x0)) [(decide ((x5 : Int) < (List.length x0 : Int))) = false]) := by kernel_rfl
theorem p21_e_2 (a0 : List Bnd) (a1 : Int) : run tt (AbsCalls Try.prog) I21 3000 false [.code I21.body] ⟨(entry 0 (laws_markBindingS_as a0 a1)), [], [], []⟩ = some (.stop (stkAt 2 I21.body) (S21_2 a0 a1 0) []) := by kernel_rfl
theorem c21_2 {N : Nat} : ∀ n x0 x1 x5 r, laws_markBindingS_b2 N n x0 x1 x5 = some r → Reach Try.prog Try.f21 I21 (stkAt 2 I21.body) (S21_2 x0 x1 x5) (laws_markBindingS_ro r) := by
  intro n
  induction n with
  | zero => intro x0 x1 x5 r h; have h' : (none : Option (Int × (List Bnd))) = some r := h; cases h'
  | succ n ih =>
    intro x0 x1 x5 r h
    rw [laws_markBindingS_b2] at h
    rcases cond_inv h with ⟨h0, h⟩ | ⟨h0, h⟩
    · obtain ⟨r1, h1, h⟩ := bind_inv h
      obtain ⟨h2, h⟩ := ite_inv h
      obtain ⟨h3, h⟩ := ite_inv h
      obtain ⟨h4, h⟩ := ite_inv h
      obtain ⟨h5, h⟩ := ite_inv h
      obtain ⟨r2, h6, h⟩ := bind_inv h
      obtain ⟨h7, h⟩ := ite_inv h
      obtain ⟨h8, h⟩ := ite_inv h
      obtain ⟨r3, h9, h⟩ := bind_inv h
      obtain ⟨h11, h⟩ := ite_inv h
      obtain ⟨h12, h⟩ := ite_inv h
      obtain ⟨r4, h13, h⟩ := bind_inv h
      obtain ⟨h15, h⟩ := ite_inv h
      obtain ⟨h16, h⟩ := ite_inv h
      obtain ⟨r5, h17, h⟩ := bind_inv h
      obtain ⟨h19, h⟩ := ite_inv h
      exact Reach.stop ttok mix fk21 (p21_2_0 x0 x1 x5 r1 r2 r3 r4 r5) (obs_cons h0 (obs_cons (laws_markText_ok h1) (obs_cons h2 (obs_cons h3 (obs_cons h4 (obs_cons h5 (obs_cons (laws_markText_ok h6) (obs_cons h7 (obs_cons h8 (obs_cons (laws_markValueS_ok h9) (obs_cons rfl (obs_cons h11 (obs_cons h12 (obs_cons (laws_markStringS_ok h13) (obs_cons rfl (obs_cons h15 (obs_cons h16 (obs_cons (laws_markRowS_ok h17) (obs_cons rfl (obs_cons h19 obs_nil)))))))))))))))))))) (ih _ _ _ _ h)
    · obtain rfl := Option.some.inj h
      exact Reach.done ttok mix fk21 (p21_2_1 x0 x1 x5) (obs_cons h0 obs_nil)
theorem c21_e {N : Nat} : ∀ a0 a1 r, laws_markBindingS N a0 a1 = some r → Reach Try.prog Try.f21 I21 [.code I21.body] (entry 0 (laws_markBindingS_as a0 a1)) (laws_markBindingS_ro r) := by
  intro a0 a1 r h
  unfold laws_markBindingS at h
  exact Reach.stop ttok mix fk21 (p21_e_2 a0 a1) obs_nil (c21_2   _ _ _ _ _ h)
theorem laws_markBindingS_ok {N : Nat} {a0 : List Bnd} {a1 : Int} {r : Int × (List Bnd)} (h : laws_markBindingS N  a0 a1 = some r) : AbsCalls Try.prog 21 (laws_markBindingS_as a0 a1) (laws_markBindingS_ro r) :=
 AbsCalls.of_reach fk21 rfl rfl (Nat.le_of_ble_eq_true rfl) (c21_e a0 a1 r h)
noncomputable def I22 : Info := { body := (Try.f22.body).getD .skip, nt := 18, results := [.tmp 4], keep := [0, 2, 4, 8, 5], live := [], modes := [(1, [(1, .ref, false), (3, .ref, false)]), (2, [(1, .ref, false), (3, .ref, false)]), (3, [(1, .ref, false), (3, .ref, false)])], ext := [], lnt := [(5, 4), (5, 5), (5, 6)], casts := [], fcast := [] }
theorem fk22 : FnOk Try.prog 22 Try.f22 I22 := ⟨Try.func22, by kernel_rfl, by kernel_rfl, by kernel_rfl, by kernel_rfl⟩
theorem p22_e_0 (a0 : Val) (a1 : Int) (r1 : Int × (List Val)) (r2 : Int × (List Str)) (r3 : Int × (List Rowd)) : run tt (AbsCalls Try.prog) I22 3000 false [.code I22.body] ⟨(entry 0 (laws_markValue_as a0 a1)), [], [laws_markValueS_ro r1, laws_markStringS_ro r2, laws_markRowS_ro r3], []⟩ = some (.done (laws_markValue_ro (r3.1, r1.2, r2.2, r3.2)) [AbsCalls Try.prog 67 (laws_markValueS_as (Val.list a0) a1) (laws_markValueS_ro r1), List.length r1.2 = List.length (Val.list a0), AbsCalls Try.prog 80 (laws_markStringS_as (Val.columns a0) r1.1) (laws_markStringS_ro r2), List.length r2.2 = List.length (Val.columns a0), AbsCalls Try.prog 81 (laws_markRowS_as (Val.rows a0) r2.1) (laws_markRowS_ro r3), List.length r3.2 = List.length (Val.rows a0)]) := by kernel_rfl
theorem c22_e {N : Nat} : ∀ a0 a1 r, laws_markValue N a0 a1 = some r → Reach Try.prog Try.f22 I22 [.code I22.body] (entry 0 (laws_markValue_as a0 a1)) (laws_markValue_ro r) := by
  intro a0 a1 r h
  unfold laws_markValue at h
  obtain ⟨r1, h0, h⟩ := bind_inv h
  obtain ⟨h1, h⟩ := ite_inv h
  obtain ⟨r2, h2, h⟩ := bind_inv h
  obtain ⟨h3, h⟩ := ite_inv h
  obtain ⟨r3, h4, h⟩ := bind_inv h
  obtain ⟨h5, h⟩ := ite_inv h
  obtain rfl := Option.some.inj h
  exact Reach.done ttok mix fk22 (p22_e_0 a0 a1 r1 r2 r3) (obs_cons (laws_markValueS_ok h0) (obs_cons h1 (obs_cons (laws_markStringS_ok h2) (obs_cons h3 (obs_cons (laws_markRowS_ok h4) (obs_cons h5 obs_nil))))))
theorem laws_markValue_ok {N : Nat} {a0 : Val} {a1 : Int} {r : Int × (List Val) × (List Str) × (List Rowd)} (h : laws_markValue N  a0 a1 = some r) : AbsCalls Try.prog 22 (laws_markValue_as a0 a1) (laws_markValue_ro r) :=
 AbsCalls.of_reach fk22 rfl rfl (Nat.le_of_ble_eq_true rfl) (c22_e a0 a1 r h)
noncomputable def I83 : Info := { body := (Try.f83.body).getD .skip, nt := 22, results := [.tmp 4], keep := [0, 2, 8, 10, 18, 36], live := [(2, [0, 2, 10])], modes := [], ext := [], lnt := [], casts := [], fcast := [] }
theorem fk83 : FnOk Try.prog 83 Try.f83 I83 := ⟨Try.func83, by kernel_rfl, by kernel_rfl, by kernel_rfl, by kernel_rfl⟩
def S83_2 (x0 : List Str) (x1 : Int) (x5 : Int) : St := [(0, .v false [.sl .ro .str x0]), (2, .v false [.int .i64 x1]), (10, .v false [.int .i64 x5])]
theorem p83_2_0 (x0 : List Str) (x1 : Int) (x5 : Int) (r1 : Str) : run tt (AbsCalls Try.prog) I83 3000 true (stkAt 2 I83.body) ⟨(S83_2 x0 x1 x5), [true, true], [laws_markText_ro r1], []⟩ = some (.done (laws_heldStringS_ro (-1)) [(decide ((x5 : Int) < (List.length x0 : Int))) = true, (0 : Int) ≤ x5 ∧ x5 < (List.length x0), AbsCalls Try.prog 79 (laws_markText_as x1) (laws_markText_ro r1), (!(((List.getD x0 (Int.toNat x5) Ty.str.dflt) : Str) == r1)) = true]) := by kernel_rfl
theorem p83_2_1 (x0 : List Str) (x1 : Int) (x5 : Int) (r1 : Str) : run tt (AbsCalls Try.prog) I83 3000 true (stkAt 2 I83.body) ⟨(S83_2 x0 x1 x5), [true, false], [laws_markText_ro r1], []⟩ = some (.stop (stkAt 2 I83.body) (S83_2 x0 (IntKind.i64.wrap (x1 + 1)) (IntKind.i64.wrap (x5 + 1))) [(decide ((x5 : Int) < (List.length x0 : Int))) = true, (0 : Int) ≤ x5 ∧ x5 < (List.length x0), AbsCalls Try.prog 79 (laws_markText_as x1) (laws_markText_ro r1), (!(((List.getD x0 (Int.toNat x5) Ty.str.dflt) : Str) == r1)) = false]) := by kernel_rfl
theorem p83_2_2 (x0 : List Str) (x1 : Int) (x5 : Int) : run tt (AbsCalls Try.prog) I83 3000 true (stkAt 2 I83.body) ⟨(S83_2 x0 x1 x5), [false], [], []⟩ = some (.done (laws_heldStringS_ro x1) [(decide ((x5 : Int) < (List.length x0 : Int))) = false]) := by kernel_rfl
theorem p83_e_3 (a0 : List Str) (a1 : Int) : run tt (AbsCalls Try.prog) I83 3000 false [.code I83.body] ⟨(entry 0 (laws_heldStringS_as a0 a1)), [], [], []⟩ = some (.stop (stkAt 2 I83.body) (S83_2 a0 a1 0) []) := by kernel_rfl
theorem c83_2 {N : Nat} : ∀ n x0 x1 x5 r, laws_heldStringS_b2 N n x0 x1 x5 = some r → Reach Try.prog Try.f83 I83 (stkAt 2 I83.body) (S83_2 x0 x1 x5) (laws_heldStringS_ro r) := by
  intro n
  induction n with
  | zero => intro x0 x1 x5 r h; have h' : (none : Option (Int)) = some r := h; cases h'
  | succ n ih =>
    intro x0 x1 x5 r h
    rw [laws_heldStringS_b2] at h
    rcases cond_inv h with ⟨h0, h⟩ | ⟨h0, h⟩
    · obtain ⟨h1, h⟩ := ite_inv h
      obtain ⟨r1, h2, h⟩ := bind_inv h
      rcases cond_inv h with ⟨h3, h⟩ | ⟨h3, h⟩
      · obtain rfl := Option.some.inj h
        exact Reach.done ttok mix fk83 (p83_2_0 x0 x1 x5 r1) (obs_cons h0 (obs_cons h1 (obs_cons (laws_markText_ok h2) (obs_cons h3 obs_nil))))
      · exact Reach.stop ttok mix fk83 (p83_2_1 x0 x1 x5 r1) (obs_cons h0 (obs_cons h1 (obs_cons (laws_markText_ok h2) (obs_cons h3 obs_nil)))) (ih _ _ _ _ h)
    · obtain rfl := Option.some.inj h
      exact Reach.done ttok mix fk83 (p83_2_2 x0 x1 x5) (obs_cons h0 obs_nil)
theorem c83_e {N : Nat} : ∀ a0 a1 r, laws_heldStringS N a0 a1 = some r → Reach Try.prog Try.f83 I83 [.code I83.body] (entry 0 (laws_heldStringS_as a0 a1)) (laws_heldStringS_ro r) := by
  intro a0 a1 r h
  unfold laws_heldStringS at h
  exact Reach.stop ttok mix fk83 (p83_e_3 a0 a1) obs_nil (c83_2   _ _ _ _ _ h)
theorem laws_heldStringS_ok {N : Nat} {a0 : List Str} {a1 : Int} {r : Int} (h : laws_heldStringS N  a0 a1 = some r) : AbsCalls Try.prog 83 (laws_heldStringS_as a0 a1) (laws_heldStringS_ro r) :=
 AbsCalls.of_reach fk83 rfl rfl (Nat.le_of_ble_eq_true rfl) (c83_e a0 a1 r h)
noncomputable def I131 : Info := { body := (Try.f131.body).getD .skip, nt := 21, results := [.tmp 4], keep := [0, 2, 8, 10, 18, 34], live := [(2, [0, 2, 10])], modes := [], ext := [], lnt := [], casts := [], fcast := [] }
theorem fk131 : FnOk Try.prog 131 Try.f131 I131 := ⟨Try.func131, by kernel_rfl, by kernel_rfl, by kernel_rfl, by kernel_rfl⟩
def S131_2 (x0 : List Int) (x1 : Int) (x5 : Int) : St := [(0, .v false [.sl .ro .int x0]), (2, .v false [.int .i64 x1]), (10, .v false [.int .i64 x5])]
theorem p131_2_0 (x0 : List Int) (x1 : Int) (x5 : Int) : run tt (AbsCalls Try.prog) I131 3000 true (stkAt 2 I131.body) ⟨(S131_2 x0 x1 x5), [true, true], [], []⟩ = some (.done (laws_heldIntS_ro (-1)) [(decide ((x5 : Int) < (List.length x0 : Int))) = true, (0 : Int) ≤ x5 ∧ x5 < (List.length x0), (((List.getD x0 (Int.toNat x5) Ty.int.dflt) : Int) != x1) = true]) := by kernel_rfl
theorem p131_2_1 (x0 : List Int) (x1 : Int) (x5 : Int) : run tt (AbsCalls Try.prog) I131 3000 true (stkAt 2 I131.body) ⟨(S131_2 x0 x1 x5), [true, false], [], []⟩ = some (.stop (stkAt 2 I131.body) (S131_2 x0 (IntKind.i64.wrap (x1 + 1)) (IntKind.i64.wrap (x5 + 1))) [(decide ((x5 : Int) < (List.length x0 : Int))) = true, (0 : Int) ≤ x5 ∧ x5 < (List.length x0), (((List.getD x0 (Int.toNat x5) Ty.int.dflt) : Int) != x1) = false]) := by kernel_rfl
theorem p131_2_2 (x0 : List Int) (x1 : Int) (x5 : Int) : run tt (AbsCalls Try.prog) I131 3000 true (stkAt 2 I131.body) ⟨(S131_2 x0 x1 x5), [false], [], []⟩ = some (.done (laws_heldIntS_ro x1) [(decide ((x5 : Int) < (List.length x0 : Int))) = false]) := by kernel_rfl
theorem p131_e_3 (a0 : List Int) (a1 : Int) : run tt (AbsCalls Try.prog) I131 3000 false [.code I131.body] ⟨(entry 0 (laws_heldIntS_as a0 a1)), [], [], []⟩ = some (.stop (stkAt 2 I131.body) (S131_2 a0 a1 0) []) := by kernel_rfl
theorem c131_2 {N : Nat} : ∀ n x0 x1 x5 r, laws_heldIntS_b2 N n x0 x1 x5 = some r → Reach Try.prog Try.f131 I131 (stkAt 2 I131.body) (S131_2 x0 x1 x5) (laws_heldIntS_ro r) := by
  intro n
  induction n with
  | zero => intro x0 x1 x5 r h; have h' : (none : Option (Int)) = some r := h; cases h'
  | succ n ih =>
    intro x0 x1 x5 r h
    rw [laws_heldIntS_b2] at h
    rcases cond_inv h with ⟨h0, h⟩ | ⟨h0, h⟩
    · obtain ⟨h1, h⟩ := ite_inv h
      rcases cond_inv h with ⟨h2, h⟩ | ⟨h2, h⟩
      · obtain rfl := Option.some.inj h
        exact Reach.done ttok mix fk131 (p131_2_0 x0 x1 x5) (obs_cons h0 (obs_cons h1 (obs_cons h2 obs_nil)))
      · exact Reach.stop ttok mix fk131 (p131_2_1 x0 x1 x5) (obs_cons h0 (obs_cons h1 (obs_cons h2 obs_nil))) (ih _ _ _ _ h)
    · obtain rfl := Option.some.inj h
      exact Reach.done ttok mix fk131 (p131_2_2 x0 x1 x5) (obs_cons h0 obs_nil)
theorem c131_e {N : Nat} : ∀ a0 a1 r, laws_heldIntS N a0 a1 = some r → Reach Try.prog Try.f131 I131 [.code I131.body] (entry 0 (laws_heldIntS_as a0 a1)) (laws_heldIntS_ro r) := by
  intro a0 a1 r h
  unfold laws_heldIntS at h
  exact Reach.stop ttok mix fk131 (p131_e_3 a0 a1) obs_nil (c131_2   _ _ _ _ _ h)
theorem laws_heldIntS_ok {N : Nat} {a0 : List Int} {a1 : Int} {r : Int} (h : laws_heldIntS N  a0 a1 = some r) : AbsCalls Try.prog 131 (laws_heldIntS_as a0 a1) (laws_heldIntS_ro r) :=
 AbsCalls.of_reach fk131 rfl rfl (Nat.le_of_ble_eq_true rfl) (c131_e a0 a1 r h)
noncomputable def I132 : Info := { body := (Try.f132.body).getD .skip, nt := 31, results := [.tmp 4], keep := [0, 2, 8, 10, 18, 36, 54], live := [(2, [0, 2, 10])], modes := [], ext := [], lnt := [], casts := [], fcast := [] }
theorem fk132 : FnOk Try.prog 132 Try.f132 I132 := ⟨Try.func132, by kernel_rfl, by kernel_rfl, by kernel_rfl, by kernel_rfl⟩
def S132_2 (x0 : List Org) (x1 : Int) (x5 : Int) : St := [(0, .v false [.sl .ro .org x0]), (2, .v false [.int .i64 x1]), (10, .v false [.int .i64 x5])]
theorem p132_2_0 (x0 : List Org) (x1 : Int) (x5 : Int) : run tt (AbsCalls Try.prog) I132 3000 true (stkAt 2 I132.body) ⟨(S132_2 x0 x1 x5), [true, true], [], []⟩ = some (.done (laws_heldOriginS_ro (-1)) [(decide ((x5 : Int) < (List.length x0 : Int))) = true, (0 : Int) ≤ x5 ∧ x5 < (List.length x0), (((Org.cell (List.getD x0 (Int.toNat x5) Ty.org.dflt)) : Int) != x1) = true]) := by kernel_rfl
theorem p132_2_1 (x0 : List Org) (x1 : Int) (x5 : Int) : run tt (AbsCalls Try.prog) I132 3000 true (stkAt 2 I132.body) ⟨(S132_2 x0 x1 x5), [true, false, true], [], []⟩ = some (.done (laws_heldOriginS_ro (-1)) [(decide ((x5 : Int) < (List.length x0 : Int))) = true, (0 : Int) ≤ x5 ∧ x5 < (List.length x0), (((Org.cell (List.getD x0 (Int.toNat x5) Ty.org.dflt)) : Int) != x1) = false, (0 : Int) ≤ x5 ∧ x5 < (List.length x0), (((Org.row (List.getD x0 (Int.toNat x5) Ty.org.dflt)) : Int) != (IntKind.i64.wrap (x1 + 1))) = true]) := by kernel_rfl
theorem p132_2_2 (x0 : List Org) (x1 : Int) (x5 : Int) : run tt (AbsCalls Try.prog) I132 3000 true (stkAt 2 I132.body) ⟨(S132_2 x0 x1 x5), [true, false, false], [], []⟩ = some (.stop (stkAt 2 I132.body) (S132_2 x0 (IntKind.i64.wrap ((IntKind.i64.wrap (x1 + 1)) + 1)) (IntKind.i64.wrap (x5 + 1))) [(decide ((x5 : Int) < (List.length x0 : Int))) = true, (0 : Int) ≤ x5 ∧ x5 < (List.length x0), (((Org.cell (List.getD x0 (Int.toNat x5) Ty.org.dflt)) : Int) != x1) = false, (0 : Int) ≤ x5 ∧ x5 < (List.length x0), (((Org.row (List.getD x0 (Int.toNat x5) Ty.org.dflt)) : Int) != (IntKind.i64.wrap (x1 + 1))) = false]) := by kernel_rfl
theorem p132_2_3 (x0 : List Org) (x1 : Int) (x5 : Int) : run tt (AbsCalls Try.prog) I132 3000 true (stkAt 2 I132.body) ⟨(S132_2 x0 x1 x5), [false], [], []⟩ = some (.done (laws_heldOriginS_ro x1) [(decide ((x5 : Int) < (List.length x0 : Int))) = false]) := by kernel_rfl
theorem p132_e_4 (a0 : List Org) (a1 : Int) : run tt (AbsCalls Try.prog) I132 3000 false [.code I132.body] ⟨(entry 0 (laws_heldOriginS_as a0 a1)), [], [], []⟩ = some (.stop (stkAt 2 I132.body) (S132_2 a0 a1 0) []) := by kernel_rfl
theorem c132_2 {N : Nat} : ∀ n x0 x1 x5 r, laws_heldOriginS_b2 N n x0 x1 x5 = some r → Reach Try.prog Try.f132 I132 (stkAt 2 I132.body) (S132_2 x0 x1 x5) (laws_heldOriginS_ro r) := by
  intro n
  induction n with
  | zero => intro x0 x1 x5 r h; have h' : (none : Option (Int)) = some r := h; cases h'
  | succ n ih =>
    intro x0 x1 x5 r h
    rw [laws_heldOriginS_b2] at h
    rcases cond_inv h with ⟨h0, h⟩ | ⟨h0, h⟩
    · obtain ⟨h1, h⟩ := ite_inv h
      rcases cond_inv h with ⟨h2, h⟩ | ⟨h2, h⟩
      · obtain rfl := Option.some.inj h
        exact Reach.done ttok mix fk132 (p132_2_0 x0 x1 x5) (obs_cons h0 (obs_cons h1 (obs_cons h2 obs_nil)))
      · rcases cond_inv h with ⟨h4, h⟩ | ⟨h4, h⟩
        · obtain rfl := Option.some.inj h
          exact Reach.done ttok mix fk132 (p132_2_1 x0 x1 x5) (obs_cons h0 (obs_cons h1 (obs_cons h2 (obs_cons h1 (obs_cons h4 obs_nil)))))
        · exact Reach.stop ttok mix fk132 (p132_2_2 x0 x1 x5) (obs_cons h0 (obs_cons h1 (obs_cons h2 (obs_cons h1 (obs_cons h4 obs_nil))))) (ih _ _ _ _ h)
    · obtain rfl := Option.some.inj h
      exact Reach.done ttok mix fk132 (p132_2_3 x0 x1 x5) (obs_cons h0 obs_nil)
theorem c132_e {N : Nat} : ∀ a0 a1 r, laws_heldOriginS N a0 a1 = some r → Reach Try.prog Try.f132 I132 [.code I132.body] (entry 0 (laws_heldOriginS_as a0 a1)) (laws_heldOriginS_ro r) := by
  intro a0 a1 r h
  unfold laws_heldOriginS at h
  exact Reach.stop ttok mix fk132 (p132_e_4 a0 a1) obs_nil (c132_2   _ _ _ _ _ h)
theorem laws_heldOriginS_ok {N : Nat} {a0 : List Org} {a1 : Int} {r : Int} (h : laws_heldOriginS N  a0 a1 = some r) : AbsCalls Try.prog 132 (laws_heldOriginS_as a0 a1) (laws_heldOriginS_ro r) :=
 AbsCalls.of_reach fk132 rfl rfl (Nat.le_of_ble_eq_true rfl) (c132_e a0 a1 r h)
noncomputable def I84 : Info := { body := (Try.f84.body).getD .skip, nt := 31, results := [.tmp 4], keep := [0, 2, 8, 10, 18, 40, 58], live := [(2, [0, 2, 10])], modes := [], ext := [], lnt := [], casts := [], fcast := [] }
theorem fk84 : FnOk Try.prog 84 Try.f84 I84 := ⟨Try.func84, by kernel_rfl, by kernel_rfl, by kernel_rfl, by kernel_rfl⟩
def S84_2 (x0 : List Rowd) (x1 : Int) (x5 : Int) : St := [(0, .v false [.sl .ro .row x0]), (2, .v false [.int .i64 x1]), (10, .v false [.int .i64 x5])]
theorem p84_2_0 (x0 : List Rowd) (x1 : Int) (x5 : Int) (r1 : Int) : run tt (AbsCalls Try.prog) I84 3000 true (stkAt 2 I84.body) ⟨(S84_2 x0 x1 x5), [true, true], [laws_heldIntS_ro r1], []⟩ = some (.done (laws_heldRowS_ro (-1)) [(decide ((x5 : Int) < (List.length x0 : Int))) = true, (0 : Int) ≤ x5 ∧ x5 < (List.length x0), AbsCalls Try.prog 131 (laws_heldIntS_as (Rowd.cells (List.getD x0 (Int.toNat x5) Ty.row.dflt)) x1) (laws_heldIntS_ro r1), (decide ((r1 : Int) < 0)) = true]) := by kernel_rfl
theorem p84_2_1 (x0 : List Rowd) (x1 : Int) (x5 : Int) (r1 : Int) (r2 : Int) : run tt (AbsCalls Try.prog) I84 3000 true (stkAt 2 I84.body) ⟨(S84_2 x0 x1 x5), [true, false, true], [laws_heldIntS_ro r1, laws_heldOriginS_ro r2], []⟩ = some (.done (laws_heldRowS_ro (-1)) [(decide ((x5 : Int) < (List.length x0 : Int))) = true, (0 : Int) ≤ x5 ∧ x5 < (List.length x0), AbsCalls Try.prog 131 (laws_heldIntS_as (Rowd.cells (List.getD x0 (Int.toNat x5) Ty.row.dflt)) x1) (laws_heldIntS_ro r1), (decide ((r1 : Int) < 0)) = false, (0 : Int) ≤ x5 ∧ x5 < (List.length x0), AbsCalls Try.prog 132 (laws_heldOriginS_as (Rowd.frm (List.getD x0 (Int.toNat x5) Ty.row.dflt)) r1) (laws_heldOriginS_ro r2), (decide ((r2 : Int) < 0)) = true]) := by kernel_rfl
theorem p84_2_2 (x0 : List Rowd) (x1 : Int) (x5 : Int) (r1 : Int) (r2 : Int) : run tt (AbsCalls Try.prog) I84 3000 true (stkAt 2 I84.body) ⟨(S84_2 x0 x1 x5), [true, false, false], [laws_heldIntS_ro r1, laws_heldOriginS_ro r2], []⟩ = some (.stop (stkAt 2 I84.body) (S84_2 x0 r2 (IntKind.i64.wrap (x5 + 1))) [(decide ((x5 : Int) < (List.length x0 : Int))) = true, (0 : Int) ≤ x5 ∧ x5 < (List.length x0), AbsCalls Try.prog 131 (laws_heldIntS_as (Rowd.cells (List.getD x0 (Int.toNat x5) Ty.row.dflt)) x1) (laws_heldIntS_ro r1), (decide ((r1 : Int) < 0)) = false, (0 : Int) ≤ x5 ∧ x5 < (List.length x0), AbsCalls Try.prog 132 (laws_heldOriginS_as (Rowd.frm (List.getD x0 (Int.toNat x5) Ty.row.dflt)) r1) (laws_heldOriginS_ro r2), (decide ((r2 : Int) < 0)) = false]) := by kernel_rfl
theorem p84_2_3 (x0 : List Rowd) (x1 : Int) (x5 : Int) : run tt (AbsCalls Try.prog) I84 3000 true (stkAt 2 I84.body) ⟨(S84_2 x0 x1 x5), [false], [], []⟩ = some (.done (laws_heldRowS_ro x1) [(decide ((x5 : Int) < (List.length x0 : Int))) = false]) := by kernel_rfl
theorem p84_e_4 (a0 : List Rowd) (a1 : Int) : run tt (AbsCalls Try.prog) I84 3000 false [.code I84.body] ⟨(entry 0 (laws_heldRowS_as a0 a1)), [], [], []⟩ = some (.stop (stkAt 2 I84.body) (S84_2 a0 a1 0) []) := by kernel_rfl
theorem c84_2 {N : Nat} : ∀ n x0 x1 x5 r, laws_heldRowS_b2 N n x0 x1 x5 = some r → Reach Try.prog Try.f84 I84 (stkAt 2 I84.body) (S84_2 x0 x1 x5) (laws_heldRowS_ro r) := by
  intro n
  induction n with
  | zero => intro x0 x1 x5 r h; have h' : (none : Option (Int)) = some r := h; cases h'
  | succ n ih =>
    intro x0 x1 x5 r h
    rw [laws_heldRowS_b2] at h
    rcases cond_inv h with ⟨h0, h⟩ | ⟨h0, h⟩
    · obtain ⟨h1, h⟩ := ite_inv h
      obtain ⟨r1, h2, h⟩ := bind_inv h
      rcases cond_inv h with ⟨h3, h⟩ | ⟨h3, h⟩
      · obtain rfl := Option.some.inj h
        exact Reach.done ttok mix fk84 (p84_2_0 x0 x1 x5 r1) (obs_cons h0 (obs_cons h1 (obs_cons (laws_heldIntS_ok h2) (obs_cons h3 obs_nil))))
      · obtain ⟨r2, h5, h⟩ := bind_inv h
        rcases cond_inv h with ⟨h6, h⟩ | ⟨h6, h⟩
        · obtain rfl := Option.some.inj h
          exact Reach.done ttok mix fk84 (p84_2_1 x0 x1 x5 r1 r2) (obs_cons h0 (obs_cons h1 (obs_cons (laws_heldIntS_ok h2) (obs_cons h3 (obs_cons h1 (obs_cons (laws_heldOriginS_ok h5) (obs_cons h6 obs_nil)))))))
        · exact Reach.stop ttok mix fk84 (p84_2_2 x0 x1 x5 r1 r2) (obs_cons h0 (obs_cons h1 (obs_cons (laws_heldIntS_ok h2) (obs_cons h3 (obs_cons h1 (obs_cons (laws_heldOriginS_ok h5) (obs_cons h6 obs_nil))))))) (ih _ _ _ _ h)
    · obtain rfl := Option.some.inj h
      exact Reach.done ttok mix fk84 (p84_2_3 x0 x1 x5) (obs_cons h0 obs_nil)
theorem c84_e {N : Nat} : ∀ a0 a1 r, laws_heldRowS N a0 a1 = some r → Reach Try.prog Try.f84 I84 [.code I84.body] (entry 0 (laws_heldRowS_as a0 a1)) (laws_heldRowS_ro r) := by
  intro a0 a1 r h
  unfold laws_heldRowS at h
  exact Reach.stop ttok mix fk84 (p84_e_4 a0 a1) obs_nil (c84_2   _ _ _ _ _ h)
theorem laws_heldRowS_ok {N : Nat} {a0 : List Rowd} {a1 : Int} {r : Int} (h : laws_heldRowS N  a0 a1 = some r) : AbsCalls Try.prog 84 (laws_heldRowS_as a0 a1) (laws_heldRowS_ro r) :=
 AbsCalls.of_reach fk84 rfl rfl (Nat.le_of_ble_eq_true rfl) (c84_e a0 a1 r h)
noncomputable def I82 : Info := { body := (Try.f82.body).getD .skip, nt := 77, results := [.tmp 4], keep := [0, 2, 8, 10, 18, 36, 54, 72, 92, 114, 132, 150], live := [(2, [0, 2, 10])], modes := [], ext := [], lnt := [], casts := [], fcast := [] }
theorem fk82 : FnOk Try.prog 82 Try.f82 I82 := ⟨Try.func82, by kernel_rfl, by kernel_rfl, by kernel_rfl, by kernel_rfl⟩
def S82_2 (x0 : List Val) (x1 : Int) (x5 : Int) : St := [(0, .v false [.sl .ro .val x0]), (2, .v false [.int .i64 x1]), (10, .v false [.int .i64 x5])]
theorem p82_2_0 (x0 : List Val) (x1 : Int) (x5 : Int) : run tt (AbsCalls Try.prog) I82 3000 true (stkAt 2 I82.body) ⟨(S82_2 x0 x1 x5), [true, true], [], []⟩ = some (.done (laws_heldValueS_ro (-1)) [(decide ((x5 : Int) < (List.length x0 : Int))) = true, (0 : Int) ≤ x5 ∧ x5 < (List.length x0), (((Val.kind (List.getD x0 (Int.toNat x5) Ty.val.dflt)) : Int) != x1) = true]) := by kernel_rfl
theorem p82_2_1 (x0 : List Val) (x1 : Int) (x5 : Int) : run tt (AbsCalls Try.prog) I82 3000 true (stkAt 2 I82.body) ⟨(S82_2 x0 x1 x5), [true, false, true], [], []⟩ = some (.done (laws_heldValueS_ro (-1)) [(decide ((x5 : Int) < (List.length x0 : Int))) = true, (0 : Int) ≤ x5 ∧ x5 < (List.length x0), (((Val.kind (List.getD x0 (Int.toNat x5) Ty.val.dflt)) : Int) != x1) = false, (0 : Int) ≤ x5 ∧ x5 < (List.length x0), (((Val.n (List.getD x0 (Int.toNat x5) Ty.val.dflt)) : Int) != (IntKind.i64.wrap (x1 + 1))) = true]) := by kernel_rfl
theorem p82_2_2 (x0 : List Val) (x1 : Int) (x5 : Int) : run tt (AbsCalls Try.prog) I82 3000 true (stkAt 2 I82.body) ⟨(S82_2 x0 x1 x5), [true, false, false, true], [], []⟩ = some (.done (laws_heldValueS_ro (-1)) [(decide ((x5 : Int) < (List.length x0 : Int))) = true, (0 : Int) ≤ x5 ∧ x5 < (List.length x0), (((Val.kind (List.getD x0 (Int.toNat x5) Ty.val.dflt)) : Int) != x1) = false, (0 : Int) ≤ x5 ∧ x5 < (List.length x0), (((Val.n (List.getD x0 (Int.toNat x5) Ty.val.dflt)) : Int) != (IntKind.i64.wrap (x1 + 1))) = false, (0 : Int) ≤ x5 ∧ x5 < (List.length x0), (((Val.step (List.getD x0 (Int.toNat x5) Ty.val.dflt)) : Int) != (IntKind.i64.wrap ((IntKind.i64.wrap (x1 + 1)) + 1))) = true]) := by kernel_rfl
theorem p82_2_3 (x0 : List Val) (x1 : Int) (x5 : Int) (r1 : Str) : run tt (AbsCalls Try.prog) I82 3000 true (stkAt 2 I82.body) ⟨(S82_2 x0 x1 x5), [true, false, false, false, true], [laws_markText_ro r1], []⟩ = some (.done (laws_heldValueS_ro (-1)) [(decide ((x5 : Int) < (List.length x0 : Int))) = true, (0 : Int) ≤ x5 ∧ x5 < (List.length x0), (((Val.kind (List.getD x0 (Int.toNat x5) Ty.val.dflt)) : Int) != x1) = false, (0 : Int) ≤ x5 ∧ x5 < (List.length x0), (((Val.n (List.getD x0 (Int.toNat x5) Ty.val.dflt)) : Int) != (IntKind.i64.wrap (x1 + 1))) = false, (0 : Int) ≤ x5 ∧ x5 < (List.length x0), (((Val.step (List.getD x0 (Int.toNat x5) Ty.val.dflt)) : Int) != (IntKind.i64.wrap ((IntKind.i64.wrap (x1 + 1)) + 1))) = false, (0 : Int) ≤ x5 ∧ x5 < (List.length x0), AbsCalls Try.prog 79 (laws_markText_as (IntKind.i64.wrap ((IntKind.i64.wrap ((IntKind.i64.wrap (x1 + 1)) + 1)) + 1))) (laws_markText_ro r1), (!(((Val.text (List.getD x0 (Int.toNat x5) Ty.val.dflt)) : Str) == r1)) = true]) := by kernel_rfl
theorem p82_2_4 (x0 : List Val) (x1 : Int) (x5 : Int) (r1 : Str) (r2 : Int) : run tt (AbsCalls Try.prog) I82 3000 true (stkAt 2 I82.body) ⟨(S82_2 x0 x1 x5), [true, false, false, false, false, true], [laws_markText_ro r1, laws_heldValueS_ro r2], []⟩ = some (.done (laws_heldValueS_ro (-1)) [(decide ((x5 : Int) < (List.length x0 : Int))) = true, (0 : Int) ≤ x5 ∧ x5 < (List.length x0), (((Val.kind (List.getD x0 (Int.toNat x5) Ty.val.dflt)) : Int) != x1) = false, (0 : Int) ≤ x5 ∧ x5 < (List.length x0), (((Val.n (List.getD x0 (Int.toNat x5) Ty.val.dflt)) : Int) != (IntKind.i64.wrap (x1 + 1))) = false, (0 : Int) ≤ x5 ∧ x5 < (List.length x0), (((Val.step (List.getD x0 (Int.toNat x5) Ty.val.dflt)) : Int) != (IntKind.i64.wrap ((IntKind.i64.wrap (x1 + 1)) + 1))) = false, (0 : Int) ≤ x5 ∧ x5 < (List.length x0), AbsCalls Try.prog 79 (laws_markText_as (IntKind.i64.wrap ((IntKind.i64.wrap ((IntKind.i64.wrap (x1 + 1)) + 1)) + 1))) (laws_markText_ro r1), (!(((Val.text (List.getD x0 (Int.toNat x5) Ty.val.dflt)) : Str) == r1)) = false, (0 : Int) ≤ x5 ∧ x5 < (List.length x0), AbsCalls Try.prog 82 (laws_heldValueS_as (Val.list (List.getD x0 (Int.toNat x5) Ty.val.dflt)) (IntKind.i64.wrap ((IntKind.i64.wrap ((IntKind.i64.wrap ((IntKind.i64.wrap (x1 + 1)) + 1)) + 1)) + 1))) (laws_heldValueS_ro r2), (decide ((r2 : Int) < 0)) = true]) := by kernel_rfl
theorem p82_2_5 (x0 : List Val) (x1 : Int) (x5 : Int) (r1 : Str) (r2 : Int) (r3 : Int) : run tt (AbsCalls Try.prog) I82 3000 true (stkAt 2 I82.body) ⟨(S82_2 x0 x1 x5), [true, false, false, false, false, false, true], [laws_markText_ro r1, laws_heldValueS_ro r2, laws_heldStringS_ro r3], []⟩ = some (.done (laws_heldValueS_ro (-1)) [(decide ((x5 : Int) < (List.length x0 : Int))) = true, (0 : Int) ≤ x5 ∧ x5 < (List.length x0), (((Val.kind (List.getD x0 (Int.toNat x5) Ty.val.dflt)) : Int) != x1) = false, (0 : Int) ≤ x5 ∧ x5 < (List.length x0), (((Val.n (List.getD x0 (Int.toNat x5) Ty.val.dflt)) : Int) != (IntKind.i64.wrap (x1 + 1))) = false, (0 : Int) ≤ x5 ∧ x5 < (List.length x0), (((Val.step (List.getD x0 (Int.toNat x5) Ty.val.dflt)) : Int) != (IntKind.i64.wrap ((IntKind.i64.wrap (x1 + 1)) + 1))) = false, (0 : Int) ≤ x5 ∧ x5 < (List.length x0), AbsCalls Try.prog 79 (laws_markText_as (IntKind.i64.wrap ((IntKind.i64.wrap ((IntKind.i64.wrap (x1 + 1)) + 1)) + 1))) (laws_markText_ro r1), (!(((Val.text (List.getD x0 (Int.toNat x5) Ty.val.dflt)) : Str) == r1)) = false, (0 : Int) ≤ x5 ∧ x5 < (List.length x0), AbsCalls Try.prog 82 (laws_heldValueS_as (Val.list (List.getD x0 (Int.toNat x5) Ty.val.dflt)) (IntKind.i64.wrap ((IntKind.i64.wrap ((IntKind.i64.wrap ((IntKind.i64.wrap (x1 + 1)) + 1)) + 1)) + 1))) (laws_heldValueS_ro r2), (decide ((r2 : Int) < 0)) = false, (0 : Int) ≤ x5 ∧ x5 < (List.length x0), AbsCalls Try.prog 83 (laws_heldStringS_as (Val.columns (List.getD x0 (Int.toNat x5) Ty.val.dflt)) r2) (laws_heldStringS_ro r3), (decide ((r3 : Int) < 0)) = true]) := by kernel_rfl
theorem p82_2_6 (x0 : List Val) (x1 : Int) (x5 : Int) (r1 : Str) (r2 : Int) (r3 : Int) (r4 : Int) : run tt (AbsCalls Try.prog) I82 3000 true (stkAt 2 I82.body) ⟨(S82_2 x0 x1 x5), [true, false, false, false, false, false, false, true], [laws_markText_ro r1, laws_heldValueS_ro r2, laws_heldStringS_ro r3, laws_heldRowS_ro r4], []⟩ = some (.done (laws_heldValueS_ro (-1)) [(decide ((x5 : Int) < (List.length x0 : Int))) = true, (0 : Int) ≤ x5 ∧ x5 < (List.length x0), (((Val.kind (List.getD x0 (Int.toNat x5) Ty.val.dflt)) : Int) != x1) = false, (0 : Int) ≤ x5 ∧ x5 < (List.length x0), (((Val.n (List.getD x0 (Int.toNat x5) Ty.val.dflt)) : Int) != (IntKind.i64.wrap (x1 + 1))) = false, (0 : Int) ≤ x5 ∧ x5 < (List.length x0), (((Val.step (List.getD x0 (Int.toNat x5) Ty.val.dflt)) : Int) != (IntKind.i64.wrap ((IntKind.i64.wrap (x1 + 1)) + 1))) = false, (0 : Int) ≤ x5 ∧ x5 < (List.length x0), AbsCalls Try.prog 79 (laws_markText_as (IntKind.i64.wrap ((IntKind.i64.wrap ((IntKind.i64.wrap (x1 + 1)) + 1)) + 1))) (laws_markText_ro r1), (!(((Val.text (List.getD x0 (Int.toNat x5) Ty.val.dflt)) : Str) == r1)) = false, (0 : Int) ≤ x5 ∧ x5 < (List.length x0), AbsCalls Try.prog 82 (laws_heldValueS_as (Val.list (List.getD x0 (Int.toNat x5) Ty.val.dflt)) (IntKind.i64.wrap ((IntKind.i64.wrap ((IntKind.i64.wrap ((IntKind.i64.wrap (x1 + 1)) + 1)) + 1)) + 1))) (laws_heldValueS_ro r2), (decide ((r2 : Int) < 0)) = false, (0 : Int) ≤ x5 ∧ x5 < (List.length x0), AbsCalls Try.prog 83 (laws_heldStringS_as (Val.columns (List.getD x0 (Int.toNat x5) Ty.val.dflt)) r2) (laws_heldStringS_ro r3), (decide ((r3 : Int) < 0)) = false, (0 : Int) ≤ x5 ∧ x5 < (List.length x0), AbsCalls Try.prog 84 (laws_heldRowS_as (Val.rows (List.getD x0 (Int.toNat x5) Ty.val.dflt)) r3) (laws_heldRowS_ro r4), (decide ((r4 : Int) < 0)) = true]) := by kernel_rfl
theorem p82_2_7 (x0 : List Val) (x1 : Int) (x5 : Int) (r1 : Str) (r2 : Int) (r3 : Int) (r4 : Int) : run tt (AbsCalls Try.prog) I82 3000 true (stkAt 2 I82.body) ⟨(S82_2 x0 x1 x5), [true, false, false, false, false, false, false, false], [laws_markText_ro r1, laws_heldValueS_ro r2, laws_heldStringS_ro r3, laws_heldRowS_ro r4], []⟩ = some (.stop (stkAt 2 I82.body) (S82_2 x0 r4 (IntKind.i64.wrap (x5 + 1))) [(decide ((x5 : Int) < (List.length x0 : Int))) = true, (0 : Int) ≤ x5 ∧ x5 < (List.length x0), (((Val.kind (List.getD x0 (Int.toNat x5) Ty.val.dflt)) : Int) != x1) = false, (0 : Int) ≤ x5 ∧ x5 < (List.length x0), (((Val.n (List.getD x0 (Int.toNat x5) Ty.val.dflt)) : Int) != (IntKind.i64.wrap (x1 + 1))) = false, (0 : Int) ≤ x5 ∧ x5 < (List.length x0), (((Val.step (List.getD x0 (Int.toNat x5) Ty.val.dflt)) : Int) != (IntKind.i64.wrap ((IntKind.i64.wrap (x1 + 1)) + 1))) = false, (0 : Int) ≤ x5 ∧ x5 < (List.length x0), AbsCalls Try.prog 79 (laws_markText_as (IntKind.i64.wrap ((IntKind.i64.wrap ((IntKind.i64.wrap (x1 + 1)) + 1)) + 1))) (laws_markText_ro r1), (!(((Val.text (List.getD x0 (Int.toNat x5) Ty.val.dflt)) : Str) == r1)) = false, (0 : Int) ≤ x5 ∧ x5 < (List.length x0), AbsCalls Try.prog 82 (laws_heldValueS_as (Val.list (List.getD x0 (Int.toNat x5) Ty.val.dflt)) (IntKind.i64.wrap ((IntKind.i64.wrap ((IntKind.i64.wrap ((IntKind.i64.wrap (x1 + 1)) + 1)) + 1)) + 1))) (laws_heldValueS_ro r2), (decide ((r2 : Int) < 0)) = false, (0 : Int) ≤ x5 ∧ x5 < (List.length x0), AbsCalls Try.prog 83 (laws_heldStringS_as (Val.columns (List.getD x0 (Int.toNat x5) Ty.val.dflt)) r2) (laws_heldStringS_ro r3), (decide ((r3 : Int) < 0)) = false, (0 : Int) ≤ x5 ∧ x5 < (List.length x0), AbsCalls Try.prog 84 (laws_heldRowS_as (Val.rows (List.getD x0 (Int.toNat x5) Ty.val.dflt)) r3) (laws_heldRowS_ro r4), (decide ((r4 : Int) < 0)) = false]) := by kernel_rfl
theorem p82_2_8 (x0 : List Val) (x1 : Int) (x5 : Int) : run tt (AbsCalls Try.prog) I82 3000 true (stkAt 2 I82.body) ⟨(S82_2 x0 x1 x5), [false], [], []⟩ = some (.done (laws_heldValueS_ro x1) [(decide ((x5 : Int) < (List.length x0 : Int))) = false]) := by kernel_rfl
theorem p82_e_9 (a0 : List Val) (a1 : Int) : run tt (AbsCalls Try.prog) I82 3000 false [.code I82.body] ⟨(entry 0 (laws_heldValueS_as a0 a1)), [], [], []⟩ = some (.stop (stkAt 2 I82.body) (S82_2 a0 a1 0) []) := by kernel_rfl
theorem c82_2 {N : Nat} {rc_laws_heldValueS : (List Val) → Int → Option (Int)} (hrc_laws_heldValueS : ∀ a0 a1 r, rc_laws_heldValueS a0 a1 = some r → AbsCalls Try.prog 82 (laws_heldValueS_as a0 a1) (laws_heldValueS_ro r)) : ∀ n x0 x1 x5 r, laws_heldValueS_b2 N rc_laws_heldValueS n x0 x1 x5 = some r → Reach Try.prog Try.f82 I82 (stkAt 2 I82.body) (S82_2 x0 x1 x5) (laws_heldValueS_ro r) := by
  intro n
  induction n with
  | zero => intro x0 x1 x5 r h; have h' : (none : Option (Int)) = some r := h; cases h'
  | succ n ih =>
    intro x0 x1 x5 r h
    rw [laws_heldValueS_b2] at h
    rcases cond_inv h with ⟨h0, h⟩ | ⟨h0, h⟩
    · obtain ⟨h1, h⟩ := ite_inv h
      rcases cond_inv h with ⟨h2, h⟩ | ⟨h2, h⟩
      · obtain rfl := Option.some.inj h
        exact Reach.done ttok mix fk82 (p82_2_0 x0 x1 x5) (obs_cons h0 (obs_cons h1 (obs_cons h2 obs_nil)))
      · rcases cond_inv h with ⟨h4, h⟩ | ⟨h4, h⟩
        · obtain rfl := Option.some.inj h
          exact Reach.done ttok mix fk82 (p82_2_1 x0 x1 x5) (obs_cons h0 (obs_cons h1 (obs_cons h2 (obs_cons h1 (obs_cons h4 obs_nil)))))
        · rcases cond_inv h with ⟨h6, h⟩ | ⟨h6, h⟩
          · obtain rfl := Option.some.inj h
            exact Reach.done ttok mix fk82 (p82_2_2 x0 x1 x5) (obs_cons h0 (obs_cons h1 (obs_cons h2 (obs_cons h1 (obs_cons h4 (obs_cons h1 (obs_cons h6 obs_nil)))))))
          · obtain ⟨r1, h8, h⟩ := bind_inv h
            rcases cond_inv h with ⟨h9, h⟩ | ⟨h9, h⟩
            · obtain rfl := Option.some.inj h
              exact Reach.done ttok mix fk82 (p82_2_3 x0 x1 x5 r1) (obs_cons h0 (obs_cons h1 (obs_cons h2 (obs_cons h1 (obs_cons h4 (obs_cons h1 (obs_cons h6 (obs_cons h1 (obs_cons (laws_markText_ok h8) (obs_cons h9 obs_nil))))))))))
            · obtain ⟨r2, h11, h⟩ := bind_inv h
              rcases cond_inv h with ⟨h12, h⟩ | ⟨h12, h⟩
              · obtain rfl := Option.some.inj h
                exact Reach.done ttok mix fk82 (p82_2_4 x0 x1 x5 r1 r2) (obs_cons h0 (obs_cons h1 (obs_cons h2 (obs_cons h1 (obs_cons h4 (obs_cons h1 (obs_cons h6 (obs_cons h1 (obs_cons (laws_markText_ok h8) (obs_cons h9 (obs_cons h1 (obs_cons (hrc_laws_heldValueS _ _ _ h11) (obs_cons h12 obs_nil)))))))))))))
              · obtain ⟨r3, h14, h⟩ := bind_inv h
                rcases cond_inv h with ⟨h15, h⟩ | ⟨h15, h⟩
                · obtain rfl := Option.some.inj h
                  exact Reach.done ttok mix fk82 (p82_2_5 x0 x1 x5 r1 r2 r3) (obs_cons h0 (obs_cons h1 (obs_cons h2 (obs_cons h1 (obs_cons h4 (obs_cons h1 (obs_cons h6 (obs_cons h1 (obs_cons (laws_markText_ok h8) (obs_cons h9 (obs_cons h1 (obs_cons (hrc_laws_heldValueS _ _ _ h11) (obs_cons h12 (obs_cons h1 (obs_cons (laws_heldStringS_ok h14) (obs_cons h15 obs_nil))))))))))))))))
                · obtain ⟨r4, h17, h⟩ := bind_inv h
                  rcases cond_inv h with ⟨h18, h⟩ | ⟨h18, h⟩
                  · obtain rfl := Option.some.inj h
                    exact Reach.done ttok mix fk82 (p82_2_6 x0 x1 x5 r1 r2 r3 r4) (obs_cons h0 (obs_cons h1 (obs_cons h2 (obs_cons h1 (obs_cons h4 (obs_cons h1 (obs_cons h6 (obs_cons h1 (obs_cons (laws_markText_ok h8) (obs_cons h9 (obs_cons h1 (obs_cons (hrc_laws_heldValueS _ _ _ h11) (obs_cons h12 (obs_cons h1 (obs_cons (laws_heldStringS_ok h14) (obs_cons h15 (obs_cons h1 (obs_cons (laws_heldRowS_ok h17) (obs_cons h18 obs_nil)))))))))))))))))))
                  · exact Reach.stop ttok mix fk82 (p82_2_7 x0 x1 x5 r1 r2 r3 r4) (obs_cons h0 (obs_cons h1 (obs_cons h2 (obs_cons h1 (obs_cons h4 (obs_cons h1 (obs_cons h6 (obs_cons h1 (obs_cons (laws_markText_ok h8) (obs_cons h9 (obs_cons h1 (obs_cons (hrc_laws_heldValueS _ _ _ h11) (obs_cons h12 (obs_cons h1 (obs_cons (laws_heldStringS_ok h14) (obs_cons h15 (obs_cons h1 (obs_cons (laws_heldRowS_ok h17) (obs_cons h18 obs_nil))))))))))))))))))) (ih _ _ _ _ h)
    · obtain rfl := Option.some.inj h
      exact Reach.done ttok mix fk82 (p82_2_8 x0 x1 x5) (obs_cons h0 obs_nil)
theorem c82_e {N : Nat} {rc_laws_heldValueS : (List Val) → Int → Option (Int)} (hrc_laws_heldValueS : ∀ a0 a1 r, rc_laws_heldValueS a0 a1 = some r → AbsCalls Try.prog 82 (laws_heldValueS_as a0 a1) (laws_heldValueS_ro r)) : ∀ a0 a1 r, laws_heldValueS_body N rc_laws_heldValueS a0 a1 = some r → Reach Try.prog Try.f82 I82 [.code I82.body] (entry 0 (laws_heldValueS_as a0 a1)) (laws_heldValueS_ro r) := by
  intro a0 a1 r h
  unfold laws_heldValueS_body at h
  exact Reach.stop ttok mix fk82 (p82_e_9 a0 a1) obs_nil (c82_2 hrc_laws_heldValueS  _ _ _ _ _ h)
theorem laws_heldValueS_body_ok {N : Nat} {rc_laws_heldValueS : (List Val) → Int → Option (Int)} (hrc_laws_heldValueS : ∀ a0 a1 r, rc_laws_heldValueS a0 a1 = some r → AbsCalls Try.prog 82 (laws_heldValueS_as a0 a1) (laws_heldValueS_ro r)) {a0 : List Val} {a1 : Int} {r : Int} (h : laws_heldValueS_body N rc_laws_heldValueS a0 a1 = some r) : AbsCalls Try.prog 82 (laws_heldValueS_as a0 a1) (laws_heldValueS_ro r) :=
 AbsCalls.of_reach fk82 rfl rfl (Nat.le_of_ble_eq_true rfl) (c82_e hrc_laws_heldValueS a0 a1 r h)
theorem laws_heldValueS_fix_ok {N : Nat} : ∀ d, (∀ a0 a1 r, laws_heldValueS_fix N d a0 a1 = some r → AbsCalls Try.prog 82 (laws_heldValueS_as a0 a1) (laws_heldValueS_ro r)) := by
  intro d
  induction d with
  | zero => intro _ _ r h; have h' : (none : Option (Int)) = some r := h; cases h'
  | succ d ih => intro _ _ r h; exact laws_heldValueS_body_ok (N := N) ih h
theorem laws_heldValueS_ok {N : Nat} {a0 : List Val} {a1 : Int} {r : Int} (h : laws_heldValueS N a0 a1 = some r) : AbsCalls Try.prog 82 (laws_heldValueS_as a0 a1) (laws_heldValueS_ro r) := laws_heldValueS_fix_ok N _ _ r h
end Go.Ab.T
end
section
open Go.Proofs
namespace Go.Ab.T
set_option linter.unusedVariables false
set_option maxRecDepth 100000
noncomputable def I25 : Info := { body := (Try.f25.body).getD .skip, nt := 38, results := [.tmp 6], keep := [0, 2, 4, 10, 12, 14, 16, 26, 11], live := [(3, [0, 2, 10, 14, 16, 11])], modes := [(5, [(0, .take, false), (14, .take, false)]), (6, [(0, .take, false), (6, .take, false)])], ext := [], lnt := [], casts := [], fcast := [] }
theorem fk25 : FnOk Try.prog 25 Try.f25 I25 := ⟨Try.func25, by kernel_rfl, by kernel_rfl, by kernel_rfl, by kernel_rfl⟩
def S25_3 (x0 : List Bnd) (x1 : Str) (x7 : List Bnd) (x8 : Int) (b5 : Val) : St := [(0, .v false [.sl .ro .bnd x0]), (2, .v false [.str x1]), (10, .v false [.ptr 5 0]), (14, .v false [.sl .own .bnd x7]), (16, .v false [.int .i64 x8]), (11, .v true [.int .i64 (Val.kind b5), .int .i64 (Val.n b5), .int .i64 (Val.step b5), .str (Val.text b5), .sl .ro .val (Val.list b5), .sl .ro .str (Val.columns b5), .sl .ro .row (Val.rows b5)])]
theorem p25_3_0 (x0 : List Bnd) (x1 : Str) (x7 : List Bnd) (x8 : Int) (b5 : Val) (r1 : Val) : run tt (AbsCalls Try.prog) I25 3000 true (stkAt 3 I25.body) ⟨(S25_3 x0 x1 x7 x8 b5), [true], [spec_l3Copy_ro r1], []⟩ = some (.stop (stkAt 3 I25.body) (S25_3 x0 x1 (x7 ++ [(Bnd.mk (Bnd.name (List.getD x0 (Int.toNat x8) Ty.bnd.dflt)) (Val.re r1))]) (IntKind.i64.wrap (x8 + 1)) b5) [(decide ((x8 : Int) < (List.length x0 : Int))) = true, (0 : Int) ≤ x8 ∧ x8 < (List.length x0), (0 : Int) ≤ x8 ∧ x8 < (List.length x0), AbsCalls Try.prog 71 (spec_l3Copy_as (Bnd.value (List.getD x0 (Int.toNat x8) Ty.bnd.dflt))) (spec_l3Copy_ro r1), List.length x7 + List.length [(Bnd.mk (Bnd.name (List.getD x0 (Int.toNat x8) Ty.bnd.dflt)) (Val.re r1))] ≤ Lim]) := by kernel_rfl
theorem p25_3_1 (x0 : List Bnd) (x1 : Str) (x7 : List Bnd) (x8 : Int) (b5 : Val) (r1 : Val) : run tt (AbsCalls Try.prog) I25 3000 true (stkAt 3 I25.body) ⟨(S25_3 x0 x1 x7 x8 b5), [false], [spec_l3Copy_ro r1], []⟩ = some (.done (spec_Bind_ro (x7 ++ [(Bnd.mk x1 (Val.re r1))])) [(decide ((x8 : Int) < (List.length x0 : Int))) = false, AbsCalls Try.prog 71 (spec_l3Copy_as b5) (spec_l3Copy_ro r1), List.length x7 + List.length [(Bnd.mk x1 (Val.re r1))] ≤ Lim]) := by kernel_rfl
theorem p25_e_2 (a0 : List Bnd) (a1 : Str) (a2 : Val) : run tt (AbsCalls Try.prog) I25 3000 false [.code I25.body] ⟨(entry 0 (spec_Bind_as a0 a1 a2)), [], [], []⟩ = some (.stop (stkAt 3 I25.body) (S25_3 a0 a1 [] 0 a2) []) := by kernel_rfl
theorem c25_3 {N : Nat} : ∀ n x0 x1 x7 x8 b5 r, spec_Bind_b3 N n x0 x1 x7 x8 b5 = some r → Reach Try.prog Try.f25 I25 (stkAt 3 I25.body) (S25_3 x0 x1 x7 x8 b5) (spec_Bind_ro r) := by
  intro n
  induction n with
  | zero => intro x0 x1 x7 x8 b5 r h; have h' : (none : Option ((List Bnd))) = some r := h; cases h'
  | succ n ih =>
    intro x0 x1 x7 x8 b5 r h
    rw [spec_Bind_b3] at h
    rcases cond_inv h with ⟨h0, h⟩ | ⟨h0, h⟩
    · obtain ⟨h1, h⟩ := ite_inv h
      obtain ⟨r1, h3, h⟩ := bind_inv h
      obtain ⟨h4, h⟩ := ite_inv h
      exact Reach.stop ttok mix fk25 (p25_3_0 x0 x1 x7 x8 b5 r1) (obs_cons h0 (obs_cons h1 (obs_cons h1 (obs_cons (spec_l3Copy_ok h3) (obs_cons h4 obs_nil))))) (ih _ _ _ _ _ _ h)
    · obtain ⟨r1, h1, h⟩ := bind_inv h
      obtain ⟨h2, h⟩ := ite_inv h
      obtain rfl := Option.some.inj h
      exact Reach.done ttok mix fk25 (p25_3_1 x0 x1 x7 x8 b5 r1) (obs_cons h0 (obs_cons (spec_l3Copy_ok h1) (obs_cons h2 obs_nil)))
theorem c25_e {N : Nat} : ∀ a0 a1 a2 r, spec_Bind N a0 a1 a2 = some r → Reach Try.prog Try.f25 I25 [.code I25.body] (entry 0 (spec_Bind_as a0 a1 a2)) (spec_Bind_ro r) := by
  intro a0 a1 a2 r h
  unfold spec_Bind at h
  exact Reach.stop ttok mix fk25 (p25_e_2 a0 a1 a2) obs_nil (c25_3   _ _ _ _ _ _ _ h)
theorem spec_Bind_ok {N : Nat} {a0 : List Bnd} {a1 : Str} {a2 : Val} {r : (List Bnd)} (h : spec_Bind N  a0 a1 a2 = some r) : AbsCalls Try.prog 25 (spec_Bind_as a0 a1 a2) (spec_Bind_ro r) :=
 AbsCalls.of_reach fk25 rfl rfl (Nat.le_of_ble_eq_true rfl) (c25_e a0 a1 a2 r h)
noncomputable def I27 : Info := { body := (Try.f27.body).getD .skip, nt := 34, results := [.tmp 6], keep := [0, 2, 4, 10, 12, 14, 18, 22, 24, 26, 28, 11, 19], live := [(3, [2, 10, 14, 22, 24, 26, 11])], modes := [(5, [(0, .take, false), (8, .take, false)]), (6, [(1, .take, false)]), (7, [(0, .take, false), (6, .take, false)])], ext := [], lnt := [], casts := [], fcast := [] }
theorem fk27 : FnOk Try.prog 27 Try.f27 I27 := ⟨Try.func27, by kernel_rfl, by kernel_rfl, by kernel_rfl, by kernel_rfl⟩
def S27_3 (x1 : Str) (x7 : List Bnd) (x11 : List Bnd) (x12 : Int) (x13 : Int) (b5 : Val) : St := [(2, .v false [.str x1]), (10, .v false [.ptr 5 0]), (14, .v false [.sl .own .bnd x7]), (22, .v false [.sl .ro .bnd x11]), (24, .v false [.int .i64 x12]), (26, .v false [.int .i64 x13]), (11, .v true [.int .i64 (Val.kind b5), .int .i64 (Val.n b5), .int .i64 (Val.step b5), .str (Val.text b5), .sl .ro .val (Val.list b5), .sl .ro .str (Val.columns b5), .sl .ro .row (Val.rows b5)])]
theorem p27_3_0 (x1 : Str) (x7 : List Bnd) (x11 : List Bnd) (x12 : Int) (x13 : Int) (b5 : Val) (r1 : Val) : run tt (AbsCalls Try.prog) I27 3000 true (stkAt 3 I27.body) ⟨(S27_3 x1 x7 x11 x12 x13 b5), [true], [impl_copyValue_ro r1], []⟩ = some (.stop (stkAt 3 I27.body) (S27_3 x1 (x7 ++ [(Bnd.mk (Bnd.name (List.getD x11 (Int.toNat x13) Ty.bnd.dflt)) (Val.re r1))]) x11 x12 (IntKind.i64.wrap (x13 + 1)) b5) [(decide ((x13 : Int) < x12)) = true, (0 : Int) ≤ x13 ∧ x13 < (List.length x11), AbsCalls Try.prog 74 (impl_copyValue_as (Bnd.value (List.getD x11 (Int.toNat x13) Ty.bnd.dflt))) (impl_copyValue_ro r1), List.length x7 + List.length [(Bnd.mk (Bnd.name (List.getD x11 (Int.toNat x13) Ty.bnd.dflt)) (Val.re r1))] ≤ Lim]) := by kernel_rfl
theorem p27_3_1 (x1 : Str) (x7 : List Bnd) (x11 : List Bnd) (x12 : Int) (x13 : Int) (b5 : Val) (r1 : Val) : run tt (AbsCalls Try.prog) I27 3000 true (stkAt 3 I27.body) ⟨(S27_3 x1 x7 x11 x12 x13 b5), [false], [impl_copyValue_ro r1], []⟩ = some (.done (impl_Bind_ro (x7 ++ [(Bnd.mk x1 (Val.re r1))])) [(decide ((x13 : Int) < x12)) = false, AbsCalls Try.prog 74 (impl_copyValue_as b5) (impl_copyValue_ro r1), List.length x7 + List.length [(Bnd.mk x1 (Val.re r1))] ≤ Lim]) := by kernel_rfl
theorem p27_e_2 (a0 : List Bnd) (a1 : Str) (a2 : Val) : run tt (AbsCalls Try.prog) I27 3000 false [.code I27.body] ⟨(entry 0 (impl_Bind_as a0 a1 a2)), [], [], []⟩ = some (.stop (stkAt 3 I27.body) (S27_3 a1 [] a0 (List.length a0 : Int) 0 a2) []) := by kernel_rfl
theorem c27_3 {N : Nat} : ∀ n x1 x7 x11 x12 x13 b5 r, impl_Bind_b3 N n x1 x7 x11 x12 x13 b5 = some r → Reach Try.prog Try.f27 I27 (stkAt 3 I27.body) (S27_3 x1 x7 x11 x12 x13 b5) (impl_Bind_ro r) := by
  intro n
  induction n with
  | zero => intro x1 x7 x11 x12 x13 b5 r h; have h' : (none : Option ((List Bnd))) = some r := h; cases h'
  | succ n ih =>
    intro x1 x7 x11 x12 x13 b5 r h
    rw [impl_Bind_b3] at h
    rcases cond_inv h with ⟨h0, h⟩ | ⟨h0, h⟩
    · obtain ⟨h1, h⟩ := ite_inv h
      obtain ⟨r1, h2, h⟩ := bind_inv h
      obtain ⟨h3, h⟩ := ite_inv h
      exact Reach.stop ttok mix fk27 (p27_3_0 x1 x7 x11 x12 x13 b5 r1) (obs_cons h0 (obs_cons h1 (obs_cons (impl_copyValue_ok h2) (obs_cons h3 obs_nil)))) (ih _ _ _ _ _ _ _ h)
    · obtain ⟨r1, h1, h⟩ := bind_inv h
      obtain ⟨h2, h⟩ := ite_inv h
      obtain rfl := Option.some.inj h
      exact Reach.done ttok mix fk27 (p27_3_1 x1 x7 x11 x12 x13 b5 r1) (obs_cons h0 (obs_cons (impl_copyValue_ok h1) (obs_cons h2 obs_nil)))
theorem c27_e {N : Nat} : ∀ a0 a1 a2 r, impl_Bind N a0 a1 a2 = some r → Reach Try.prog Try.f27 I27 [.code I27.body] (entry 0 (impl_Bind_as a0 a1 a2)) (impl_Bind_ro r) := by
  intro a0 a1 a2 r h
  unfold impl_Bind at h
  exact Reach.stop ttok mix fk27 (p27_e_2 a0 a1 a2) obs_nil (c27_3   _ _ _ _ _ _ _ _ h)
theorem impl_Bind_ok {N : Nat} {a0 : List Bnd} {a1 : Str} {a2 : Val} {r : (List Bnd)} (h : impl_Bind N  a0 a1 a2 = some r) : AbsCalls Try.prog 27 (impl_Bind_as a0 a1 a2) (impl_Bind_ro r) :=
 AbsCalls.of_reach fk27 rfl rfl (Nat.le_of_ble_eq_true rfl) (c27_e a0 a1 a2 r h)
noncomputable def I28 : Info := { body := (Try.f28.body).getD .skip, nt := 94, results := [.tmp 4], keep := [0, 2, 8, 10, 18, 38, 58, 78, 98, 120, 144, 164, 184], live := [(2, [0, 2, 10])], modes := [], ext := [], lnt := [], casts := [], fcast := [] }
theorem fk28 : FnOk Try.prog 28 Try.f28 I28 := ⟨Try.func28, by kernel_rfl, by kernel_rfl, by kernel_rfl, by kernel_rfl⟩
def S28_2 (x0 : List Bnd) (x1 : Int) (x5 : Int) : St := [(0, .v false [.sl .ro .bnd x0]), (2, .v false [.int .i64 x1]), (10, .v false [.int .i64 x5])]
theorem p28_2_0 (x0 : List Bnd) (x1 : Int) (x5 : Int) (r1 : Str) : run tt (AbsCalls Try.prog) I28 3000 true (stkAt 2 I28.body) ⟨(S28_2 x0 x1 x5), [true, true], [laws_markText_ro r1], []⟩ = some (.done (laws_heldBindingS_ro (-1)) [(decide ((x5 : Int) < (List.length x0 : Int))) = true, (0 : Int) ≤ x5 ∧ x5 < (List.length x0), AbsCalls Try.prog 79 (laws_markText_as x1) (laws_markText_ro r1), (!(((Bnd.name (List.getD x0 (Int.toNat x5) Ty.bnd.dflt)) : Str) == r1)) = true]) := by kernel_rfl
theorem p28_2_1 (x0 : List Bnd) (x1 : Int) (x5 : Int) (r1 : Str) : run tt (AbsCalls Try.prog) I28 3000 true (stkAt 2 I28.body) ⟨(S28_2 x0 x1 x5), [true, false, true], [laws_markText_ro r1], []⟩ = some (.done (laws_heldBindingS_ro (-1)) [(decide ((x5 : Int) < (List.length x0 : Int))) = true, (0 : Int) ≤ x5 ∧ x5 < (List.length x0), AbsCalls Try.prog 79 (laws_markText_as x1) (laws_markText_ro r1), (!(((Bnd.name (List.getD x0 (Int.toNat x5) Ty.bnd.dflt)) : Str) == r1)) = false, (0 : Int) ≤ x5 ∧ x5 < (List.length x0), (((Val.kind (Bnd.value (List.getD x0 (Int.toNat x5) Ty.bnd.dflt))) : Int) != (IntKind.i64.wrap (x1 + 1))) = true]) := by kernel_rfl
theorem p28_2_2 (x0 : List Bnd) (x1 : Int) (x5 : Int) (r1 : Str) : run tt (AbsCalls Try.prog) I28 3000 true (stkAt 2 I28.body) ⟨(S28_2 x0 x1 x5), [true, false, false, true], [laws_markText_ro r1], []⟩ = some (.done (laws_heldBindingS_ro (-1)) [(decide ((x5 : Int) < (List.length x0 : Int))) = true, (0 : Int) ≤ x5 ∧ x5 < (List.length x0), AbsCalls Try.prog 79 (laws_markText_as x1) (laws_markText_ro r1), (!(((Bnd.name (List.getD x0 (Int.toNat x5) Ty.bnd.dflt)) : Str) == r1)) = false, (0 : Int) ≤ x5 ∧ x5 < (List.length x0), (((Val.kind (Bnd.value (List.getD x0 (Int.toNat x5) Ty.bnd.dflt))) : Int) != (IntKind.i64.wrap (x1 + 1))) = false, (0 : Int) ≤ x5 ∧ x5 < (List.length x0), (((Val.n (Bnd.value (List.getD x0 (Int.toNat x5) Ty.bnd.dflt))) : Int) != (IntKind.i64.wrap ((IntKind.i64.wrap (x1 + 1)) + 1))) = true]) := by kernel_rfl
theorem p28_2_3 (x0 : List Bnd) (x1 : Int) (x5 : Int) (r1 : Str) : run tt (AbsCalls Try.prog) I28 3000 true (stkAt 2 I28.body) ⟨(S28_2 x0 x1 x5), [true, false, false, false, true], [laws_markText_ro r1], []⟩ = some (.done (laws_heldBindingS_ro (-1)) [(decide ((x5 : Int) < (List.length x0 : Int))) = true, (0 : Int) ≤ x5 ∧ x5 < (List.length x0), AbsCalls Try.prog 79 (laws_markText_as x1) (laws_markText_ro r1), (!(((Bnd.name (List.getD x0 (Int.toNat x5) Ty.bnd.dflt)) : Str) == r1)) = false, (0 : Int) ≤ x5 ∧ x5 < (List.length x0), (((Val.kind (Bnd.value (List.getD x0 (Int.toNat x5) Ty.bnd.dflt))) : Int) != (IntKind.i64.wrap (x1 + 1))) = false, (0 : Int) ≤ x5 ∧ x5 < (List.length x0), (((Val.n (Bnd.value (List.getD x0 (Int.toNat x5) Ty.bnd.dflt))) : Int) != (IntKind.i64.wrap ((IntKind.i64.wrap (x1 + 1)) + 1))) = false, (0 : Int) ≤ x5 ∧ x5 < (List.length x0), (((Val.step (Bnd.value (List.getD x0 (Int.toNat x5) Ty.bnd.dflt))) : Int) != (IntKind.i64.wrap ((IntKind.i64.wrap ((IntKind.i64.wrap (x1 + 1)) + 1)) + 1))) = true]) := by kernel_rfl
theorem p28_2_4 (x0 : List Bnd) (x1 : Int) (x5 : Int) (r1 : Str) (r2 : Str) : run tt (AbsCalls Try.prog) I28 3000 true (stkAt 2 I28.body) ⟨(S28_2 x0 x1 x5), [true, false, false, false, false, true], [laws_markText_ro r1, laws_markText_ro r2], []⟩ = some (.done (laws_heldBindingS_ro (-1)) [(decide ((x5 : Int) < (List.length x0 : Int))) = true, (0 : Int) ≤ x5 ∧ x5 < (List.length x0), AbsCalls Try.prog 79 (laws_markText_as x1) (laws_markText_ro r1), (!(((Bnd.name (List.getD x0 (Int.toNat x5) Ty.bnd.dflt)) : Str) == r1)) = false, (0 : Int) ≤ x5 ∧ x5 < (List.length x0), (((Val.kind (Bnd.value (List.getD x0 (Int.toNat x5) Ty.bnd.dflt))) : Int) != (IntKind.i64.wrap (x1 + 1))) = false, (0 : Int) ≤ x5 ∧ x5 < (List.length x0), (((Val.n (Bnd.value (List.getD x0 (Int.toNat x5) Ty.bnd.dflt))) : Int) != (IntKind.i64.wrap ((IntKind.i64.wrap (x1 + 1)) + 1))) = false, (0 : Int) ≤ x5 ∧ x5 < (List.length x0), (((Val.step (Bnd.value (List.getD x0 (Int.toNat x5) Ty.bnd.dflt))) : Int) != (IntKind.i64.wrap ((IntKind.i64.wrap ((IntKind.i64.wrap (x1 + 1)) + 1)) + 1))) = false, (0 : Int) ≤ x5 ∧ x5 < (List.length x0), AbsCalls Try.prog 79 (laws_markText_as (IntKind.i64.wrap ((IntKind.i64.wrap ((IntKind.i64.wrap ((IntKind.i64.wrap (x1 + 1)) + 1)) + 1)) + 1))) (laws_markText_ro r2), (!(((Val.text (Bnd.value (List.getD x0 (Int.toNat x5) Ty.bnd.dflt))) : Str) == r2)) = true]) := by kernel_rfl
theorem p28_2_5 (x0 : List Bnd) (x1 : Int) (x5 : Int) (r1 : Str) (r2 : Str) (r3 : Int) : run tt (AbsCalls Try.prog) I28 3000 true (stkAt 2 I28.body) ⟨(S28_2 x0 x1 x5), [true, false, false, false, false, false, true], [laws_markText_ro r1, laws_markText_ro r2, laws_heldValueS_ro r3], []⟩ = some (.done (laws_heldBindingS_ro (-1)) [(decide ((x5 : Int) < (List.length x0 : Int))) = true, (0 : Int) ≤ x5 ∧ x5 < (List.length x0), AbsCalls Try.prog 79 (laws_markText_as x1) (laws_markText_ro r1), (!(((Bnd.name (List.getD x0 (Int.toNat x5) Ty.bnd.dflt)) : Str) == r1)) = false, (0 : Int) ≤ x5 ∧ x5 < (List.length x0), (((Val.kind (Bnd.value (List.getD x0 (Int.toNat x5) Ty.bnd.dflt))) : Int) != (IntKind.i64.wrap (x1 + 1))) = false, (0 : Int) ≤ x5 ∧ x5 < (List.length x0), (((Val.n (Bnd.value (List.getD x0 (Int.toNat x5) Ty.bnd.dflt))) : Int) != (IntKind.i64.wrap ((IntKind.i64.wrap (x1 + 1)) + 1))) = false, (0 : Int) ≤ x5 ∧ x5 < (List.length x0), (((Val.step (Bnd.value (List.getD x0 (Int.toNat x5) Ty.bnd.dflt))) : Int) != (IntKind.i64.wrap ((IntKind.i64.wrap ((IntKind.i64.wrap (x1 + 1)) + 1)) + 1))) = false, (0 : Int) ≤ x5 ∧ x5 < (List.length x0), AbsCalls Try.prog 79 (laws_markText_as (IntKind.i64.wrap ((IntKind.i64.wrap ((IntKind.i64.wrap ((IntKind.i64.wrap (x1 + 1)) + 1)) + 1)) + 1))) (laws_markText_ro r2), (!(((Val.text (Bnd.value (List.getD x0 (Int.toNat x5) Ty.bnd.dflt))) : Str) == r2)) = false, (0 : Int) ≤ x5 ∧ x5 < (List.length x0), AbsCalls Try.prog 82 (laws_heldValueS_as (Val.list (Bnd.value (List.getD x0 (Int.toNat x5) Ty.bnd.dflt))) (IntKind.i64.wrap ((IntKind.i64.wrap ((IntKind.i64.wrap ((IntKind.i64.wrap ((IntKind.i64.wrap (x1 + 1)) + 1)) + 1)) + 1)) + 1))) (laws_heldValueS_ro r3), (decide ((r3 : Int) < 0)) = true]) := by kernel_rfl
theorem p28_2_6 (x0 : List Bnd) (x1 : Int) (x5 : Int) (r1 : Str) (r2 : Str) (r3 : Int) (r4 : Int) : run tt (AbsCalls Try.prog) I28 3000 true (stkAt 2 I28.body) ⟨(S28_2 x0 x1 x5), [true, false, false, false, false, false, false, true], [laws_markText_ro r1, laws_markText_ro r2, laws_heldValueS_ro r3, laws_heldStringS_ro r4], []⟩ = some (.done (laws_heldBindingS_ro (-1)) [(decide ((x5 : Int) < (List.length x0 : Int))) = true, (0 : Int) ≤ x5 ∧ x5 < (List.length x0), AbsCalls Try.prog 79 (laws_markText_as x1) (laws_markText_ro r1), (!(((Bnd.name (List.getD x0 (Int.toNat x5) Ty.bnd.dflt)) : Str) == r1)) = false, (0 : Int) ≤ x5 ∧ x5 < (List.length x0), (((Val.kind (Bnd.value (List.getD x0 (Int.toNat x5) Ty.bnd.dflt))) : Int) != (IntKind.i64.wrap (x1 + 1))) = false, (0 : Int) ≤ x5 ∧ x5 < (List.length x0), (((Val.n (Bnd.value (List.getD x0 (Int.toNat x5) Ty.bnd.dflt))) : Int) != (IntKind.i64.wrap ((IntKind.i64.wrap (x1 + 1)) + 1))) = false, (0 : Int) ≤ x5 ∧ x5 < (List.length x0), (((Val.step (Bnd.value (List.getD x0 (Int.toNat x5) Ty.bnd.dflt))) : Int) != (IntKind.i64.wrap ((IntKind.i64.wrap ((IntKind.i64.wrap (x1 + 1)) + 1)) + 1))) = false, (0 : Int) ≤ x5 ∧ x5 < (List.length x0), AbsCalls Try.prog 79 (laws_markText_as (IntKind.i64.wrap ((IntKind.i64.wrap ((IntKind.i64.wrap ((IntKind.i64.wrap (x1 + 1)) + 1)) + 1)) + 1))) (laws_markText_ro r2), (!(((Val.text (Bnd.value (List.getD x0 (Int.toNat x5) Ty.bnd.dflt))) : Str) == r2)) = false, (0 : Int) ≤ x5 ∧ x5 < (List.length x0), AbsCalls Try.prog 82 (laws_heldValueS_as (Val.list (Bnd.value (List.getD x0 (Int.toNat x5) Ty.bnd.dflt))) (IntKind.i64.wrap ((IntKind.i64.wrap ((IntKind.i64.wrap ((IntKind.i64.wrap ((IntKind.i64.wrap (x1 + 1)) + 1)) + 1)) + 1)) + 1))) (laws_heldValueS_ro r3), (decide ((r3 : Int) < 0)) = false, (0 : Int) ≤ x5 ∧ x5 < (List.length x0), AbsCalls Try.prog 83 (laws_heldStringS_as (Val.columns (Bnd.value (List.getD x0 (Int.toNat x5) Ty.bnd.dflt))) r3) (laws_heldStringS_ro r4), (decide ((r4 : Int) < 0)) = true]) := by kernel_rfl
theorem p28_2_7 (x0 : List Bnd) (x1 : Int) (x5 : Int) (r1 : Str) (r2 : Str) (r3 : Int) (r4 : Int) (r5 : Int) : run tt (AbsCalls Try.prog) I28 3000 true (stkAt 2 I28.body) ⟨(S28_2 x0 x1 x5), [true, false, false, false, false, false, false, false, true], [laws_markText_ro r1, laws_markText_ro r2, laws_heldValueS_ro r3, laws_heldStringS_ro r4, laws_heldRowS_ro r5], []⟩ = some (.done (laws_heldBindingS_ro (-1)) [(decide ((x5 : Int) < (List.length x0 : Int))) = true, (0 : Int) ≤ x5 ∧ x5 < (List.length x0), AbsCalls Try.prog 79 (laws_markText_as x1) (laws_markText_ro r1), (!(((Bnd.name (List.getD x0 (Int.toNat x5) Ty.bnd.dflt)) : Str) == r1)) = false, (0 : Int) ≤ x5 ∧ x5 < (List.length x0), (((Val.kind (Bnd.value (List.getD x0 (Int.toNat x5) Ty.bnd.dflt))) : Int) != (IntKind.i64.wrap (x1 + 1))) = false, (0 : Int) ≤ x5 ∧ x5 < (List.length x0), (((Val.n (Bnd.value (List.getD x0 (Int.toNat x5) Ty.bnd.dflt))) : Int) != (IntKind.i64.wrap ((IntKind.i64.wrap (x1 + 1)) + 1))) = false, (0 : Int) ≤ x5 ∧ x5 < (List.length x0), (((Val.step (Bnd.value (List.getD x0 (Int.toNat x5) Ty.bnd.dflt))) : Int) != (IntKind.i64.wrap ((IntKind.i64.wrap ((IntKind.i64.wrap (x1 + 1)) + 1)) + 1))) = false, (0 : Int) ≤ x5 ∧ x5 < (List.length x0), AbsCalls Try.prog 79 (laws_markText_as (IntKind.i64.wrap ((IntKind.i64.wrap ((IntKind.i64.wrap ((IntKind.i64.wrap (x1 + 1)) + 1)) + 1)) + 1))) (laws_markText_ro r2), (!(((Val.text (Bnd.value (List.getD x0 (Int.toNat x5) Ty.bnd.dflt))) : Str) == r2)) = false, (0 : Int) ≤ x5 ∧ x5 < (List.length x0), AbsCalls Try.prog 82 (laws_heldValueS_as (Val.list (Bnd.value (List.getD x0 (Int.toNat x5) Ty.bnd.dflt))) (IntKind.i64.wrap ((IntKind.i64.wrap ((IntKind.i64.wrap ((IntKind.i64.wrap ((IntKind.i64.wrap (x1 + 1)) + 1)) + 1)) + 1)) + 1))) (laws_heldValueS_ro r3), (decide ((r3 : Int) < 0)) = false, (0 : Int) ≤ x5 ∧ x5 < (List.length x0), AbsCalls Try.prog 83 (laws_heldStringS_as (Val.columns (Bnd.value (List.getD x0 (Int.toNat x5) Ty.bnd.dflt))) r3) (laws_heldStringS_ro r4), (decide ((r4 : Int) < 0)) = false, (0 : Int) ≤ x5 ∧ x5 < (List.length x0), AbsCalls Try.prog 84 (laws_heldRowS_as (Val.rows (Bnd.value (List.getD x0 (Int.toNat x5) Ty.bnd.dflt))) r4) (laws_heldRowS_ro r5), (decide ((r5 : Int) < 0)) = true]) := by kernel_rfl
theorem p28_2_8 (x0 : List Bnd) (x1 : Int) (x5 : Int) (r1 : Str) (r2 : Str) (r3 : Int) (r4 : Int) (r5 : Int) : run tt (AbsCalls Try.prog) I28 3000 true (stkAt 2 I28.body) ⟨(S28_2 x0 x1 x5), [true, false, false, false, false, false, false, false, false], [laws_markText_ro r1, laws_markText_ro r2, laws_heldValueS_ro r3, laws_heldStringS_ro r4, laws_heldRowS_ro r5], []⟩ = some (.stop (stkAt 2 I28.body) (S28_2 x0 r5 (IntKind.i64.wrap (x5 + 1))) [(decide ((x5 : Int) < (List.length x0 : Int))) = true, (0 : Int) ≤ x5 ∧ x5 < (List.length x0), AbsCalls Try.prog 79 (laws_markText_as x1) (laws_markText_ro r1), (!(((Bnd.name (List.getD x0 (Int.toNat x5) Ty.bnd.dflt)) : Str) == r1)) = false, (0 : Int) ≤ x5 ∧ x5 < (List.length x0), (((Val.kind (Bnd.value (List.getD x0 (Int.toNat x5) Ty.bnd.dflt))) : Int) != (IntKind.i64.wrap (x1 + 1))) = false, (0 : Int) ≤ x5 ∧ x5 < (List.length x0), (((Val.n (Bnd.value (List.getD x0 (Int.toNat x5) Ty.bnd.dflt))) : Int) != (IntKind.i64.wrap ((IntKind.i64.wrap (x1 + 1)) + 1))) = false, (0 : Int) ≤ x5 ∧ x5 < (List.length x0), (((Val.step (Bnd.value (List.getD x0 (Int.toNat x5) Ty.bnd.dflt))) : Int) != (IntKind.i64.wrap ((IntKind.i64.wrap ((IntKind.i64.wrap (x1 + 1)) + 1)) + 1))) = false, (0 : Int) ≤ x5 ∧ x5 < (List.length x0), AbsCalls Try.prog 79 (laws_markText_as (IntKind.i64.wrap ((IntKind.i64.wrap ((IntKind.i64.wrap ((IntKind.i64.wrap (x1 + 1)) + 1)) + 1)) + 1))) (laws_markText_ro r2), (!(((Val.text (Bnd.value (List.getD x0 (Int.toNat x5) Ty.bnd.dflt))) : Str) == r2)) = false, (0 : Int) ≤ x5 ∧ x5 < (List.length x0), AbsCalls Try.prog 82 (laws_heldValueS_as (Val.list (Bnd.value (List.getD x0 (Int.toNat x5) Ty.bnd.dflt))) (IntKind.i64.wrap ((IntKind.i64.wrap ((IntKind.i64.wrap ((IntKind.i64.wrap ((IntKind.i64.wrap (x1 + 1)) + 1)) + 1)) + 1)) + 1))) (laws_heldValueS_ro r3), (decide ((r3 : Int) < 0)) = false, (0 : Int) ≤ x5 ∧ x5 < (List.length x0), AbsCalls Try.prog 83 (laws_heldStringS_as (Val.columns (Bnd.value (List.getD x0 (Int.toNat x5) Ty.bnd.dflt))) r3) (laws_heldStringS_ro r4), (decide ((r4 : Int) < 0)) = false, (0 : Int) ≤ x5 ∧ x5 < (List.length x0), AbsCalls Try.prog 84 (laws_heldRowS_as (Val.rows (Bnd.value (List.getD x0 (Int.toNat x5) Ty.bnd.dflt))) r4) (laws_heldRowS_ro r5), (decide ((r5 : Int) < 0)) = false]) := by kernel_rfl
theorem p28_2_9 (x0 : List Bnd) (x1 : Int) (x5 : Int) : run tt (AbsCalls Try.prog) I28 3000 true (stkAt 2 I28.body) ⟨(S28_2 x0 x1 x5), [false], [], []⟩ = some (.done (laws_heldBindingS_ro x1) [(decide ((x5 : Int) < (List.length x0 : Int))) = false]) := by kernel_rfl
theorem p28_e_10 (a0 : List Bnd) (a1 : Int) : run tt (AbsCalls Try.prog) I28 3000 false [.code I28.body] ⟨(entry 0 (laws_heldBindingS_as a0 a1)), [], [], []⟩ = some (.stop (stkAt 2 I28.body) (S28_2 a0 a1 0) []) := by kernel_rfl
theorem c28_2 {N : Nat} : ∀ n x0 x1 x5 r, laws_heldBindingS_b2 N n x0 x1 x5 = some r → Reach Try.prog Try.f28 I28 (stkAt 2 I28.body) (S28_2 x0 x1 x5) (laws_heldBindingS_ro r) := by
  intro n
  induction n with
  | zero => intro x0 x1 x5 r h; have h' : (none : Option (Int)) = some r := h; cases h'
  | succ n ih =>
    intro x0 x1 x5 r h
    rw [laws_heldBindingS_b2] at h
    rcases cond_inv h with ⟨h0, h⟩ | ⟨h0, h⟩
    · obtain ⟨h1, h⟩ := ite_inv h
      obtain ⟨r1, h2, h⟩ := bind_inv h
      rcases cond_inv h with ⟨h3, h⟩ | ⟨h3, h⟩
      · obtain rfl := Option.some.inj h
        exact Reach.done ttok mix fk28 (p28_2_0 x0 x1 x5 r1) (obs_cons h0 (obs_cons h1 (obs_cons (laws_markText_ok h2) (obs_cons h3 obs_nil))))
      · rcases cond_inv h with ⟨h5, h⟩ | ⟨h5, h⟩
        · obtain rfl := Option.some.inj h
          exact Reach.done ttok mix fk28 (p28_2_1 x0 x1 x5 r1) (obs_cons h0 (obs_cons h1 (obs_cons (laws_markText_ok h2) (obs_cons h3 (obs_cons h1 (obs_cons h5 obs_nil))))))
        · rcases cond_inv h with ⟨h7, h⟩ | ⟨h7, h⟩
          · obtain rfl := Option.some.inj h
            exact Reach.done ttok mix fk28 (p28_2_2 x0 x1 x5 r1) (obs_cons h0 (obs_cons h1 (obs_cons (laws_markText_ok h2) (obs_cons h3 (obs_cons h1 (obs_cons h5 (obs_cons h1 (obs_cons h7 obs_nil))))))))
          · rcases cond_inv h with ⟨h9, h⟩ | ⟨h9, h⟩
            · obtain rfl := Option.some.inj h
              exact Reach.done ttok mix fk28 (p28_2_3 x0 x1 x5 r1) (obs_cons h0 (obs_cons h1 (obs_cons (laws_markText_ok h2) (obs_cons h3 (obs_cons h1 (obs_cons h5 (obs_cons h1 (obs_cons h7 (obs_cons h1 (obs_cons h9 obs_nil))))))))))
            · obtain ⟨r2, h11, h⟩ := bind_inv h
              rcases cond_inv h with ⟨h12, h⟩ | ⟨h12, h⟩
              · obtain rfl := Option.some.inj h
                exact Reach.done ttok mix fk28 (p28_2_4 x0 x1 x5 r1 r2) (obs_cons h0 (obs_cons h1 (obs_cons (laws_markText_ok h2) (obs_cons h3 (obs_cons h1 (obs_cons h5 (obs_cons h1 (obs_cons h7 (obs_cons h1 (obs_cons h9 (obs_cons h1 (obs_cons (laws_markText_ok h11) (obs_cons h12 obs_nil)))))))))))))
              · obtain ⟨r3, h14, h⟩ := bind_inv h
                rcases cond_inv h with ⟨h15, h⟩ | ⟨h15, h⟩
                · obtain rfl := Option.some.inj h
                  exact Reach.done ttok mix fk28 (p28_2_5 x0 x1 x5 r1 r2 r3) (obs_cons h0 (obs_cons h1 (obs_cons (laws_markText_ok h2) (obs_cons h3 (obs_cons h1 (obs_cons h5 (obs_cons h1 (obs_cons h7 (obs_cons h1 (obs_cons h9 (obs_cons h1 (obs_cons (laws_markText_ok h11) (obs_cons h12 (obs_cons h1 (obs_cons (laws_heldValueS_ok h14) (obs_cons h15 obs_nil))))))))))))))))
                · obtain ⟨r4, h17, h⟩ := bind_inv h
                  rcases cond_inv h with ⟨h18, h⟩ | ⟨h18, h⟩
                  · obtain rfl := Option.some.inj h
                    exact Reach.done ttok mix fk28 (p28_2_6 x0 x1 x5 r1 r2 r3 r4) (obs_cons h0 (obs_cons h1 (obs_cons (laws_markText_ok h2) (obs_cons h3 (obs_cons h1 (obs_cons h5 (obs_cons h1 (obs_cons h7 (obs_cons h1 (obs_cons h9 (obs_cons h1 (obs_cons (laws_markText_ok h11) (obs_cons h12 (obs_cons h1 (obs_cons (laws_heldValueS_ok h14) (obs_cons h15 (obs_cons h1 (obs_cons (laws_heldStringS_ok h17) (obs_cons h18 obs_nil)))))))))))))))))))
                  · obtain ⟨r5, h20, h⟩ := bind_inv h
                    rcases cond_inv h with ⟨h21, h⟩ | ⟨h21, h⟩
                    · obtain rfl := Option.some.inj h
                      exact Reach.done ttok mix fk28 (p28_2_7 x0 x1 x5 r1 r2 r3 r4 r5) (obs_cons h0 (obs_cons h1 (obs_cons (laws_markText_ok h2) (obs_cons h3 (obs_cons h1 (obs_cons h5 (obs_cons h1 (obs_cons h7 (obs_cons h1 (obs_cons h9 (obs_cons h1 (obs_cons (laws_markText_ok h11) (obs_cons h12 (obs_cons h1 (obs_cons (laws_heldValueS_ok h14) (obs_cons h15 (obs_cons h1 (obs_cons (laws_heldStringS_ok h17) (obs_cons h18 (obs_cons h1 (obs_cons (laws_heldRowS_ok h20) (obs_cons h21 obs_nil))))))))))))))))))))))
                    · exact Reach.stop ttok mix fk28 (p28_2_8 x0 x1 x5 r1 r2 r3 r4 r5) (obs_cons h0 (obs_cons h1 (obs_cons (laws_markText_ok h2) (obs_cons h3 (obs_cons h1 (obs_cons h5 (obs_cons h1 (obs_cons h7 (obs_cons h1 (obs_cons h9 (obs_cons h1 (obs_cons (laws_markText_ok h11) (obs_cons h12 (obs_cons h1 (obs_cons (laws_heldValueS_ok h14) (obs_cons h15 (obs_cons h1 (obs_cons (laws_heldStringS_ok h17) (obs_cons h18 (obs_cons h1 (obs_cons (laws_heldRowS_ok h20) (obs_cons h21 obs_nil)))))))))))))))))))))) (ih _ _ _ _ h)
    · obtain rfl := Option.some.inj h
      exact Reach.done ttok mix fk28 (p28_2_9 x0 x1 x5) (obs_cons h0 obs_nil)
theorem c28_e {N : Nat} : ∀ a0 a1 r, laws_heldBindingS N a0 a1 = some r → Reach Try.prog Try.f28 I28 [.code I28.body] (entry 0 (laws_heldBindingS_as a0 a1)) (laws_heldBindingS_ro r) := by
  intro a0 a1 r h
  unfold laws_heldBindingS at h
  exact Reach.stop ttok mix fk28 (p28_e_10 a0 a1) obs_nil (c28_2   _ _ _ _ _ h)
theorem laws_heldBindingS_ok {N : Nat} {a0 : List Bnd} {a1 : Int} {r : Int} (h : laws_heldBindingS N  a0 a1 = some r) : AbsCalls Try.prog 28 (laws_heldBindingS_as a0 a1) (laws_heldBindingS_ro r) :=
 AbsCalls.of_reach fk28 rfl rfl (Nat.le_of_ble_eq_true rfl) (c28_e a0 a1 r h)
noncomputable def I4 : Info := { body := (Try.f4.body).getD .skip, nt := 100, results := [.tmp 6], keep := [0, 2, 4, 10, 12, 14, 16, 18, 20, 22, 24, 26, 28, 30, 36, 46, 56, 92, 102, 112, 140, 156, 162, 182, 192, 198, 11, 21], live := [], modes := [(21, [(0, .ref, false), (2, .ref, false)]), (22, [(0, .ref, false), (2, .ref, false)]), (23, [(2, .take, false)]), (26, [(0, .ref, false), (2, .ref, false)]), (34, [(0, .take, false)])], ext := [], lnt := [], casts := [], fcast := [] }
theorem fk4 : FnOk Try.prog 4 Try.f4 I4 := ⟨Try.func4, by kernel_rfl, by kernel_rfl, by kernel_rfl, by kernel_rfl⟩
theorem p4_e_0 (a0 : List Bnd) (a1 : Str) (a2 : Val) : run tt (AbsCalls Try.prog) I4 3000 false [.code I4.body] ⟨(entry 0 (laws_FnExactBind_as a0 a1 a2)), [true], [], []⟩ = some (.done (laws_FnExactBind_ro true) [(decide (((List.length a1 : Int) : Int) > 1048576)) = true]) := by kernel_rfl
theorem p4_e_1 (a0 : List Bnd) (a1 : Str) (a2 : Val) (r1 : Int) : run tt (AbsCalls Try.prog) I4 3000 false [.code I4.body] ⟨(entry 0 (laws_FnExactBind_as a0 a1 a2)), [false, true], [laws_szBindingS_ro r1], []⟩ = some (.done (laws_FnExactBind_ro true) [(decide (((List.length a1 : Int) : Int) > 1048576)) = false, AbsCalls Try.prog 15 (laws_szBindingS_as a0 1048576) (laws_szBindingS_ro r1), (decide ((r1 : Int) < 0)) = true]) := by kernel_rfl
theorem p4_e_2 (a0 : List Bnd) (a1 : Str) (a2 : Val) (r1 : Int) (r2 : Int) : run tt (AbsCalls Try.prog) I4 3000 false [.code I4.body] ⟨(entry 0 (laws_FnExactBind_as a0 a1 a2)), [false, false, true], [laws_szBindingS_ro r1, laws_szValue_ro r2], []⟩ = some (.done (laws_FnExactBind_ro true) [(decide (((List.length a1 : Int) : Int) > 1048576)) = false, AbsCalls Try.prog 15 (laws_szBindingS_as a0 1048576) (laws_szBindingS_ro r1), (decide ((r1 : Int) < 0)) = false, AbsCalls Try.prog 24 (laws_szValue_as a2 r1) (laws_szValue_ro r2), (decide ((r2 : Int) < 0)) = true]) := by kernel_rfl
theorem p4_e_3 (a0 : List Bnd) (a1 : Str) (a2 : Val) (r1 : Int) (r2 : Int) (r3 : (List Bnd)) (r4 : Val) (r5 : (List Bnd)) (r6 : (List Bnd)) (r7 : Val) (r8 : (List Bnd)) (r9 : Bool) : run tt (AbsCalls Try.prog) I4 3000 false [.code I4.body] ⟨(entry 0 (laws_FnExactBind_as a0 a1 a2)), [false, false, false, true], [laws_szBindingS_ro r1, laws_szValue_ro r2, laws_toBindingS_ro r3, laws_toValue_ro r4, spec_Bind_ro r5, laws_toBindingS_ro r6, laws_toValue_ro r7, impl_Bind_ro r8, laws_eqBindingS_ro r9], []⟩ = some (.done (laws_FnExactBind_ro false) [(decide (((List.length a1 : Int) : Int) > 1048576)) = false, AbsCalls Try.prog 15 (laws_szBindingS_as a0 1048576) (laws_szBindingS_ro r1), (decide ((r1 : Int) < 0)) = false, AbsCalls Try.prog 24 (laws_szValue_as a2 r1) (laws_szValue_ro r2), (decide ((r2 : Int) < 0)) = false, AbsCalls Try.prog 17 (laws_toBindingS_as a0) (laws_toBindingS_ro r3), AbsCalls Try.prog 26 (laws_toValue_as a2) (laws_toValue_ro r4), AbsCalls Try.prog 25 (spec_Bind_as r3 a1 r4) (spec_Bind_ro r5), AbsCalls Try.prog 17 (laws_toBindingS_as a0) (laws_toBindingS_ro r6), AbsCalls Try.prog 26 (laws_toValue_as a2) (laws_toValue_ro r7), AbsCalls Try.prog 27 (impl_Bind_as r6 a1 r7) (impl_Bind_ro r8), AbsCalls Try.prog 20 (laws_eqBindingS_as r8 r5) (laws_eqBindingS_ro r9), (!r9) = true]) := by kernel_rfl
theorem p4_e_4 (a0 : List Bnd) (a1 : Str) (a2 : Val) (r1 : Int) (r2 : Int) (r3 : (List Bnd)) (r4 : Val) (r5 : (List Bnd)) (r6 : (List Bnd)) (r7 : Val) (r8 : (List Bnd)) (r9 : Bool) (r10 : (List Bnd)) (r11 : Bool) : run tt (AbsCalls Try.prog) I4 3000 false [.code I4.body] ⟨(entry 0 (laws_FnExactBind_as a0 a1 a2)), [false, false, false, false, true], [laws_szBindingS_ro r1, laws_szValue_ro r2, laws_toBindingS_ro r3, laws_toValue_ro r4, spec_Bind_ro r5, laws_toBindingS_ro r6, laws_toValue_ro r7, impl_Bind_ro r8, laws_eqBindingS_ro r9, laws_toBindingS_ro r10, laws_eqBindingS_ro r11], []⟩ = some (.done (laws_FnExactBind_ro false) [(decide (((List.length a1 : Int) : Int) > 1048576)) = false, AbsCalls Try.prog 15 (laws_szBindingS_as a0 1048576) (laws_szBindingS_ro r1), (decide ((r1 : Int) < 0)) = false, AbsCalls Try.prog 24 (laws_szValue_as a2 r1) (laws_szValue_ro r2), (decide ((r2 : Int) < 0)) = false, AbsCalls Try.prog 17 (laws_toBindingS_as a0) (laws_toBindingS_ro r3), AbsCalls Try.prog 26 (laws_toValue_as a2) (laws_toValue_ro r4), AbsCalls Try.prog 25 (spec_Bind_as r3 a1 r4) (spec_Bind_ro r5), AbsCalls Try.prog 17 (laws_toBindingS_as a0) (laws_toBindingS_ro r6), AbsCalls Try.prog 26 (laws_toValue_as a2) (laws_toValue_ro r7), AbsCalls Try.prog 27 (impl_Bind_as r6 a1 r7) (impl_Bind_ro r8), AbsCalls Try.prog 20 (laws_eqBindingS_as r8 r5) (laws_eqBindingS_ro r9), (!r9) = false, AbsCalls Try.prog 17 (laws_toBindingS_as a0) (laws_toBindingS_ro r10), AbsCalls Try.prog 20 (laws_eqBindingS_as r6 r10) (laws_eqBindingS_ro r11), (!r11) = true]) := by kernel_rfl
theorem p4_e_5 (a0 : List Bnd) (a1 : Str) (a2 : Val) (r1 : Int) (r2 : Int) (r3 : (List Bnd)) (r4 : Val) (r5 : (List Bnd)) (r6 : (List Bnd)) (r7 : Val) (r8 : (List Bnd)) (r9 : Bool) (r10 : (List Bnd)) (r11 : Bool) (r12 : Val) (r13 : Bool) : run tt (AbsCalls Try.prog) I4 3000 false [.code I4.body] ⟨(entry 0 (laws_FnExactBind_as a0 a1 a2)), [false, false, false, false, false, true], [laws_szBindingS_ro r1, laws_szValue_ro r2, laws_toBindingS_ro r3, laws_toValue_ro r4, spec_Bind_ro r5, laws_toBindingS_ro r6, laws_toValue_ro r7, impl_Bind_ro r8, laws_eqBindingS_ro r9, laws_toBindingS_ro r10, laws_eqBindingS_ro r11, laws_toValue_ro r12, laws_eqValue_ro r13], []⟩ = some (.done (laws_FnExactBind_ro false) [(decide (((List.length a1 : Int) : Int) > 1048576)) = false, AbsCalls Try.prog 15 (laws_szBindingS_as a0 1048576) (laws_szBindingS_ro r1), (decide ((r1 : Int) < 0)) = false, AbsCalls Try.prog 24 (laws_szValue_as a2 r1) (laws_szValue_ro r2), (decide ((r2 : Int) < 0)) = false, AbsCalls Try.prog 17 (laws_toBindingS_as a0) (laws_toBindingS_ro r3), AbsCalls Try.prog 26 (laws_toValue_as a2) (laws_toValue_ro r4), AbsCalls Try.prog 25 (spec_Bind_as r3 a1 r4) (spec_Bind_ro r5), AbsCalls Try.prog 17 (laws_toBindingS_as a0) (laws_toBindingS_ro r6), AbsCalls Try.prog 26 (laws_toValue_as a2) (laws_toValue_ro r7), AbsCalls Try.prog 27 (impl_Bind_as r6 a1 r7) (impl_Bind_ro r8), AbsCalls Try.prog 20 (laws_eqBindingS_as r8 r5) (laws_eqBindingS_ro r9), (!r9) = false, AbsCalls Try.prog 17 (laws_toBindingS_as a0) (laws_toBindingS_ro r10), AbsCalls Try.prog 20 (laws_eqBindingS_as r6 r10) (laws_eqBindingS_ro r11), (!r11) = false, AbsCalls Try.prog 26 (laws_toValue_as a2) (laws_toValue_ro r12), AbsCalls Try.prog 19 (laws_eqValue_as r7 r12) (laws_eqValue_ro r13), (!r13) = true]) := by kernel_rfl
theorem p4_e_6 (a0 : List Bnd) (a1 : Str) (a2 : Val) (r1 : Int) (r2 : Int) (r3 : (List Bnd)) (r4 : Val) (r5 : (List Bnd)) (r6 : (List Bnd)) (r7 : Val) (r8 : (List Bnd)) (r9 : Bool) (r10 : (List Bnd)) (r11 : Bool) (r12 : Val) (r13 : Bool) (r14 : Int × (List Bnd)) (r15 : Int × (List Val) × (List Str) × (List Rowd)) : run tt (AbsCalls Try.prog) I4 3000 false [.code I4.body] ⟨(entry 0 (laws_FnExactBind_as a0 a1 a2)), [false, false, false, false, false, false, true, true], [laws_szBindingS_ro r1, laws_szValue_ro r2, laws_toBindingS_ro r3, laws_toValue_ro r4, spec_Bind_ro r5, laws_toBindingS_ro r6, laws_toValue_ro r7, impl_Bind_ro r8, laws_eqBindingS_ro r9, laws_toBindingS_ro r10, laws_eqBindingS_ro r11, laws_toValue_ro r12, laws_eqValue_ro r13, laws_markBindingS_ro r14, laws_markValue_ro r15], []⟩ = some (.done (laws_FnExactBind_ro false) [(decide (((List.length a1 : Int) : Int) > 1048576)) = false, AbsCalls Try.prog 15 (laws_szBindingS_as a0 1048576) (laws_szBindingS_ro r1), (decide ((r1 : Int) < 0)) = false, AbsCalls Try.prog 24 (laws_szValue_as a2 r1) (laws_szValue_ro r2), (decide ((r2 : Int) < 0)) = false, AbsCalls Try.prog 17 (laws_toBindingS_as a0) (laws_toBindingS_ro r3), AbsCalls Try.prog 26 (laws_toValue_as a2) (laws_toValue_ro r4), AbsCalls Try.prog 25 (spec_Bind_as r3 a1 r4) (spec_Bind_ro r5), AbsCalls Try.prog 17 (laws_toBindingS_as a0) (laws_toBindingS_ro r6), AbsCalls Try.prog 26 (laws_toValue_as a2) (laws_toValue_ro r7), AbsCalls Try.prog 27 (impl_Bind_as r6 a1 r7) (impl_Bind_ro r8), AbsCalls Try.prog 20 (laws_eqBindingS_as r8 r5) (laws_eqBindingS_ro r9), (!r9) = false, AbsCalls Try.prog 17 (laws_toBindingS_as a0) (laws_toBindingS_ro r10), AbsCalls Try.prog 20 (laws_eqBindingS_as r6 r10) (laws_eqBindingS_ro r11), (!r11) = false, AbsCalls Try.prog 26 (laws_toValue_as a2) (laws_toValue_ro r12), AbsCalls Try.prog 19 (laws_eqValue_as r7 r12) (laws_eqValue_ro r13), (!r13) = false, AbsCalls Try.prog 21 (laws_markBindingS_as r6 1) (laws_markBindingS_ro r14), List.length r14.2 = List.length r6, AbsCalls Try.prog 22 (laws_markValue_as r7 r14.1) (laws_markValue_ro r15), List.length r15.2.1 = List.length (Val.list r7), List.length r15.2.2.1 = List.length (Val.columns r7), List.length r15.2.2.2 = List.length (Val.rows r7), (decide ((r15.1 : Int) < 0)) = true, true = true]) := by kernel_rfl
theorem p4_e_7 (a0 : List Bnd) (a1 : Str) (a2 : Val) (r1 : Int) (r2 : Int) (r3 : (List Bnd)) (r4 : Val) (r5 : (List Bnd)) (r6 : (List Bnd)) (r7 : Val) (r8 : (List Bnd)) (r9 : Bool) (r10 : (List Bnd)) (r11 : Bool) (r12 : Val) (r13 : Bool) (r14 : Int × (List Bnd)) (r15 : Int × (List Val) × (List Str) × (List Rowd)) (r16 : Bool) : run tt (AbsCalls Try.prog) I4 3000 false [.code I4.body] ⟨(entry 0 (laws_FnExactBind_as a0 a1 a2)), [false, false, false, false, false, false, false, true], [laws_szBindingS_ro r1, laws_szValue_ro r2, laws_toBindingS_ro r3, laws_toValue_ro r4, spec_Bind_ro r5, laws_toBindingS_ro r6, laws_toValue_ro r7, impl_Bind_ro r8, laws_eqBindingS_ro r9, laws_toBindingS_ro r10, laws_eqBindingS_ro r11, laws_toValue_ro r12, laws_eqValue_ro r13, laws_markBindingS_ro r14, laws_markValue_ro r15, laws_eqBindingS_ro r16], []⟩ = some (.done (laws_FnExactBind_ro false) [(decide (((List.length a1 : Int) : Int) > 1048576)) = false, AbsCalls Try.prog 15 (laws_szBindingS_as a0 1048576) (laws_szBindingS_ro r1), (decide ((r1 : Int) < 0)) = false, AbsCalls Try.prog 24 (laws_szValue_as a2 r1) (laws_szValue_ro r2), (decide ((r2 : Int) < 0)) = false, AbsCalls Try.prog 17 (laws_toBindingS_as a0) (laws_toBindingS_ro r3), AbsCalls Try.prog 26 (laws_toValue_as a2) (laws_toValue_ro r4), AbsCalls Try.prog 25 (spec_Bind_as r3 a1 r4) (spec_Bind_ro r5), AbsCalls Try.prog 17 (laws_toBindingS_as a0) (laws_toBindingS_ro r6), AbsCalls Try.prog 26 (laws_toValue_as a2) (laws_toValue_ro r7), AbsCalls Try.prog 27 (impl_Bind_as r6 a1 r7) (impl_Bind_ro r8), AbsCalls Try.prog 20 (laws_eqBindingS_as r8 r5) (laws_eqBindingS_ro r9), (!r9) = false, AbsCalls Try.prog 17 (laws_toBindingS_as a0) (laws_toBindingS_ro r10), AbsCalls Try.prog 20 (laws_eqBindingS_as r6 r10) (laws_eqBindingS_ro r11), (!r11) = false, AbsCalls Try.prog 26 (laws_toValue_as a2) (laws_toValue_ro r12), AbsCalls Try.prog 19 (laws_eqValue_as r7 r12) (laws_eqValue_ro r13), (!r13) = false, AbsCalls Try.prog 21 (laws_markBindingS_as r6 1) (laws_markBindingS_ro r14), List.length r14.2 = List.length r6, AbsCalls Try.prog 22 (laws_markValue_as r7 r14.1) (laws_markValue_ro r15), List.length r15.2.1 = List.length (Val.list r7), List.length r15.2.2.1 = List.length (Val.columns r7), List.length r15.2.2.2 = List.length (Val.rows r7), (decide ((r15.1 : Int) < 0)) = false, AbsCalls Try.prog 20 (laws_eqBindingS_as r8 r5) (laws_eqBindingS_ro r16), (!r16) = true]) := by kernel_rfl
theorem p4_e_8 (a0 : List Bnd) (a1 : Str) (a2 : Val) (r1 : Int) (r2 : Int) (r3 : (List Bnd)) (r4 : Val) (r5 : (List Bnd)) (r6 : (List Bnd)) (r7 : Val) (r8 : (List Bnd)) (r9 : Bool) (r10 : (List Bnd)) (r11 : Bool) (r12 : Val) (r13 : Bool) (r14 : Int × (List Bnd)) (r15 : Int × (List Val) × (List Str) × (List Rowd)) (r16 : Bool) (r17 : Int × (List Bnd)) (r18 : Int) : run tt (AbsCalls Try.prog) I4 3000 false [.code I4.body] ⟨(entry 0 (laws_FnExactBind_as a0 a1 a2)), [false, false, false, false, false, false, false, false, true], [laws_szBindingS_ro r1, laws_szValue_ro r2, laws_toBindingS_ro r3, laws_toValue_ro r4, spec_Bind_ro r5, laws_toBindingS_ro r6, laws_toValue_ro r7, impl_Bind_ro r8, laws_eqBindingS_ro r9, laws_toBindingS_ro r10, laws_eqBindingS_ro r11, laws_toValue_ro r12, laws_eqValue_ro r13, laws_markBindingS_ro r14, laws_markValue_ro r15, laws_eqBindingS_ro r16, laws_markBindingS_ro r17, laws_heldBindingS_ro r18], []⟩ = some (.done (laws_FnExactBind_ro false) [(decide (((List.length a1 : Int) : Int) > 1048576)) = false, AbsCalls Try.prog 15 (laws_szBindingS_as a0 1048576) (laws_szBindingS_ro r1), (decide ((r1 : Int) < 0)) = false, AbsCalls Try.prog 24 (laws_szValue_as a2 r1) (laws_szValue_ro r2), (decide ((r2 : Int) < 0)) = false, AbsCalls Try.prog 17 (laws_toBindingS_as a0) (laws_toBindingS_ro r3), AbsCalls Try.prog 26 (laws_toValue_as a2) (laws_toValue_ro r4), AbsCalls Try.prog 25 (spec_Bind_as r3 a1 r4) (spec_Bind_ro r5), AbsCalls Try.prog 17 (laws_toBindingS_as a0) (laws_toBindingS_ro r6), AbsCalls Try.prog 26 (laws_toValue_as a2) (laws_toValue_ro r7), AbsCalls Try.prog 27 (impl_Bind_as r6 a1 r7) (impl_Bind_ro r8), AbsCalls Try.prog 20 (laws_eqBindingS_as r8 r5) (laws_eqBindingS_ro r9), (!r9) = false, AbsCalls Try.prog 17 (laws_toBindingS_as a0) (laws_toBindingS_ro r10), AbsCalls Try.prog 20 (laws_eqBindingS_as r6 r10) (laws_eqBindingS_ro r11), (!r11) = false, AbsCalls Try.prog 26 (laws_toValue_as a2) (laws_toValue_ro r12), AbsCalls Try.prog 19 (laws_eqValue_as r7 r12) (laws_eqValue_ro r13), (!r13) = false, AbsCalls Try.prog 21 (laws_markBindingS_as r6 1) (laws_markBindingS_ro r14), List.length r14.2 = List.length r6, AbsCalls Try.prog 22 (laws_markValue_as r7 r14.1) (laws_markValue_ro r15), List.length r15.2.1 = List.length (Val.list r7), List.length r15.2.2.1 = List.length (Val.columns r7), List.length r15.2.2.2 = List.length (Val.rows r7), (decide ((r15.1 : Int) < 0)) = false, AbsCalls Try.prog 20 (laws_eqBindingS_as r8 r5) (laws_eqBindingS_ro r16), (!r16) = false, AbsCalls Try.prog 21 (laws_markBindingS_as r8 1) (laws_markBindingS_ro r17), List.length r17.2 = List.length r8, AbsCalls Try.prog 28 (laws_heldBindingS_as r17.2 1) (laws_heldBindingS_ro r18), (decide ((r18 : Int) < 0)) = true]) := by kernel_rfl
theorem p4_e_9 (a0 : List Bnd) (a1 : Str) (a2 : Val) (r1 : Int) (r2 : Int) (r3 : (List Bnd)) (r4 : Val) (r5 : (List Bnd)) (r6 : (List Bnd)) (r7 : Val) (r8 : (List Bnd)) (r9 : Bool) (r10 : (List Bnd)) (r11 : Bool) (r12 : Val) (r13 : Bool) (r14 : Int × (List Bnd)) (r15 : Int × (List Val) × (List Str) × (List Rowd)) (r16 : Bool) (r17 : Int × (List Bnd)) (r18 : Int) : run tt (AbsCalls Try.prog) I4 3000 false [.code I4.body] ⟨(entry 0 (laws_FnExactBind_as a0 a1 a2)), [false, false, false, false, false, false, false, false, false, true], [laws_szBindingS_ro r1, laws_szValue_ro r2, laws_toBindingS_ro r3, laws_toValue_ro r4, spec_Bind_ro r5, laws_toBindingS_ro r6, laws_toValue_ro r7, impl_Bind_ro r8, laws_eqBindingS_ro r9, laws_toBindingS_ro r10, laws_eqBindingS_ro r11, laws_toValue_ro r12, laws_eqValue_ro r13, laws_markBindingS_ro r14, laws_markValue_ro r15, laws_eqBindingS_ro r16, laws_markBindingS_ro r17, laws_heldBindingS_ro r18], []⟩ = some (.done (laws_FnExactBind_ro false) [(decide (((List.length a1 : Int) : Int) > 1048576)) = false, AbsCalls Try.prog 15 (laws_szBindingS_as a0 1048576) (laws_szBindingS_ro r1), (decide ((r1 : Int) < 0)) = false, AbsCalls Try.prog 24 (laws_szValue_as a2 r1) (laws_szValue_ro r2), (decide ((r2 : Int) < 0)) = false, AbsCalls Try.prog 17 (laws_toBindingS_as a0) (laws_toBindingS_ro r3), AbsCalls Try.prog 26 (laws_toValue_as a2) (laws_toValue_ro r4), AbsCalls Try.prog 25 (spec_Bind_as r3 a1 r4) (spec_Bind_ro r5), AbsCalls Try.prog 17 (laws_toBindingS_as a0) (laws_toBindingS_ro r6), AbsCalls Try.prog 26 (laws_toValue_as a2) (laws_toValue_ro r7), AbsCalls Try.prog 27 (impl_Bind_as r6 a1 r7) (impl_Bind_ro r8), AbsCalls Try.prog 20 (laws_eqBindingS_as r8 r5) (laws_eqBindingS_ro r9), (!r9) = false, AbsCalls Try.prog 17 (laws_toBindingS_as a0) (laws_toBindingS_ro r10), AbsCalls Try.prog 20 (laws_eqBindingS_as r6 r10) (laws_eqBindingS_ro r11), (!r11) = false, AbsCalls Try.prog 26 (laws_toValue_as a2) (laws_toValue_ro r12), AbsCalls Try.prog 19 (laws_eqValue_as r7 r12) (laws_eqValue_ro r13), (!r13) = false, AbsCalls Try.prog 21 (laws_markBindingS_as r6 1) (laws_markBindingS_ro r14), List.length r14.2 = List.length r6, AbsCalls Try.prog 22 (laws_markValue_as r7 r14.1) (laws_markValue_ro r15), List.length r15.2.1 = List.length (Val.list r7), List.length r15.2.2.1 = List.length (Val.columns r7), List.length r15.2.2.2 = List.length (Val.rows r7), (decide ((r15.1 : Int) < 0)) = false, AbsCalls Try.prog 20 (laws_eqBindingS_as r8 r5) (laws_eqBindingS_ro r16), (!r16) = false, AbsCalls Try.prog 21 (laws_markBindingS_as r8 1) (laws_markBindingS_ro r17), List.length r17.2 = List.length r8, AbsCalls Try.prog 28 (laws_heldBindingS_as r17.2 1) (laws_heldBindingS_ro r18), (decide ((r18 : Int) < 0)) = false, ((r18 : Int) != r17.1) = true]) := by kernel_rfl
theorem p4_e_10 (a0 : List Bnd) (a1 : Str) (a2 : Val) (r1 : Int) (r2 : Int) (r3 : (List Bnd)) (r4 : Val) (r5 : (List Bnd)) (r6 : (List Bnd)) (r7 : Val) (r8 : (List Bnd)) (r9 : Bool) (r10 : (List Bnd)) (r11 : Bool) (r12 : Val) (r13 : Bool) (r14 : Int × (List Bnd)) (r15 : Int × (List Val) × (List Str) × (List Rowd)) (r16 : Bool) (r17 : Int × (List Bnd)) (r18 : Int) (r19 : (List Bnd)) (r20 : Val) (r21 : (List Bnd)) (r22 : Bool) : run tt (AbsCalls Try.prog) I4 3000 false [.code I4.body] ⟨(entry 0 (laws_FnExactBind_as a0 a1 a2)), [false, false, false, false, false, false, false, false, false, false, true], [laws_szBindingS_ro r1, laws_szValue_ro r2, laws_toBindingS_ro r3, laws_toValue_ro r4, spec_Bind_ro r5, laws_toBindingS_ro r6, laws_toValue_ro r7, impl_Bind_ro r8, laws_eqBindingS_ro r9, laws_toBindingS_ro r10, laws_eqBindingS_ro r11, laws_toValue_ro r12, laws_eqValue_ro r13, laws_markBindingS_ro r14, laws_markValue_ro r15, laws_eqBindingS_ro r16, laws_markBindingS_ro r17, laws_heldBindingS_ro r18, laws_toBindingS_ro r19, laws_toValue_ro r20, impl_Bind_ro r21, laws_eqBindingS_ro r22], []⟩ = some (.done (laws_FnExactBind_ro false) [(decide (((List.length a1 : Int) : Int) > 1048576)) = false, AbsCalls Try.prog 15 (laws_szBindingS_as a0 1048576) (laws_szBindingS_ro r1), (decide ((r1 : Int) < 0)) = false, AbsCalls Try.prog 24 (laws_szValue_as a2 r1) (laws_szValue_ro r2), (decide ((r2 : Int) < 0)) = false, AbsCalls Try.prog 17 (laws_toBindingS_as a0) (laws_toBindingS_ro r3), AbsCalls Try.prog 26 (laws_toValue_as a2) (laws_toValue_ro r4), AbsCalls Try.prog 25 (spec_Bind_as r3 a1 r4) (spec_Bind_ro r5), AbsCalls Try.prog 17 (laws_toBindingS_as a0) (laws_toBindingS_ro r6), AbsCalls Try.prog 26 (laws_toValue_as a2) (laws_toValue_ro r7), AbsCalls Try.prog 27 (impl_Bind_as r6 a1 r7) (impl_Bind_ro r8), AbsCalls Try.prog 20 (laws_eqBindingS_as r8 r5) (laws_eqBindingS_ro r9), (!r9) = false, AbsCalls Try.prog 17 (laws_toBindingS_as a0) (laws_toBindingS_ro r10), AbsCalls Try.prog 20 (laws_eqBindingS_as r6 r10) (laws_eqBindingS_ro r11), (!r11) = false, AbsCalls Try.prog 26 (laws_toValue_as a2) (laws_toValue_ro r12), AbsCalls Try.prog 19 (laws_eqValue_as r7 r12) (laws_eqValue_ro r13), (!r13) = false, AbsCalls Try.prog 21 (laws_markBindingS_as r6 1) (laws_markBindingS_ro r14), List.length r14.2 = List.length r6, AbsCalls Try.prog 22 (laws_markValue_as r7 r14.1) (laws_markValue_ro r15), List.length r15.2.1 = List.length (Val.list r7), List.length r15.2.2.1 = List.length (Val.columns r7), List.length r15.2.2.2 = List.length (Val.rows r7), (decide ((r15.1 : Int) < 0)) = false, AbsCalls Try.prog 20 (laws_eqBindingS_as r8 r5) (laws_eqBindingS_ro r16), (!r16) = false, AbsCalls Try.prog 21 (laws_markBindingS_as r8 1) (laws_markBindingS_ro r17), List.length r17.2 = List.length r8, AbsCalls Try.prog 28 (laws_heldBindingS_as r17.2 1) (laws_heldBindingS_ro r18), (decide ((r18 : Int) < 0)) = false, ((r18 : Int) != r17.1) = false, AbsCalls Try.prog 17 (laws_toBindingS_as a0) (laws_toBindingS_ro r19), AbsCalls Try.prog 26 (laws_toValue_as a2) (laws_toValue_ro r20), AbsCalls Try.prog 27 (impl_Bind_as r19 a1 r20) (impl_Bind_ro r21), AbsCalls Try.prog 20 (laws_eqBindingS_as r21 r5) (laws_eqBindingS_ro r22), (!r22) = true]) := by kernel_rfl
theorem p4_e_11 (a0 : List Bnd) (a1 : Str) (a2 : Val) (r1 : Int) (r2 : Int) (r3 : (List Bnd)) (r4 : Val) (r5 : (List Bnd)) (r6 : (List Bnd)) (r7 : Val) (r8 : (List Bnd)) (r9 : Bool) (r10 : (List Bnd)) (r11 : Bool) (r12 : Val) (r13 : Bool) (r14 : Int × (List Bnd)) (r15 : Int × (List Val) × (List Str) × (List Rowd)) (r16 : Bool) (r17 : Int × (List Bnd)) (r18 : Int) (r19 : (List Bnd)) (r20 : Val) (r21 : (List Bnd)) (r22 : Bool) (r23 : Int) : run tt (AbsCalls Try.prog) I4 3000 false [.code I4.body] ⟨(entry 0 (laws_FnExactBind_as a0 a1 a2)), [false, false, false, false, false, false, false, false, false, false, false, true], [laws_szBindingS_ro r1, laws_szValue_ro r2, laws_toBindingS_ro r3, laws_toValue_ro r4, spec_Bind_ro r5, laws_toBindingS_ro r6, laws_toValue_ro r7, impl_Bind_ro r8, laws_eqBindingS_ro r9, laws_toBindingS_ro r10, laws_eqBindingS_ro r11, laws_toValue_ro r12, laws_eqValue_ro r13, laws_markBindingS_ro r14, laws_markValue_ro r15, laws_eqBindingS_ro r16, laws_markBindingS_ro r17, laws_heldBindingS_ro r18, laws_toBindingS_ro r19, laws_toValue_ro r20, impl_Bind_ro r21, laws_eqBindingS_ro r22, laws_heldBindingS_ro r23], []⟩ = some (.done (laws_FnExactBind_ro false) [(decide (((List.length a1 : Int) : Int) > 1048576)) = false, AbsCalls Try.prog 15 (laws_szBindingS_as a0 1048576) (laws_szBindingS_ro r1), (decide ((r1 : Int) < 0)) = false, AbsCalls Try.prog 24 (laws_szValue_as a2 r1) (laws_szValue_ro r2), (decide ((r2 : Int) < 0)) = false, AbsCalls Try.prog 17 (laws_toBindingS_as a0) (laws_toBindingS_ro r3), AbsCalls Try.prog 26 (laws_toValue_as a2) (laws_toValue_ro r4), AbsCalls Try.prog 25 (spec_Bind_as r3 a1 r4) (spec_Bind_ro r5), AbsCalls Try.prog 17 (laws_toBindingS_as a0) (laws_toBindingS_ro r6), AbsCalls Try.prog 26 (laws_toValue_as a2) (laws_toValue_ro r7), AbsCalls Try.prog 27 (impl_Bind_as r6 a1 r7) (impl_Bind_ro r8), AbsCalls Try.prog 20 (laws_eqBindingS_as r8 r5) (laws_eqBindingS_ro r9), (!r9) = false, AbsCalls Try.prog 17 (laws_toBindingS_as a0) (laws_toBindingS_ro r10), AbsCalls Try.prog 20 (laws_eqBindingS_as r6 r10) (laws_eqBindingS_ro r11), (!r11) = false, AbsCalls Try.prog 26 (laws_toValue_as a2) (laws_toValue_ro r12), AbsCalls Try.prog 19 (laws_eqValue_as r7 r12) (laws_eqValue_ro r13), (!r13) = false, AbsCalls Try.prog 21 (laws_markBindingS_as r6 1) (laws_markBindingS_ro r14), List.length r14.2 = List.length r6, AbsCalls Try.prog 22 (laws_markValue_as r7 r14.1) (laws_markValue_ro r15), List.length r15.2.1 = List.length (Val.list r7), List.length r15.2.2.1 = List.length (Val.columns r7), List.length r15.2.2.2 = List.length (Val.rows r7), (decide ((r15.1 : Int) < 0)) = false, AbsCalls Try.prog 20 (laws_eqBindingS_as r8 r5) (laws_eqBindingS_ro r16), (!r16) = false, AbsCalls Try.prog 21 (laws_markBindingS_as r8 1) (laws_markBindingS_ro r17), List.length r17.2 = List.length r8, AbsCalls Try.prog 28 (laws_heldBindingS_as r17.2 1) (laws_heldBindingS_ro r18), (decide ((r18 : Int) < 0)) = false, ((r18 : Int) != r17.1) = false, AbsCalls Try.prog 17 (laws_toBindingS_as a0) (laws_toBindingS_ro r19), AbsCalls Try.prog 26 (laws_toValue_as a2) (laws_toValue_ro r20), AbsCalls Try.prog 27 (impl_Bind_as r19 a1 r20) (impl_Bind_ro r21), AbsCalls Try.prog 20 (laws_eqBindingS_as r21 r5) (laws_eqBindingS_ro r22), (!r22) = false, AbsCalls Try.prog 28 (laws_heldBindingS_as r17.2 1) (laws_heldBindingS_ro r23), (decide ((r23 : Int) < 0)) = true]) := by kernel_rfl
theorem p4_e_12 (a0 : List Bnd) (a1 : Str) (a2 : Val) (r1 : Int) (r2 : Int) (r3 : (List Bnd)) (r4 : Val) (r5 : (List Bnd)) (r6 : (List Bnd)) (r7 : Val) (r8 : (List Bnd)) (r9 : Bool) (r10 : (List Bnd)) (r11 : Bool) (r12 : Val) (r13 : Bool) (r14 : Int × (List Bnd)) (r15 : Int × (List Val) × (List Str) × (List Rowd)) (r16 : Bool) (r17 : Int × (List Bnd)) (r18 : Int) (r19 : (List Bnd)) (r20 : Val) (r21 : (List Bnd)) (r22 : Bool) (r23 : Int) : run tt (AbsCalls Try.prog) I4 3000 false [.code I4.body] ⟨(entry 0 (laws_FnExactBind_as a0 a1 a2)), [false, false, false, false, false, false, false, false, false, false, false, false, true], [laws_szBindingS_ro r1, laws_szValue_ro r2, laws_toBindingS_ro r3, laws_toValue_ro r4, spec_Bind_ro r5, laws_toBindingS_ro r6, laws_toValue_ro r7, impl_Bind_ro r8, laws_eqBindingS_ro r9, laws_toBindingS_ro r10, laws_eqBindingS_ro r11, laws_toValue_ro r12, laws_eqValue_ro r13, laws_markBindingS_ro r14, laws_markValue_ro r15, laws_eqBindingS_ro r16, laws_markBindingS_ro r17, laws_heldBindingS_ro r18, laws_toBindingS_ro r19, laws_toValue_ro r20, impl_Bind_ro r21, laws_eqBindingS_ro r22, laws_heldBindingS_ro r23], []⟩ = some (.done (laws_FnExactBind_ro false) [(decide (((List.length a1 : Int) : Int) > 1048576)) = false, AbsCalls Try.prog 15 (laws_szBindingS_as a0 1048576) (laws_szBindingS_ro r1), (decide ((r1 : Int) < 0)) = false, AbsCalls Try.prog 24 (laws_szValue_as a2 r1) (laws_szValue_ro r2), (decide ((r2 : Int) < 0)) = false, AbsCalls Try.prog 17 (laws_toBindingS_as a0) (laws_toBindingS_ro r3), AbsCalls Try.prog 26 (laws_toValue_as a2) (laws_toValue_ro r4), AbsCalls Try.prog 25 (spec_Bind_as r3 a1 r4) (spec_Bind_ro r5), AbsCalls Try.prog 17 (laws_toBindingS_as a0) (laws_toBindingS_ro r6), AbsCalls Try.prog 26 (laws_toValue_as a2) (laws_toValue_ro r7), AbsCalls Try.prog 27 (impl_Bind_as r6 a1 r7) (impl_Bind_ro r8), AbsCalls Try.prog 20 (laws_eqBindingS_as r8 r5) (laws_eqBindingS_ro r9), (!r9) = false, AbsCalls Try.prog 17 (laws_toBindingS_as a0) (laws_toBindingS_ro r10), AbsCalls Try.prog 20 (laws_eqBindingS_as r6 r10) (laws_eqBindingS_ro r11), (!r11) = false, AbsCalls Try.prog 26 (laws_toValue_as a2) (laws_toValue_ro r12), AbsCalls Try.prog 19 (laws_eqValue_as r7 r12) (laws_eqValue_ro r13), (!r13) = false, AbsCalls Try.prog 21 (laws_markBindingS_as r6 1) (laws_markBindingS_ro r14), List.length r14.2 = List.length r6, AbsCalls Try.prog 22 (laws_markValue_as r7 r14.1) (laws_markValue_ro r15), List.length r15.2.1 = List.length (Val.list r7), List.length r15.2.2.1 = List.length (Val.columns r7), List.length r15.2.2.2 = List.length (Val.rows r7), (decide ((r15.1 : Int) < 0)) = false, AbsCalls Try.prog 20 (laws_eqBindingS_as r8 r5) (laws_eqBindingS_ro r16), (!r16) = false, AbsCalls Try.prog 21 (laws_markBindingS_as r8 1) (laws_markBindingS_ro r17), List.length r17.2 = List.length r8, AbsCalls Try.prog 28 (laws_heldBindingS_as r17.2 1) (laws_heldBindingS_ro r18), (decide ((r18 : Int) < 0)) = false, ((r18 : Int) != r17.1) = false, AbsCalls Try.prog 17 (laws_toBindingS_as a0) (laws_toBindingS_ro r19), AbsCalls Try.prog 26 (laws_toValue_as a2) (laws_toValue_ro r20), AbsCalls Try.prog 27 (impl_Bind_as r19 a1 r20) (impl_Bind_ro r21), AbsCalls Try.prog 20 (laws_eqBindingS_as r21 r5) (laws_eqBindingS_ro r22), (!r22) = false, AbsCalls Try.prog 28 (laws_heldBindingS_as r17.2 1) (laws_heldBindingS_ro r23), (decide ((r23 : Int) < 0)) = false, ((r23 : Int) != r17.1) = true]) := by kernel_rfl
theorem p4_e_13 (a0 : List Bnd) (a1 : Str) (a2 : Val) (r1 : Int) (r2 : Int) (r3 : (List Bnd)) (r4 : Val) (r5 : (List Bnd)) (r6 : (List Bnd)) (r7 : Val) (r8 : (List Bnd)) (r9 : Bool) (r10 : (List Bnd)) (r11 : Bool) (r12 : Val) (r13 : Bool) (r14 : Int × (List Bnd)) (r15 : Int × (List Val) × (List Str) × (List Rowd)) (r16 : Bool) (r17 : Int × (List Bnd)) (r18 : Int) (r19 : (List Bnd)) (r20 : Val) (r21 : (List Bnd)) (r22 : Bool) (r23 : Int) : run tt (AbsCalls Try.prog) I4 3000 false [.code I4.body] ⟨(entry 0 (laws_FnExactBind_as a0 a1 a2)), [false, false, false, false, false, false, false, false, false, false, false, false, false], [laws_szBindingS_ro r1, laws_szValue_ro r2, laws_toBindingS_ro r3, laws_toValue_ro r4, spec_Bind_ro r5, laws_toBindingS_ro r6, laws_toValue_ro r7, impl_Bind_ro r8, laws_eqBindingS_ro r9, laws_toBindingS_ro r10, laws_eqBindingS_ro r11, laws_toValue_ro r12, laws_eqValue_ro r13, laws_markBindingS_ro r14, laws_markValue_ro r15, laws_eqBindingS_ro r16, laws_markBindingS_ro r17, laws_heldBindingS_ro r18, laws_toBindingS_ro r19, laws_toValue_ro r20, impl_Bind_ro r21, laws_eqBindingS_ro r22, laws_heldBindingS_ro r23], []⟩ = some (.done (laws_FnExactBind_ro true) [(decide (((List.length a1 : Int) : Int) > 1048576)) = false, AbsCalls Try.prog 15 (laws_szBindingS_as a0 1048576) (laws_szBindingS_ro r1), (decide ((r1 : Int) < 0)) = false, AbsCalls Try.prog 24 (laws_szValue_as a2 r1) (laws_szValue_ro r2), (decide ((r2 : Int) < 0)) = false, AbsCalls Try.prog 17 (laws_toBindingS_as a0) (laws_toBindingS_ro r3), AbsCalls Try.prog 26 (laws_toValue_as a2) (laws_toValue_ro r4), AbsCalls Try.prog 25 (spec_Bind_as r3 a1 r4) (spec_Bind_ro r5), AbsCalls Try.prog 17 (laws_toBindingS_as a0) (laws_toBindingS_ro r6), AbsCalls Try.prog 26 (laws_toValue_as a2) (laws_toValue_ro r7), AbsCalls Try.prog 27 (impl_Bind_as r6 a1 r7) (impl_Bind_ro r8), AbsCalls Try.prog 20 (laws_eqBindingS_as r8 r5) (laws_eqBindingS_ro r9), (!r9) = false, AbsCalls Try.prog 17 (laws_toBindingS_as a0) (laws_toBindingS_ro r10), AbsCalls Try.prog 20 (laws_eqBindingS_as r6 r10) (laws_eqBindingS_ro r11), (!r11) = false, AbsCalls Try.prog 26 (laws_toValue_as a2) (laws_toValue_ro r12), AbsCalls Try.prog 19 (laws_eqValue_as r7 r12) (laws_eqValue_ro r13), (!r13) = false, AbsCalls Try.prog 21 (laws_markBindingS_as r6 1) (laws_markBindingS_ro r14), List.length r14.2 = List.length r6, AbsCalls Try.prog 22 (laws_markValue_as r7 r14.1) (laws_markValue_ro r15), List.length r15.2.1 = List.length (Val.list r7), List.length r15.2.2.1 = List.length (Val.columns r7), List.length r15.2.2.2 = List.length (Val.rows r7), (decide ((r15.1 : Int) < 0)) = false, AbsCalls Try.prog 20 (laws_eqBindingS_as r8 r5) (laws_eqBindingS_ro r16), (!r16) = false, AbsCalls Try.prog 21 (laws_markBindingS_as r8 1) (laws_markBindingS_ro r17), List.length r17.2 = List.length r8, AbsCalls Try.prog 28 (laws_heldBindingS_as r17.2 1) (laws_heldBindingS_ro r18), (decide ((r18 : Int) < 0)) = false, ((r18 : Int) != r17.1) = false, AbsCalls Try.prog 17 (laws_toBindingS_as a0) (laws_toBindingS_ro r19), AbsCalls Try.prog 26 (laws_toValue_as a2) (laws_toValue_ro r20), AbsCalls Try.prog 27 (impl_Bind_as r19 a1 r20) (impl_Bind_ro r21), AbsCalls Try.prog 20 (laws_eqBindingS_as r21 r5) (laws_eqBindingS_ro r22), (!r22) = false, AbsCalls Try.prog 28 (laws_heldBindingS_as r17.2 1) (laws_heldBindingS_ro r23), (decide ((r23 : Int) < 0)) = false, ((r23 : Int) != r17.1) = false]) := by kernel_rfl
theorem c4_e {N : Nat} : ∀ a0 a1 a2 r, laws_FnExactBind N a0 a1 a2 = some r → Reach Try.prog Try.f4 I4 [.code I4.body] (entry 0 (laws_FnExactBind_as a0 a1 a2)) (laws_FnExactBind_ro r) := by
  intro a0 a1 a2 r h
  unfold laws_FnExactBind at h
  rcases cond_inv h with ⟨h0, h⟩ | ⟨h0, h⟩
  · obtain rfl := Option.some.inj h
    exact Reach.done ttok mix fk4 (p4_e_0 a0 a1 a2) (obs_cons h0 obs_nil)
  · obtain ⟨r1, h1, h⟩ := bind_inv h
    rcases cond_inv h with ⟨h2, h⟩ | ⟨h2, h⟩
    · obtain rfl := Option.some.inj h
      exact Reach.done ttok mix fk4 (p4_e_1 a0 a1 a2 r1) (obs_cons h0 (obs_cons (laws_szBindingS_ok h1) (obs_cons h2 obs_nil)))
    · obtain ⟨r2, h3, h⟩ := bind_inv h
      rcases cond_inv h with ⟨h4, h⟩ | ⟨h4, h⟩
      · obtain rfl := Option.some.inj h
        exact Reach.done ttok mix fk4 (p4_e_2 a0 a1 a2 r1 r2) (obs_cons h0 (obs_cons (laws_szBindingS_ok h1) (obs_cons h2 (obs_cons (laws_szValue_ok h3) (obs_cons h4 obs_nil)))))
      · obtain ⟨r3, h5, h⟩ := bind_inv h
        obtain ⟨r4, h6, h⟩ := bind_inv h
        obtain ⟨r5, h7, h⟩ := bind_inv h
        obtain ⟨r6, h8, h⟩ := bind_inv h
        obtain ⟨r7, h9, h⟩ := bind_inv h
        obtain ⟨r8, h10, h⟩ := bind_inv h
        obtain ⟨r9, h11, h⟩ := bind_inv h
        rcases cond_inv h with ⟨h12, h⟩ | ⟨h12, h⟩
        · obtain rfl := Option.some.inj h
          exact Reach.done ttok mix fk4 (p4_e_3 a0 a1 a2 r1 r2 r3 r4 r5 r6 r7 r8 r9) (obs_cons h0 (obs_cons (laws_szBindingS_ok h1) (obs_cons h2 (obs_cons (laws_szValue_ok h3) (obs_cons h4 (obs_cons (laws_toBindingS_ok h5) (obs_cons (laws_toValue_ok h6) (obs_cons (spec_Bind_ok h7) (obs_cons (laws_toBindingS_ok h8) (obs_cons (laws_toValue_ok h9) (obs_cons (impl_Bind_ok h10) (obs_cons (laws_eqBindingS_ok h11) (obs_cons h12 obs_nil)))))))))))))
        · obtain ⟨r10, h13, h⟩ := bind_inv h
          obtain ⟨r11, h14, h⟩ := bind_inv h
          rcases cond_inv h with ⟨h15, h⟩ | ⟨h15, h⟩
          · obtain rfl := Option.some.inj h
            exact Reach.done ttok mix fk4 (p4_e_4 a0 a1 a2 r1 r2 r3 r4 r5 r6 r7 r8 r9 r10 r11) (obs_cons h0 (obs_cons (laws_szBindingS_ok h1) (obs_cons h2 (obs_cons (laws_szValue_ok h3) (obs_cons h4 (obs_cons (laws_toBindingS_ok h5) (obs_cons (laws_toValue_ok h6) (obs_cons (spec_Bind_ok h7) (obs_cons (laws_toBindingS_ok h8) (obs_cons (laws_toValue_ok h9) (obs_cons (impl_Bind_ok h10) (obs_cons (laws_eqBindingS_ok h11) (obs_cons h12 (obs_cons (laws_toBindingS_ok h13) (obs_cons (laws_eqBindingS_ok h14) (obs_cons h15 obs_nil))))))))))))))))
          · obtain ⟨r12, h16, h⟩ := bind_inv h
            obtain ⟨r13, h17, h⟩ := bind_inv h
            rcases cond_inv h with ⟨h18, h⟩ | ⟨h18, h⟩
            · obtain rfl := Option.some.inj h
              exact Reach.done ttok mix fk4 (p4_e_5 a0 a1 a2 r1 r2 r3 r4 r5 r6 r7 r8 r9 r10 r11 r12 r13) (obs_cons h0 (obs_cons (laws_szBindingS_ok h1) (obs_cons h2 (obs_cons (laws_szValue_ok h3) (obs_cons h4 (obs_cons (laws_toBindingS_ok h5) (obs_cons (laws_toValue_ok h6) (obs_cons (spec_Bind_ok h7) (obs_cons (laws_toBindingS_ok h8) (obs_cons (laws_toValue_ok h9) (obs_cons (impl_Bind_ok h10) (obs_cons (laws_eqBindingS_ok h11) (obs_cons h12 (obs_cons (laws_toBindingS_ok h13) (obs_cons (laws_eqBindingS_ok h14) (obs_cons h15 (obs_cons (laws_toValue_ok h16) (obs_cons (laws_eqValue_ok h17) (obs_cons h18 obs_nil)))))))))))))))))))
            · obtain ⟨r14, h19, h⟩ := bind_inv h
              obtain ⟨h20, h⟩ := ite_inv h
              obtain ⟨r15, h21, h⟩ := bind_inv h
              obtain ⟨h22, h⟩ := ite_inv h
              obtain ⟨h23, h⟩ := ite_inv h
              obtain ⟨h24, h⟩ := ite_inv h
              rcases cond_inv h with ⟨h25, h⟩ | ⟨h25, h⟩
              · obtain rfl := Option.some.inj h
                exact Reach.done ttok mix fk4 (p4_e_6 a0 a1 a2 r1 r2 r3 r4 r5 r6 r7 r8 r9 r10 r11 r12 r13 r14 r15) (obs_cons h0 (obs_cons (laws_szBindingS_ok h1) (obs_cons h2 (obs_cons (laws_szValue_ok h3) (obs_cons h4 (obs_cons (laws_toBindingS_ok h5) (obs_cons (laws_toValue_ok h6) (obs_cons (spec_Bind_ok h7) (obs_cons (laws_toBindingS_ok h8) (obs_cons (laws_toValue_ok h9) (obs_cons (impl_Bind_ok h10) (obs_cons (laws_eqBindingS_ok h11) (obs_cons h12 (obs_cons (laws_toBindingS_ok h13) (obs_cons (laws_eqBindingS_ok h14) (obs_cons h15 (obs_cons (laws_toValue_ok h16) (obs_cons (laws_eqValue_ok h17) (obs_cons h18 (obs_cons (laws_markBindingS_ok h19) (obs_cons h20 (obs_cons (laws_markValue_ok h21) (obs_cons h22 (obs_cons h23 (obs_cons h24 (obs_cons h25 (obs_cons rfl obs_nil)))))))))))))))))))))))))))
              · obtain ⟨r16, h26, h⟩ := bind_inv h
                rcases cond_inv h with ⟨h27, h⟩ | ⟨h27, h⟩
                · obtain rfl := Option.some.inj h
                  exact Reach.done ttok mix fk4 (p4_e_7 a0 a1 a2 r1 r2 r3 r4 r5 r6 r7 r8 r9 r10 r11 r12 r13 r14 r15 r16) (obs_cons h0 (obs_cons (laws_szBindingS_ok h1) (obs_cons h2 (obs_cons (laws_szValue_ok h3) (obs_cons h4 (obs_cons (laws_toBindingS_ok h5) (obs_cons (laws_toValue_ok h6) (obs_cons (spec_Bind_ok h7) (obs_cons (laws_toBindingS_ok h8) (obs_cons (laws_toValue_ok h9) (obs_cons (impl_Bind_ok h10) (obs_cons (laws_eqBindingS_ok h11) (obs_cons h12 (obs_cons (laws_toBindingS_ok h13) (obs_cons (laws_eqBindingS_ok h14) (obs_cons h15 (obs_cons (laws_toValue_ok h16) (obs_cons (laws_eqValue_ok h17) (obs_cons h18 (obs_cons (laws_markBindingS_ok h19) (obs_cons h20 (obs_cons (laws_markValue_ok h21) (obs_cons h22 (obs_cons h23 (obs_cons h24 (obs_cons h25 (obs_cons (laws_eqBindingS_ok h26) (obs_cons h27 obs_nil))))))))))))))))))))))))))))
                · obtain ⟨r17, h28, h⟩ := bind_inv h
                  obtain ⟨h29, h⟩ := ite_inv h
                  obtain ⟨r18, h30, h⟩ := bind_inv h
                  rcases cond_inv h with ⟨h31, h⟩ | ⟨h31, h⟩
                  · obtain rfl := Option.some.inj h
                    exact Reach.done ttok mix fk4 (p4_e_8 a0 a1 a2 r1 r2 r3 r4 r5 r6 r7 r8 r9 r10 r11 r12 r13 r14 r15 r16 r17 r18) (obs_cons h0 (obs_cons (laws_szBindingS_ok h1) (obs_cons h2 (obs_cons (laws_szValue_ok h3) (obs_cons h4 (obs_cons (laws_toBindingS_ok h5) (obs_cons (laws_toValue_ok h6) (obs_cons (spec_Bind_ok h7) (obs_cons (laws_toBindingS_ok h8) (obs_cons (laws_toValue_ok h9) (obs_cons (impl_Bind_ok h10) (obs_cons (laws_eqBindingS_ok h11) (obs_cons h12 (obs_cons (laws_toBindingS_ok h13) (obs_cons (laws_eqBindingS_ok h14) (obs_cons h15 (obs_cons (laws_toValue_ok h16) (obs_cons (laws_eqValue_ok h17) (obs_cons h18 (obs_cons (laws_markBindingS_ok h19) (obs_cons h20 (obs_cons (laws_markValue_ok h21) (obs_cons h22 (obs_cons h23 (obs_cons h24 (obs_cons h25 (obs_cons (laws_eqBindingS_ok h26) (obs_cons h27 (obs_cons (laws_markBindingS_ok h28) (obs_cons h29 (obs_cons (laws_heldBindingS_ok h30) (obs_cons h31 obs_nil))))))))))))))))))))))))))))))))
                  · rcases cond_inv h with ⟨h32, h⟩ | ⟨h32, h⟩
                    · obtain rfl := Option.some.inj h
                      exact Reach.done ttok mix fk4 (p4_e_9 a0 a1 a2 r1 r2 r3 r4 r5 r6 r7 r8 r9 r10 r11 r12 r13 r14 r15 r16 r17 r18) (obs_cons h0 (obs_cons (laws_szBindingS_ok h1) (obs_cons h2 (obs_cons (laws_szValue_ok h3) (obs_cons h4 (obs_cons (laws_toBindingS_ok h5) (obs_cons (laws_toValue_ok h6) (obs_cons (spec_Bind_ok h7) (obs_cons (laws_toBindingS_ok h8) (obs_cons (laws_toValue_ok h9) (obs_cons (impl_Bind_ok h10) (obs_cons (laws_eqBindingS_ok h11) (obs_cons h12 (obs_cons (laws_toBindingS_ok h13) (obs_cons (laws_eqBindingS_ok h14) (obs_cons h15 (obs_cons (laws_toValue_ok h16) (obs_cons (laws_eqValue_ok h17) (obs_cons h18 (obs_cons (laws_markBindingS_ok h19) (obs_cons h20 (obs_cons (laws_markValue_ok h21) (obs_cons h22 (obs_cons h23 (obs_cons h24 (obs_cons h25 (obs_cons (laws_eqBindingS_ok h26) (obs_cons h27 (obs_cons (laws_markBindingS_ok h28) (obs_cons h29 (obs_cons (laws_heldBindingS_ok h30) (obs_cons h31 (obs_cons h32 obs_nil)))))))))))))))))))))))))))))))))
                    · obtain ⟨r19, h33, h⟩ := bind_inv h
                      obtain ⟨r20, h34, h⟩ := bind_inv h
                      obtain ⟨r21, h35, h⟩ := bind_inv h
                      obtain ⟨r22, h36, h⟩ := bind_inv h
                      rcases cond_inv h with ⟨h37, h⟩ | ⟨h37, h⟩
                      · obtain rfl := Option.some.inj h
                        exact Reach.done ttok mix fk4 (p4_e_10 a0 a1 a2 r1 r2 r3 r4 r5 r6 r7 r8 r9 r10 r11 r12 r13 r14 r15 r16 r17 r18 r19 r20 r21 r22) (obs_cons h0 (obs_cons (laws_szBindingS_ok h1) (obs_cons h2 (obs_cons (laws_szValue_ok h3) (obs_cons h4 (obs_cons (laws_toBindingS_ok h5) (obs_cons (laws_toValue_ok h6) (obs_cons (spec_Bind_ok h7) (obs_cons (laws_toBindingS_ok h8) (obs_cons (laws_toValue_ok h9) (obs_cons (impl_Bind_ok h10) (obs_cons (laws_eqBindingS_ok h11) (obs_cons h12 (obs_cons (laws_toBindingS_ok h13) (obs_cons (laws_eqBindingS_ok h14) (obs_cons h15 (obs_cons (laws_toValue_ok h16) (obs_cons (laws_eqValue_ok h17) (obs_cons h18 (obs_cons (laws_markBindingS_ok h19) (obs_cons h20 (obs_cons (laws_markValue_ok h21) (obs_cons h22 (obs_cons h23 (obs_cons h24 (obs_cons h25 (obs_cons (laws_eqBindingS_ok h26) (obs_cons h27 (obs_cons (laws_markBindingS_ok h28) (obs_cons h29 (obs_cons (laws_heldBindingS_ok h30) (obs_cons h31 (obs_cons h32 (obs_cons (laws_toBindingS_ok h33) (obs_cons (laws_toValue_ok h34) (obs_cons (impl_Bind_ok h35) (obs_cons (laws_eqBindingS_ok h36) (obs_cons h37 obs_nil))))))))))))))))))))))))))))))))))))))
                      · obtain ⟨r23, h38, h⟩ := bind_inv h
                        rcases cond_inv h with ⟨h39, h⟩ | ⟨h39, h⟩
                        · obtain rfl := Option.some.inj h
                          exact Reach.done ttok mix fk4 (p4_e_11 a0 a1 a2 r1 r2 r3 r4 r5 r6 r7 r8 r9 r10 r11 r12 r13 r14 r15 r16 r17 r18 r19 r20 r21 r22 r23) (obs_cons h0 (obs_cons (laws_szBindingS_ok h1) (obs_cons h2 (obs_cons (laws_szValue_ok h3) (obs_cons h4 (obs_cons (laws_toBindingS_ok h5) (obs_cons (laws_toValue_ok h6) (obs_cons (spec_Bind_ok h7) (obs_cons (laws_toBindingS_ok h8) (obs_cons (laws_toValue_ok h9) (obs_cons (impl_Bind_ok h10) (obs_cons (laws_eqBindingS_ok h11) (obs_cons h12 (obs_cons (laws_toBindingS_ok h13) (obs_cons (laws_eqBindingS_ok h14) (obs_cons h15 (obs_cons (laws_toValue_ok h16) (obs_cons (laws_eqValue_ok h17) (obs_cons h18 (obs_cons (laws_markBindingS_ok h19) (obs_cons h20 (obs_cons (laws_markValue_ok h21) (obs_cons h22 (obs_cons h23 (obs_cons h24 (obs_cons h25 (obs_cons (laws_eqBindingS_ok h26) (obs_cons h27 (obs_cons (laws_markBindingS_ok h28) (obs_cons h29 (obs_cons (laws_heldBindingS_ok h30) (obs_cons h31 (obs_cons h32 (obs_cons (laws_toBindingS_ok h33) (obs_cons (laws_toValue_ok h34) (obs_cons (impl_Bind_ok h35) (obs_cons (laws_eqBindingS_ok h36) (obs_cons h37 (obs_cons (laws_heldBindingS_ok h38) (obs_cons h39 obs_nil))))))))))))))))))))))))))))))))))))))))
                        · rcases cond_inv h with ⟨h40, h⟩ | ⟨h40, h⟩
                          · obtain rfl := Option.some.inj h
                            exact Reach.done ttok mix fk4 (p4_e_12 a0 a1 a2 r1 r2 r3 r4 r5 r6 r7 r8 r9 r10 r11 r12 r13 r14 r15 r16 r17 r18 r19 r20 r21 r22 r23) (obs_cons h0 (obs_cons (laws_szBindingS_ok h1) (obs_cons h2 (obs_cons (laws_szValue_ok h3) (obs_cons h4 (obs_cons (laws_toBindingS_ok h5) (obs_cons (laws_toValue_ok h6) (obs_cons (spec_Bind_ok h7) (obs_cons (laws_toBindingS_ok h8) (obs_cons (laws_toValue_ok h9) (obs_cons (impl_Bind_ok h10) (obs_cons (laws_eqBindingS_ok h11) (obs_cons h12 (obs_cons (laws_toBindingS_ok h13) (obs_cons (laws_eqBindingS_ok h14) (obs_cons h15 (obs_cons (laws_toValue_ok h16) (obs_cons (laws_eqValue_ok h17) (obs_cons h18 (obs_cons (laws_markBindingS_ok h19) (obs_cons h20 (obs_cons (laws_markValue_ok h21) (obs_cons h22 (obs_cons h23 (obs_cons h24 (obs_cons h25 (obs_cons (laws_eqBindingS_ok h26) (obs_cons h27 (obs_cons (laws_markBindingS_ok h28) (obs_cons h29 (obs_cons (laws_heldBindingS_ok h30) (obs_cons h31 (obs_cons h32 (obs_cons (laws_toBindingS_ok h33) (obs_cons (laws_toValue_ok h34) (obs_cons (impl_Bind_ok h35) (obs_cons (laws_eqBindingS_ok h36) (obs_cons h37 (obs_cons (laws_heldBindingS_ok h38) (obs_cons h39 (obs_cons h40 obs_nil)))))))))))))))))))))))))))))))))))))))))
                          · obtain rfl := Option.some.inj h
                            exact Reach.done ttok mix fk4 (p4_e_13 a0 a1 a2 r1 r2 r3 r4 r5 r6 r7 r8 r9 r10 r11 r12 r13 r14 r15 r16 r17 r18 r19 r20 r21 r22 r23) (obs_cons h0 (obs_cons (laws_szBindingS_ok h1) (obs_cons h2 (obs_cons (laws_szValue_ok h3) (obs_cons h4 (obs_cons (laws_toBindingS_ok h5) (obs_cons (laws_toValue_ok h6) (obs_cons (spec_Bind_ok h7) (obs_cons (laws_toBindingS_ok h8) (obs_cons (laws_toValue_ok h9) (obs_cons (impl_Bind_ok h10) (obs_cons (laws_eqBindingS_ok h11) (obs_cons h12 (obs_cons (laws_toBindingS_ok h13) (obs_cons (laws_eqBindingS_ok h14) (obs_cons h15 (obs_cons (laws_toValue_ok h16) (obs_cons (laws_eqValue_ok h17) (obs_cons h18 (obs_cons (laws_markBindingS_ok h19) (obs_cons h20 (obs_cons (laws_markValue_ok h21) (obs_cons h22 (obs_cons h23 (obs_cons h24 (obs_cons h25 (obs_cons (laws_eqBindingS_ok h26) (obs_cons h27 (obs_cons (laws_markBindingS_ok h28) (obs_cons h29 (obs_cons (laws_heldBindingS_ok h30) (obs_cons h31 (obs_cons h32 (obs_cons (laws_toBindingS_ok h33) (obs_cons (laws_toValue_ok h34) (obs_cons (impl_Bind_ok h35) (obs_cons (laws_eqBindingS_ok h36) (obs_cons h37 (obs_cons (laws_heldBindingS_ok h38) (obs_cons h39 (obs_cons h40 obs_nil)))))))))))))))))))))))))))))))))))))))))
theorem laws_FnExactBind_ok {N : Nat} {a0 : List Bnd} {a1 : Str} {a2 : Val} {r : Bool} (h : laws_FnExactBind N  a0 a1 a2 = some r) : AbsCalls Try.prog 4 (laws_FnExactBind_as a0 a1 a2) (laws_FnExactBind_ro r) :=
 AbsCalls.of_reach fk4 rfl rfl (Nat.le_of_ble_eq_true rfl) (c4_e a0 a1 a2 r h)
end Go.Ab.T
end
section
namespace Go.Ab
set_option linter.unusedVariables false
def Big (p : Nat → Prop) : Prop := ∃ k, ∀ N, k ≤ N → p N
def Big2 (p : Nat → Nat → Prop) : Prop := ∃ k, ∀ N n, k ≤ N → k ≤ n → p N n
theorem Big.imp {p q : Nat → Prop} (h : Big p) (f : ∀ N, p N → q N) : Big q := h.elim fun k hk => ⟨k, fun N hN => f N (hk N hN)⟩
theorem Big2.imp {p q : Nat → Nat → Prop} (h : Big2 p) (f : ∀ N n, p N n → q N n) : Big2 q := h.elim fun k hk => ⟨k, fun N n h1 h2 => f N n (hk N n h1 h2)⟩
theorem Big.of {p : Nat → Prop} (h : ∀ N, p N) : Big p := ⟨0, fun N _ => h N⟩
theorem Big2.of {p : Nat → Nat → Prop} (h : ∀ N n, p N n) : Big2 p := ⟨0, fun N n _ _ => h N n⟩
theorem Big.and {p q : Nat → Prop} (h : Big p) (h' : Big q) : Big fun N => p N ∧ q N := by
  obtain ⟨a, ha⟩ := h; obtain ⟨b, hb⟩ := h'
  exact ⟨max a b, fun N hN => ⟨ha N (by omega), hb N (by omega)⟩⟩
theorem Big2.and {p q : Nat → Nat → Prop} (h : Big2 p) (h' : Big2 q) : Big2 fun N n => p N n ∧ q N n := by
  obtain ⟨a, ha⟩ := h; obtain ⟨b, hb⟩ := h'
  exact ⟨max a b, fun N n h1 h2 => ⟨ha N n (by omega) (by omega), hb N n (by omega) (by omega)⟩⟩
theorem Big.two {p : Nat → Prop} (h : Big p) : Big2 fun N _ => p N := h.elim fun k hk => ⟨k, fun N _ h _ => hk N h⟩
theorem Big2.diag {p : Nat → Nat → Prop} (h : Big2 p) : Big fun N => p N N := h.elim fun k hk => ⟨k, fun N h => hk N N h h⟩
theorem Big2.succ {p : Nat → Nat → Prop} (h : Big2 fun N n => p N (n + 1)) : Big2 p := by
  obtain ⟨k, hk⟩ := h
  refine ⟨k + 1, fun N n h1 h2 => ?_⟩
  obtain ⟨m, rfl⟩ : ∃ m, n = m + 1 := ⟨n - 1, by omega⟩
  exact hk N m (by omega) (by omega)
theorem Big.list {α : Type} {p : α → Nat → Prop} {l : List α} (h : ∀ x ∈ l, Big (p x)) : Big fun N => ∀ x ∈ l, p x N := by
  induction l with
  | nil => exact .of fun N x hx => by cases hx
  | cons a l ih =>
    refine ((h a List.mem_cons_self).and (ih fun x hx => h x (List.mem_cons_of_mem _ hx))).imp fun N ⟨h1, h2⟩ x hx => ?_
    rcases List.mem_cons.1 hx with rfl | hx
    · exact h1
    · exact h2 x hx
theorem Big2.list {α : Type} {p : α → Nat → Nat → Prop} {l : List α} (h : ∀ x ∈ l, Big2 (p x)) : Big2 fun N n => ∀ x ∈ l, p x N n := by
  induction l with
  | nil => exact .of fun N n x hx => by cases hx
  | cons a l ih =>
    refine ((h a List.mem_cons_self).and (ih fun x hx => h x (List.mem_cons_of_mem _ hx))).imp fun N n ⟨h1, h2⟩ x hx => ?_
    rcases List.mem_cons.1 hx with rfl | hx
    · exact h1
    · exact h2 x hx
def Big3 (p : Nat → Nat → Nat → Prop) : Prop := ∃ k, ∀ N d n, k ≤ N → k ≤ d → k ≤ n → p N d n
theorem Big3.imp {p q : Nat → Nat → Nat → Prop} (h : Big3 p) (f : ∀ N d n, p N d n → q N d n) : Big3 q := h.elim fun k hk => ⟨k, fun N d n h1 h2 h3 => f N d n (hk N d n h1 h2 h3)⟩
theorem Big3.and {p q : Nat → Nat → Nat → Prop} (h : Big3 p) (h' : Big3 q) : Big3 fun N d n => p N d n ∧ q N d n := by
  obtain ⟨a, ha⟩ := h; obtain ⟨b, hb⟩ := h'
  exact ⟨max a b, fun N d n h1 h2 h3 => ⟨ha N d n (by omega) (by omega) (by omega), hb N d n (by omega) (by omega) (by omega)⟩⟩
theorem Big3.succ {p : Nat → Nat → Nat → Prop} (h : Big3 fun N d n => p N d (n + 1)) : Big3 p := by
  obtain ⟨k, hk⟩ := h
  refine ⟨k + 1, fun N d n h1 h2 h3 => ?_⟩
  obtain ⟨m, rfl⟩ : ∃ m, n = m + 1 := ⟨n - 1, by omega⟩
  exact hk N d m (by omega) (by omega) (by omega)
theorem Big3.of {p : Nat → Nat → Nat → Prop} (h : ∀ N d n, p N d n) : Big3 p := ⟨0, fun N d n _ _ _ => h N d n⟩
theorem Big.get {p : Nat → Prop} (h : Big p) : ∃ N, p N := h.elim fun k hk => ⟨k, hk k (Nat.le_refl k)⟩
def I64 (x : Int) : Prop := -9223372036854775808 ≤ x ∧ x ≤ 9223372036854775807
theorem wrap_i64_def (x : Int) : IntKind.i64.wrap x = if x % 18446744073709551616 ≥ 9223372036854775808 then x % 18446744073709551616 - 18446744073709551616 else x % 18446744073709551616 := by
  show (if (true && decide (x % 18446744073709551616 ≥ 9223372036854775808)) = true then x % 18446744073709551616 - 18446744073709551616 else x % 18446744073709551616) = _
  simp only [Bool.true_and, decide_eq_true_eq]
theorem wrap_i64 {x : Int} (h1 : -9223372036854775808 ≤ x) (h2 : x ≤ 9223372036854775807) : IntKind.i64.wrap x = x := by
  rw [wrap_i64_def]
  split <;> omega
theorem drop_cons {α : Type} {xs : List α} {i : Nat} {x : α} {l : List α} (h : xs.drop i = x :: l) : i < xs.length ∧ xs[i]? = some x ∧ xs.drop (i + 1) = l := by
  have h1 : i < xs.length := by
    rcases Nat.lt_or_ge i xs.length with h1 | h1
    · exact h1
    · rw [List.drop_eq_nil_of_le h1] at h; cases h
  rw [List.drop_eq_getElem_cons h1] at h
  cases h
  exact ⟨h1, by simp [h1], rfl⟩
theorem drop_nil {α : Type} {xs : List α} {i : Nat} (h : xs.drop i = []) : xs.length ≤ i := by simpa using h
end Go.Ab
end
section
namespace Go.Ab
set_option linter.unusedVariables false
inductive DK (K : Nat) : D → Prop where
  | int {k n} (h : (Lit.int k n).wf = true) : DK K (.int k n)
  | bool (b) : DK K (.bool b)
  | str {s : Str} (h : s.length ≤ K) : DK K (.str s)
  | sl {sz rows} (h : rows.length ≤ K) (hr : ∀ r ∈ rows, ∀ x ∈ r, DK K x) : DK K (.sl sz rows)
theorem DFit.dk {d : D} (h : DFit d) : DK maxLen d := by
  induction h with
  | int h => exact .int h
  | bool b => exact .bool b
  | str h => exact .str h
  | sl h _ ih => exact .sl h ih
theorem DK.mono {K M : Nat} (hKM : K ≤ M) {d : D} (h : DK K d) : DK M d := by
  induction h with
  | int h => exact .int h
  | bool b => exact .bool b
  | str h => exact .str (by omega)
  | sl h _ ih => exact .sl (by omega) ih
theorem wf_i64 {n : Int} : (Lit.int .i64 n).wf = true ↔ I64 n := by
  show (decide (_ ≤ n) && decide (n ≤ _)) = true ↔ _
  rw [Bool.and_eq_true, decide_eq_true_eq, decide_eq_true_eq]
  exact Iff.rfl
theorem DK.i64 {K : Nat} {n : Int} : DK K (.int .i64 n) ↔ I64 n := ⟨fun h => by cases h with | int h => exact wf_i64.1 h, fun h => .int (wf_i64.2 h)⟩
theorem DK.str_iff {K : Nat} {s : Str} : DK K (.str s) ↔ s.length ≤ K := ⟨fun h => by cases h; assumption, .str⟩
theorem DK.sl_iff {K sz : Nat} {α : Type} {f : α → List D} {xs : List α} : DK K (.sl sz (xs.map f)) ↔ xs.length ≤ K ∧ ∀ x ∈ xs, ∀ d ∈ f x, DK K d := by
  constructor
  · intro h
    cases h with
    | sl h hr => exact ⟨by simpa using h, fun x hx => hr _ (List.mem_map_of_mem hx)⟩
  · rintro ⟨h, hr⟩
    refine .sl (by simpa using h) fun r hr' => ?_
    obtain ⟨x, hx, rfl⟩ := List.mem_map.1 hr'
    exact hr x hx
def LFit {α : Type} (K : Nat) (p : α → Prop) (l : List α) : Prop := l.length ≤ K ∧ ∀ x ∈ l, p x
def Ty.Fit (K : Nat) (T : Ty) (x : T.den) : Prop := ∀ d ∈ T.toD x, DK K d
def Org.Fit (o : Org) : Prop := I64 o.cell ∧ I64 o.row
def Rowd.Fit (K : Nat) (r : Rowd) : Prop := LFit K I64 r.cells ∧ LFit K Org.Fit r.frm
def Str.Fit (K : Nat) (s : Str) : Prop := s.length ≤ K
def Val.Fit (K : Nat) (v : Val) : Prop := ∀ d ∈ Val.toD v, DK K d
def Exp.Fit (K : Nat) (v : Exp) : Prop := ∀ d ∈ Exp.toD v, DK K d
def Fil.Fit (K : Nat) (v : Fil) : Prop := Str.Fit K v.name ∧ I64 v.n
def Tok.Fit (K : Nat) (v : Tok) : Prop := I64 v.kind ∧ I64 v.n ∧ I64 v.pos ∧ Str.Fit K v.text
def Rea.Fit (K : Nat) (v : Rea) : Prop := I64 v.kind ∧ I64 v.n ∧ I64 v.time ∧ Str.Fit K v.text ∧ v.result.Fit K
def Bnd.Fit (K : Nat) (v : Bnd) : Prop := Str.Fit K v.name ∧ v.value.Fit K
def Cel.Fit (K : Nat) (v : Cel) : Prop := I64 v.id ∧ I64 v.version ∧ I64 v.kind ∧ Str.Fit K v.name ∧ Str.Fit K v.code ∧ I64 v.n
def Wld.Fit (K : Nat) (v : Wld) : Prop := I64 v.clock ∧ I64 v.seed ∧ LFit K (Fil.Fit K) v.files
theorem rowd_fit {K : Nat} {r : Rowd} : (∀ d ∈ Rowd.toD r, DK K d) ↔ r.Fit K := by
  simp only [Rowd.toD, List.mem_cons, List.not_mem_nil, or_false, forall_eq_or_imp, forall_eq, DK.sl_iff, DK.i64, Rowd.Fit, LFit, Org.Fit]
theorem bnd_fit {K : Nat} {r : Bnd} : Ty.Fit K .bnd r ↔ r.Fit K := by
  simp only [Ty.Fit, Ty.toD, List.mem_cons, forall_eq_or_imp, DK.str_iff, Bnd.Fit, Str.Fit, Val.Fit]
theorem Val.fit_iff {K : Nat} {v : Val} : v.Fit K ↔ I64 v.kind ∧ I64 v.n ∧ I64 v.step ∧ Str.Fit K v.text ∧ LFit K (Val.Fit K) v.list ∧ LFit K (Str.Fit K) v.columns ∧ LFit K (Rowd.Fit K) v.rows := by
  cases v
  simp only [Val.Fit, Val.toD, Val.toDs_eq, List.mem_cons, List.not_mem_nil, or_false, forall_eq_or_imp, forall_eq, DK.sl_iff, DK.i64, DK.str_iff, Str.Fit, LFit, Val.kind, Val.n, Val.step, Val.text, Val.list, Val.columns, Val.rows, rowd_fit]
theorem Exp.fit_iff {K : Nat} {v : Exp} : v.Fit K ↔ I64 v.kind ∧ I64 v.n ∧ Str.Fit K v.text ∧ LFit K (Exp.Fit K) v.args := by
  cases v
  simp only [Exp.Fit, Exp.toD, Exp.toDs_eq, List.mem_cons, List.not_mem_nil, or_false, forall_eq_or_imp, forall_eq, DK.sl_iff, DK.i64, DK.str_iff, Str.Fit, LFit, Exp.kind, Exp.n, Exp.text, Exp.args]
theorem sizeOf_mem_list {l : List Val} {x : Val} (h : x ∈ l) (k n s : Int) (t : Str) (c : List Str) (r : List Rowd) : SizeOf.sizeOf x < SizeOf.sizeOf (Val.mk k n s t l c r) := by
  have := List.sizeOf_lt_of_mem h
  simp only [Val.mk.sizeOf_spec]
  omega
theorem Val.ind {p : Val → Prop} (h : ∀ k n s t l c r, (∀ x ∈ l, p x) → p (.mk k n s t l c r)) : ∀ v, p v
  | .mk k n s t l c r => h k n s t l c r fun x hx => Val.ind h x
termination_by v => SizeOf.sizeOf v
decreasing_by exact sizeOf_mem_list hx k n s t c r
theorem sizeOf_mem_args {l : List Exp} {x : Exp} (h : x ∈ l) (k n : Int) (t : Str) : SizeOf.sizeOf x < SizeOf.sizeOf (Exp.mk k n t l) := by
  have := List.sizeOf_lt_of_mem h
  simp only [Exp.mk.sizeOf_spec]
  omega
theorem Exp.ind {p : Exp → Prop} (h : ∀ k n t l, (∀ x ∈ l, p x) → p (.mk k n t l)) : ∀ v, p v
  | .mk k n t l => h k n t l fun x hx => Exp.ind h x
termination_by v => SizeOf.sizeOf v
decreasing_by exact sizeOf_mem_args hx k n t
theorem cell_int {n : Int} (h : DK maxLen (CV.int .i64 n).toD) : I64 n := DK.i64.1 h
theorem cell_str {s : Str} (h : DK maxLen (CV.str s).toD) : Str.Fit maxLen s := DK.str_iff.1 h
theorem cell_sl {T : Ty} {f : Fl} {xs : List T.den} (h : DK maxLen (CV.sl f T xs).toD) : LFit maxLen (T.Fit maxLen) xs := DK.sl_iff.1 h
theorem LFit.imp {α : Type} {K : Nat} {p q : α → Prop} {l : List α} (h : LFit K p l) (f : ∀ x, p x → q x) : LFit K q l := ⟨h.1, fun x hx => f x (h.2 x hx)⟩
end Go.Ab
end
section
namespace Go.Ab
set_option linter.unusedVariables false
theorem whileLoop {σ ρ : Type} {L : Nat → σ → Option ρ} (m : σ → Nat) (Inv : σ → Prop) (Post : ρ → Prop)
    (hstep : ∀ s, Inv s → (∃ s', Inv s' ∧ m s' < m s ∧ ∀ n, L (n + 1) s = L n s') ∨ (∃ r, Post r ∧ ∀ n, L (n + 1) s = some r)) :
    ∀ n s, Inv s → m s < n → ∃ r, Post r ∧ L n s = some r := by
  intro n
  induction n with
  | zero => intro s _ h; omega
  | succ n ih =>
    intro s hs hn
    rcases hstep s hs with ⟨s', h1, h2, h3⟩ | ⟨r, h1, h2⟩
    · obtain ⟨r, h4, h5⟩ := ih s' h1 (by omega)
      exact ⟨r, h4, by rw [h3]; exact h5⟩
    · exact ⟨r, h1, h2 n⟩
theorem forList {α σ ρ : Type} {L : Nat → Int → σ → Option ρ} (x0 : List α) (g : List α → σ → ρ) (Inv : Nat → σ → Prop)
    (hnil : ∀ n s, Inv x0.length s → L (n + 1) (x0.length : Nat) s = some (g [] s))
    (hcons : ∀ i x l s, x0.drop i = x :: l → i < x0.length → x0[i]? = some x → Inv i s →
      (∃ s', Inv (i + 1) s' ∧ g (x :: l) s = g l s' ∧ ∀ n, L (n + 1) (i : Nat) s = L n ((i + 1 : Nat) : Int) s') ∨ (∀ n, L (n + 1) (i : Nat) s = some (g (x :: l) s))) :
    ∀ n i s, Inv i s → i ≤ x0.length → x0.length < n + i → L n (i : Nat) s = some (g (x0.drop i) s) := by
  intro n
  induction n with
  | zero => intro i s _ h1 h2; omega
  | succ n ih =>
    intro i s hs hi hn
    cases hd : x0.drop i with
    | nil =>
      have := drop_nil hd
      obtain rfl : i = x0.length := by omega
      exact hnil n s hs
    | cons x l =>
      obtain ⟨h1, h2, h3⟩ := drop_cons hd
      rcases hcons i x l s hd h1 h2 hs with ⟨s', h4, h5, h6⟩ | h
      · rw [h6, ih (i + 1) s' h4 (by omega) (by omega), h3, h5]
      · exact h n
theorem getD_of {α : Type} {xs : List α} {i : Nat} {x : α} (h : xs[i]? = some x) (d : α) : xs.getD i d = x := by simp [List.getD, h]
theorem wrap_succ {i : Nat} {len : Nat} (h : i < len) (hl : len ≤ 9223372036854775807) : IntKind.i64.wrap ((i : Int) + 1) = ((i + 1 : Nat) : Int) := by
  rw [wrap_i64 (by omega) (by omega)]; omega
def left (s : Nat) (l : Int) : Int := if (s : Int) ≤ l then l - s else -1
theorem left_of {s : Nat} {l : Int} (h : (s : Int) ≤ l) : left s l = l - s := by unfold left; rw [if_pos h]
theorem left_not {s : Nat} {l : Int} (h : ¬ (s : Int) ≤ l) : left s l = -1 := by unfold left; rw [if_neg h]
theorem szThen {s b : Nat} {F : Option Int} {R : Int → Option Int} {l : Int} (hl : s ≤ 9223372036854775807) (h0 : 0 ≤ l) (h1 : l ≤ 1048576)
    (hF : F = bif decide (IntKind.i64.wrap (l - (s : Int)) < 0) then some (-1) else R (IntKind.i64.wrap (l - (s : Int))))
    (hR : ∀ m, 0 ≤ m → m ≤ 1048576 → R m = some (left b m)) : F = some (left (s + b) l) := by
  rw [hF, wrap_i64 (by omega) (by omega)]
  by_cases h : (s : Int) ≤ l
  · rw [decide_eq_false (by omega), cond_false, hR _ (by omega) (by omega)]
    unfold left
    split <;> split <;> first | rfl | omega | (congr 1; omega)
  · rw [decide_eq_true (by omega), cond_true, left_not (by omega)]
theorem szLast {s : Nat} {l : Int} (hl : s ≤ 9223372036854775807) (h0 : 0 ≤ l) (h1 : l ≤ 1048576) :
    (bif decide (IntKind.i64.wrap (l - (s : Int)) < 0) then some (-1) else some (IntKind.i64.wrap (l - (s : Int)))) = some (left s l) := by
  rw [wrap_i64 (by omega) (by omega)]
  unfold left
  by_cases h : (s : Int) ≤ l
  · rw [decide_eq_false (by omega), if_pos h]; rfl
  · rw [decide_eq_true (by omega), if_neg h]; rfl
theorem szBind {a b : Nat} {l : Int} {x : Option Int} {R : Int → Option Int} (h0 : 0 ≤ l) (h1 : l ≤ 1048576) (h : x = some (left a l)) (hR : ∀ m, 0 ≤ m → m ≤ 1048576 → R m = some (left b m)) :
    (x.bind fun r1 => bif decide (r1 < 0) then (some (-1) : Option Int) else R r1) = some (left (a + b) l) := by
  rw [h, Option.bind_some]
  by_cases h : (a : Int) ≤ l
  · rw [left_of h, decide_eq_false (by omega), cond_false, hR _ (by omega) (by omega)]
    unfold left
    split <;> split <;> first | rfl | omega | (congr 1; omega)
  · rw [left_not h, left_not (by omega)]; rfl
theorem left_two {a : Nat} {l : Int} {x : Option Int} (h : x = some (left a l)) : (x.bind fun r1 => bif decide (r1 < 0) then (some (-1) : Option Int) else some r1) = some (left a l) := by
  rw [h, Option.bind_some]
  unfold left
  split
  · rw [decide_eq_false (by omega)]; rfl
  · rfl
section
variable {α : Type} {d : α}
theorem szLoop {L : Nat → List α → Int → Int → Option Int} {sz : α → Int → Option Int} {size : α → Nat} {x0 : List α}
    (hL : ∀ n x1 x5, L (n + 1) x0 x1 x5 = bif decide (x5 < (x0.length : Int)) then (if (0 : Int) ≤ x5 ∧ x5 < (x0.length : Int) then Option.bind (sz (x0.getD x5.toNat d) x1) fun r1 => bif decide (r1 < 0) then some (-1) else L n x0 r1 (IntKind.i64.wrap (x5 + 1)) else none) else some x1)
    (hlen : x0.length ≤ 9223372036854775807) (hsz : ∀ x ∈ x0, ∀ l, 0 ≤ l → l ≤ 1048576 → sz x l = some (left (size x) l)) {n : Nat} (hn : x0.length < n) {l : Int} (h0 : 0 ≤ l) (h1 : l ≤ 1048576) :
    L n x0 l 0 = some (left (x0.map size).sum l) := by
  have key := forList (L := fun n i s => L n x0 s i) x0 (fun l s => left (l.map size).sum s) (fun _ s => 0 ≤ s ∧ s ≤ 1048576) (fun n s hs => by
      have hs : 0 ≤ s ∧ s ≤ 1048576 := hs
      simp only [hL]; simp [left]; omega)
    (fun i x r s hd hi hx hs => by
      have hs : 0 ≤ s ∧ s ≤ 1048576 := hs
      have hi' : (i : Int) < (x0.length : Int) := by omega
      have hm : x ∈ x0 := List.mem_of_getElem? hx
      by_cases hle : (size x : Int) ≤ s
      · refine .inl ⟨s - size x, by omega, ?_, fun n => ?_⟩
        · simp only [List.map_cons, List.sum_cons, left]
          split <;> split <;> omega
        · simp only [hL, decide_eq_true hi', cond_true, Int.toNat_natCast, getD_of hx, hsz x hm s hs.1 hs.2, left_of hle, Option.bind_some, wrap_succ hi hlen]
          rw [if_pos (by omega), decide_eq_false (by omega), cond_false]
      · refine .inr fun n => ?_
        simp only [hL, decide_eq_true hi', cond_true, Int.toNat_natCast, getD_of hx, hsz x hm s hs.1 hs.2, left_not hle, Option.bind_some]
        rw [if_pos (by omega), decide_eq_true (by omega), cond_true]
        simp only [List.map_cons, List.sum_cons, left]
        rw [if_neg (by omega)])
    n 0 l ⟨h0, h1⟩ (by omega) (by omega)
  simpa using key
theorem szLoopG {L : Nat → List α → Int → Int → Option Int} {sz : α → Int → Option Int} {size : α → Nat} {x0 : List α}
    (hL : ∀ n x1 x5, L (n + 1) x0 x1 x5 = bif decide (x5 < (x0.length : Int)) then (if (0 : Int) ≤ x5 ∧ x5 < (x0.length : Int) then Option.bind (sz (x0.getD x5.toNat d) x1) fun r1 => bif decide (r1 < 0) then some (-1) else L n x0 r1 (IntKind.i64.wrap (x5 + 1)) else none) else some x1)
    (hlen : x0.length ≤ 9223372036854775807) (hsz : ∀ x ∈ x0, ∀ l, 0 ≤ l → l ≤ 1048576 → ∃ r, sz x l = some r ∧ ((size x : Int) ≤ l → r = l - size x) ∧ (¬ (size x : Int) ≤ l → r < 0)) {n : Nat} (hn : x0.length < n) {l : Int} (h0 : 0 ≤ l) (h1 : l ≤ 1048576) :
    L n x0 l 0 = some (left (x0.map size).sum l) := by
  have key := forList (L := fun n i s => L n x0 s i) x0 (fun l s => left (l.map size).sum s) (fun _ s => 0 ≤ s ∧ s ≤ 1048576) (fun n s hs => by
      have hs : 0 ≤ s ∧ s ≤ 1048576 := hs
      simp only [hL]; simp [left]; omega)
    (fun i x r s hd hi hx hs => by
      have hs : 0 ≤ s ∧ s ≤ 1048576 := hs
      have hi' : (i : Int) < (x0.length : Int) := by omega
      have hm : x ∈ x0 := List.mem_of_getElem? hx
      obtain ⟨q, hq, hq1, hq2⟩ := hsz x hm s hs.1 hs.2
      by_cases hle : (size x : Int) ≤ s
      · refine .inl ⟨s - size x, by omega, ?_, fun n => ?_⟩
        · simp only [List.map_cons, List.sum_cons, left]
          split <;> split <;> omega
        · simp only [hL, decide_eq_true hi', cond_true, Int.toNat_natCast, getD_of hx, hq, hq1 hle, Option.bind_some, wrap_succ hi hlen]
          rw [if_pos (by omega), decide_eq_false (by omega), cond_false]
      · refine .inr fun n => ?_
        simp only [hL, decide_eq_true hi', cond_true, Int.toNat_natCast, getD_of hx, hq, Option.bind_some]
        have := hq2 hle
        rw [if_pos (by omega), decide_eq_true (by omega), cond_true]
        simp only [List.map_cons, List.sum_cons, left]
        rw [if_neg (by omega)])
    n 0 l ⟨h0, h1⟩ (by omega) (by omega)
  simpa using key
theorem toLoop {L : Nat → List α → List α → Int → Option (List α)} {to : α → Option α} {re : α → α} {x0 : List α}
    (hL : ∀ n x3 x4, L (n + 1) x0 x3 x4 = bif decide (x4 < (x0.length : Int)) then (if (0 : Int) ≤ x4 ∧ x4 < (x0.length : Int) then Option.bind (to (x0.getD x4.toNat d)) fun r1 => (if (0 : Int) ≤ x4 ∧ x4 < (x3.length : Int) then L n x0 (x3.set x4.toNat (re r1)) (IntKind.i64.wrap (x4 + 1)) else none) else none) else some x3)
    (hlen : x0.length ≤ 9223372036854775807) (hto : ∀ x ∈ x0, ∃ y, to x = some y ∧ re y = x) {n : Nat} (hn : x0.length < n) :
    L n x0 (List.replicate x0.length d) 0 = some x0 := by
  have key := forList (L := fun n i s => L n x0 s i) x0 (fun _ _ => x0) (fun i s => s = x0.take i ++ List.replicate (x0.length - i) d) (fun n s hs => by
      have hs : s = x0.take x0.length ++ List.replicate (x0.length - x0.length) d := hs
      simp only [hL]; simp [hs])
    (fun i x r s hd hi hx hs => by
      have hs : s = x0.take i ++ List.replicate (x0.length - i) d := hs
      have hi' : (i : Int) < (x0.length : Int) := by omega
      have hm : x ∈ x0 := List.mem_of_getElem? hx
      obtain ⟨y, h1, h2⟩ := hto x hm
      have hsl : s.length = x0.length := by rw [hs]; simp; omega
      refine .inl ⟨s.set i x, ?_, rfl, fun n => ?_⟩
      · show s.set i x = x0.take (i + 1) ++ List.replicate (x0.length - (i + 1)) d
        rw [hs, List.set_append]
        have : (x0.take i).length = i := by simp; omega
        rw [this, if_neg (by omega), List.take_add_one, hx, Option.toList_some, List.append_assoc, Nat.sub_self]
        rw [show x0.length - i = (x0.length - (i + 1)) + 1 from by omega, List.replicate_succ, List.set_cons_zero]
        rfl
      · simp only [hL, decide_eq_true hi', cond_true, Int.toNat_natCast, getD_of hx, h1, h2, Option.bind_some, wrap_succ hi hlen, hsl]
        rw [if_pos (by omega), if_pos (by omega)])
    n 0 (List.replicate x0.length d) (by simp) (by omega) (by omega)
  exact key
theorem eqLoop {L : Nat → Int → Option Bool} {x0 : List α} (hend : ∀ n, L (n + 1) (x0.length : Nat) = some true)
    (hcons : ∀ (i : Nat) x n, i < x0.length → x0[i]? = some x → x ∈ x0 → L (n + 1) (i : Nat) = L n ((i + 1 : Nat) : Int)) {n : Nat} (hn : x0.length < n) : L n 0 = some true := by
  have key := forList (σ := Unit) (L := fun n i _ => L n i) x0 (fun _ _ => true) (fun _ _ => True) (fun n _ _ => hend n)
    (fun i x r s hd hi hx _ => .inl ⟨(), trivial, rfl, fun n => hcons i x n hi hx (List.mem_of_getElem? hx)⟩) n 0 () trivial (by omega) (by omega)
  exact key
end
end Go.Ab
end
section
namespace Go.Ab
set_option linter.unusedVariables false
theorem vk (a b c : Int) (t : Str) (l : List Val) (k : List Str) (r : List Rowd) : (Val.mk a b c t l k r).kind = a := rfl
theorem vn (a b c : Int) (t : Str) (l : List Val) (k : List Str) (r : List Rowd) : (Val.mk a b c t l k r).n = b := rfl
theorem vs (a b c : Int) (t : Str) (l : List Val) (k : List Str) (r : List Rowd) : (Val.mk a b c t l k r).step = c := rfl
theorem vt (a b c : Int) (t : Str) (l : List Val) (k : List Str) (r : List Rowd) : (Val.mk a b c t l k r).text = t := rfl
theorem vl (a b c : Int) (t : Str) (l : List Val) (k : List Str) (r : List Rowd) : (Val.mk a b c t l k r).list = l := rfl
theorem vc (a b c : Int) (t : Str) (l : List Val) (k : List Str) (r : List Rowd) : (Val.mk a b c t l k r).columns = k := rfl
theorem vr (a b c : Int) (t : Str) (l : List Val) (k : List Str) (r : List Rowd) : (Val.mk a b c t l k r).rows = r := rfl
def Fil.size (f : Fil) : Nat := f.name.length
def Wld.size (w : Wld) : Nat := w.files.length + (w.files.map Fil.size).sum
def Cel.size (c : Cel) : Nat := c.name.length + c.code.length
mutual
def Exp.size : Exp → Nat
  | .mk _ _ t a => t.length + (a.length + Exp.sizes a)
def Exp.sizes : List Exp → Nat
  | [] => 0
  | x :: r => Exp.size x + Exp.sizes r
end
theorem Exp.sizes_eq (l : List Exp) : Exp.sizes l = (l.map Exp.size).sum := by
  induction l with
  | nil => rfl
  | cons x l ih => simp [Exp.sizes, ih]
def Rowd.size (r : Rowd) : Nat := r.cells.length + r.frm.length
mutual
def Val.size : Val → Nat
  | .mk _ _ _ t l c r => t.length + (l.length + Val.sizes l) + (c.length + (c.map List.length).sum) + (r.length + (r.map Rowd.size).sum)
def Val.sizes : List Val → Nat
  | [] => 0
  | x :: r => Val.size x + Val.sizes r
end
theorem Val.sizes_eq (l : List Val) : Val.sizes l = (l.map Val.size).sum := by
  induction l with
  | nil => rfl
  | cons x l ih => simp [Val.sizes, ih]
theorem size_mem {α : Type} {f : α → Nat} {l : List α} {x : α} (h : x ∈ l) : f x ≤ (l.map f).sum := by
  induction l with
  | nil => cases h
  | cons a l ih =>
    simp only [List.map_cons, List.sum_cons]
    rcases List.mem_cons.1 h with rfl | h
    · omega
    · have := ih h; omega
theorem Exp.size_eq (e : Exp) : e.size = e.text.length + (e.args.length + (e.args.map Exp.size).sum) := by
  cases e; simp [Exp.size, Exp.sizes_eq, Exp.text, Exp.args]
theorem Val.size_eq (e : Val) : e.size = e.text.length + (e.list.length + (e.list.map Val.size).sum) + (e.columns.length + (e.columns.map List.length).sum) + (e.rows.length + (e.rows.map Rowd.size).sum) := by
  cases e; simp [Val.size, Val.sizes_eq, Val.text, Val.list, Val.columns, Val.rows]
theorem lfit_size {α : Type} {K M : Nat} {p q : α → Prop} {f : α → Nat} {l : List α} (h : LFit M p l) (hs : l.length + (l.map f).sum ≤ K) (hpq : ∀ x ∈ l, p x → f x ≤ K → q x) : LFit K q l :=
  ⟨by omega, fun x hx => hpq x hx (h.2 x hx) (by have := size_mem (f := f) hx; omega)⟩
theorem Exp.fit_size {K M : Nat} : ∀ e : Exp, e.Fit M → e.size ≤ K → e.Fit K := by
  refine Exp.ind fun k n t l ih h hs => ?_
  rw [Exp.fit_iff] at h ⊢
  obtain ⟨h1, h2, h3, h4⟩ := h
  have hs := hs
  rw [Exp.size_eq] at hs
  exact ⟨h1, h2, show List.length _ ≤ K from by omega, lfit_size h4 (by omega) fun x hx => ih x hx⟩
theorem Rowd.fit_size {K M : Nat} {r : Rowd} (h : r.Fit M) (hs : r.size ≤ K) : r.Fit K := by
  unfold Rowd.size at hs
  exact ⟨⟨by omega, h.1.2⟩, ⟨by omega, h.2.2⟩⟩
theorem Val.fit_size {K M : Nat} : ∀ e : Val, e.Fit M → e.size ≤ K → e.Fit K := by
  refine Val.ind fun k n s t l c r ih h hs => ?_
  rw [Val.fit_iff] at h ⊢
  obtain ⟨h1, h2, h3, h4, h5, h6, h7⟩ := h
  have hs := hs
  rw [Val.size_eq] at hs
  exact ⟨h1, h2, h3, show List.length _ ≤ K from by omega, lfit_size h5 (by omega) fun x hx => ih x hx, lfit_size (f := List.length) h6 (by omega) fun x hx _ h => h, lfit_size (f := Rowd.size) h7 (by omega) fun x hx => Rowd.fit_size⟩
theorem Fil.fit_size {K M : Nat} {r : Fil} (h : r.Fit M) (hs : r.size ≤ K) : r.Fit K := ⟨hs, h.2⟩
theorem Wld.fit_size {K M : Nat} {r : Wld} (h : r.Fit M) (hs : r.size ≤ K) : r.Fit K := ⟨h.1, h.2.1, lfit_size (f := Fil.size) h.2.2 hs fun x hx => Fil.fit_size⟩
theorem Cel.fit_size {K M : Nat} {r : Cel} (h : r.Fit M) (hs : r.size ≤ K) : r.Fit K := by
  obtain ⟨h1, h2, h3, h4, h5, h6⟩ := h
  unfold Cel.size at hs
  exact ⟨h1, h2, h3, show List.length _ ≤ K by omega, show List.length _ ≤ K by omega, h6⟩
theorem big_lt (n : Nat) : Big fun N => n < N := ⟨n + 1, fun N h => by omega⟩
end Go.Ab
end
section
namespace Go.Ab
set_option linter.unusedVariables false
theorem markHeld {α : Type} {Lm : Nat → List α → Int → Int → Option (Int × List α)} {Lh : Nat → List α → Int → Int → Option Int} {c : α → Nat} {x0 : List α} {k0 B : Int} {n : Nat}
    (hm : ∀ n xs k, xs.length = x0.length → Lm (n + 1) xs k (xs.length : Nat) = some (k, xs)) (hh : ∀ n ys k, ys.length = x0.length → Lh (n + 1) ys k (ys.length : Nat) = some k)
    (hx : ∀ x ∈ x0, ∀ k, k0 ≤ k → k + c x ≤ B → ∃ y, (∀ n xs (i : Nat), xs.length = x0.length → xs[i]? = some x → Lm (n + 1) xs k i = Lm n (xs.set i y) (k + c x) ((i + 1 : Nat) : Int)) ∧
      (∀ n ys (i : Nat), ys.length = x0.length → ys[i]? = some y → Lh (n + 1) ys k i = Lh n ys (k + c x) ((i + 1 : Nat) : Int)))
    (hk : k0 + (x0.map c).sum ≤ B) (hn : x0.length < n) : ∃ ys, ys.length = x0.length ∧ Lm n x0 k0 0 = some (k0 + (x0.map c).sum, ys) ∧ Lh n ys k0 0 = some (k0 + (x0.map c).sum) := by
  have key : ∀ (l pre : List α) (k : Int) (n : Nat), pre.length + l.length = x0.length → (∀ x ∈ l, x ∈ x0) → k0 ≤ k → k + (l.map c).sum ≤ B → l.length < n →
      ∃ ys, ys.length = l.length ∧ Lm n (pre ++ l) k (pre.length : Nat) = some (k + (l.map c).sum, pre ++ ys) ∧ ∀ pre' : List α, pre'.length = pre.length → Lh n (pre' ++ ys) k (pre.length : Nat) = some (k + (l.map c).sum) := by
    intro l
    induction l with
    | nil =>
      intro pre k n hl hmem h0 hB hn
      obtain ⟨n, rfl⟩ : ∃ m, n = m + 1 := ⟨n - 1, by simp at hn; omega⟩
      refine ⟨[], rfl, ?_, fun pre' hp => ?_⟩
      · have := hm n (pre ++ []) k (by simpa using hl)
        simpa using this
      · have := hh n (pre' ++ []) k (by simp [hp]; simpa using hl)
        simp only [List.append_nil, hp] at this
        simpa using this
    | cons x l ih =>
      intro pre k n hl hmem h0 hB hn
      obtain ⟨n, rfl⟩ : ∃ m, n = m + 1 := ⟨n - 1, by simp at hn; omega⟩
      simp only [List.map_cons, List.sum_cons, List.length_cons] at hB hl hn
      obtain ⟨y, h1, h2⟩ := hx x (hmem x List.mem_cons_self) k h0 (by omega)
      obtain ⟨ys, g1, g2, g3⟩ := ih (pre ++ [y]) (k + c x) n (by simp; omega) (fun z hz => hmem z (List.mem_cons_of_mem _ hz)) (by omega) (by omega) (by omega)
      refine ⟨y :: ys, by simp [g1], ?_, fun pre' hp => ?_⟩
      · rw [h1 n (pre ++ x :: l) pre.length (by simp; omega) (by simp)]
        rw [List.set_append, if_neg (by omega), Nat.sub_self, List.set_cons_zero]
        have e : ((pre.length + 1 : Nat) : Int) = ((pre ++ [y]).length : Nat) := by simp
        rw [e, show pre ++ y :: l = (pre ++ [y]) ++ l from by simp, g2]
        simp only [List.map_cons, List.sum_cons, List.append_assoc, List.cons_append, List.nil_append]
        congr 2
        omega
      · rw [h2 n (pre' ++ y :: ys) pre.length (by simp [hp, g1]; omega) (by rw [← hp]; simp)]
        have e : ((pre.length + 1 : Nat) : Int) = ((pre ++ [y]).length : Nat) := by simp
        rw [e, show pre' ++ y :: ys = (pre' ++ [y]) ++ ys from by simp, g3 (pre' ++ [y]) (by simp [hp])]
        simp only [List.map_cons, List.sum_cons]
        congr 1
        omega
  obtain ⟨ys, h1, h2, h3⟩ := key x0 [] k0 n (by simp) (fun x h => h) (Int.le_refl _) hk hn
  exact ⟨ys, h1, h2, by simpa using h3 [] rfl⟩
theorem sum_le_mul {α : Type} {f g : α → Nat} {l : List α} {a : Nat} (h : ∀ x ∈ l, f x ≤ a + a * g x) : (l.map f).sum ≤ a * (l.length + (l.map g).sum) := by
  induction l with
  | nil => simp
  | cons x l ih =>
    have h1 := h x List.mem_cons_self
    have h2 := ih fun y hy => h y (List.mem_cons_of_mem _ hy)
    simp only [List.map_cons, List.sum_cons, List.length_cons, Nat.mul_add] at h2 ⊢
    omega
theorem getD_set_self {α : Type} {xs : List α} {i : Nat} (h : i < xs.length) (y d : α) : (xs.set i y).getD i d = y := by simp [List.getD, h]
end Go.Ab
end
section
namespace Go.Ab
set_option linter.unusedVariables false
set_option linter.unusedSimpArgs false
theorem left_ge {s : Nat} {l : Int} (h : ¬ left s l < 0) : (s : Int) ≤ l := by unfold left at h; split at h <;> omega
end Go.Ab
end
section
namespace Go.Ab
set_option linter.unusedVariables false
set_option linter.unusedSimpArgs false
theorem markText_some {N : Nat} (hN : 274877906944 < N) {k : Int} (h0 : 0 ≤ k) (h1 : k ≤ 137438953472) : ∃ t, laws_markText N k = some t := by
  unfold laws_markText
  cases decide (k ≤ 0)
  · rw [cond_false]
    obtain ⟨r, _, hr⟩ := whileLoop (L := fun n (s : Int × Str) => laws_markText_b4 N n s.1 s.2) (fun s => s.1.toNat) (fun s => 0 ≤ s.1 ∧ (s.2.length : Int) + s.1 ≤ 137438953472) (fun _ => True) (fun s hs => by
      obtain ⟨x, t⟩ := s
      obtain ⟨g0, g1⟩ := hs
      have g0 : 0 ≤ x := g0
      have g1 : (t.length : Int) + x ≤ 137438953472 := g1
      by_cases hx : x > 0
      · have hq : Int.tdiv x 10 = x / 10 := Int.tdiv_eq_ediv_of_nonneg g0
        refine .inl ⟨(IntKind.i64.wrap (Int.tdiv x 10), (List.map (fun n => UInt8.ofNat (Int.toNat n)) [(IntKind.u8.wrap ((IntKind.i64.wrap (48 + (Int.tmod x 10)))))]) ++ t), ?_, ?_, fun n => ?_⟩
        · show 0 ≤ IntKind.i64.wrap (Int.tdiv x 10) ∧ _
          rw [hq, wrap_i64 (by omega) (by omega)]
          simp only [List.map_cons, List.map_nil, List.cons_append, List.nil_append, List.length_cons]
          omega
        · show (IntKind.i64.wrap (Int.tdiv x 10)).toNat < x.toNat
          rw [hq, wrap_i64 (by omega) (by omega)]
          omega
        · simp only [laws_markText_b4, decide_eq_true hx, cond_true]
          rw [if_pos (by simp only [List.map_cons, List.map_nil, List.length_cons, List.length_nil]; unfold Lim; omega)]
      · refine .inr ⟨[109] ++ t, trivial, fun n => ?_⟩
        simp only [laws_markText_b4, decide_eq_false hx, cond_false]
        rw [if_pos (by simp only [List.length_cons, List.length_nil]; unfold Lim; omega)]) N (k, []) ⟨h0, by simpa using h1⟩ (by show k.toNat < N; omega)
    exact ⟨r, hr⟩
  · exact ⟨_, rfl⟩
end Go.Ab
end
section
namespace Go.Ab
set_option linter.unusedVariables false
set_option linter.unusedSimpArgs false
theorem szIntS_eq {N : Nat} {x0 : List Int} (h : x0.length ≤ 9223372036854775807) {l : Int} (h0 : 0 ≤ l) (h1 : l ≤ 1048576) : laws_szIntS N x0 l = some (left x0.length l) := szLast h h0 h1
theorem szOriginS_eq {N : Nat} {x0 : List Org} (h : x0.length ≤ 9223372036854775807) {l : Int} (h0 : 0 ≤ l) (h1 : l ≤ 1048576) : laws_szOriginS N x0 l = some (left x0.length l) := szLast h h0 h1
theorem szRow_eq {N : Nat} {r : Rowd} (h : r.Fit maxLen) {l : Int} (h0 : 0 ≤ l) (h1 : l ≤ 1048576) : laws_szRow N r l = some (left r.size l) :=
  szBind h0 h1 (szIntS_eq h.1.1 h0 h1) fun m m0 m1 => left_two (szOriginS_eq h.2.1 m0 m1)
theorem szRowS_eq {N : Nat} {x0 : List Rowd} (h : LFit maxLen (Rowd.Fit maxLen) x0) (hn : x0.length < N) {l : Int} (h0 : 0 ≤ l) (h1 : l ≤ 1048576) : laws_szRowS N x0 l = some (left (x0.length + (x0.map Rowd.size).sum) l) :=
  szThen h.1 h0 h1 rfl fun m hm0 hm1 => szLoop (L := fun n x0 x1 x5 => laws_szRowS_b5 N n x0 x1 x5) (d := Ty.row.dflt) (sz := laws_szRow N) (fun _ _ _ => rfl) h.1 (fun x hx l h0 h1 => szRow_eq (h.2 x hx) h0 h1) hn hm0 hm1
theorem szStringS_eq {N : Nat} {x0 : List Str} (h : LFit maxLen (Str.Fit maxLen) x0) (hn : x0.length < N) {l : Int} (h0 : 0 ≤ l) (h1 : l ≤ 1048576) : laws_szStringS N x0 l = some (left (x0.length + (x0.map List.length).sum) l) :=
  szThen h.1 h0 h1 rfl fun m hm0 hm1 => szLoopG (L := fun n x0 x1 x5 => laws_szStringS_b5 N n x0 x1 x5) (d := Ty.str.dflt) (sz := fun s l => some (IntKind.i64.wrap (l - (List.length s : Int)))) (size := List.length) (fun _ _ _ => rfl) h.1
    (fun x hx l h0 h1 => by
      have hx : x.length ≤ 9223372036854775807 := h.2 x hx
      exact ⟨_, rfl, fun h => by rw [wrap_i64 (by omega) (by omega)], fun h => by rw [wrap_i64 (by omega) (by omega)]; omega⟩) hn hm0 hm1
theorem szValue_big : ∀ v : Val, v.Fit maxLen → Big2 fun N d => ∀ l, 0 ≤ l → l ≤ 1048576 → (laws_szValue_fix N d).c_laws_szValue v l = some (left v.size l) := by
  refine Val.ind fun k n s t a c r ih h => ?_
  obtain ⟨h1, h2, h3, h4, h5, h6, h7⟩ := Val.fit_iff.1 h
  refine Big2.succ (Big2.succ ?_)
  refine ((Big2.list fun x hx => ih x hx (h5.2 x hx)).and ((big_lt a.length).and ((big_lt c.length).and (big_lt r.length))).two).imp fun N d ⟨hx, hn, hc, hr⟩ l h0 l1 => ?_
  have e : (Val.mk k n s t a c r).size = t.length + ((a.length + (a.map Val.size).sum) + ((c.length + (c.map List.length).sum) + (r.length + (r.map Rowd.size).sum))) := by rw [Val.size_eq]; simp only [Val.text, Val.list, Val.columns, Val.rows]; omega
  rw [e]
  exact szThen h4 h0 l1 rfl fun m m0 m1 => szBind m0 m1 (szThen h5.1 m0 m1 rfl fun m m0 m1 =>
    szLoop (L := fun n x0 x1 x5 => laws_szValueS_b5 N (laws_szValue_fix N d).c_laws_szValue (laws_szValue_fix N d).c_laws_szValueS n x0 x1 x5) (d := Ty.val.dflt) (sz := (laws_szValue_fix N d).c_laws_szValue)
      (fun _ _ _ => rfl) h5.1 (fun x hxm l h0 h1 => hx x hxm l h0 h1) hn m0 m1) fun m m0 m1 => szBind m0 m1 (szStringS_eq h6 hc m0 m1) fun m m0 m1 => left_two (szRowS_eq h7 hr m0 m1)
theorem szValue_eq {v : Val} (h : v.Fit maxLen) : Big fun N => ∀ l, 0 ≤ l → l ≤ 1048576 → laws_szValue N v l = some (left v.size l) := (szValue_big v h).diag
theorem toIntS_eq {N : Nat} {x0 : List Int} (hl : x0.length ≤ 1048576) (hn : x0.length < N) : laws_toIntS N x0 = some x0 := by
  unfold laws_toIntS
  rw [if_pos ⟨by omega, rfl, by unfold Lim; omega⟩]
  exact toLoop (L := fun n x0 x3 x4 => laws_toIntS_b3 N n x0 x3 x4) (to := some) (re := fun r => r) (fun _ _ _ => rfl) (by omega) (fun x hx => ⟨x, rfl, rfl⟩) hn
theorem toStringS_eq {N : Nat} {x0 : List Str} (hl : x0.length ≤ 1048576) (hn : x0.length < N) : laws_toStringS N x0 = some x0 := by
  unfold laws_toStringS
  rw [if_pos ⟨by omega, rfl, by unfold Lim; omega⟩]
  exact toLoop (L := fun n x0 x3 x4 => laws_toStringS_b3 N n x0 x3 x4) (to := some) (re := fun r => r) (fun _ _ _ => rfl) (by omega) (fun x hx => ⟨x, rfl, rfl⟩) hn
theorem toOriginS_eq {N : Nat} {x0 : List Org} (hl : x0.length ≤ 1048576) (hn : x0.length < N) : laws_toOriginS N x0 = some x0 := by
  unfold laws_toOriginS
  rw [if_pos ⟨by omega, rfl, by unfold Lim; omega⟩]
  exact toLoop (L := fun n x0 x3 x4 => laws_toOriginS_b3 N n x0 x3 x4) (to := laws_toOrigin N) (re := fun r => r) (fun _ _ _ => rfl) (by omega) (fun x hx => ⟨x, rfl, rfl⟩) hn
theorem toRow_eq {N : Nat} {r : Rowd} (h : r.Fit 1048576) (hN : 1048576 < N) : laws_toRow N r = some r := by
  have h1 : r.cells.length ≤ 1048576 := h.1.1
  have h2 : r.frm.length ≤ 1048576 := h.2.1
  unfold laws_toRow
  rw [toIntS_eq h1 (by omega), toOriginS_eq h2 (by omega)]; rfl
theorem toRowS_eq {N : Nat} {x0 : List Rowd} (h : LFit 1048576 (Rowd.Fit 1048576) x0) (hN : 1048576 < N) : laws_toRowS N x0 = some x0 := by
  have hl : x0.length ≤ 1048576 := h.1
  unfold laws_toRowS
  rw [if_pos ⟨by omega, rfl, by unfold Lim; omega⟩]
  exact toLoop (L := fun n x0 x3 x4 => laws_toRowS_b3 N n x0 x3 x4) (to := laws_toRow N) (re := fun r => r) (fun _ _ _ => rfl) (by omega) (fun x hx => ⟨x, toRow_eq (h.2 x hx) hN, rfl⟩) (by omega)
theorem toValueS_step {N d : Nat} {a : List Val} (hl : a.length ≤ 1048576) (hn : a.length < N) (hx : ∀ x ∈ a, (laws_toValue_fix N d).c_laws_toValue x = some x) : (laws_toValue_fix N (d + 1)).c_laws_toValueS a = some a := by
  show laws_toValueS_body N (laws_toValue_fix N d).c_laws_toValue (laws_toValue_fix N d).c_laws_toValueS a = _
  unfold laws_toValueS_body
  rw [if_pos ⟨by omega, rfl, by unfold Lim; omega⟩]
  exact toLoop (L := fun n x0 x3 x4 => laws_toValueS_b3 N (laws_toValue_fix N d).c_laws_toValue (laws_toValue_fix N d).c_laws_toValueS n x0 x3 x4) (to := (laws_toValue_fix N d).c_laws_toValue) (re := Val.re) (fun _ _ _ => rfl) (by omega) (fun x hxm => ⟨x, hx x hxm, Val.re_eq x⟩) hn
theorem toValue_big : ∀ v : Val, v.Fit 1048576 → Big2 fun N d => (laws_toValue_fix N d).c_laws_toValue v = some v := by
  refine Val.ind fun k n s t a c r ih h => ?_
  obtain ⟨h1, h2, h3, h4, h5, h6, h7⟩ := Val.fit_iff.1 h
  refine Big2.succ (Big2.succ ?_)
  refine ((Big2.list fun x hx => ih x hx (h5.2 x hx)).and (big_lt 1048576).two).imp fun N d ⟨hx, hN⟩ => ?_
  have hl : a.length ≤ 1048576 := h5.1
  have hc : c.length ≤ 1048576 := h6.1
  show laws_toValue_body N (laws_toValue_fix N (d + 1)).c_laws_toValue (laws_toValue_fix N (d + 1)).c_laws_toValueS _ = _
  unfold laws_toValue_body
  simp only [Val.list, Val.columns, Val.rows, toValueS_step (N := N) hl (by omega) hx, toStringS_eq (N := N) hc (by omega), toRowS_eq (x0 := r) h7 hN, Option.bind_some]
  rfl
theorem toValue_eq {v : Val} (h : v.Fit 1048576) : Big fun N => laws_toValue N v = some v := (toValue_big v h).diag
theorem eqIntS_self {N : Nat} {x0 : List Int} (hl : x0.length ≤ 9223372036854775807) (hn : x0.length < N) : laws_eqIntS N x0 x0 = some true := by
  unfold laws_eqIntS
  rw [bne_self_eq_false, cond_false]
  exact eqLoop (L := fun n i => laws_eqIntS_b4 N n x0 x0 i) (fun n => by simp [laws_eqIntS_b4]) (fun i x n hi hx hm => by
    have hi' : (i : Int) < (x0.length : Int) := by omega
    simp only [laws_eqIntS_b4, decide_eq_true hi', cond_true, Int.toNat_natCast, getD_of hx, wrap_succ hi hl, bne_self_eq_false, cond_false]
    rw [if_pos (by omega), if_pos (by omega)]) hn
theorem eqStringS_self {N : Nat} {x0 : List Str} (hl : x0.length ≤ 9223372036854775807) (hn : x0.length < N) : laws_eqStringS N x0 x0 = some true := by
  unfold laws_eqStringS
  rw [bne_self_eq_false, cond_false]
  exact eqLoop (L := fun n i => laws_eqStringS_b4 N n x0 x0 i) (fun n => by simp [laws_eqStringS_b4]) (fun i x n hi hx hm => by
    have hi' : (i : Int) < (x0.length : Int) := by omega
    simp only [laws_eqStringS_b4, decide_eq_true hi', cond_true, Int.toNat_natCast, getD_of hx, wrap_succ hi hl, beq_self_eq_true, Bool.not_true, cond_false]
    rw [if_pos (by omega), if_pos (by omega)]) hn
theorem eqOrigin_self (N : Nat) (f : Org) : laws_eqOrigin N f f = some true := by simp [laws_eqOrigin]
theorem eqOriginS_self {N : Nat} {x0 : List Org} (hl : x0.length ≤ 9223372036854775807) (hn : x0.length < N) : laws_eqOriginS N x0 x0 = some true := by
  unfold laws_eqOriginS
  rw [bne_self_eq_false, cond_false]
  exact eqLoop (L := fun n i => laws_eqOriginS_b4 N n x0 x0 i) (fun n => by simp [laws_eqOriginS_b4]) (fun i x n hi hx hm => by
    have hi' : (i : Int) < (x0.length : Int) := by omega
    simp only [laws_eqOriginS_b4, decide_eq_true hi', cond_true, Int.toNat_natCast, getD_of hx, eqOrigin_self, Option.bind_some, wrap_succ hi hl, Bool.not_true, cond_false]
    rw [if_pos (by omega), if_pos (by omega)]) hn
theorem eqRow_self {N K : Nat} {r : Rowd} (h : r.Fit K) (hK : K ≤ 9223372036854775807) (hN : K < N) : laws_eqRow N r r = some true := by
  have h1 : r.cells.length ≤ K := h.1.1
  have h2 : r.frm.length ≤ K := h.2.1
  simp [laws_eqRow, eqIntS_self (by omega : r.cells.length ≤ _) (by omega : _ < N), eqOriginS_self (by omega : r.frm.length ≤ _) (by omega : _ < N)]
theorem eqRowS_self {N K : Nat} {x0 : List Rowd} (h : LFit K (Rowd.Fit K) x0) (hK : K ≤ 9223372036854775807) (hN : K < N) : laws_eqRowS N x0 x0 = some true := by
  have hl : x0.length ≤ K := h.1
  unfold laws_eqRowS
  rw [bne_self_eq_false, cond_false]
  exact eqLoop (x0 := x0) (L := fun n i => laws_eqRowS_b4 N n x0 x0 i) (fun n => by simp [laws_eqRowS_b4]) (fun i x n hi hx hm => by
    have hi' : (i : Int) < (x0.length : Int) := by omega
    simp only [laws_eqRowS_b4, decide_eq_true hi', cond_true, Int.toNat_natCast, getD_of hx, eqRow_self (h.2 x hm) hK hN, Option.bind_some, wrap_succ hi (by omega : x0.length ≤ _), Bool.not_true, cond_false]
    rw [if_pos (by omega), if_pos (by omega)]) (by omega)
theorem eqValueS_step {N d : Nat} {a : List Val} (hl : a.length ≤ 9223372036854775807) (hn : a.length < N) (hx : ∀ x ∈ a, (laws_eqValue_fix N d).c_laws_eqValue x x = some true) : (laws_eqValue_fix N (d + 1)).c_laws_eqValueS a a = some true := by
  show laws_eqValueS_body N (laws_eqValue_fix N d).c_laws_eqValue (laws_eqValue_fix N d).c_laws_eqValueS a a = _
  unfold laws_eqValueS_body
  rw [bne_self_eq_false, cond_false]
  exact eqLoop (L := fun n i => laws_eqValueS_b4 N (laws_eqValue_fix N d).c_laws_eqValue (laws_eqValue_fix N d).c_laws_eqValueS n a a i) (fun n => by simp [laws_eqValueS_b4]) (fun i x n hi hxi hm => by
    have hi' : (i : Int) < (a.length : Int) := by omega
    simp only [laws_eqValueS_b4, decide_eq_true hi', cond_true, Int.toNat_natCast, getD_of hxi, hx x hm, Option.bind_some, wrap_succ hi (by omega : a.length ≤ _), Bool.not_true, cond_false]
    rw [if_pos (by omega), if_pos (by omega)]) hn
theorem eqValue_big {K : Nat} (hK : K ≤ 9223372036854775807) : ∀ v : Val, v.Fit K → Big2 fun N d => (laws_eqValue_fix N d).c_laws_eqValue v v = some true := by
  refine Val.ind fun k n s t a c r ih h => ?_
  obtain ⟨h1, h2, h3, h4, h5, h6, h7⟩ := Val.fit_iff.1 h
  refine Big2.succ (Big2.succ ?_)
  refine ((Big2.list fun x hx => ih x hx (h5.2 x hx)).and (big_lt K).two).imp fun N d ⟨hx, hN⟩ => ?_
  have hl : a.length ≤ K := h5.1
  have hc : c.length ≤ K := h6.1
  show laws_eqValue_body N (laws_eqValue_fix N (d + 1)).c_laws_eqValue (laws_eqValue_fix N (d + 1)).c_laws_eqValueS _ _ = _
  unfold laws_eqValue_body
  simp only [Val.list, Val.columns, Val.rows, eqValueS_step (by omega : a.length ≤ _) (by omega : _ < N) hx, eqStringS_self (by omega : c.length ≤ _) (by omega : _ < N), eqRowS_self (x0 := r) h7 hK hN, Option.bind_some, bne_self_eq_false, beq_self_eq_true, Bool.not_true, cond_false]
theorem eqValue_self {v : Val} {K : Nat} (h : v.Fit K) (hK : K ≤ 9223372036854775807) : Big fun N => laws_eqValue N v v = some true := (eqValue_big hK v h).diag
def cOne {α : Type} (_ : α) : Nat := 1
def cOrg (_ : Org) : Nat := 2
def cRow (r : Rowd) : Nat := (r.cells.map cOne).sum + (r.frm.map cOrg).sum
theorem cOne_sum {α : Type} (xs : List α) : (xs.map cOne).sum = xs.length := by
  induction xs with
  | nil => rfl
  | cons x l ih => simp only [List.map_cons, List.sum_cons, ih, List.length_cons, cOne]; omega
theorem cOrg_sum (xs : List Org) : (xs.map cOrg).sum = 2 * xs.length := by
  induction xs with
  | nil => rfl
  | cons x l ih => simp only [List.map_cons, List.sum_cons, ih, List.length_cons, cOrg]; omega
theorem markIntS_held {N : Nat} (hN : 274877906944 < N) {xs : List Int} {k : Int} (h0 : 0 ≤ k) (h1 : k + ((xs.map cOne).sum : Nat) ≤ 137438953472) :
    ∃ ys, ys.length = xs.length ∧ laws_markIntS N xs k = some (k + ((xs.map cOne).sum : Nat), ys) ∧ laws_heldIntS N ys k = some (k + ((xs.map cOne).sum : Nat)) := by
  have hs := cOne_sum xs
  refine markHeld (Lm := fun n xs k i => laws_markIntS_b2 N n xs k i) (Lh := fun n ys k i => laws_heldIntS_b2 N n ys k i) (c := cOne) (fun n xs k hl => by simp [laws_markIntS_b2]) (fun n ys k hl => by simp [laws_heldIntS_b2])
    (fun x hx k hk hB => ?_) h1 (by omega)
  have hc : cOne x = 1 := rfl
  rw [hc] at hB ⊢
  refine ⟨k, fun n xs' i hl hxi => ?_, fun n ys i hl hyi => ?_⟩
  · have hi := (List.getElem?_eq_some_iff.1 hxi).1
    have hi' : (i : Int) < (xs'.length : Int) := by omega
    simp only [laws_markIntS_b2, decide_eq_true hi', cond_true, Int.toNat_natCast, wrap_succ hi (by omega : xs'.length ≤ _), wrap_i64 (x := k + 1) (by omega) (by omega)]
    rw [if_pos (by omega)]; rfl
  · have hi := (List.getElem?_eq_some_iff.1 hyi).1
    have hi' : (i : Int) < (ys.length : Int) := by omega
    simp only [laws_heldIntS_b2, decide_eq_true hi', cond_true, Int.toNat_natCast, getD_of hyi, wrap_succ hi (by omega : ys.length ≤ _), wrap_i64 (x := k + 1) (by omega) (by omega), bne_self_eq_false, cond_false]
    rw [if_pos (by omega)]; rfl
theorem markStringS_held {N : Nat} (hN : 274877906944 < N) {xs : List Str} {k : Int} (h0 : 0 ≤ k) (h1 : k + ((xs.map cOne).sum : Nat) ≤ 137438953472) :
    ∃ ys, ys.length = xs.length ∧ laws_markStringS N xs k = some (k + ((xs.map cOne).sum : Nat), ys) ∧ laws_heldStringS N ys k = some (k + ((xs.map cOne).sum : Nat)) := by
  have hs := cOne_sum xs
  refine markHeld (Lm := fun n xs k i => laws_markStringS_b2 N n xs k i) (Lh := fun n ys k i => laws_heldStringS_b2 N n ys k i) (c := cOne) (fun n xs k hl => by simp [laws_markStringS_b2]) (fun n ys k hl => by simp [laws_heldStringS_b2])
    (fun x hx k hk hB => ?_) h1 (by omega)
  have hc : cOne x = 1 := rfl
  rw [hc] at hB ⊢
  obtain ⟨t, ht⟩ := markText_some hN (k := k) (by omega) (by omega)
  refine ⟨t, fun n xs' i hl hxi => ?_, fun n ys i hl hyi => ?_⟩
  · have hi := (List.getElem?_eq_some_iff.1 hxi).1
    have hi' : (i : Int) < (xs'.length : Int) := by omega
    simp only [laws_markStringS_b2, decide_eq_true hi', cond_true, Int.toNat_natCast, ht, Option.bind_some, wrap_succ hi (by omega : xs'.length ≤ _), wrap_i64 (x := k + 1) (by omega) (by omega)]
    rw [if_pos (by omega)]; rfl
  · have hi := (List.getElem?_eq_some_iff.1 hyi).1
    have hi' : (i : Int) < (ys.length : Int) := by omega
    simp only [laws_heldStringS_b2, decide_eq_true hi', cond_true, Int.toNat_natCast, getD_of hyi, ht, Option.bind_some, wrap_succ hi (by omega : ys.length ≤ _), wrap_i64 (x := k + 1) (by omega) (by omega), beq_self_eq_true, Bool.not_true, cond_false]
    rw [if_pos (by omega)]; rfl
theorem markOriginS_held {N : Nat} (hN : 274877906944 < N) {xs : List Org} {k : Int} (h0 : 0 ≤ k) (h1 : k + ((xs.map cOrg).sum : Nat) ≤ 137438953472) :
    ∃ ys, ys.length = xs.length ∧ laws_markOriginS N xs k = some (k + ((xs.map cOrg).sum : Nat), ys) ∧ laws_heldOriginS N ys k = some (k + ((xs.map cOrg).sum : Nat)) := by
  have hs := cOrg_sum xs
  refine markHeld (Lm := fun n xs k i => laws_markOriginS_b2 N n xs k i) (Lh := fun n ys k i => laws_heldOriginS_b2 N n ys k i) (c := cOrg) (fun n xs k hl => by simp [laws_markOriginS_b2]) (fun n ys k hl => by simp [laws_heldOriginS_b2])
    (fun x hx k hk hB => ?_) h1 (by omega)
  have hc : cOrg x = 2 := rfl
  rw [hc] at hB ⊢
  refine ⟨⟨k, k + 1⟩, fun n xs' i hl hxi => ?_, fun n ys i hl hyi => ?_⟩
  · have hi := (List.getElem?_eq_some_iff.1 hxi).1
    have hi' : (i : Int) < (xs'.length : Int) := by omega
    simp only [laws_markOriginS_b2, decide_eq_true hi', cond_true, Int.toNat_natCast, getD_of hxi, List.length_set, getD_set_self hi, List.set_set, wrap_succ hi (by omega : xs'.length ≤ _)]
    rw [if_pos (by omega), if_pos (by omega), wrap_i64 (x := k + 1) (by omega) (by omega), wrap_i64 (x := k + 1 + 1) (by omega) (by omega)]
    congr 1
    omega
  · have hi := (List.getElem?_eq_some_iff.1 hyi).1
    have hi' : (i : Int) < (ys.length : Int) := by omega
    simp only [laws_heldOriginS_b2, decide_eq_true hi', cond_true, Int.toNat_natCast, getD_of hyi, wrap_succ hi (by omega : ys.length ≤ _), wrap_i64 (x := k + 1) (by omega) (by omega), wrap_i64 (x := k + 1 + 1) (by omega) (by omega), bne_self_eq_false, cond_false]
    rw [if_pos (by omega)]
    congr 1
    omega
theorem markRowS_held {N : Nat} (hN : 274877906944 < N) {xs : List Rowd} {k : Int} (hlen : xs.length ≤ 137438953472) (h0 : 0 ≤ k) (h1 : k + ((xs.map cRow).sum : Nat) ≤ 137438953472) :
    ∃ ys, ys.length = xs.length ∧ laws_markRowS N xs k = some (k + ((xs.map cRow).sum : Nat), ys) ∧ laws_heldRowS N ys k = some (k + ((xs.map cRow).sum : Nat)) := by
  refine markHeld (Lm := fun n xs k i => laws_markRowS_b2 N n xs k i) (Lh := fun n ys k i => laws_heldRowS_b2 N n ys k i) (c := cRow) (fun n xs k hl => by simp [laws_markRowS_b2]) (fun n ys k hl => by simp [laws_heldRowS_b2])
    (fun x hx k hk hB => ?_) h1 (by omega)
  have hc : cRow x = (x.cells.map cOne).sum + (x.frm.map cOrg).sum := rfl
  rw [hc] at hB ⊢
  obtain ⟨ya, a1, a2, a3⟩ := markIntS_held hN (xs := x.cells) (k := k) (by omega) (by omega)
  obtain ⟨yb, b1, b2, b3⟩ := markOriginS_held hN (xs := x.frm) (k := k + ((x.cells.map cOne).sum : Nat)) (by omega) (by omega)
  refine ⟨⟨ya, yb⟩, fun n xs' i hl hxi => ?_, fun n ys i hl hyi => ?_⟩
  · have hi := (List.getElem?_eq_some_iff.1 hxi).1
    have hi' : (i : Int) < (xs'.length : Int) := by omega
    have hcd : (0 : Int) ≤ (i : Int) ∧ (i : Int) < (xs'.length : Int) := by omega
    simp only [laws_markRowS_b2, decide_eq_true hi', cond_true, Int.toNat_natCast, getD_of hxi, List.length_set, getD_set_self hi, List.set_set, wrap_succ hi (by omega : xs'.length ≤ _), if_pos hcd, a2, b2, if_pos a1, if_pos b1, Option.bind_some]
    congr 1
    omega
  · have hi := (List.getElem?_eq_some_iff.1 hyi).1
    have hi' : (i : Int) < (ys.length : Int) := by omega
    have hcd : (0 : Int) ≤ (i : Int) ∧ (i : Int) < (ys.length : Int) := by omega
    simp only [laws_heldRowS_b2, decide_eq_true hi', cond_true, Int.toNat_natCast, getD_of hyi, wrap_succ hi (by omega : ys.length ≤ _), if_pos hcd, a3, b3, Option.bind_some]
    rw [decide_eq_false (by omega), cond_false, decide_eq_false (by omega), cond_false]
    congr 1
    omega
mutual
def Val.cnt : Val → Nat
  | .mk _ _ _ _ l c r => 4 + Val.cnts l + (c.map cOne).sum + (r.map cRow).sum
def Val.cnts : List Val → Nat
  | [] => 0
  | x :: r => Val.cnt x + Val.cnts r
end
theorem Val.cnts_eq (l : List Val) : Val.cnts l = (l.map Val.cnt).sum := by
  induction l with
  | nil => rfl
  | cons x l ih => simp [Val.cnts, ih]
theorem cRow_le (l : List Rowd) : (l.map cRow).sum ≤ 2 * (l.length + (l.map Rowd.size).sum) :=
  sum_le_mul fun x _ => by simp only [cRow, cOne_sum, cOrg_sum, Rowd.size]; omega
theorem Val.cnt_le : ∀ v : Val, v.cnt ≤ 4 + 4 * v.size := by
  refine Val.ind fun k n s t l c r ih => ?_
  have h1 := sum_le_mul (f := Val.cnt) (g := Val.size) (l := l) (a := 4) fun x hx => ih x hx
  have h2 := cRow_le r
  have h3 := cOne_sum c
  rw [Val.size_eq]
  simp only [Val.cnt, Val.cnts_eq, Val.text, Val.list, Val.columns, Val.rows, h3] at h1 h2 ⊢
  omega
theorem cnts_len (l : List Val) : l.length ≤ (l.map Val.cnt).sum := by
  induction l with
  | nil => simp
  | cons x l ih =>
    have : 4 ≤ x.cnt := by cases x; simp only [Val.cnt]; omega
    simp only [List.length_cons, List.map_cons, List.sum_cons]; omega
def MarkV (N d : Nat) (l : List Val) : Prop := ∀ k : Int, 0 ≤ k → k + ((l.map Val.cnt).sum : Nat) ≤ 137438953472 →
    ∃ ys, ys.length = l.length ∧ laws_markValueS_fix N d l k = some (k + ((l.map Val.cnt).sum : Nat), ys) ∧ laws_heldValueS_fix N d ys k = some (k + ((l.map Val.cnt).sum : Nat))
theorem markV_step {N d : Nat} (hN : 274877906944 < N) {l : List Val} (hr : ∀ x ∈ l, x.rows.length ≤ 137438953472) (hx : ∀ x ∈ l, MarkV N d x.list) : MarkV N (d + 1) l := by
  intro k h0 h1
  have hlen := cnts_len l
  refine markHeld (Lm := fun n xs k i => laws_markValueS_b2 N (laws_markValueS_fix N d) n xs k i) (Lh := fun n ys k i => laws_heldValueS_b2 N (laws_heldValueS_fix N d) n ys k i) (c := Val.cnt) (fun n xs k hl => by simp [laws_markValueS_b2]) (fun n ys k hl => by simp [laws_heldValueS_b2])
    (fun x hxm k hk hB => ?_) h1 (by omega)
  have hc : x.cnt = 4 + (x.list.map Val.cnt).sum + (x.columns.map cOne).sum + (x.rows.map cRow).sum := by cases x; simp only [Val.cnt, Val.cnts_eq, Val.list, Val.columns, Val.rows]
  rw [hc] at hB ⊢
  obtain ⟨t, ht⟩ := markText_some hN (k := k + 1 + 1 + 1) (by omega) (by omega)
  obtain ⟨ya, a1, a2, a3⟩ := hx x hxm (k + 1 + 1 + 1 + 1) (by omega) (by omega)
  obtain ⟨yb, b1, b2, b3⟩ := markStringS_held hN (xs := x.columns) (k := k + 1 + 1 + 1 + 1 + ((x.list.map Val.cnt).sum : Nat)) (by omega) (by omega)
  obtain ⟨yc, c1, c2, c3⟩ := markRowS_held hN (xs := x.rows) (k := k + 1 + 1 + 1 + 1 + ((x.list.map Val.cnt).sum : Nat) + ((x.columns.map cOne).sum : Nat)) (hr x hxm) (by omega) (by omega)
  have w1 : IntKind.i64.wrap (k + 1) = k + 1 := wrap_i64 (by omega) (by omega)
  have w2 : IntKind.i64.wrap (k + 1 + 1) = k + 1 + 1 := wrap_i64 (by omega) (by omega)
  have w3 : IntKind.i64.wrap (k + 1 + 1 + 1) = k + 1 + 1 + 1 := wrap_i64 (by omega) (by omega)
  have w4 : IntKind.i64.wrap (k + 1 + 1 + 1 + 1) = k + 1 + 1 + 1 + 1 := wrap_i64 (by omega) (by omega)
  refine ⟨.mk k (k + 1) (k + 1 + 1) t ya yb yc, fun n xs' i hl hxi => ?_, fun n ys i hl hyi => ?_⟩
  · have hi := (List.getElem?_eq_some_iff.1 hxi).1
    have hi' : (i : Int) < (xs'.length : Int) := by omega
    have hcd : (0 : Int) ≤ (i : Int) ∧ (i : Int) < (xs'.length : Int) := by omega
    simp only [laws_markValueS_b2, decide_eq_true hi', cond_true, Int.toNat_natCast, getD_of hxi, List.length_set, getD_set_self hi, List.set_set, wrap_succ hi (by omega : xs'.length ≤ _), if_pos hcd, w1, w2, w3, w4, ht, Option.bind_some,
      vk, vn, vs, vt, vl, vc, vr, a2, b2, c2, if_pos a1, if_pos b1, if_pos c1]
    congr 1
    omega
  · have hi := (List.getElem?_eq_some_iff.1 hyi).1
    have hi' : (i : Int) < (ys.length : Int) := by omega
    have hcd : (0 : Int) ≤ (i : Int) ∧ (i : Int) < (ys.length : Int) := by omega
    simp only [laws_heldValueS_b2, decide_eq_true hi', cond_true, Int.toNat_natCast, getD_of hyi, wrap_succ hi (by omega : ys.length ≤ _), if_pos hcd, w1, w2, w3, w4, ht, Option.bind_some, vk, vn, vs, vt, vl, vc, vr, a3, b3, c3, bne_self_eq_false, beq_self_eq_true, Bool.not_true, cond_false]
    rw [decide_eq_false (by omega), cond_false, decide_eq_false (by omega), cond_false, decide_eq_false (by omega), cond_false]
    congr 1
    omega
theorem markV_big {K : Nat} (hK : K ≤ 137438953472) : ∀ v : Val, v.Fit K → Big2 fun N d => MarkV N d v.list := by
  refine Val.ind fun k n s t a c r ih h => ?_
  obtain ⟨h1, h2, h3, h4, h5, h6, h7⟩ := Val.fit_iff.1 h
  refine Big2.succ ?_
  refine ((Big2.list fun x hx => ih x hx (h5.2 x hx)).and (big_lt 274877906944).two).imp fun N d ⟨hx, hN⟩ => ?_
  exact markV_step hN (fun x hxm => by have := (Val.fit_iff.1 (h5.2 x hxm)).2.2.2.2.2.2.1; omega) hx
theorem markValue_at {K : Nat} (hK : K ≤ 137438953472) {v : Val} (h : v.Fit K) :
    Big fun N => ∀ k : Int, 0 ≤ k → k + (v.cnt : Nat) ≤ 137438953472 → ∃ k' xa xb xc, 0 ≤ k' ∧ k' ≤ k + (v.cnt : Nat) ∧ xa.length = v.list.length ∧ xb.length = v.columns.length ∧ xc.length = v.rows.length ∧ laws_markValue N v k = some (k', xa, xb, xc) ∧ laws_heldValue N (Val.mk v.kind v.n v.step v.text xa xb xc) k = some k' := by
  have hb := (markV_big hK v h).diag
  refine (hb.and (big_lt 274877906944)).imp fun N ⟨hm, hN⟩ k k0 kB => ?_
  have hc' : v.cnt = 4 + (v.list.map Val.cnt).sum + (v.columns.map cOne).sum + (v.rows.map cRow).sum := by cases v; simp only [Val.cnt, Val.cnts_eq, Val.list, Val.columns, Val.rows]
  obtain ⟨ya, a1, a2, a3⟩ := hm k (by omega) (by omega)
  obtain ⟨yb, b1, b2, b3⟩ := markStringS_held hN (xs := v.columns) (k := k + ((v.list.map Val.cnt).sum : Nat)) (by omega) (by omega)
  obtain ⟨yc, c1, c2, c3⟩ := markRowS_held hN (xs := v.rows) (k := k + ((v.list.map Val.cnt).sum : Nat) + ((v.columns.map cOne).sum : Nat)) (by have := (Val.fit_iff.1 h).2.2.2.2.2.2.1; omega) (by omega) (by omega)
  have a2' : laws_markValueS N v.list k = _ := a2
  have a3' : laws_heldValueS N ya k = _ := a3
  refine ⟨k + ((v.list.map Val.cnt).sum : Nat) + ((v.columns.map cOne).sum : Nat) + ((v.rows.map cRow).sum : Nat), ya, yb, yc, by omega, by omega, a1, b1, c1, ?_, ?_⟩
  · simp only [laws_markValue, a2', Option.bind_some, if_pos a1, b2, if_pos b1, c2, if_pos c1]
  · simp only [laws_heldValue, vl, vc, vr, a3', b3, c3, Option.bind_some]
    rw [decide_eq_false (by omega), cond_false, decide_eq_false (by omega), cond_false, decide_eq_false (by omega), cond_false]
theorem val_of_cells {a0 : Val} (f0 : ∀ z ∈ [CV.int .i64 (Val.kind a0), .int .i64 (Val.n a0), .int .i64 (Val.step a0), .str (Val.text a0), .sl .ro .val (Val.list a0), .sl .ro .str (Val.columns a0), .sl .ro .row (Val.rows a0)], DFit z.toD) : a0.Fit maxLen := by
  have f := fun z hz => (f0 z hz).dk
  simp only [List.mem_cons, List.not_mem_nil, or_false, forall_eq_or_imp, forall_eq] at f
  obtain ⟨h1, h2, h3, h4, h5, h6, h7⟩ := f
  refine Val.fit_iff.2 ⟨cell_int h1, cell_int h2, cell_int h3, cell_str h4, cell_sl h5, (cell_sl h6).imp fun x hx => ?_, (cell_sl h7).imp fun x hx => rowd_fit.1 hx⟩
  exact DK.str_iff.1 (hx _ List.mem_cons_self)
end Go.Ab
end
section
namespace Go.Ab
set_option linter.unusedVariables false
set_option linter.unusedSimpArgs false
theorem spec_l3Row_eq {N K : Nat} {r : Rowd} (h : r.Fit K) (hK : K ≤ 137438953472) : spec_l3Row N r = some r := by
  have h1 : r.cells.length ≤ K := h.1.1
  have h2 : r.frm.length ≤ K := h.2.1
  unfold spec_l3Row
  rw [if_pos (by unfold Lim; omega), if_pos (by unfold Lim; omega)]; rfl
theorem impl_copyRow_eq {N K : Nat} {r : Rowd} (h : r.Fit K) (hK : K ≤ 137438953472) : impl_copyRow N r = some r := spec_l3Row_eq (N := N) h hK
theorem spec_copy_b7_eq {N K : Nat} {rc : Val → Option Val} {v z : Val} {k n s : Int} {t : Str} {l : List Val} {c : List Str} (h : LFit K (Rowd.Fit K) v.rows) (hK : K ≤ 137438953472) (hN : K < N) :
    spec_l3Copy_b7 N rc N 0 v z (Val.mk k n s t l c []) = some (Val.mk k n s t l c v.rows) := by
  have hl : v.rows.length ≤ K := h.1
  exact forList (L := fun m i q => spec_l3Copy_b7 N rc m i v z (Val.mk k n s t l c q)) v.rows (fun r q => Val.mk k n s t l c (q ++ r)) (fun i q => q.length = i) (fun m q hq => by simp [spec_l3Copy_b7])
    (fun i x r q hd hi hx hq => by
      have hq : q.length = i := hq
      have hi' : (i : Int) < (v.rows.length : Int) := by omega
      refine .inl ⟨q ++ [x], by simp [hq], by simp, fun m => ?_⟩
      simp only [spec_l3Copy_b7, decide_eq_true hi', cond_true, Int.toNat_natCast, getD_of hx, spec_l3Row_eq (h.2 x (List.mem_of_getElem? hx)) hK, Option.bind_some, wrap_succ hi (by omega : v.rows.length ≤ _), vk, vn, vs, vt, vl, vc, vr]
      rw [if_pos (by omega), if_pos (by simp only [List.length_cons, List.length_nil]; unfold Lim; omega)]) N 0 [] rfl (by omega) (by omega)
theorem spec_copy_step {N d K : Nat} {v : Val} (h : v.Fit K) (hK : K ≤ 137438953472) (hN : K < N) (hx : ∀ x ∈ v.list, spec_l3Copy_fix N d x = some x) : spec_l3Copy_body N (spec_l3Copy_fix N d) v = some v := by
  obtain ⟨h1, h2, h3, h4, h5, h6, h7⟩ := Val.fit_iff.1 h
  have hl : v.list.length ≤ K := h5.1
  have hc : v.columns.length ≤ K := h6.1
  unfold spec_l3Copy_body
  rw [if_pos (by unfold Lim; omega)]
  have key := forList (L := fun m i q => spec_l3Copy_b3 N (spec_l3Copy_fix N d) m i v (Val.mk 0 0 0 [] [] [] []) (Val.mk v.kind v.n v.step v.text q ([] ++ v.columns) [])) v.list (fun l q => Val.mk v.kind v.n v.step v.text (q ++ l) v.columns v.rows) (fun i q => q.length = i)
    (fun m q hq => by
      simp only [spec_l3Copy_b3, Int.lt_irrefl, decide_false, cond_false, List.append_nil, List.nil_append]
      exact spec_copy_b7_eq h7 hK hN)
    (fun i x l q hd hi hxi hq => by
      have hq : q.length = i := hq
      have hi' : (i : Int) < (v.list.length : Int) := by omega
      refine .inl ⟨q ++ [x], by simp [hq], by simp, fun m => ?_⟩
      simp only [spec_l3Copy_b3, decide_eq_true hi', cond_true, Int.toNat_natCast, getD_of hxi, hx x (List.mem_of_getElem? hxi), Option.bind_some, Val.re_eq, wrap_succ hi (by omega : v.list.length ≤ _), vk, vn, vs, vt, vl, vc, vr]
      rw [if_pos (by omega), if_pos (by simp only [List.length_cons, List.length_nil]; unfold Lim; omega)]) N 0 [] rfl (by omega) (by omega)
  rw [List.drop_zero, List.nil_append, List.nil_append, Val.eta] at key
  exact key
theorem spec_copy_big {K : Nat} (hK : K ≤ 137438953472) : ∀ v : Val, v.Fit K → Big2 fun N d => spec_l3Copy_fix N d v = some v := by
  refine Val.ind fun k n s t a c r ih h => ?_
  have h5 := (Val.fit_iff.1 h).2.2.2.2.1
  refine Big2.succ ?_
  exact ((Big2.list fun x hx => ih x hx (h5.2 x hx)).and (big_lt K).two).imp fun N d ⟨hx, hN⟩ => spec_copy_step h hK hN hx
theorem spec_copy_eq' {K : Nat} {v : Val} (h : v.Fit K) (hK : K ≤ 137438953472) : Big fun N => spec_l3Copy N v = some v := (spec_copy_big hK v h).diag
theorem impl_copy_b6_eq {N K : Nat} {rc : Val → Option Val} {rd : List Val → Option (List Val)} {z : Val} {k n s : Int} {t : Str} {l : List Val} {c : List Str} {rs : List Rowd} (h : LFit K (Rowd.Fit K) rs) (hK : K ≤ 137438953472) (hN : K < N) :
    impl_copyValue_b6 N rc rd N rs rs.length 0 z (Val.mk k n s t l c []) = some (Val.mk k n s t l c rs) := by
  have hl : rs.length ≤ K := h.1
  exact forList (L := fun m i q => impl_copyValue_b6 N rc rd m rs rs.length i z (Val.mk k n s t l c q)) rs (fun r q => Val.mk k n s t l c (q ++ r)) (fun i q => q.length = i) (fun m q hq => by simp [impl_copyValue_b6])
    (fun i x r q hd hi hx hq => by
      have hq : q.length = i := hq
      have hi' : (i : Int) < (rs.length : Int) := by omega
      refine .inl ⟨q ++ [x], by simp [hq], by simp, fun m => ?_⟩
      simp only [impl_copyValue_b6, decide_eq_true hi', cond_true, Int.toNat_natCast, getD_of hx, impl_copyRow_eq (h.2 x (List.mem_of_getElem? hx)) hK, Option.bind_some, wrap_succ hi (by omega : rs.length ≤ _), vk, vn, vs, vt, vl, vc, vr]
      rw [if_pos (by omega), if_pos (by simp only [List.length_cons, List.length_nil]; unfold Lim; omega)]) N 0 [] rfl (by omega) (by omega)
theorem impl_copies_step {N d : Nat} {a : List Val} (hl : a.length ≤ 137438953472) (hn : a.length < N) (hx : ∀ x ∈ a, (impl_copyValue_fix N d).c_impl_copyValue x = some x) : (impl_copyValue_fix N (d + 1)).c_impl_copyValues a = some a := by
  show impl_copyValues_body N (impl_copyValue_fix N d).c_impl_copyValue (impl_copyValue_fix N d).c_impl_copyValues a = _
  unfold impl_copyValues_body
  exact forList (L := fun m i q => impl_copyValues_b3 N (impl_copyValue_fix N d).c_impl_copyValue (impl_copyValue_fix N d).c_impl_copyValues m q a a.length i) a (fun l q => q ++ l) (fun i q => q.length = i) (fun m q hq => by simp [impl_copyValues_b3])
    (fun i x l q hd hi hxi hq => by
      have hq : q.length = i := hq
      have hi' : (i : Int) < (a.length : Int) := by omega
      refine .inl ⟨q ++ [x], by simp [hq], by simp, fun m => ?_⟩
      simp only [impl_copyValues_b3, decide_eq_true hi', cond_true, Int.toNat_natCast, getD_of hxi, hx x (List.mem_of_getElem? hxi), Option.bind_some, Val.re_eq, wrap_succ hi (by omega : a.length ≤ _)]
      rw [if_pos (by omega), if_pos (by simp only [List.length_cons, List.length_nil]; unfold Lim; omega)]) N 0 [] rfl (by omega) (by omega)
theorem impl_copy_step {N d K : Nat} {v : Val} (h : v.Fit K) (hK : K ≤ 137438953472) (hN : K < N) (hx : (impl_copyValue_fix N d).c_impl_copyValues v.list = some v.list) : (impl_copyValue_fix N (d + 1)).c_impl_copyValue v = some v := by
  obtain ⟨h1, h2, h3, h4, h5, h6, h7⟩ := Val.fit_iff.1 h
  have hc : v.columns.length ≤ K := h6.1
  show impl_copyValue_body N (impl_copyValue_fix N d).c_impl_copyValue (impl_copyValue_fix N d).c_impl_copyValues v = _
  unfold impl_copyValue_body
  rw [hx, Option.bind_some, if_pos (by unfold Lim; omega), impl_copy_b6_eq h7 hK hN, List.nil_append, Val.eta]
theorem impl_copy_big {K : Nat} (hK : K ≤ 137438953472) : ∀ v : Val, v.Fit K → Big2 fun N d => (impl_copyValue_fix N d).c_impl_copyValue v = some v := by
  refine Val.ind fun k n s t a c r ih h => ?_
  have h5 := (Val.fit_iff.1 h).2.2.2.2.1
  have hl : a.length ≤ K := h5.1
  refine Big2.succ (Big2.succ ?_)
  exact ((Big2.list fun x hx => ih x hx (h5.2 x hx)).and (big_lt K).two).imp fun N d ⟨hx, hN⟩ => impl_copy_step h hK hN (impl_copies_step (a := a) (by omega) (by omega) hx)
theorem impl_copy_eq' {K : Nat} {v : Val} (h : v.Fit K) (hK : K ≤ 137438953472) : Big fun N => impl_copyValue N v = some v := (impl_copy_big hK v h).diag
def Bnd.size (b : Bnd) : Nat := b.name.length + b.value.size
theorem szBinding_big {b : Bnd} (h : b.Fit maxLen) : Big fun N => ∀ l, 0 ≤ l → l ≤ 1048576 → laws_szBinding N b l = some (left b.size l) :=
  (szValue_eq h.2).imp fun N hv l h0 h1 => szThen h.1 h0 h1 rfl fun m m0 m1 => left_two (hv m m0 m1)
theorem szBindingS_big {x0 : List Bnd} (h : LFit maxLen (Bnd.Fit maxLen) x0) : Big fun N => ∀ l, 0 ≤ l → l ≤ 1048576 → laws_szBindingS N x0 l = some (left (x0.length + (x0.map Bnd.size).sum) l) :=
  ((Big.list fun x hx => szBinding_big (h.2 x hx)).and (big_lt x0.length)).imp fun N ⟨hx, hn⟩ l h0 h1 =>
    szThen h.1 h0 h1 rfl fun m hm0 hm1 => szLoop (L := fun n x0 x1 x5 => laws_szBindingS_b5 N n x0 x1 x5) (d := Ty.bnd.dflt) (sz := laws_szBinding N) (fun _ _ _ => rfl) h.1 (fun x hxm l h0 h1 => hx x hxm l h0 h1) hn hm0 hm1
theorem Bnd.fit_size {K M : Nat} {r : Bnd} (h : r.Fit M) (hs : r.size ≤ K) : r.Fit K := by
  unfold Bnd.size at hs
  exact ⟨show List.length _ ≤ K by omega, Val.fit_size _ h.2 (by omega)⟩
theorem toBinding_big {b : Bnd} (h : b.Fit 1048576) : Big fun N => laws_toBinding N b = some b := (toValue_eq h.2).imp fun N hv => by simp [laws_toBinding, hv]
theorem toBindingS_big {x0 : List Bnd} (h : LFit 1048576 (Bnd.Fit 1048576) x0) : Big fun N => laws_toBindingS N x0 = some x0 :=
  ((Big.list fun x hx => toBinding_big (h.2 x hx)).and (big_lt x0.length)).imp fun N ⟨hx, hn⟩ => by
    have hl : x0.length ≤ 1048576 := h.1
    unfold laws_toBindingS
    rw [if_pos ⟨by omega, rfl, by unfold Lim; omega⟩]
    exact toLoop (L := fun n x0 x3 x4 => laws_toBindingS_b3 N n x0 x3 x4) (to := laws_toBinding N) (re := fun r => Bnd.mk (Bnd.name r) (Val.re (Bnd.value r))) (fun _ _ _ => rfl) (by omega) (fun x hxm => ⟨x, hx x hxm, by simp [Val.re_eq]⟩) hn
theorem eqBinding_big {b : Bnd} {K : Nat} (h : b.Fit K) (hK : K ≤ 9223372036854775807) : Big fun N => laws_eqBinding N b b = some true := (eqValue_self h.2 hK).imp fun N hv => by simp [laws_eqBinding, hv]
theorem eqBindingS_big {x0 : List Bnd} {K : Nat} (h : LFit K (Bnd.Fit K) x0) (hK : K ≤ 9223372036854775807) : Big fun N => laws_eqBindingS N x0 x0 = some true :=
  ((Big.list fun x hx => eqBinding_big (h.2 x hx) hK).and (big_lt x0.length)).imp fun N ⟨hx, hn⟩ => by
    have hl : x0.length ≤ K := h.1
    unfold laws_eqBindingS
    rw [bne_self_eq_false, cond_false]
    exact eqLoop (x0 := x0) (L := fun n i => laws_eqBindingS_b4 N n x0 x0 i) (fun n => by simp [laws_eqBindingS_b4]) (fun i x n hi hxi hm => by
      have hi' : (i : Int) < (x0.length : Int) := by omega
      simp only [laws_eqBindingS_b4, decide_eq_true hi', cond_true, Int.toNat_natCast, getD_of hxi, hx x hm, Option.bind_some, wrap_succ hi (by omega : x0.length ≤ _), Bool.not_true, cond_false]
      rw [if_pos (by omega), if_pos (by omega)]) hn
def cBnd (b : Bnd) : Nat := 5 + ((b.value.list.map Val.cnt).sum + (b.value.columns.map cOne).sum + (b.value.rows.map cRow).sum)
theorem valCnt (v : Val) : v.cnt = 4 + ((v.list.map Val.cnt).sum + (v.columns.map cOne).sum + (v.rows.map cRow).sum) := by
  cases v; simp only [Val.cnt, Val.cnts_eq, vl, vc, vr]; omega
theorem markBindingS_big {K : Nat} (hK : K ≤ 137438953472) {xs : List Bnd} (h : LFit K (Bnd.Fit K) xs) (hc : (xs.map cBnd).sum ≤ 100000000000) :
    Big fun N => ∃ k ys, 0 ≤ k ∧ k ≤ 100000000001 ∧ ys.length = xs.length ∧ laws_markBindingS N xs 1 = some (k, ys) ∧ laws_heldBindingS N ys 1 = some k := by
  have hm : Big fun N => ∀ x ∈ xs, MarkV N N x.value.list := Big.list fun x hx => (markV_big hK x.value (h.2 x hx).2).diag
  refine (hm.and ((big_lt 274877906944).and (big_lt xs.length))).imp fun N ⟨hm, hN, hn⟩ => ?_
  have hlen : xs.length ≤ K := h.1
  obtain ⟨ys, a1, a2, a3⟩ := markHeld (Lm := fun n xs k i => laws_markBindingS_b2 N n xs k i) (Lh := fun n ys k i => laws_heldBindingS_b2 N n ys k i) (c := cBnd) (x0 := xs) (k0 := 1) (B := 137438953472) (n := N) (fun n xs k hl => by simp [laws_markBindingS_b2]) (fun n ys k hl => by simp [laws_heldBindingS_b2])
    (fun x hx k hk hB => by
      have hcx : cBnd x = 5 + ((x.value.list.map Val.cnt).sum + (x.value.columns.map cOne).sum + (x.value.rows.map cRow).sum) := rfl
      rw [hcx] at hB ⊢
      have hrows : x.value.rows.length ≤ K := (Val.fit_iff.1 (h.2 x hx).2).2.2.2.2.2.2.1
      obtain ⟨t, ht⟩ := markText_some hN (k := k) (by omega) (by omega)
      obtain ⟨t2, ht2⟩ := markText_some hN (k := k + 1 + 1 + 1 + 1) (by omega) (by omega)
      obtain ⟨ya, a1, a2, a3⟩ := hm x hx (k + 1 + 1 + 1 + 1 + 1) (by omega) (by omega)
      obtain ⟨yb, b1, b2, b3⟩ := markStringS_held hN (xs := x.value.columns) (k := k + 1 + 1 + 1 + 1 + 1 + ((x.value.list.map Val.cnt).sum : Nat)) (by omega) (by omega)
      obtain ⟨yc, c1, c2, c3⟩ := markRowS_held hN (xs := x.value.rows) (k := k + 1 + 1 + 1 + 1 + 1 + ((x.value.list.map Val.cnt).sum : Nat) + ((x.value.columns.map cOne).sum : Nat)) (by omega) (by omega) (by omega)
      have a2' : laws_markValueS N x.value.list (k + 1 + 1 + 1 + 1 + 1) = _ := a2
      have a3' : laws_heldValueS N ya (k + 1 + 1 + 1 + 1 + 1) = _ := a3
      have w1 : IntKind.i64.wrap (k + 1) = k + 1 := wrap_i64 (by omega) (by omega)
      have w2 : IntKind.i64.wrap (k + 1 + 1) = k + 1 + 1 := wrap_i64 (by omega) (by omega)
      have w3 : IntKind.i64.wrap (k + 1 + 1 + 1) = k + 1 + 1 + 1 := wrap_i64 (by omega) (by omega)
      have w4 : IntKind.i64.wrap (k + 1 + 1 + 1 + 1) = k + 1 + 1 + 1 + 1 := wrap_i64 (by omega) (by omega)
      have w5 : IntKind.i64.wrap (k + 1 + 1 + 1 + 1 + 1) = k + 1 + 1 + 1 + 1 + 1 := wrap_i64 (by omega) (by omega)
      refine ⟨⟨t, .mk (k + 1) (k + 1 + 1) (k + 1 + 1 + 1) t2 ya yb yc⟩, fun n xs' i hl hxi => ?_, fun n ys i hl hyi => ?_⟩
      · have hi := (List.getElem?_eq_some_iff.1 hxi).1
        have hi' : (i : Int) < (xs'.length : Int) := by omega
        have hcd : (0 : Int) ≤ (i : Int) ∧ (i : Int) < (xs'.length : Int) := by omega
        simp only [laws_markBindingS_b2, decide_eq_true hi', cond_true, Int.toNat_natCast, getD_of hxi, List.length_set, getD_set_self hi, List.set_set, wrap_succ hi (by omega : xs'.length ≤ _), if_pos hcd, w1, w2, w3, w4, w5, ht, ht2, Option.bind_some, Val.re_eq, vk, vn, vs, vt, vl, vc, vr,
          a2', b2, c2, if_pos a1, if_pos b1, if_pos c1]
        congr 1
        omega
      · have hi := (List.getElem?_eq_some_iff.1 hyi).1
        have hi' : (i : Int) < (ys.length : Int) := by omega
        have hcd : (0 : Int) ≤ (i : Int) ∧ (i : Int) < (ys.length : Int) := by omega
        simp only [laws_heldBindingS_b2, decide_eq_true hi', cond_true, Int.toNat_natCast, getD_of hyi, wrap_succ hi (by omega : ys.length ≤ _), if_pos hcd, w1, w2, w3, w4, w5, ht, ht2, Option.bind_some, vk, vn, vs, vt, vl, vc, vr, a3', b3, c3, beq_self_eq_true, bne_self_eq_false, Bool.not_true, cond_false]
        rw [decide_eq_false (by omega), cond_false, decide_eq_false (by omega), cond_false, decide_eq_false (by omega), cond_false]
        congr 1
        omega) (by omega) hn
  exact ⟨1 + ((xs.map cBnd).sum : Nat), ys, by omega, by omega, a1, a2, a3⟩
theorem bnds_of_cells {a0 : List Bnd} (f0 : ∀ z ∈ [CV.sl .ro .bnd a0], DFit z.toD) : LFit maxLen (Bnd.Fit maxLen) a0 := (cell_sl (f0 _ List.mem_cons_self).dk).imp fun x => bnd_fit.1
theorem cBnd_le (xs : List Bnd) : (xs.map cBnd).sum ≤ 5 * (xs.length + (xs.map Bnd.size).sum) := sum_le_mul fun x _ => by
  have h1 := Val.cnt_le x.value
  have h2 := valCnt x.value
  unfold cBnd Bnd.size
  omega
theorem bnds_fit_size {xs : List Bnd} {K : Nat} (h : LFit maxLen (Bnd.Fit maxLen) xs) (hs : xs.length + (xs.map Bnd.size).sum ≤ K) : LFit K (Bnd.Fit K) xs := lfit_size (f := Bnd.size) h hs fun x _ => Bnd.fit_size
end Go.Ab
end
section
namespace Go.Ab
set_option linter.unusedVariables false
set_option linter.unusedSimpArgs false
theorem bind_eq {K : Nat} {xs : List Bnd} {s : Str} {v : Val} (h : LFit K (Bnd.Fit K) xs) (hv : v.Fit K) (hK : K ≤ 137438953472) : Big fun N => spec_Bind N xs s v = some (xs ++ [⟨s, v⟩]) ∧ impl_Bind N xs s v = some (xs ++ [⟨s, v⟩]) := by
  have hl : xs.length ≤ K := h.1
  refine ((Big.list fun x hx => spec_copy_eq' (h.2 x hx).2 hK).and ((Big.list fun x hx => impl_copy_eq' (h.2 x hx).2 hK).and ((spec_copy_eq' hv hK).and ((impl_copy_eq' hv hK).and (big_lt K))))).imp fun N ⟨hc, hd, hcv, hdv, hN⟩ => ⟨?_, ?_⟩
  · exact forList (L := fun m i q => spec_Bind_b3 N m xs s q i v) xs (fun l q => q ++ l ++ [⟨s, v⟩]) (fun i q => q.length = i)
      (fun m q hq => by
        have hq : q.length = xs.length := hq
        simp only [spec_Bind_b3, Int.lt_irrefl, decide_false, cond_false, hcv, Option.bind_some, Val.re_eq, List.append_nil]
        rw [if_pos (by simp only [List.length_cons, List.length_nil]; unfold Lim; omega)])
      (fun i x l q hd' hi hxi hq => by
        have hq : q.length = i := hq
        have hi' : (i : Int) < (xs.length : Int) := by omega
        refine .inl ⟨q ++ [x], by simp [hq], by simp, fun m => ?_⟩
        simp only [spec_Bind_b3, decide_eq_true hi', cond_true, Int.toNat_natCast, getD_of hxi, hc x (List.mem_of_getElem? hxi), Option.bind_some, Val.re_eq, wrap_succ hi (by omega : xs.length ≤ _)]
        rw [if_pos (by omega), if_pos (by simp only [List.length_cons, List.length_nil]; unfold Lim; omega)]) N 0 [] rfl (by omega) (by omega)
  · exact forList (L := fun m i q => impl_Bind_b3 N m s q xs xs.length i v) xs (fun l q => q ++ l ++ [⟨s, v⟩]) (fun i q => q.length = i)
      (fun m q hq => by
        have hq : q.length = xs.length := hq
        simp only [impl_Bind_b3, Int.lt_irrefl, decide_false, cond_false, hdv, Option.bind_some, Val.re_eq, List.append_nil]
        rw [if_pos (by simp only [List.length_cons, List.length_nil]; unfold Lim; omega)])
      (fun i x l q hd' hi hxi hq => by
        have hq : q.length = i := hq
        have hi' : (i : Int) < (xs.length : Int) := by omega
        refine .inl ⟨q ++ [x], by simp [hq], by simp, fun m => ?_⟩
        simp only [impl_Bind_b3, decide_eq_true hi', cond_true, Int.toNat_natCast, getD_of hxi, hd x (List.mem_of_getElem? hxi), Option.bind_some, Val.re_eq, wrap_succ hi (by omega : xs.length ≤ _)]
        rw [if_pos (by omega), if_pos (by simp only [List.length_cons, List.length_nil]; unfold Lim; omega)]) N 0 [] rfl (by omega) (by omega)
theorem Val.fit_mono {K M : Nat} (h : K ≤ M) {v : Val} (hv : v.Fit K) : v.Fit M := fun d hd => (hv d hd).mono h
theorem Bnd.fit_mono {K M : Nat} (h : K ≤ M) {b : Bnd} (hb : b.Fit K) : b.Fit M := ⟨Nat.le_trans hb.1 h, Val.fit_mono h hb.2⟩
theorem laws_FnExactBind_true (a0 : List Bnd) (a1 : Str) (a2 : Val) (f0 : ∀ z ∈ [CV.sl .ro .bnd a0], DFit z.toD) (f1 : ∀ z ∈ [CV.str a1], DFit z.toD)
    (f2 : ∀ z ∈ [CV.int .i64 (Val.kind a2), .int .i64 (Val.n a2), .int .i64 (Val.step a2), .str (Val.text a2), .sl .ro .val (Val.list a2), .sl .ro .str (Val.columns a2), .sl .ro .row (Val.rows a2)], DFit z.toD) : ∃ N, laws_FnExactBind N a0 a1 a2 = some true := by
  have hF := bnds_of_cells f0
  have hG := val_of_cells f2
  by_cases h1 : (a1.length : Int) > 1048576
  · exact ⟨0, by simp [laws_FnExactBind, h1]⟩
  · by_cases h : left (a0.length + (a0.map Bnd.size).sum) 1048576 < 0
    · exact ((szBindingS_big hF).imp fun N hs => by simp [laws_FnExactBind, h1, hs 1048576 (by omega) (by omega), h]).get
    · have hge := left_ge h
      rw [left_of hge] at h
      by_cases h' : left a2.size (1048576 - ((a0.length + (a0.map Bnd.size).sum : Nat) : Int)) < 0
      · refine (((szBindingS_big hF).and (szValue_eq hG)).imp fun N ⟨hs, hv⟩ => ?_).get
        have e1 := hs 1048576 (by omega) (by omega)
        rw [left_of hge] at e1
        unfold laws_FnExactBind
        rw [decide_eq_false h1, cond_false, e1, Option.bind_some, decide_eq_false h, cond_false, hv _ (by omega) (by omega), Option.bind_some, decide_eq_true h', cond_true]
      · have hge' := left_ge h'
        have hs := bnds_fit_size (K := 1048576) hF (by omega)
        have hv : a2.Fit 1048576 := Val.fit_size a2 hG (by omega)
        have hr : LFit 1048577 (Bnd.Fit 1048577) (a0 ++ [⟨a1, a2⟩]) := by
          have h1 : a0.length ≤ 1048576 := hs.1
          refine ⟨by simp; omega, fun x hx => ?_⟩
          rcases List.mem_append.1 hx with hx | hx
          · exact Bnd.fit_mono (by omega) (hs.2 x hx)
          · rw [List.mem_singleton] at hx; subst hx
            exact ⟨show a1.length ≤ _ by omega, Val.fit_mono (by omega) hv⟩
        have hbc := cBnd_le a0
        have hcv := Val.cnt_le a2
        have hcv2 := valCnt a2
        have hc2 : ((a0 ++ [(⟨a1, a2⟩ : Bnd)]).map cBnd).sum ≤ 100000000000 := by
          have hb2 : cBnd ⟨a1, a2⟩ = 5 + ((a2.list.map Val.cnt).sum + (a2.columns.map cOne).sum + (a2.rows.map cRow).sum) := rfl
          simp only [List.map_append, List.sum_append, List.map_cons, List.map_nil, List.sum_cons, List.sum_nil, hb2]
          omega
        refine (((szBindingS_big hF).and ((szValue_eq hG).and ((toBindingS_big hs).and ((eqBindingS_big hs (by omega)).and ((toValue_eq hv).and (eqValue_self hv (by omega))))))).and ((bind_eq (s := a1) hs hv (by omega)).and ((eqBindingS_big hr (by omega)).and
          ((markBindingS_big (by omega) hs (by omega)).and ((markBindingS_big (by omega) hr hc2).and (markValue_at (by omega) hv)))))).imp (fun N ⟨⟨k1, k2, k3, k4, k5, k6⟩, ⟨k7, k8⟩, k9, k10, k11, k12⟩ => ?_) |>.get
        obtain ⟨k, ys, q0, q00, q1, q2, q3⟩ := k10
        obtain ⟨k', ys', p0, p00, p1, p2, p3⟩ := k11
        obtain ⟨k'', xa, xb, xc, o0, o1, o2, o3, o4, o5, o6⟩ := k12 k q0 (by omega)
        have e1 := k1 1048576 (by omega) (by omega)
        rw [left_of hge] at e1
        have e2 := k2 _ (by omega : 0 ≤ 1048576 - ((a0.length + (a0.map Bnd.size).sum : Nat) : Int)) (by omega)
        unfold laws_FnExactBind
        rw [decide_eq_false h1, cond_false, e1, Option.bind_some, decide_eq_false h, cond_false, e2, Option.bind_some, decide_eq_false h', cond_false]
        simp only [k3, k4, k5, k6, k7, k8, k9, q2, q3, p2, p3, o5, if_pos q1, if_pos p1, if_pos o2, if_pos o3, if_pos o4, Option.bind_some, Bool.not_true, cond_false, decide_eq_false (by omega : ¬ k'' < 0), decide_eq_false (by omega : ¬ k' < 0), bne_self_eq_false]
end Go.Ab
end
section
namespace Go.Ab
set_option linter.unusedVariables false
set_option linter.unusedSimpArgs false
def Flat (v : Val) : Prop := v.list = [] ∧ v.columns = [] ∧ v.rows = [] ∧ v.text = [] ∧ I64 v.kind ∧ I64 v.n ∧ I64 v.step
theorem Flat.cnt {v : Val} (h : Flat v) : v.cnt = 4 := by
  rw [valCnt, h.1, h.2.1, h.2.2.1]; rfl
end Go.Ab
end
section
namespace Go.Proofs.Ytkbojckenecnbaa
open Go.Ab Go.ChangeShapes Go.WideShapes Go.ChangeAt Go.RowKit
set_option linter.unusedVariables false
theorem own : ownKnob Try.prog.godebug = none := by kernel_rfl
theorem laidOut : laidOutB Try.prog = true := by kernel_rfl
theorem ktok_fnExactBind : ktChk Try.prog [(3, .int), (9, .str), (40, .val), (100, .bnd), (137, .org), (148, .row)] = true := by kernel_rfl
set_option maxRecDepth 100000 in
theorem fnExactBind_lifted (os : Os) (started : os.Started) (H : Type) (enc : TypeId × Value → H) :
    ReturnsInHanded {} Try.checked os 4 .any (Rows.fnExactBindSpec.pre6 enc Try.prog Try.f4 Rows.fnExactBindRow.domain false) (Rows.fnExactBindSpec.post enc Try.prog Try.f4 false true false false) := by
  refine returnsInHanded_of_change (C := Try.checked) own started (by kernel_rfl) Try.func4
    (ChangeSpec.witness6 (enc := enc) (C := Try.checked) false ⟨#[], #[.slice none 0 0, .string ByteArray.empty, .agg #[.int .i64 0, .int .i64 0, .int .i64 0, .string ByteArray.empty, .slice none 0 0, .slice none 0 0, .slice none 0 0]], []⟩ 8 (by kernel_rfl) (by kernel_rfl) (by kernel_rfl) (by kernel_rfl)) ?_
  intro W base args ds gs before hval0 hW hcnd _
  have hval : ∀ (j : Nat) t v, Try.f4.params[j]? = some t → args[j]? = some v → Value.okWide Try.prog W .any base t v := hval0
  have hW' := hW
  obtain ⟨p, q, hA0, hV, rfl, hfz, hnd⟩ := hW
  have hA : DataW.TrodAll enc Try.prog W 0 (fun _ => true) true Try.f4.params.toList args.toList ds p := hA0
  rw [Try.params4] at hA hval
  obtain ⟨v0, vs0, d0, ds0, p0, q0, hargs, rfl, rfl, h0, r0⟩ := trodAll_cons hA
  obtain ⟨v1, vs1, d1, ds1, p1, q1, rfl, rfl, rfl, h1, r1⟩ := trodAll_cons r0
  obtain ⟨v2, vs2, d2, ds2, p2, q2, rfl, rfl, rfl, h2, r2⟩ := trodAll_cons r1
  obtain ⟨rfl, rfl, rfl⟩ := trodAll_nil r2
  obtain rfl : args = #[v0, v1, v2] := by cases args; simp_all
  obtain ⟨rfl, rfl⟩ := trodVars_none hV
  have lt0 : ∀ x ∈ p0, x.block < W.heap.size := by obtain ⟨m, hm⟩ := h0; exact DataW.trod_lt m _ _ _ hm
  have lt1 : ∀ x ∈ p1, x.block < W.heap.size := by obtain ⟨m, hm⟩ := h1; exact DataW.trod_lt m _ _ _ hm
  have lt2 : ∀ x ∈ p2, x.block < W.heap.size := by obtain ⟨m, hm⟩ := h2; exact DataW.trod_lt m _ _ _ hm
  obtain ⟨z0, e0, f0, vr0⟩ := vr_of ktok_fnExactBind (g := false) (t := 22) (ns := [.inr .bnd]) (by kernel_rfl) (hval 0 22 v0 rfl rfl) h0
  obtain ⟨x0_0, _, rfl, e0_0⟩ := AreOf.sl_inv e0
  obtain rfl := e0_0.nil_inv
  obtain ⟨z1, e1, f1, vr1⟩ := vr_of ktok_fnExactBind (g := false) (t := 9) (ns := [.inl .str]) (by kernel_rfl) (hval 1 9 v1 rfl rfl) h1
  obtain ⟨x1_0, _, rfl, e1_0⟩ := AreOf.str_inv e1
  obtain rfl := e1_0.nil_inv
  obtain ⟨z2, e2, f2, vr2⟩ := vr_of ktok_fnExactBind (g := true) (t := 40) (ns := [.inl (.int .i64), .inl (.int .i64), .inl (.int .i64), .inl .str, .inr .val, .inr .str, .inr .row]) (by kernel_rfl) (hval 2 40 v2 rfl rfl) h2
  obtain ⟨x2_0, _, rfl, e2_0⟩ := AreOf.int_inv e2
  obtain ⟨x2_1, _, rfl, e2_1⟩ := AreOf.int_inv e2_0
  obtain ⟨x2_2, _, rfl, e2_2⟩ := AreOf.int_inv e2_1
  obtain ⟨x2_3, _, rfl, e2_3⟩ := AreOf.str_inv e2_2
  obtain ⟨x2_4, _, rfl, e2_4⟩ := AreOf.sl_inv e2_3
  obtain ⟨x2_5, _, rfl, e2_5⟩ := AreOf.sl_inv e2_4
  obtain ⟨x2_6, _, rfl, e2_6⟩ := AreOf.sl_inv e2_5
  obtain rfl := e2_6.nil_inv
  obtain ⟨N, hF⟩ := laws_FnExactBind_true x0_0 x1_0 (Val.mk x2_0 x2_1 x2_2 x2_3 x2_4 x2_5 x2_6) f0 f1 f2
  clear hA0 hval0
  refine (calls_of T.fk4 (T.laws_FnExactBind_ok hF) (W := W) (args := #[v0, v1, v2]) ⟨vr0 _, vr1 _, vr2 _, trivial⟩).mono fun e W' ⟨he, bel⟩ => ?_
  subst he
  exact ⟨_, rfl, _, _, _, [], _, [], hW', trodAll_mk1 (shut_bool Try.underlying4 _), (trodAll_cons_mk (Below.trod laidOut (by kernel_rfl) (of_decide_eq_true (by kernel_rfl)) h0 bel lt0) (trodAll_cons_mk (Below.trod laidOut (by kernel_rfl) (of_decide_eq_true (by kernel_rfl)) h1 bel lt1) (trodAll_cons_mk (Below.trod laidOut (by kernel_rfl) (of_decide_eq_true (by kernel_rfl)) h2 bel lt2) trodAll_mk0))), rfl, bel.frame _, fun h => by cases h⟩
theorem fnExactBind_proved : Rows.FnExactBindSaid :=
  OpenClaim.holds_of_wide 4 Try.f4 rfl rfl rfl rfl rfl rfl rfl ⟨rfl, rfl, rfl, rfl, rfl⟩ rfl rfl rfl rfl rfl (by kernel_rfl) Try.func4 (by kernel_rfl)
    (of_decide_eq_true (by kernel_rfl)) (by unfold Func.isWrapper; first | (rw [if_pos (by decide +kernel)]; kernel_rfl) | (rw [if_neg (by decide +kernel)]; exact ⟨rfl, rfl⟩))
    (fun os started H enc _ => fnExactBind_lifted os started H enc)
end Go.Proofs.Ytkbojckenecnbaa
end
