/- What several statements share: plain functions, certificates, laws. Conditions: none. -/
import Derived.Test.YtkbojckenecnbaaL2
import Derived.Test.YtkbojckenecnbaaK0
set_option linter.all false
section
open Go.Proofs
namespace Go.Ab.T
set_option linter.unusedVariables false
set_option maxRecDepth 100000
noncomputable def I130 : Info := { body := (Try.f130.body).getD .skip, nt := 19, results := [.tmp 4], keep := [0, 2, 8, 10, 18], live := [(2, [0, 2, 10])], modes := [(4, [(0, .ref, false)])], ext := [], lnt := [(0, 0)], casts := [], fcast := [] }
theorem fk130 : FnOk Try.prog 130 Try.f130 I130 := ⟨Try.func130, by kernel_rfl, by kernel_rfl, by kernel_rfl, by kernel_rfl⟩
def S130_2 (x0 : List Int) (x1 : Int) (x5 : Int) : St := [(0, .v false [.sl (.lnt 0) .int x0]), (2, .v false [.int .i64 x1]), (10, .v false [.int .i64 x5])]
theorem p130_2_0 (x0 : List Int) (x1 : Int) (x5 : Int) : run tt (AbsCalls Try.prog) I130 3000 true (stkAt 2 I130.body) ⟨(S130_2 x0 x1 x5), [true], [], []⟩ = some (.stop (stkAt 2 I130.body) (S130_2 (List.set x0 (Int.toNat x5) x1) (IntKind.i64.wrap (x1 + 1)) (IntKind.i64.wrap (x5 + 1))) [(decide ((x5 : Int) < (List.length x0 : Int))) = true, (0 : Int) ≤ x5 ∧ x5 < (List.length x0)]) := by kernel_rfl
theorem p130_2_1 (x0 : List Int) (x1 : Int) (x5 : Int) : run tt (AbsCalls Try.prog) I130 3000 true (stkAt 2 I130.body) ⟨(S130_2 x0 x1 x5), [false], [], []⟩ = some (.done (laws_markIntS_ro (x1, x0)) [(decide ((x5 : Int) < (List.length x0 : Int))) = false]) := by kernel_rfl
theorem p130_e_2 (a0 : List Int) (a1 : Int) : run tt (AbsCalls Try.prog) I130 3000 false [.code I130.body] ⟨(entry 0 (laws_markIntS_as a0 a1)), [], [], []⟩ = some (.stop (stkAt 2 I130.body) (S130_2 a0 a1 0) []) := by kernel_rfl
theorem c130_2 {N : Nat} : ∀ n x0 x1 x5 r, laws_markIntS_b2 N n x0 x1 x5 = some r → Reach Try.prog Try.f130 I130 (stkAt 2 I130.body) (S130_2 x0 x1 x5) (laws_markIntS_ro r) := by
  intro n
  induction n with
  | zero => intro x0 x1 x5 r h; have h' : (none : Option (Int × (List Int))) = some r := h; cases h'
  | succ n ih =>
    intro x0 x1 x5 r h
    rw [laws_markIntS_b2] at h
    rcases cond_inv h with ⟨h0, h⟩ | ⟨h0, h⟩
    · obtain ⟨h1, h⟩ := ite_inv h
      exact Reach.stop ttok mix fk130 (p130_2_0 x0 x1 x5) (obs_cons h0 (obs_cons h1 obs_nil)) (ih _ _ _ _ h)
    · obtain rfl := Option.some.inj h
      exact Reach.done ttok mix fk130 (p130_2_1 x0 x1 x5) (obs_cons h0 obs_nil)
theorem c130_e {N : Nat} : ∀ a0 a1 r, laws_markIntS N a0 a1 = some r → Reach Try.prog Try.f130 I130 [.code I130.body] (entry 0 (laws_markIntS_as a0 a1)) (laws_markIntS_ro r) := by
  intro a0 a1 r h
  unfold laws_markIntS at h
  exact Reach.stop ttok mix fk130 (p130_e_2 a0 a1) obs_nil (c130_2   _ _ _ _ _ h)
theorem laws_markIntS_ok {N : Nat} {a0 : List Int} {a1 : Int} {r : Int × (List Int)} (h : laws_markIntS N  a0 a1 = some r) : AbsCalls Try.prog 130 (laws_markIntS_as a0 a1) (laws_markIntS_ro r) :=
 AbsCalls.of_reach fk130 rfl rfl (Nat.le_of_ble_eq_true rfl) (c130_e a0 a1 r h)
noncomputable def I59 : Info := { body := (Try.f59.body).getD .skip, nt := 27, results := [.tmp 4], keep := [0, 2, 8, 10, 18], live := [(2, [0, 2, 10])], modes := [(4, [(0, .ref, false)]), (6, [(0, .ref, false)])], ext := [], lnt := [(0, 0)], casts := [], fcast := [] }
theorem fk59 : FnOk Try.prog 59 Try.f59 I59 := ⟨Try.func59, by kernel_rfl, by kernel_rfl, by kernel_rfl, by kernel_rfl⟩
def S59_2 (x0 : List Org) (x1 : Int) (x5 : Int) : St := [(0, .v false [.sl (.lnt 0) .org x0]), (2, .v false [.int .i64 x1]), (10, .v false [.int .i64 x5])]
theorem p59_2_0 (x0 : List Org) (x1 : Int) (x5 : Int) : run tt (AbsCalls Try.prog) I59 3000 true (stkAt 2 I59.body) ⟨(S59_2 x0 x1 x5), [true], [], []⟩ = some (.stop (stkAt 2 I59.body) (S59_2 ((fun (z1 : List Org) => List.set z1 (Int.toNat x5) (Org.mk (Org.cell (List.getD z1 (Int.toNat x5) Ty.org.dflt)) (IntKind.i64.wrap (x1 + 1)))) (List.set x0 (Int.toNat x5) (Org.mk x1 (Org.row (List.getD x0 (Int.toNat x5) Ty.org.dflt))))) (IntKind.i64.wrap ((IntKind.i64.wrap (x1 + 1)) + 1)) (IntKind.i64.wrap (x5 + 1))) [(decide ((x5 : Int) < (List.length x0 : Int))) = true, (0 : Int) ≤ x5 ∧ x5 < (List.length x0), (0 : Int) ≤ x5 ∧ x5 < (List.length (List.set x0 (Int.toNat x5) (Org.mk x1 (Org.row (List.getD x0 (Int.toNat x5) Ty.org.dflt)))))]) := by kernel_rfl
theorem p59_2_1 (x0 : List Org) (x1 : Int) (x5 : Int) : run tt (AbsCalls Try.prog) I59 3000 true (stkAt 2 I59.body) ⟨(S59_2 x0 x1 x5), [false], [], []⟩ = some (.done (laws_markOriginS_ro (x1, x0)) [(decide ((x5 : Int) < (List.length x0 : Int))) = false]) := by kernel_rfl
theorem p59_e_2 (a0 : List Org) (a1 : Int) : run tt (AbsCalls Try.prog) I59 3000 false [.code I59.body] ⟨(entry 0 (laws_markOriginS_as a0 a1)), [], [], []⟩ = some (.stop (stkAt 2 I59.body) (S59_2 a0 a1 0) []) := by kernel_rfl
theorem c59_2 {N : Nat} : ∀ n x0 x1 x5 r, laws_markOriginS_b2 N n x0 x1 x5 = some r → Reach Try.prog Try.f59 I59 (stkAt 2 I59.body) (S59_2 x0 x1 x5) (laws_markOriginS_ro r) := by
  intro n
  induction n with
  | zero => intro x0 x1 x5 r h; have h' : (none : Option (Int × (List Org))) = some r := h; cases h'
  | succ n ih =>
    intro x0 x1 x5 r h
    rw [laws_markOriginS_b2] at h
    rcases cond_inv h with ⟨h0, h⟩ | ⟨h0, h⟩
    · obtain ⟨h1, h⟩ := ite_inv h
      obtain ⟨h2, h⟩ := ite_inv h
      exact Reach.stop ttok mix fk59 (p59_2_0 x0 x1 x5) (obs_cons h0 (obs_cons h1 (obs_cons h2 obs_nil))) (ih _ _ _ _ h)
    · obtain rfl := Option.some.inj h
      exact Reach.done ttok mix fk59 (p59_2_1 x0 x1 x5) (obs_cons h0 obs_nil)
theorem c59_e {N : Nat} : ∀ a0 a1 r, laws_markOriginS N a0 a1 = some r → Reach Try.prog Try.f59 I59 [.code I59.body] (entry 0 (laws_markOriginS_as a0 a1)) (laws_markOriginS_ro r) := by
  intro a0 a1 r h
  unfold laws_markOriginS at h
  exact Reach.stop ttok mix fk59 (p59_e_2 a0 a1) obs_nil (c59_2   _ _ _ _ _ h)
theorem laws_markOriginS_ok {N : Nat} {a0 : List Org} {a1 : Int} {r : Int × (List Org)} (h : laws_markOriginS N  a0 a1 = some r) : AbsCalls Try.prog 59 (laws_markOriginS_as a0 a1) (laws_markOriginS_ro r) :=
 AbsCalls.of_reach fk59 rfl rfl (Nat.le_of_ble_eq_true rfl) (c59_e a0 a1 r h)
noncomputable def I81 : Info := { body := (Try.f81.body).getD .skip, nt := 27, results := [.tmp 4], keep := [0, 2, 8, 10, 18], live := [(2, [0, 2, 10])], modes := [(4, [(0, .ref, false), (4, .ref, false), (6, .ref, false)]), (5, [(0, .ref, false), (4, .ref, false), (6, .ref, false)])], ext := [], lnt := [(0, 0)], casts := [], fcast := [] }
theorem fk81 : FnOk Try.prog 81 Try.f81 I81 := ⟨Try.func81, by kernel_rfl, by kernel_rfl, by kernel_rfl, by kernel_rfl⟩
def S81_2 (x0 : List Rowd) (x1 : Int) (x5 : Int) : St := [(0, .v false [.sl (.lnt 0) .row x0]), (2, .v false [.int .i64 x1]), (10, .v false [.int .i64 x5])]
theorem p81_2_0 (x0 : List Rowd) (x1 : Int) (x5 : Int) (r1 : Int × (List Int)) (r2 : Int × (List Org)) : run tt (AbsCalls Try.prog) I81 3000 true (stkAt 2 I81.body) ⟨(S81_2 x0 x1 x5), [true], [laws_markIntS_ro r1, laws_markOriginS_ro r2], []⟩ = some (.stop (stkAt 2 I81.body) (S81_2 ((fun (z1 : List Rowd) => List.set z1 (Int.toNat x5) (Rowd.mk (Rowd.cells (List.getD z1 (Int.toNat x5) Ty.row.dflt)) r2.2)) (List.set x0 (Int.toNat x5) (Rowd.mk r1.2 (Rowd.frm (List.getD x0 (Int.toNat x5) Ty.row.dflt))))) r2.1 (IntKind.i64.wrap (x5 + 1))) [(decide ((x5 : Int) < (List.length x0 : Int))) = true, (0 : Int) ≤ x5 ∧ x5 < (List.length x0), AbsCalls Try.prog 130 (laws_markIntS_as (Rowd.cells (List.getD x0 (Int.toNat x5) Ty.row.dflt)) x1) (laws_markIntS_ro r1), (Int.toNat x5) = (Int.toNat x5), List.length r1.2 = List.length (Rowd.cells (List.getD x0 (Int.toNat x5) Ty.row.dflt)), (0 : Int) ≤ x5 ∧ x5 < (List.length (List.set x0 (Int.toNat x5) (Rowd.mk r1.2 (Rowd.frm (List.getD x0 (Int.toNat x5) Ty.row.dflt))))), AbsCalls Try.prog 59 (laws_markOriginS_as (Rowd.frm (List.getD (List.set x0 (Int.toNat x5) (Rowd.mk r1.2 (Rowd.frm (List.getD x0 (Int.toNat x5) Ty.row.dflt)))) (Int.toNat x5) Ty.row.dflt)) r1.1) (laws_markOriginS_ro r2), (Int.toNat x5) = (Int.toNat x5), List.length r2.2 = List.length (Rowd.frm (List.getD (List.set x0 (Int.toNat x5) (Rowd.mk r1.2 (Rowd.frm (List.getD x0 (Int.toNat x5) Ty.row.dflt)))) (Int.toNat x5) Ty.row.dflt))]) := by kernel_rfl
theorem p81_2_1 (x0 : List Rowd) (x1 : Int) (x5 : Int) : run tt (AbsCalls Try.prog) I81 3000 true (stkAt 2 I81.body) ⟨(S81_2 x0 x1 x5), [false], [], []⟩ = some (.done (laws_markRowS_ro (x1, x0)) [(decide ((x5 : Int) < (List.length x0 : Int))) = false]) := by kernel_rfl
theorem p81_e_2 (a0 : List Rowd) (a1 : Int) : run tt (AbsCalls Try.prog) I81 3000 false [.code I81.body] ⟨(entry 0 (laws_markRowS_as a0 a1)), [], [], []⟩ = some (.stop (stkAt 2 I81.body) (S81_2 a0 a1 0) []) := by kernel_rfl
theorem c81_2 {N : Nat} : ∀ n x0 x1 x5 r, laws_markRowS_b2 N n x0 x1 x5 = some r → Reach Try.prog Try.f81 I81 (stkAt 2 I81.body) (S81_2 x0 x1 x5) (laws_markRowS_ro r) := by
  intro n
  induction n with
  | zero => intro x0 x1 x5 r h; have h' : (none : Option (Int × (List Rowd))) = some r := h; cases h'
  | succ n ih =>
    intro x0 x1 x5 r h
    rw [laws_markRowS_b2] at h
    rcases cond_inv h with ⟨h0, h⟩ | ⟨h0, h⟩
    · obtain ⟨h1, h⟩ := ite_inv h
      obtain ⟨r1, h2, h⟩ := bind_inv h
      obtain ⟨h4, h⟩ := ite_inv h
      obtain ⟨h5, h⟩ := ite_inv h
      obtain ⟨r2, h6, h⟩ := bind_inv h
      obtain ⟨h8, h⟩ := ite_inv h
      exact Reach.stop ttok mix fk81 (p81_2_0 x0 x1 x5 r1 r2) (obs_cons h0 (obs_cons h1 (obs_cons (laws_markIntS_ok h2) (obs_cons rfl (obs_cons h4 (obs_cons h5 (obs_cons (laws_markOriginS_ok h6) (obs_cons rfl (obs_cons h8 obs_nil))))))))) (ih _ _ _ _ h)
    · obtain rfl := Option.some.inj h
      exact Reach.done ttok mix fk81 (p81_2_1 x0 x1 x5) (obs_cons h0 obs_nil)
theorem c81_e {N : Nat} : ∀ a0 a1 r, laws_markRowS N a0 a1 = some r → Reach Try.prog Try.f81 I81 [.code I81.body] (entry 0 (laws_markRowS_as a0 a1)) (laws_markRowS_ro r) := by
  intro a0 a1 r h
  unfold laws_markRowS at h
  exact Reach.stop ttok mix fk81 (p81_e_2 a0 a1) obs_nil (c81_2   _ _ _ _ _ h)
theorem laws_markRowS_ok {N : Nat} {a0 : List Rowd} {a1 : Int} {r : Int × (List Rowd)} (h : laws_markRowS N  a0 a1 = some r) : AbsCalls Try.prog 81 (laws_markRowS_as a0 a1) (laws_markRowS_ro r) :=
 AbsCalls.of_reach fk81 rfl rfl (Nat.le_of_ble_eq_true rfl) (c81_e a0 a1 r h)
noncomputable def I67 : Info := { body := (Try.f67.body).getD .skip, nt := 63, results := [.tmp 4], keep := [0, 2, 8, 10, 18], live := [(2, [0, 2, 10])], modes := [(4, [(0, .ref, false)]), (6, [(0, .ref, false)]), (8, [(0, .ref, false)]), (10, [(0, .ref, false)]), (12, [(0, .ref, false), (4, .ref, false), (6, .ref, false)]), (13, [(0, .ref, false), (4, .ref, false), (6, .ref, false)]), (14, [(0, .ref, false), (4, .ref, false), (6, .ref, false)])], ext := [], lnt := [(0, 0)], casts := [], fcast := [] }
theorem fk67 : FnOk Try.prog 67 Try.f67 I67 := ⟨Try.func67, by kernel_rfl, by kernel_rfl, by kernel_rfl, by kernel_rfl⟩
def S67_2 (x0 : List Val) (x1 : Int) (x5 : Int) : St := [(0, .v false [.sl (.lnt 0) .val x0]), (2, .v false [.int .i64 x1]), (10, .v false [.int .i64 x5])]
theorem p67_2_0 (x0 : List Val) (x1 : Int) (x5 : Int) (r1 : Str) (r2 : Int × (List Val)) (r3 : Int × (List Str)) (r4 : Int × (List Rowd)) : run tt (AbsCalls Try.prog) I67 3000 true (stkAt 2 I67.body) ⟨(S67_2 x0 x1 x5), [true], [laws_markText_ro r1, laws_markValueS_ro r2, laws_markStringS_ro r3, laws_markRowS_ro r4], []⟩ = some (.stop (stkAt 2 I67.body) (S67_2 ((fun (z45 : List Val) => List.set z45 (Int.toNat x5) (Val.mk (Val.kind (List.getD z45 (Int.toNat x5) Ty.val.dflt)) (Val.n (List.getD z45 (Int.toNat x5) Ty.val.dflt)) (Val.step (List.getD z45 (Int.toNat x5) Ty.val.dflt)) (Val.text (List.getD z45 (Int.toNat x5) Ty.val.dflt)) (Val.list (List.getD z45 (Int.toNat x5) Ty.val.dflt)) (Val.columns (List.getD z45 (Int.toNat x5) Ty.val.dflt)) r4.2)) ((fun (z44 : List Val) => List.set z44 (Int.toNat x5) (Val.mk (Val.kind (List.getD z44 (Int.toNat x5) Ty.val.dflt)) (Val.n (List.getD z44 (Int.toNat x5) Ty.val.dflt)) (Val.step (List.getD z44 (Int.toNat x5) Ty.val.dflt)) (Val.text (List.getD z44 (Int.toNat x5) Ty.val.dflt)) (Val.list (List.getD z44 (Int.toNat x5) Ty.val.dflt)) r3.2 (Val.rows (List.getD z44 (Int.toNat x5) Ty.val.dflt)))) ((fun (z43 : List Val) => List.set z43 (Int.toNat x5) (Val.mk (Val.kind (List.getD z43 (Int.toNat x5) Ty.val.dflt)) (Val.n (List.getD z43 (Int.toNat x5) Ty.val.dflt)) (Val.step (List.getD z43 (Int.toNat x5) Ty.val.dflt)) (Val.text (List.getD z43 (Int.toNat x5) Ty.val.dflt)) r2.2 (Val.columns (List.getD z43 (Int.toNat x5) Ty.val.dflt)) (Val.rows (List.getD z43 (Int.toNat x5) Ty.val.dflt)))) ((fun (z42 : List Val) => List.set z42 (Int.toNat x5) (Val.mk (Val.kind (List.getD z42 (Int.toNat x5) Ty.val.dflt)) (Val.n (List.getD z42 (Int.toNat x5) Ty.val.dflt)) (Val.step (List.getD z42 (Int.toNat x5) Ty.val.dflt)) r1 (Val.list (List.getD z42 (Int.toNat x5) Ty.val.dflt)) (Val.columns (List.getD z42 (Int.toNat x5) Ty.val.dflt)) (Val.rows (List.getD z42 (Int.toNat x5) Ty.val.dflt)))) ((fun (z41 : List Val) => List.set z41 (Int.toNat x5) (Val.mk (Val.kind (List.getD z41 (Int.toNat x5) Ty.val.dflt)) (Val.n (List.getD z41 (Int.toNat x5) Ty.val.dflt)) (IntKind.i64.wrap ((IntKind.i64.wrap (x1 + 1)) + 1)) (Val.text (List.getD z41 (Int.toNat x5) Ty.val.dflt)) (Val.list (List.getD z41 (Int.toNat x5) Ty.val.dflt)) (Val.columns (List.getD z41 (Int.toNat x5) Ty.val.dflt)) (Val.rows (List.getD z41 (Int.toNat x5) Ty.val.dflt)))) ((fun (z40 : List Val) => List.set z40 (Int.toNat x5) (Val.mk (Val.kind (List.getD z40 (Int.toNat x5) Ty.val.dflt)) (IntKind.i64.wrap (x1 + 1)) (Val.step (List.getD z40 (Int.toNat x5) Ty.val.dflt)) (Val.text (List.getD z40 (Int.toNat x5) Ty.val.dflt)) (Val.list (List.getD z40 (Int.toNat x5) Ty.val.dflt)) (Val.columns (List.getD z40 (Int.toNat x5) Ty.val.dflt)) (Val.rows (List.getD z40 (Int.toNat x5) Ty.val.dflt)))) (List.set x0 (Int.toNat x5) (Val.mk x1 (Val.n (List.getD x0 (Int.toNat x5) Ty.val.dflt)) (Val.step (List.getD x0 (Int.toNat x5) Ty.val.dflt)) (Val.text (List.getD x0 (Int.toNat x5) Ty.val.dflt)) (Val.list (List.getD x0 (Int.toNat x5) Ty.val.dflt)) (Val.columns (List.getD x0 (Int.toNat x5) Ty.val.dflt)) (Val.rows (List.getD x0 (Int.toNat x5) Ty.val.dflt)))))))))) r4.1 (IntKind.i64.wrap (x5 + 1))) [(decide ((x5 : Int) < (List.length x0 : Int))) = true, (0 : Int) ≤ x5 ∧ x5 < (List.length x0), (0 : Int) ≤ x5 ∧ x5 < (List.length (List.set x0 (Int.toNat x5) (Val.mk x1 (Val.n (List.getD x0 (Int.toNat x5) Ty.val.dflt)) (Val.step (List.getD x0 (Int.toNat x5) Ty.val.dflt)) (Val.text (List.getD x0 (Int.toNat x5) Ty.val.dflt)) (Val.list (List.getD x0 (Int.toNat x5) Ty.val.dflt)) (Val.columns (List.getD x0 (Int.toNat x5) Ty.val.dflt)) (Val.rows (List.getD x0 (Int.toNat x5) Ty.val.dflt))))), (0 : Int) ≤ x5 ∧ x5 < (List.length ((fun (z40 : List Val) => List.set z40 (Int.toNat x5) (Val.mk (Val.kind (List.getD z40 (Int.toNat x5) Ty.val.dflt)) (IntKind.i64.wrap (x1 + 1)) (Val.step (List.getD z40 (Int.toNat x5) Ty.val.dflt)) (Val.text (List.getD z40 (Int.toNat x5) Ty.val.dflt)) (Val.list (List.getD z40 (Int.toNat x5) Ty.val.dflt)) (Val.columns (List.getD z40 (Int.toNat x5) Ty.val.dflt)) (Val.rows (List.getD z40 (Int.toNat x5) Ty.val.dflt)))) (List.set x0 (Int.toNat x5) (Val.mk x1 (Val.n (List.getD x0 (Int.toNat x5) Ty.val.dflt)) (Val.step (List.getD x0 (Int.toNat x5) Ty.val.dflt)) (Val.text (List.getD x0 (Int.toNat x5) Ty.val.dflt)) (Val.list (List.getD x0 (Int.toNat x5) Ty.val.dflt)) (Val.columns (List.getD x0 (Int.toNat x5) Ty.val.dflt)) (Val.rows (List.getD x0 (Int.toNat x5) Ty.val.dflt)))))), AbsCalls Try.prog 79 (laws_markText_as (IntKind.i64.wrap ((IntKind.i64.wrap ((IntKind.i64.wrap (x1 + 1)) + 1)) + 1))) (laws_markText_ro r1), (0 : Int) ≤ x5 ∧ x5 < (List.length ((fun (z41 : List Val) => List.set z41 (Int.toNat x5) (Val.mk (Val.kind (List.getD z41 (Int.toNat x5) Ty.val.dflt)) (Val.n (List.getD z41 (Int.toNat x5) Ty.val.dflt)) (IntKind.i64.wrap ((IntKind.i64.wrap (x1 + 1)) + 1)) (Val.text (List.getD z41 (Int.toNat x5) Ty.val.dflt)) (Val.list (List.getD z41 (Int.toNat x5) Ty.val.dflt)) (Val.columns (List.getD z41 (Int.toNat x5) Ty.val.dflt)) (Val.rows (List.getD z41 (Int.toNat x5) Ty.val.dflt)))) ((fun (z40 : List Val) => List.set z40 (Int.toNat x5) (Val.mk (Val.kind (List.getD z40 (Int.toNat x5) Ty.val.dflt)) (IntKind.i64.wrap (x1 + 1)) (Val.step (List.getD z40 (Int.toNat x5) Ty.val.dflt)) (Val.text (List.getD z40 (Int.toNat x5) Ty.val.dflt)) (Val.list (List.getD z40 (Int.toNat x5) Ty.val.dflt)) (Val.columns (List.getD z40 (Int.toNat x5) Ty.val.dflt)) (Val.rows (List.getD z40 (Int.toNat x5) Ty.val.dflt)))) (List.set x0 (Int.toNat x5) (Val.mk x1 (Val.n (List.getD x0 (Int.toNat x5) Ty.val.dflt)) (Val.step (List.getD x0 (Int.toNat x5) Ty.val.dflt)) (Val.text (List.getD x0 (Int.toNat x5) Ty.val.dflt)) (Val.list (List.getD x0 (Int.toNat x5) Ty.val.dflt)) (Val.columns (List.getD x0 (Int.toNat x5) Ty.val.dflt)) (Val.rows (List.getD x0 (Int.toNat x5) Ty.val.dflt))))))), (0 : Int) ≤ x5 ∧ x5 < (List.length ((fun (z42 : List Val) => List.set z42 (Int.toNat x5) (Val.mk (Val.kind (List.getD z42 (Int.toNat x5) Ty.val.dflt)) (Val.n (List.getD z42 (Int.toNat x5) Ty.val.dflt)) (Val.step (List.getD z42 (Int.toNat x5) Ty.val.dflt)) r1 (Val.list (List.getD z42 (Int.toNat x5) Ty.val.dflt)) (Val.columns (List.getD z42 (Int.toNat x5) Ty.val.dflt)) (Val.rows (List.getD z42 (Int.toNat x5) Ty.val.dflt)))) ((fun (z41 : List Val) => List.set z41 (Int.toNat x5) (Val.mk (Val.kind (List.getD z41 (Int.toNat x5) Ty.val.dflt)) (Val.n (List.getD z41 (Int.toNat x5) Ty.val.dflt)) (IntKind.i64.wrap ((IntKind.i64.wrap (x1 + 1)) + 1)) (Val.text (List.getD z41 (Int.toNat x5) Ty.val.dflt)) (Val.list (List.getD z41 (Int.toNat x5) Ty.val.dflt)) (Val.columns (List.getD z41 (Int.toNat x5) Ty.val.dflt)) (Val.rows (List.getD z41 (Int.toNat x5) Ty.val.dflt)))) ((fun (z40 : List Val) => List.set z40 (Int.toNat x5) (Val.mk (Val.kind (List.getD z40 (Int.toNat x5) Ty.val.dflt)) (IntKind.i64.wrap (x1 + 1)) (Val.step (List.getD z40 (Int.toNat x5) Ty.val.dflt)) (Val.text (List.getD z40 (Int.toNat x5) Ty.val.dflt)) (Val.list (List.getD z40 (Int.toNat x5) Ty.val.dflt)) (Val.columns (List.getD z40 (Int.toNat x5) Ty.val.dflt)) (Val.rows (List.getD z40 (Int.toNat x5) Ty.val.dflt)))) (List.set x0 (Int.toNat x5) (Val.mk x1 (Val.n (List.getD x0 (Int.toNat x5) Ty.val.dflt)) (Val.step (List.getD x0 (Int.toNat x5) Ty.val.dflt)) (Val.text (List.getD x0 (Int.toNat x5) Ty.val.dflt)) (Val.list (List.getD x0 (Int.toNat x5) Ty.val.dflt)) (Val.columns (List.getD x0 (Int.toNat x5) Ty.val.dflt)) (Val.rows (List.getD x0 (Int.toNat x5) Ty.val.dflt)))))))), AbsCalls Try.prog 67 (laws_markValueS_as (Val.list (List.getD ((fun (z42 : List Val) => List.set z42 (Int.toNat x5) (Val.mk (Val.kind (List.getD z42 (Int.toNat x5) Ty.val.dflt)) (Val.n (List.getD z42 (Int.toNat x5) Ty.val.dflt)) (Val.step (List.getD z42 (Int.toNat x5) Ty.val.dflt)) r1 (Val.list (List.getD z42 (Int.toNat x5) Ty.val.dflt)) (Val.columns (List.getD z42 (Int.toNat x5) Ty.val.dflt)) (Val.rows (List.getD z42 (Int.toNat x5) Ty.val.dflt)))) ((fun (z41 : List Val) => List.set z41 (Int.toNat x5) (Val.mk (Val.kind (List.getD z41 (Int.toNat x5) Ty.val.dflt)) (Val.n (List.getD z41 (Int.toNat x5) Ty.val.dflt)) (IntKind.i64.wrap ((IntKind.i64.wrap (x1 + 1)) + 1)) (Val.text (List.getD z41 (Int.toNat x5) Ty.val.dflt)) (Val.list (List.getD z41 (Int.toNat x5) Ty.val.dflt)) (Val.columns (List.getD z41 (Int.toNat x5) Ty.val.dflt)) (Val.rows (List.getD z41 (Int.toNat x5) Ty.val.dflt)))) ((fun (z40 : List Val) => List.set z40 (Int.toNat x5) (Val.mk (Val.kind (List.getD z40 (Int.toNat x5) Ty.val.dflt)) (IntKind.i64.wrap (x1 + 1)) (Val.step (List.getD z40 (Int.toNat x5) Ty.val.dflt)) (Val.text (List.getD z40 (Int.toNat x5) Ty.val.dflt)) (Val.list (List.getD z40 (Int.toNat x5) Ty.val.dflt)) (Val.columns (List.getD z40 (Int.toNat x5) Ty.val.dflt)) (Val.rows (List.getD z40 (Int.toNat x5) Ty.val.dflt)))) (List.set x0 (Int.toNat x5) (Val.mk x1 (Val.n (List.getD x0 (Int.toNat x5) Ty.val.dflt)) (Val.step (List.getD x0 (Int.toNat x5) Ty.val.dflt)) (Val.text (List.getD x0 (Int.toNat x5) Ty.val.dflt)) (Val.list (List.getD x0 (Int.toNat x5) Ty.val.dflt)) (Val.columns (List.getD x0 (Int.toNat x5) Ty.val.dflt)) (Val.rows (List.getD x0 (Int.toNat x5) Ty.val.dflt))))))) (Int.toNat x5) Ty.val.dflt)) (IntKind.i64.wrap ((IntKind.i64.wrap ((IntKind.i64.wrap ((IntKind.i64.wrap (x1 + 1)) + 1)) + 1)) + 1))) (laws_markValueS_ro r2), (Int.toNat x5) = (Int.toNat x5), List.length r2.2 = List.length (Val.list (List.getD ((fun (z42 : List Val) => List.set z42 (Int.toNat x5) (Val.mk (Val.kind (List.getD z42 (Int.toNat x5) Ty.val.dflt)) (Val.n (List.getD z42 (Int.toNat x5) Ty.val.dflt)) (Val.step (List.getD z42 (Int.toNat x5) Ty.val.dflt)) r1 (Val.list (List.getD z42 (Int.toNat x5) Ty.val.dflt)) (Val.columns (List.getD z42 (Int.toNat x5) Ty.val.dflt)) (Val.rows (List.getD z42 (Int.toNat x5) Ty.val.dflt)))) ((fun (z41 : List Val) => List.set z41 (Int.toNat x5) (Val.mk (Val.kind (List.getD z41 (Int.toNat x5) Ty.val.dflt)) (Val.n (List.getD z41 (Int.toNat x5) Ty.val.dflt)) (IntKind.i64.wrap ((IntKind.i64.wrap (x1 + 1)) + 1)) (Val.text (List.getD z41 (Int.toNat x5) Ty.val.dflt)) (Val.list (List.getD z41 (Int.toNat x5) Ty.val.dflt)) (Val.columns (List.getD z41 (Int.toNat x5) Ty.val.dflt)) (Val.rows (List.getD z41 (Int.toNat x5) Ty.val.dflt)))) ((fun (z40 : List Val) => List.set z40 (Int.toNat x5) (Val.mk (Val.kind (List.getD z40 (Int.toNat x5) Ty.val.dflt)) (IntKind.i64.wrap (x1 + 1)) (Val.step (List.getD z40 (Int.toNat x5) Ty.val.dflt)) (Val.text (List.getD z40 (Int.toNat x5) Ty.val.dflt)) (Val.list (List.getD z40 (Int.toNat x5) Ty.val.dflt)) (Val.columns (List.getD z40 (Int.toNat x5) Ty.val.dflt)) (Val.rows (List.getD z40 (Int.toNat x5) Ty.val.dflt)))) (List.set x0 (Int.toNat x5) (Val.mk x1 (Val.n (List.getD x0 (Int.toNat x5) Ty.val.dflt)) (Val.step (List.getD x0 (Int.toNat x5) Ty.val.dflt)) (Val.text (List.getD x0 (Int.toNat x5) Ty.val.dflt)) (Val.list (List.getD x0 (Int.toNat x5) Ty.val.dflt)) (Val.columns (List.getD x0 (Int.toNat x5) Ty.val.dflt)) (Val.rows (List.getD x0 (Int.toNat x5) Ty.val.dflt))))))) (Int.toNat x5) Ty.val.dflt)), (0 : Int) ≤ x5 ∧ x5 < (List.length ((fun (z43 : List Val) => List.set z43 (Int.toNat x5) (Val.mk (Val.kind (List.getD z43 (Int.toNat x5) Ty.val.dflt)) (Val.n (List.getD z43 (Int.toNat x5) Ty.val.dflt)) (Val.step (List.getD z43 (Int.toNat x5) Ty.val.dflt)) (Val.text (List.getD z43 (Int.toNat x5) Ty.val.dflt)) r2.2 (Val.columns (List.getD z43 (Int.toNat x5) Ty.val.dflt)) (Val.rows (List.getD z43 (Int.toNat x5) Ty.val.dflt)))) ((fun (z42 : List Val) => List.set z42 (Int.toNat x5) (Val.mk (Val.kind (List.getD z42 (Int.toNat x5) Ty.val.dflt)) (Val.n (List.getD z42 (Int.toNat x5) Ty.val.dflt)) (Val.step (List.getD z42 (Int.toNat x5) Ty.val.dflt)) r1 (Val.list (List.getD z42 (Int.toNat x5) Ty.val.dflt)) (Val.columns (List.getD z42 (Int.toNat x5) Ty.val.dflt)) (Val.rows (List.getD z42 (Int.toNat x5) Ty.val.dflt)))) ((fun (z41 : List Val) => List.set z41 (Int.toNat x5) (Val.mk (Val.kind (List.getD z41 (Int.toNat x5) Ty.val.dflt)) (Val.n (List.getD z41 (Int.toNat x5) Ty.val.dflt)) (IntKind.i64.wrap ((IntKind.i64.wrap (x1 + 1)) + 1)) (Val.text (List.getD z41 (Int.toNat x5) Ty.val.dflt)) (Val.list (List.getD z41 (Int.toNat x5) Ty.val.dflt)) (Val.columns (List.getD z41 (Int.toNat x5) Ty.val.dflt)) (Val.rows (List.getD z41 (Int.toNat x5) Ty.val.dflt)))) ((fun (z40 : List Val) => List.set z40 (Int.toNat x5) (Val.mk (Val.kind (List.getD z40 (Int.toNat x5) Ty.val.dflt)) (IntKind.i64.wrap (x1 + 1)) (Val.step (List.getD z40 (Int.toNat x5) Ty.val.dflt)) (Val.text (List.getD z40 (Int.toNat x5) Ty.val.dflt)) (Val.list (List.getD z40 (Int.toNat x5) Ty.val.dflt)) (Val.columns (List.getD z40 (Int.toNat x5) Ty.val.dflt)) (Val.rows (List.getD z40 (Int.toNat x5) Ty.val.dflt)))) (List.set x0 (Int.toNat x5) (Val.mk x1 (Val.n (List.getD x0 (Int.toNat x5) Ty.val.dflt)) (Val.step (List.getD x0 (Int.toNat x5) Ty.val.dflt)) (Val.text (List.getD x0 (Int.toNat x5) Ty.val.dflt)) (Val.list (List.getD x0 (Int.toNat x5) Ty.val.dflt)) (Val.columns (List.getD x0 (Int.toNat x5) Ty.val.dflt)) (Val.rows (List.getD x0 (Int.toNat x5) Ty.val.dflt))))))))), AbsCalls Try.prog 80 (laws_markStringS_as (Val.columns (List.getD ((fun (z43 : List Val) => List.set z43 (Int.toNat x5) (Val.mk (Val.kind (List.getD z43 (Int.toNat x5) Ty.val.dflt)) (Val.n (List.getD z43 (Int.toNat x5) Ty.val.dflt)) (Val.step (List.getD z43 (Int.toNat x5) Ty.val.dflt)) (Val.text (List.getD z43 (Int.toNat x5) Ty.val.dflt)) r2.2 (Val.columns (List.getD z43 (Int.toNat x5) Ty.val.dflt)) (Val.rows (List.getD z43 (Int.toNat x5) Ty.val.dflt)))) ((fun (z42 : List Val) => List.set z42 (Int.toNat x5) (Val.mk (Val.kind (List.getD z42 (Int.toNat x5) Ty.val.dflt)) (Val.n (List.getD z42 (Int.toNat x5) Ty.val.dflt)) (Val.step (List.getD z42 (Int.toNat x5) Ty.val.dflt)) r1 (Val.list (List.getD z42 (Int.toNat x5) Ty.val.dflt)) (Val.columns (List.getD z42 (Int.toNat x5) Ty.val.dflt)) (Val.rows (List.getD z42 (Int.toNat x5) Ty.val.dflt)))) ((fun (z41 : List Val) => List.set z41 (Int.toNat x5) (Val.mk (Val.kind (List.getD z41 (Int.toNat x5) Ty.val.dflt)) (Val.n (List.getD z41 (Int.toNat x5) Ty.val.dflt)) (IntKind.i64.wrap ((IntKind.i64.wrap (x1 + 1)) + 1)) (Val.text (List.getD z41 (Int.toNat x5) Ty.val.dflt)) (Val.list (List.getD z41 (Int.toNat x5) Ty.val.dflt)) (Val.columns (List.getD z41 (Int.toNat x5) Ty.val.dflt)) (Val.rows (List.getD z41 (Int.toNat x5) Ty.val.dflt)))) ((fun (z40 : List Val) => List.set z40 (Int.toNat x5) (Val.mk (Val.kind (List.getD z40 (Int.toNat x5) Ty.val.dflt)) (IntKind.i64.wrap (x1 + 1)) (Val.step (List.getD z40 (Int.toNat x5) Ty.val.dflt)) (Val.text (List.getD z40 (Int.toNat x5) Ty.val.dflt)) (Val.list (List.getD z40 (Int.toNat x5) Ty.val.dflt)) (Val.columns (List.getD z40 (Int.toNat x5) Ty.val.dflt)) (Val.rows (List.getD z40 (Int.toNat x5) Ty.val.dflt)))) (List.set x0 (Int.toNat x5) (Val.mk x1 (Val.n (List.getD x0 (Int.toNat x5) Ty.val.dflt)) (Val.step (List.getD x0 (Int.toNat x5) Ty.val.dflt)) (Val.text (List.getD x0 (Int.toNat x5) Ty.val.dflt)) (Val.list (List.getD x0 (Int.toNat x5) Ty.val.dflt)) (Val.columns (List.getD x0 (Int.toNat x5) Ty.val.dflt)) (Val.rows (List.getD x0 (Int.toNat x5) Ty.val.dflt)))))))) (Int.toNat x5) Ty.val.dflt)) r2.1) (laws_markStringS_ro r3), (Int.toNat x5) = (Int.toNat x5), List.length r3.2 = List.length (Val.columns (List.getD ((fun (z43 : List Val) => List.set z43 (Int.toNat x5) (Val.mk (Val.kind (List.getD z43 (Int.toNat x5) Ty.val.dflt)) (Val.n (List.getD z43 (Int.toNat x5) Ty.val.dflt)) (Val.step (List.getD z43 (Int.toNat x5) Ty.val.dflt)) (Val.text (List.getD z43 (Int.toNat x5) Ty.val.dflt)) r2.2 (Val.columns (List.getD z43 (Int.toNat x5) Ty.val.dflt)) (Val.rows (List.getD z43 (Int.toNat x5) Ty.val.dflt)))) ((fun (z42 : List Val) => List.set z42 (Int.toNat x5) (Val.mk (Val.kind (List.getD z42 (Int.toNat x5) Ty.val.dflt)) (Val.n (List.getD z42 (Int.toNat x5) Ty.val.dflt)) (Val.step (List.getD z42 (Int.toNat x5) Ty.val.dflt)) r1 (Val.list (List.getD z42 (Int.toNat x5) Ty.val.dflt)) (Val.columns (List.getD z42 (Int.toNat x5) Ty.val.dflt)) (Val.rows (List.getD z42 (Int.toNat x5) Ty.val.dflt)))) ((fun (z41 : List Val) => List.set z41 (Int.toNat x5) (Val.mk (Val.kind (List.getD z41 (Int.toNat x5) Ty.val.dflt)) (Val.n (List.getD z41 (Int.toNat x5) Ty.val.dflt)) (IntKind.i64.wrap ((IntKind.i64.wrap (x1 + 1)) + 1)) (Val.text (List.getD z41 (Int.toNat x5) Ty.val.dflt)) (Val.list (List.getD z41 (Int.toNat x5) Ty.val.dflt)) (Val.columns (List.getD z41 (Int.toNat x5) Ty.val.dflt)) (Val.rows (List.getD z41 (Int.toNat x5) Ty.val.dflt)))) ((fun (z40 : List Val) => List.set z40 (Int.toNat x5) (Val.mk (Val.kind (List.getD z40 (Int.toNat x5) Ty.val.dflt)) (IntKind.i64.wrap (x1 + 1)) (Val.step (List.getD z40 (Int.toNat x5) Ty.val.dflt)) (Val.text (List.getD z40 (Int.toNat x5) Ty.val.dflt)) (Val.list (List.getD z40 (Int.toNat x5) Ty.val.dflt)) (Val.columns (List.getD z40 (Int.toNat x5) Ty.val.dflt)) (Val.rows (List.getD z40 (Int.toNat x5) Ty.val.dflt)))) (List.set x0 (Int.toNat x5) (Val.mk x1 (Val.n (List.getD x0 (Int.toNat x5) Ty.val.dflt)) (Val.step (List.getD x0 (Int.toNat x5) Ty.val.dflt)) (Val.text (List.getD x0 (Int.toNat x5) Ty.val.dflt)) (Val.list (List.getD x0 (Int.toNat x5) Ty.val.dflt)) (Val.columns (List.getD x0 (Int.toNat x5) Ty.val.dflt)) (Val.rows (List.getD x0 (Int.toNat x5) Ty.val.dflt)))))))) (Int.toNat x5) Ty.val.dflt)), (0 : Int) ≤ x5 ∧ x5 < (List.length ((fun (z44 : List Val) => List.set z44 (Int.toNat x5) (Val.mk (Val.kind (List.getD z44 (Int.toNat x5) Ty.val.dflt)) (Val.n (List.getD z44 (Int.toNat x5) Ty.val.dflt)) (Val.step (List.getD z44 (Int.toNat x5) Ty.val.dflt)) (Val.text (List.getD z44 (Int.toNat x5) Ty.val.dflt)) (Val.list (List.getD z44 (Int.toNat x5) Ty.val.dflt)) r3.2 (Val.rows (List.getD z44 (Int.toNat x5) Ty.val.dflt)))) ((fun (z43 : List Val) => List.set z43 (Int.toNat x5) (Val.mk (Val.kind (List.getD z43 (Int.toNat x5) Ty.val.dflt)) (Val.n (List.getD z43 (Int.toNat x5) Ty.val.dflt)) (Val.step (List.getD z43 (Int.toNat x5) Ty.val.dflt)) (Val.text (List.getD z43 (Int.toNat x5) Ty.val.dflt)) r2.2 (Val.columns (List.getD z43 (Int.toNat x5) Ty.val.dflt)) (Val.rows (List.getD z43 (Int.toNat x5) Ty.val.dflt)))) ((fun (z42 : List Val) => List.set z42 (Int.toNat x5) (Val.mk (Val.kind (List.getD z42 (Int.toNat x5) Ty.val.dflt)) (Val.n (List.getD z42 (Int.toNat x5) Ty.val.dflt)) (Val.step (List.getD z42 (Int.toNat x5) Ty.val.dflt)) r1 (Val.list (List.getD z42 (Int.toNat x5) Ty.val.dflt)) (Val.columns (List.getD z42 (Int.toNat x5) Ty.val.dflt)) (Val.rows (List.getD z42 (Int.toNat x5) Ty.val.dflt)))) ((fun (z41 : List Val) => List.set z41 (Int.toNat x5) (Val.mk (Val.kind (List.getD z41 (Int.toNat x5) Ty.val.dflt)) (Val.n (List.getD z41 (Int.toNat x5) Ty.val.dflt)) (IntKind.i64.wrap ((IntKind.i64.wrap (x1 + 1)) + 1)) (Val.text (List.getD z41 (Int.toNat x5) Ty.val.dflt)) (Val.list (List.getD z41 (Int.toNat x5) Ty.val.dflt)) (Val.columns (List.getD z41 (Int.toNat x5) Ty.val.dflt)) (Val.rows (List.getD z41 (Int.toNat x5) Ty.val.dflt)))) ((fun (z40 : List Val) => List.set z40 (Int.toNat x5) (Val.mk (Val.kind (List.getD z40 (Int.toNat x5) Ty.val.dflt)) (IntKind.i64.wrap (x1 + 1)) (Val.step (List.getD z40 (Int.toNat x5) Ty.val.dflt)) (Val.text (List.getD z40 (Int.toNat x5) Ty.val.dflt)) (Val.list (List.getD z40 (Int.toNat x5) Ty.val.dflt)) (Val.columns (List.getD z40 (Int.toNat x5) Ty.val.dflt)) (Val.rows (List.getD z40 (Int.toNat x5) Ty.val.dflt)))) (List.set x0 (Int.toNat x5) (Val.mk x1 (Val.n (List.getD x0 (Int.toNat x5) Ty.val.dflt)) (Val.step (List.getD x0 (Int.toNat x5) Ty.val.dflt)) (Val.text (List.getD x0 (Int.toNat x5) Ty.val.dflt)) (Val.list (List.getD x0 (Int.toNat x5) Ty.val.dflt)) (Val.columns (List.getD x0 (Int.toNat x5) Ty.val.dflt)) (Val.rows (List.getD x0 (Int.toNat x5) Ty.val.dflt)))))))))), AbsCalls Try.prog 81 (laws_markRowS_as (Val.rows (List.getD ((fun (z44 : List Val) => List.set z44 (Int.toNat x5) (Val.mk (Val.kind (List.getD z44 (Int.toNat x5) Ty.val.dflt)) (Val.n (List.getD z44 (Int.toNat x5) Ty.val.dflt)) (Val.step (List.getD z44 (Int.toNat x5) Ty.val.dflt)) (Val.text (List.getD z44 (Int.toNat x5) Ty.val.dflt)) (Val.list (List.getD z44 (Int.toNat x5) Ty.val.dflt)) r3.2 (Val.rows (List.getD z44 (Int.toNat x5) Ty.val.dflt)))) ((fun (z43 : List Val) => List.set z43 (Int.toNat x5) (Val.mk (Val.kind (List.getD z43 (Int.toNat x5) Ty.val.dflt)) (Val.n (List.getD z43 (Int.toNat x5) Ty.val.dflt)) (Val.step (List.getD z43 (Int.toNat x5) Ty.val.dflt)) (Val.text (List.getD z43 (Int.toNat x5) Ty.val.dflt)) r2.2 (Val.columns (List.getD z43 (Int.toNat x5) Ty.val.dflt)) (Val.rows (List.getD z43 (Int.toNat x5) Ty.val.dflt)))) ((fun (z42 : List Val) => List.set z42 (Int.toNat x5) (Val.mk (Val.kind (List.getD z42 (Int.toNat x5) Ty.val.dflt)) (Val.n (List.getD z42 (Int.toNat x5) Ty.val.dflt)) (Val.step (List.getD z42 (Int.toNat x5) Ty.val.dflt)) r1 (Val.list (List.getD z42 (Int.toNat x5) Ty.val.dflt)) (Val.columns (List.getD z42 (Int.toNat x5) Ty.val.dflt)) (Val.rows (List.getD z42 (Int.toNat x5) Ty.val.dflt)))) ((fun (z41 : List Val) => List.set z41 (Int.toNat x5) (Val.mk (Val.kind (List.getD z41 (Int.toNat x5) Ty.val.dflt)) (Val.n (List.getD z41 (Int.toNat x5) Ty.val.dflt)) (IntKind.i64.wrap ((IntKind.i64.wrap (x1 + 1)) + 1)) (Val.text (List.getD z41 (Int.toNat x5) Ty.val.dflt)) (Val.list (List.getD z41 (Int.toNat x5) Ty.val.dflt)) (Val.columns (List.getD z41 (Int.toNat x5) Ty.val.dflt)) (Val.rows (List.getD z41 (Int.toNat x5) Ty.val.dflt)))) ((fun (z40 : List Val) => List.set z40 (Int.toNat x5) (Val.mk (Val.kind (List.getD z40 (Int.toNat x5) Ty.val.dflt)) (IntKind.i64.wrap (x1 + 1)) (Val.step (List.getD z40 (Int.toNat x5) Ty.val.dflt)) (Val.text (List.getD z40 (Int.toNat x5) Ty.val.dflt)) (Val.list (List.getD z40 (Int.toNat x5) Ty.val.dflt)) (Val.columns (List.getD z40 (Int.toNat x5) Ty.val.dflt)) (Val.rows (List.getD z40 (Int.toNat x5) Ty.val.dflt)))) (List.set x0 (Int.toNat x5) (Val.mk x1 (Val.n (List.getD x0 (Int.toNat x5) Ty.val.dflt)) (Val.step (List.getD x0 (Int.toNat x5) Ty.val.dflt)) (Val.text (List.getD x0 (Int.toNat x5) Ty.val.dflt)) (Val.list (List.getD x0 (Int.toNat x5) Ty.val.dflt)) (Val.columns (List.getD x0 (Int.toNat x5) Ty.val.dflt)) (Val.rows (List.getD x0 (Int.toNat x5) Ty.val.dflt))))))))) (Int.toNat x5) Ty.val.dflt)) r3.1) (laws_markRowS_ro r4), (Int.toNat x5) = (Int.toNat x5), List.length r4.2 = List.length (Val.rows (List.getD ((fun (z44 : List Val) => List.set z44 (Int.toNat x5) (Val.mk (Val.kind (List.getD z44 (Int.toNat x5) Ty.val.dflt)) (Val.n (List.getD z44 (Int.toNat x5) Ty.val.dflt)) (Val.step (List.getD z44 (Int.toNat x5) Ty.val.dflt)) (Val.text (List.getD z44 (Int.toNat x5) Ty.val.dflt)) (Val.list (List.getD z44 (Int.toNat x5) Ty.val.dflt)) r3.2 (Val.rows (List.getD z44 (Int.toNat x5) Ty.val.dflt)))) ((fun (z43 : List Val) => List.set z43 (Int.toNat x5) (Val.mk (Val.kind (List.getD z43 (Int.toNat x5) Ty.val.dflt)) (Val.n (List.getD z43 (Int.toNat x5) Ty.val.dflt)) (Val.step (List.getD z43 (Int.toNat x5) Ty.val.dflt)) (Val.text (List.getD z43 (Int.toNat x5) Ty.val.dflt)) r2.2 (Val.columns (List.getD z43 (Int.toNat x5) Ty.val.dflt)) (Val.rows (List.getD z43 (Int.toNat x5) Ty.val.dflt)))) ((fun (z42 : List Val) => List.set z42 (Int.toNat x5) (Val.mk (Val.kind (List.getD z42 (Int.toNat x5) Ty.val.dflt)) (Val.n (List.getD z42 (Int.toNat x5) Ty.val.dflt)) (Val.step (List.getD z42 (Int.toNat x5) Ty.val.dflt)) r1 (Val.list (List.getD z42 (Int.toNat x5) Ty.val.dflt)) (Val.columns (List.getD z42 (Int.toNat x5) Ty.val.dflt)) (Val.rows (List.getD z42 (Int.toNat x5) Ty.val.dflt)))) ((fun (z41 : List Val) => List.set z41 (Int.toNat x5) (Val.mk (Val.kind (List.getD z41 (Int.toNat x5) Ty.val.dflt)) (Val.n (List.getD z41 (Int.toNat x5) Ty.val.dflt)) (IntKind.i64.wrap ((IntKind.i64.wrap (x1 + 1)) + 1)) (Val.text (List.getD z41 (Int.toNat x5) Ty.val.dflt)) (Val.list (List.getD z41 (Int.toNat x5) Ty.val.dflt)) (Val.columns (List.getD z41 (Int.toNat x5) Ty.val.dflt)) (Val.rows (List.getD z41 (Int.toNat x5) Ty.val.dflt)))) ((fun (z40 : List Val) => List.set z40 (Int.toNat x5) (Val.mk (Val.kind (List.getD z40 (Int.toNat x5) Ty.val.dflt)) (IntKind.i64.wrap (x1 + 1)) (Val.step (List.getD z40 (Int.toNat x5) Ty.val.dflt)) (Val.text (List.getD z40 (Int.toNat x5) Ty.val.dflt)) (Val.list (List.getD z40 (Int.toNat x5) Ty.val.dflt)) (Val.columns (List.getD z40 (Int.toNat x5) Ty.val.dflt)) (Val.rows (List.getD z40 (Int.toNat x5) Ty.val.dflt)))) (List.set x0 (Int.toNat x5) (Val.mk x1 (Val.n (List.getD x0 (Int.toNat x5) Ty.val.dflt)) (Val.step (List.getD x0 (Int.toNat x5) Ty.val.dflt)) (Val.text (List.getD x0 (Int.toNat x5) Ty.val.dflt)) (Val.list (List.getD x0 (Int.toNat x5) Ty.val.dflt)) (Val.columns (List.getD x0 (Int.toNat x5) Ty.val.dflt)) (Val.rows (List.getD x0 (Int.toNat x5) Ty.val.dflt))))))))) (Int.toNat x5) Ty.val.dflt))]) := by kernel_rfl
theorem p67_2_1 (x0 : List Val) (x1 : Int) (x5 : Int) : run tt (AbsCalls Try.prog) I67 3000 true (stkAt 2 I67.body) ⟨(S67_2 x0 x1 x5), [false], [], []⟩ = some (.done (laws_markValueS_ro (x1, x0)) [(decide ((x5 : Int) < (List.length x0 : Int))) = false]) := by kernel_rfl
theorem p67_e_2 (a0 : List Val) (a1 : Int) : run tt (AbsCalls Try.prog) I67 3000 false [.code I67.body] ⟨(entry 0 (laws_markValueS_as a0 a1)), [], [], []⟩ = some (.stop (stkAt 2 I67.body) (S67_2 a0 a1 0) []) := by kernel_rfl
theorem c67_2 {N : Nat} {rc_laws_markValueS : (List Val) → Int → Option (Int × (List Val))} (hrc_laws_markValueS : ∀ a0 a1 r, rc_laws_markValueS a0 a1 = some r → AbsCalls Try.prog 67 (laws_markValueS_as a0 a1) (laws_markValueS_ro r)) : ∀ n x0 x1 x5 r, laws_markValueS_b2 N rc_laws_markValueS n x0 x1 x5 = some r → Reach Try.prog Try.f67 I67 (stkAt 2 I67.body) (S67_2 x0 x1 x5) (laws_markValueS_ro r) := by
  intro n
  induction n with
  | zero => intro x0 x1 x5 r h; have h' : (none : Option (Int × (List Val))) = some r := h; cases h'
  | succ n ih =>
    intro x0 x1 x5 r h
    rw [laws_markValueS_b2] at h
    rcases cond_inv h with ⟨h0, h⟩ | ⟨h0, h⟩
    · obtain ⟨h1, h⟩ := ite_inv h
      obtain ⟨h2, h⟩ := ite_inv h
      obtain ⟨h3, h⟩ := ite_inv h
      obtain ⟨r1, h4, h⟩ := bind_inv h
      obtain ⟨h5, h⟩ := ite_inv h
      obtain ⟨h6, h⟩ := ite_inv h
      obtain ⟨r2, h7, h⟩ := bind_inv h
      obtain ⟨h9, h⟩ := ite_inv h
      obtain ⟨h10, h⟩ := ite_inv h
      obtain ⟨r3, h11, h⟩ := bind_inv h
      obtain ⟨h13, h⟩ := ite_inv h
      obtain ⟨h14, h⟩ := ite_inv h
      obtain ⟨r4, h15, h⟩ := bind_inv h
      obtain ⟨h17, h⟩ := ite_inv h
      exact Reach.stop ttok mix fk67 (p67_2_0 x0 x1 x5 r1 r2 r3 r4) (obs_cons h0 (obs_cons h1 (obs_cons h2 (obs_cons h3 (obs_cons (laws_markText_ok h4) (obs_cons h5 (obs_cons h6 (obs_cons (hrc_laws_markValueS _ _ _ h7) (obs_cons rfl (obs_cons h9 (obs_cons h10 (obs_cons (laws_markStringS_ok h11) (obs_cons rfl (obs_cons h13 (obs_cons h14 (obs_cons (laws_markRowS_ok h15) (obs_cons rfl (obs_cons h17 obs_nil)))))))))))))))))) (ih _ _ _ _ h)
    · obtain rfl := Option.some.inj h
      exact Reach.done ttok mix fk67 (p67_2_1 x0 x1 x5) (obs_cons h0 obs_nil)
theorem c67_e {N : Nat} {rc_laws_markValueS : (List Val) → Int → Option (Int × (List Val))} (hrc_laws_markValueS : ∀ a0 a1 r, rc_laws_markValueS a0 a1 = some r → AbsCalls Try.prog 67 (laws_markValueS_as a0 a1) (laws_markValueS_ro r)) : ∀ a0 a1 r, laws_markValueS_body N rc_laws_markValueS a0 a1 = some r → Reach Try.prog Try.f67 I67 [.code I67.body] (entry 0 (laws_markValueS_as a0 a1)) (laws_markValueS_ro r) := by
  intro a0 a1 r h
  unfold laws_markValueS_body at h
  exact Reach.stop ttok mix fk67 (p67_e_2 a0 a1) obs_nil (c67_2 hrc_laws_markValueS  _ _ _ _ _ h)
theorem laws_markValueS_body_ok {N : Nat} {rc_laws_markValueS : (List Val) → Int → Option (Int × (List Val))} (hrc_laws_markValueS : ∀ a0 a1 r, rc_laws_markValueS a0 a1 = some r → AbsCalls Try.prog 67 (laws_markValueS_as a0 a1) (laws_markValueS_ro r)) {a0 : List Val} {a1 : Int} {r : Int × (List Val)} (h : laws_markValueS_body N rc_laws_markValueS a0 a1 = some r) : AbsCalls Try.prog 67 (laws_markValueS_as a0 a1) (laws_markValueS_ro r) :=
 AbsCalls.of_reach fk67 rfl rfl (Nat.le_of_ble_eq_true rfl) (c67_e hrc_laws_markValueS a0 a1 r h)
theorem laws_markValueS_fix_ok {N : Nat} : ∀ d, (∀ a0 a1 r, laws_markValueS_fix N d a0 a1 = some r → AbsCalls Try.prog 67 (laws_markValueS_as a0 a1) (laws_markValueS_ro r)) := by
  intro d
  induction d with
  | zero => intro _ _ r h; have h' : (none : Option (Int × (List Val))) = some r := h; cases h'
  | succ d ih => intro _ _ r h; exact laws_markValueS_body_ok (N := N) ih h
theorem laws_markValueS_ok {N : Nat} {a0 : List Val} {a1 : Int} {r : Int × (List Val)} (h : laws_markValueS N a0 a1 = some r) : AbsCalls Try.prog 67 (laws_markValueS_as a0 a1) (laws_markValueS_ro r) := laws_markValueS_fix_ok N _ _ r h
noncomputable def I22 : Info := { body := (Try.f22.body).getD .skip, nt := 18, results := [.tmp 4], keep := [0, 2, 4, 8, 5], live := [], modes := [(1, [(1, .ref, false), (3, .ref, false)]), (2, [(1, .ref, false), (3, .ref, false)]), (3, [(1, .ref, false), (3, .ref, false)])], ext := [], lnt := [(5, 4), (5, 5), (5, 6)], casts := [], fcast := [] }
theorem fk22 : FnOk Try.prog 22 Try.f22 I22 := ⟨Try.func22, by kernel_rfl, by kernel_rfl, by kernel_rfl, by kernel_rfl⟩
theorem p22_e_0 (a0 : Val) (a1 : Int) (r1 : Int × (List Val)) (r2 : Int × (List Str)) (r3 : Int × (List Rowd)) : run tt (AbsCalls Try.prog) I22 3000 false [.code I22.body] ⟨(entry 0 (laws_markValue_as a0 a1)), [], [laws_markValueS_ro r1, laws_markStringS_ro r2, laws_markRowS_ro r3], []⟩ = some (.done (laws_markValue_ro (r3.1, r1.2, r2.2, r3.2)) [AbsCalls Try.prog 67 (laws_markValueS_as (Val.list a0) a1) (laws_markValueS_ro r1), List.length r1.2 = List.length (Val.list a0), AbsCalls Try.prog 80 (laws_markStringS_as (Val.columns a0) r1.1) (laws_markStringS_ro r2), List.length r2.2 = List.length (Val.columns a0), AbsCalls Try.prog 81 (laws_markRowS_as (Val.rows a0) r2.1) (laws_markRowS_ro r3), List.length r3.2 = List.length (Val.rows a0)]) := by kernel_rfl
theorem c22_e {N : Nat} : ∀ a0 a1 r, laws_markValue N a0 a1 = some r → Reach Try.prog Try.f22 I22 [.code I22.body] (entry 0 (laws_markValue_as a0 a1)) (laws_markValue_ro r) := by
  intro a0 a1 r h
  unfold laws_markValue at h
  obtain ⟨r1, h0, h⟩ := bind_inv h
  obtain ⟨h1, h⟩ := ite_inv h
  obtain ⟨r2, h2, h⟩ := bind_inv h
  obtain ⟨h3, h⟩ := ite_inv h
  obtain ⟨r3, h4, h⟩ := bind_inv h
  obtain ⟨h5, h⟩ := ite_inv h
  obtain rfl := Option.some.inj h
  exact Reach.done ttok mix fk22 (p22_e_0 a0 a1 r1 r2 r3) (obs_cons (laws_markValueS_ok h0) (obs_cons h1 (obs_cons (laws_markStringS_ok h2) (obs_cons h3 (obs_cons (laws_markRowS_ok h4) (obs_cons h5 obs_nil))))))
theorem laws_markValue_ok {N : Nat} {a0 : Val} {a1 : Int} {r : Int × (List Val) × (List Str) × (List Rowd)} (h : laws_markValue N  a0 a1 = some r) : AbsCalls Try.prog 22 (laws_markValue_as a0 a1) (laws_markValue_ro r) :=
 AbsCalls.of_reach fk22 rfl rfl (Nat.le_of_ble_eq_true rfl) (c22_e a0 a1 r h)
noncomputable def I83 : Info := { body := (Try.f83.body).getD .skip, nt := 22, results := [.tmp 4], keep := [0, 2, 8, 10, 18, 36], live := [(2, [0, 2, 10])], modes := [], ext := [], lnt := [], casts := [], fcast := [] }
theorem fk83 : FnOk Try.prog 83 Try.f83 I83 := ⟨Try.func83, by kernel_rfl, by kernel_rfl, by kernel_rfl, by kernel_rfl⟩
def S83_2 (x0 : List Str) (x1 : Int) (x5 : Int) : St := [(0, .v false [.sl .ro .str x0]), (2, .v false [.int .i64 x1]), (10, .v false [.int .i64 x5])]
theorem p83_2_0 (x0 : List Str) (x1 : Int) (x5 : Int) (r1 : Str) : run tt (AbsCalls Try.prog) I83 3000 true (stkAt 2 I83.body) ⟨(S83_2 x0 x1 x5), [true, true], [laws_markText_ro r1], []⟩ = some (.done (laws_heldStringS_ro (-1)) [(decide ((x5 : Int) < (List.length x0 : Int))) = true, (0 : Int) ≤ x5 ∧ x5 < (List.length x0), AbsCalls Try.prog 79 (laws_markText_as x1) (laws_markText_ro r1), (!(((List.getD x0 (Int.toNat x5) Ty.str.dflt) : Str) == r1)) = true]) := by kernel_rfl
theorem p83_2_1 (x0 : List Str) (x1 : Int) (x5 : Int) (r1 : Str) : run tt (AbsCalls Try.prog) I83 3000 true (stkAt 2 I83.body) ⟨(S83_2 x0 x1 x5), [true, false], [laws_markText_ro r1], []⟩ = some (.stop (stkAt 2 I83.body) (S83_2 x0 (IntKind.i64.wrap (x1 + 1)) (IntKind.i64.wrap (x5 + 1))) [(decide ((x5 : Int) < (List.length x0 : Int))) = true, (0 : Int) ≤ x5 ∧ x5 < (List.length x0), AbsCalls Try.prog 79 (laws_markText_as x1) (laws_markText_ro r1), (!(((List.getD x0 (Int.toNat x5) Ty.str.dflt) : Str) == r1)) = false]) := by kernel_rfl
theorem p83_2_2 (x0 : List Str) (x1 : Int) (x5 : Int) : run tt (AbsCalls Try.prog) I83 3000 true (stkAt 2 I83.body) ⟨(S83_2 x0 x1 x5), [false], [], []⟩ = some (.done (laws_heldStringS_ro x1) [(decide ((x5 : Int) < (List.length x0 : Int))) = false]) := by kernel_rfl
theorem p83_e_3 (a0 : List Str) (a1 : Int) : run tt (AbsCalls Try.prog) I83 3000 false [.code I83.body] ⟨(entry 0 (laws_heldStringS_as a0 a1)), [], [], []⟩ = some (.stop (stkAt 2 I83.body) (S83_2 a0 a1 0) []) := by kernel_rfl
theorem c83_2 {N : Nat} : ∀ n x0 x1 x5 r, laws_heldStringS_b2 N n x0 x1 x5 = some r → Reach Try.prog Try.f83 I83 (stkAt 2 I83.body) (S83_2 x0 x1 x5) (laws_heldStringS_ro r) := by
  intro n
  induction n with
  | zero => intro x0 x1 x5 r h; have h' : (none : Option (Int)) = some r := h; cases h'
  | succ n ih =>
    intro x0 x1 x5 r h
    rw [laws_heldStringS_b2] at h
    rcases cond_inv h with ⟨h0, h⟩ | ⟨h0, h⟩
    · obtain ⟨h1, h⟩ := ite_inv h
      obtain ⟨r1, h2, h⟩ := bind_inv h
      rcases cond_inv h with ⟨h3, h⟩ | ⟨h3, h⟩
      · obtain rfl := Option.some.inj h
        exact Reach.done ttok mix fk83 (p83_2_0 x0 x1 x5 r1) (obs_cons h0 (obs_cons h1 (obs_cons (laws_markText_ok h2) (obs_cons h3 obs_nil))))
      · exact Reach.stop ttok mix fk83 (p83_2_1 x0 x1 x5 r1) (obs_cons h0 (obs_cons h1 (obs_cons (laws_markText_ok h2) (obs_cons h3 obs_nil)))) (ih _ _ _ _ h)
    · obtain rfl := Option.some.inj h
      exact Reach.done ttok mix fk83 (p83_2_2 x0 x1 x5) (obs_cons h0 obs_nil)
theorem c83_e {N : Nat} : ∀ a0 a1 r, laws_heldStringS N a0 a1 = some r → Reach Try.prog Try.f83 I83 [.code I83.body] (entry 0 (laws_heldStringS_as a0 a1)) (laws_heldStringS_ro r) := by
  intro a0 a1 r h
  unfold laws_heldStringS at h
  exact Reach.stop ttok mix fk83 (p83_e_3 a0 a1) obs_nil (c83_2   _ _ _ _ _ h)
theorem laws_heldStringS_ok {N : Nat} {a0 : List Str} {a1 : Int} {r : Int} (h : laws_heldStringS N  a0 a1 = some r) : AbsCalls Try.prog 83 (laws_heldStringS_as a0 a1) (laws_heldStringS_ro r) :=
 AbsCalls.of_reach fk83 rfl rfl (Nat.le_of_ble_eq_true rfl) (c83_e a0 a1 r h)
noncomputable def I131 : Info := { body := (Try.f131.body).getD .skip, nt := 21, results := [.tmp 4], keep := [0, 2, 8, 10, 18, 34], live := [(2, [0, 2, 10])], modes := [], ext := [], lnt := [], casts := [], fcast := [] }
theorem fk131 : FnOk Try.prog 131 Try.f131 I131 := ⟨Try.func131, by kernel_rfl, by kernel_rfl, by kernel_rfl, by kernel_rfl⟩
def S131_2 (x0 : List Int) (x1 : Int) (x5 : Int) : St := [(0, .v false [.sl .ro .int x0]), (2, .v false [.int .i64 x1]), (10, .v false [.int .i64 x5])]
theorem p131_2_0 (x0 : List Int) (x1 : Int) (x5 : Int) : run tt (AbsCalls Try.prog) I131 3000 true (stkAt 2 I131.body) ⟨(S131_2 x0 x1 x5), [true, true], [], []⟩ = some (.done (laws_heldIntS_ro (-1)) [(decide ((x5 : Int) < (List.length x0 : Int))) = true, (0 : Int) ≤ x5 ∧ x5 < (List.length x0), (((List.getD x0 (Int.toNat x5) Ty.int.dflt) : Int) != x1) = true]) := by kernel_rfl
theorem p131_2_1 (x0 : List Int) (x1 : Int) (x5 : Int) : run tt (AbsCalls Try.prog) I131 3000 true (stkAt 2 I131.body) ⟨(S131_2 x0 x1 x5), [true, false], [], []⟩ = some (.stop (stkAt 2 I131.body) (S131_2 x0 (IntKind.i64.wrap (x1 + 1)) (IntKind.i64.wrap (x5 + 1))) [(decide ((x5 : Int) < (List.length x0 : Int))) = true, (0 : Int) ≤ x5 ∧ x5 < (List.length x0), (((List.getD x0 (Int.toNat x5) Ty.int.dflt) : Int) != x1) = false]) := by kernel_rfl
theorem p131_2_2 (x0 : List Int) (x1 : Int) (x5 : Int) : run tt (AbsCalls Try.prog) I131 3000 true (stkAt 2 I131.body) ⟨(S131_2 x0 x1 x5), [false], [], []⟩ = some (.done (laws_heldIntS_ro x1) [(decide ((x5 : Int) < (List.length x0 : Int))) = false]) := by kernel_rfl
theorem p131_e_3 (a0 : List Int) (a1 : Int) : run tt (AbsCalls Try.prog) I131 3000 false [.code I131.body] ⟨(entry 0 (laws_heldIntS_as a0 a1)), [], [], []⟩ = some (.stop (stkAt 2 I131.body) (S131_2 a0 a1 0) []) := by kernel_rfl
theorem c131_2 {N : Nat} : ∀ n x0 x1 x5 r, laws_heldIntS_b2 N n x0 x1 x5 = some r → Reach Try.prog Try.f131 I131 (stkAt 2 I131.body) (S131_2 x0 x1 x5) (laws_heldIntS_ro r) := by
  intro n
  induction n with
  | zero => intro x0 x1 x5 r h; have h' : (none : Option (Int)) = some r := h; cases h'
  | succ n ih =>
    intro x0 x1 x5 r h
    rw [laws_heldIntS_b2] at h
    rcases cond_inv h with ⟨h0, h⟩ | ⟨h0, h⟩
    · obtain ⟨h1, h⟩ := ite_inv h
      rcases cond_inv h with ⟨h2, h⟩ | ⟨h2, h⟩
      · obtain rfl := Option.some.inj h
        exact Reach.done ttok mix fk131 (p131_2_0 x0 x1 x5) (obs_cons h0 (obs_cons h1 (obs_cons h2 obs_nil)))
      · exact Reach.stop ttok mix fk131 (p131_2_1 x0 x1 x5) (obs_cons h0 (obs_cons h1 (obs_cons h2 obs_nil))) (ih _ _ _ _ h)
    · obtain rfl := Option.some.inj h
      exact Reach.done ttok mix fk131 (p131_2_2 x0 x1 x5) (obs_cons h0 obs_nil)
theorem c131_e {N : Nat} : ∀ a0 a1 r, laws_heldIntS N a0 a1 = some r → Reach Try.prog Try.f131 I131 [.code I131.body] (entry 0 (laws_heldIntS_as a0 a1)) (laws_heldIntS_ro r) := by
  intro a0 a1 r h
  unfold laws_heldIntS at h
  exact Reach.stop ttok mix fk131 (p131_e_3 a0 a1) obs_nil (c131_2   _ _ _ _ _ h)
theorem laws_heldIntS_ok {N : Nat} {a0 : List Int} {a1 : Int} {r : Int} (h : laws_heldIntS N  a0 a1 = some r) : AbsCalls Try.prog 131 (laws_heldIntS_as a0 a1) (laws_heldIntS_ro r) :=
 AbsCalls.of_reach fk131 rfl rfl (Nat.le_of_ble_eq_true rfl) (c131_e a0 a1 r h)
noncomputable def I132 : Info := { body := (Try.f132.body).getD .skip, nt := 31, results := [.tmp 4], keep := [0, 2, 8, 10, 18, 36, 54], live := [(2, [0, 2, 10])], modes := [], ext := [], lnt := [], casts := [], fcast := [] }
theorem fk132 : FnOk Try.prog 132 Try.f132 I132 := ⟨Try.func132, by kernel_rfl, by kernel_rfl, by kernel_rfl, by kernel_rfl⟩
def S132_2 (x0 : List Org) (x1 : Int) (x5 : Int) : St := [(0, .v false [.sl .ro .org x0]), (2, .v false [.int .i64 x1]), (10, .v false [.int .i64 x5])]
theorem p132_2_0 (x0 : List Org) (x1 : Int) (x5 : Int) : run tt (AbsCalls Try.prog) I132 3000 true (stkAt 2 I132.body) ⟨(S132_2 x0 x1 x5), [true, true], [], []⟩ = some (.done (laws_heldOriginS_ro (-1)) [(decide ((x5 : Int) < (List.length x0 : Int))) = true, (0 : Int) ≤ x5 ∧ x5 < (List.length x0), (((Org.cell (List.getD x0 (Int.toNat x5) Ty.org.dflt)) : Int) != x1) = true]) := by kernel_rfl
theorem p132_2_1 (x0 : List Org) (x1 : Int) (x5 : Int) : run tt (AbsCalls Try.prog) I132 3000 true (stkAt 2 I132.body) ⟨(S132_2 x0 x1 x5), [true, false, true], [], []⟩ = some (.done (laws_heldOriginS_ro (-1)) [(decide ((x5 : Int) < (List.length x0 : Int))) = true, (0 : Int) ≤ x5 ∧ x5 < (List.length x0), (((Org.cell (List.getD x0 (Int.toNat x5) Ty.org.dflt)) : Int) != x1) = false, (0 : Int) ≤ x5 ∧ x5 < (List.length x0), (((Org.row (List.getD x0 (Int.toNat x5) Ty.org.dflt)) : Int) != (IntKind.i64.wrap (x1 + 1))) = true]) := by kernel_rfl
theorem p132_2_2 (x0 : List Org) (x1 : Int) (x5 : Int) : run tt (AbsCalls Try.prog) I132 3000 true (stkAt 2 I132.body) ⟨(S132_2 x0 x1 x5), [true, false, false], [], []⟩ = some (.stop (stkAt 2 I132.body) (S132_2 x0 (IntKind.i64.wrap ((IntKind.i64.wrap (x1 + 1)) + 1)) (IntKind.i64.wrap (x5 + 1))) [(decide ((x5 : Int) < (List.length x0 : Int))) = true, (0 : Int) ≤ x5 ∧ x5 < (List.length x0), (((Org.cell (List.getD x0 (Int.toNat x5) Ty.org.dflt)) : Int) != x1) = false, (0 : Int) ≤ x5 ∧ x5 < (List.length x0), (((Org.row (List.getD x0 (Int.toNat x5) Ty.org.dflt)) : Int) != (IntKind.i64.wrap (x1 + 1))) = false]) := by kernel_rfl
theorem p132_2_3 (x0 : List Org) (x1 : Int) (x5 : Int) : run tt (AbsCalls Try.prog) I132 3000 true (stkAt 2 I132.body) ⟨(S132_2 x0 x1 x5), [false], [], []⟩ = some (.done (laws_heldOriginS_ro x1) [(decide ((x5 : Int) < (List.length x0 : Int))) = false]) := by kernel_rfl
theorem p132_e_4 (a0 : List Org) (a1 : Int) : run tt (AbsCalls Try.prog) I132 3000 false [.code I132.body] ⟨(entry 0 (laws_heldOriginS_as a0 a1)), [], [], []⟩ = some (.stop (stkAt 2 I132.body) (S132_2 a0 a1 0) []) := by kernel_rfl
theorem c132_2 {N : Nat} : ∀ n x0 x1 x5 r, laws_heldOriginS_b2 N n x0 x1 x5 = some r → Reach Try.prog Try.f132 I132 (stkAt 2 I132.body) (S132_2 x0 x1 x5) (laws_heldOriginS_ro r) := by
  intro n
  induction n with
  | zero => intro x0 x1 x5 r h; have h' : (none : Option (Int)) = some r := h; cases h'
  | succ n ih =>
    intro x0 x1 x5 r h
    rw [laws_heldOriginS_b2] at h
    rcases cond_inv h with ⟨h0, h⟩ | ⟨h0, h⟩
    · obtain ⟨h1, h⟩ := ite_inv h
      rcases cond_inv h with ⟨h2, h⟩ | ⟨h2, h⟩
      · obtain rfl := Option.some.inj h
        exact Reach.done ttok mix fk132 (p132_2_0 x0 x1 x5) (obs_cons h0 (obs_cons h1 (obs_cons h2 obs_nil)))
      · rcases cond_inv h with ⟨h4, h⟩ | ⟨h4, h⟩
        · obtain rfl := Option.some.inj h
          exact Reach.done ttok mix fk132 (p132_2_1 x0 x1 x5) (obs_cons h0 (obs_cons h1 (obs_cons h2 (obs_cons h1 (obs_cons h4 obs_nil)))))
        · exact Reach.stop ttok mix fk132 (p132_2_2 x0 x1 x5) (obs_cons h0 (obs_cons h1 (obs_cons h2 (obs_cons h1 (obs_cons h4 obs_nil))))) (ih _ _ _ _ h)
    · obtain rfl := Option.some.inj h
      exact Reach.done ttok mix fk132 (p132_2_3 x0 x1 x5) (obs_cons h0 obs_nil)
theorem c132_e {N : Nat} : ∀ a0 a1 r, laws_heldOriginS N a0 a1 = some r → Reach Try.prog Try.f132 I132 [.code I132.body] (entry 0 (laws_heldOriginS_as a0 a1)) (laws_heldOriginS_ro r) := by
  intro a0 a1 r h
  unfold laws_heldOriginS at h
  exact Reach.stop ttok mix fk132 (p132_e_4 a0 a1) obs_nil (c132_2   _ _ _ _ _ h)
theorem laws_heldOriginS_ok {N : Nat} {a0 : List Org} {a1 : Int} {r : Int} (h : laws_heldOriginS N  a0 a1 = some r) : AbsCalls Try.prog 132 (laws_heldOriginS_as a0 a1) (laws_heldOriginS_ro r) :=
 AbsCalls.of_reach fk132 rfl rfl (Nat.le_of_ble_eq_true rfl) (c132_e a0 a1 r h)
noncomputable def I84 : Info := { body := (Try.f84.body).getD .skip, nt := 31, results := [.tmp 4], keep := [0, 2, 8, 10, 18, 40, 58], live := [(2, [0, 2, 10])], modes := [], ext := [], lnt := [], casts := [], fcast := [] }
theorem fk84 : FnOk Try.prog 84 Try.f84 I84 := ⟨Try.func84, by kernel_rfl, by kernel_rfl, by kernel_rfl, by kernel_rfl⟩
def S84_2 (x0 : List Rowd) (x1 : Int) (x5 : Int) : St := [(0, .v false [.sl .ro .row x0]), (2, .v false [.int .i64 x1]), (10, .v false [.int .i64 x5])]
theorem p84_2_0 (x0 : List Rowd) (x1 : Int) (x5 : Int) (r1 : Int) : run tt (AbsCalls Try.prog) I84 3000 true (stkAt 2 I84.body) ⟨(S84_2 x0 x1 x5), [true, true], [laws_heldIntS_ro r1], []⟩ = some (.done (laws_heldRowS_ro (-1)) [(decide ((x5 : Int) < (List.length x0 : Int))) = true, (0 : Int) ≤ x5 ∧ x5 < (List.length x0), AbsCalls Try.prog 131 (laws_heldIntS_as (Rowd.cells (List.getD x0 (Int.toNat x5) Ty.row.dflt)) x1) (laws_heldIntS_ro r1), (decide ((r1 : Int) < 0)) = true]) := by kernel_rfl
theorem p84_2_1 (x0 : List Rowd) (x1 : Int) (x5 : Int) (r1 : Int) (r2 : Int) : run tt (AbsCalls Try.prog) I84 3000 true (stkAt 2 I84.body) ⟨(S84_2 x0 x1 x5), [true, false, true], [laws_heldIntS_ro r1, laws_heldOriginS_ro r2], []⟩ = some (.done (laws_heldRowS_ro (-1)) [(decide ((x5 : Int) < (List.length x0 : Int))) = true, (0 : Int) ≤ x5 ∧ x5 < (List.length x0), AbsCalls Try.prog 131 (laws_heldIntS_as (Rowd.cells (List.getD x0 (Int.toNat x5) Ty.row.dflt)) x1) (laws_heldIntS_ro r1), (decide ((r1 : Int) < 0)) = false, (0 : Int) ≤ x5 ∧ x5 < (List.length x0), AbsCalls Try.prog 132 (laws_heldOriginS_as (Rowd.frm (List.getD x0 (Int.toNat x5) Ty.row.dflt)) r1) (laws_heldOriginS_ro r2), (decide ((r2 : Int) < 0)) = true]) := by kernel_rfl
theorem p84_2_2 (x0 : List Rowd) (x1 : Int) (x5 : Int) (r1 : Int) (r2 : Int) : run tt (AbsCalls Try.prog) I84 3000 true (stkAt 2 I84.body) ⟨(S84_2 x0 x1 x5), [true, false, false], [laws_heldIntS_ro r1, laws_heldOriginS_ro r2], []⟩ = some (.stop (stkAt 2 I84.body) (S84_2 x0 r2 (IntKind.i64.wrap (x5 + 1))) [(decide ((x5 : Int) < (List.length x0 : Int))) = true, (0 : Int) ≤ x5 ∧ x5 < (List.length x0), AbsCalls Try.prog 131 (laws_heldIntS_as (Rowd.cells (List.getD x0 (Int.toNat x5) Ty.row.dflt)) x1) (laws_heldIntS_ro r1), (decide ((r1 : Int) < 0)) = false, (0 : Int) ≤ x5 ∧ x5 < (List.length x0), AbsCalls Try.prog 132 (laws_heldOriginS_as (Rowd.frm (List.getD x0 (Int.toNat x5) Ty.row.dflt)) r1) (laws_heldOriginS_ro r2), (decide ((r2 : Int) < 0)) = false]) := by kernel_rfl
theorem p84_2_3 (x0 : List Rowd) (x1 : Int) (x5 : Int) : run tt (AbsCalls Try.prog) I84 3000 true (stkAt 2 I84.body) ⟨(S84_2 x0 x1 x5), [false], [], []⟩ = some (.done (laws_heldRowS_ro x1) [(decide ((x5 : Int) < (List.length x0 : Int))) = false]) := by kernel_rfl
theorem p84_e_4 (a0 : List Rowd) (a1 : Int) : run tt (AbsCalls Try.prog) I84 3000 false [.code I84.body] ⟨(entry 0 (laws_heldRowS_as a0 a1)), [], [], []⟩ = some (.stop (stkAt 2 I84.body) (S84_2 a0 a1 0) []) := by kernel_rfl
theorem c84_2 {N : Nat} : ∀ n x0 x1 x5 r, laws_heldRowS_b2 N n x0 x1 x5 = some r → Reach Try.prog Try.f84 I84 (stkAt 2 I84.body) (S84_2 x0 x1 x5) (laws_heldRowS_ro r) := by
  intro n
  induction n with
  | zero => intro x0 x1 x5 r h; have h' : (none : Option (Int)) = some r := h; cases h'
  | succ n ih =>
    intro x0 x1 x5 r h
    rw [laws_heldRowS_b2] at h
    rcases cond_inv h with ⟨h0, h⟩ | ⟨h0, h⟩
    · obtain ⟨h1, h⟩ := ite_inv h
      obtain ⟨r1, h2, h⟩ := bind_inv h
      rcases cond_inv h with ⟨h3, h⟩ | ⟨h3, h⟩
      · obtain rfl := Option.some.inj h
        exact Reach.done ttok mix fk84 (p84_2_0 x0 x1 x5 r1) (obs_cons h0 (obs_cons h1 (obs_cons (laws_heldIntS_ok h2) (obs_cons h3 obs_nil))))
      · obtain ⟨r2, h5, h⟩ := bind_inv h
        rcases cond_inv h with ⟨h6, h⟩ | ⟨h6, h⟩
        · obtain rfl := Option.some.inj h
          exact Reach.done ttok mix fk84 (p84_2_1 x0 x1 x5 r1 r2) (obs_cons h0 (obs_cons h1 (obs_cons (laws_heldIntS_ok h2) (obs_cons h3 (obs_cons h1 (obs_cons (laws_heldOriginS_ok h5) (obs_cons h6 obs_nil)))))))
        · exact Reach.stop ttok mix fk84 (p84_2_2 x0 x1 x5 r1 r2) (obs_cons h0 (obs_cons h1 (obs_cons (laws_heldIntS_ok h2) (obs_cons h3 (obs_cons h1 (obs_cons (laws_heldOriginS_ok h5) (obs_cons h6 obs_nil))))))) (ih _ _ _ _ h)
    · obtain rfl := Option.some.inj h
      exact Reach.done ttok mix fk84 (p84_2_3 x0 x1 x5) (obs_cons h0 obs_nil)
theorem c84_e {N : Nat} : ∀ a0 a1 r, laws_heldRowS N a0 a1 = some r → Reach Try.prog Try.f84 I84 [.code I84.body] (entry 0 (laws_heldRowS_as a0 a1)) (laws_heldRowS_ro r) := by
  intro a0 a1 r h
  unfold laws_heldRowS at h
  exact Reach.stop ttok mix fk84 (p84_e_4 a0 a1) obs_nil (c84_2   _ _ _ _ _ h)
theorem laws_heldRowS_ok {N : Nat} {a0 : List Rowd} {a1 : Int} {r : Int} (h : laws_heldRowS N  a0 a1 = some r) : AbsCalls Try.prog 84 (laws_heldRowS_as a0 a1) (laws_heldRowS_ro r) :=
 AbsCalls.of_reach fk84 rfl rfl (Nat.le_of_ble_eq_true rfl) (c84_e a0 a1 r h)
noncomputable def I82 : Info := { body := (Try.f82.body).getD .skip, nt := 77, results := [.tmp 4], keep := [0, 2, 8, 10, 18, 36, 54, 72, 92, 114, 132, 150], live := [(2, [0, 2, 10])], modes := [], ext := [], lnt := [], casts := [], fcast := [] }
theorem fk82 : FnOk Try.prog 82 Try.f82 I82 := ⟨Try.func82, by kernel_rfl, by kernel_rfl, by kernel_rfl, by kernel_rfl⟩
def S82_2 (x0 : List Val) (x1 : Int) (x5 : Int) : St := [(0, .v false [.sl .ro .val x0]), (2, .v false [.int .i64 x1]), (10, .v false [.int .i64 x5])]
theorem p82_2_0 (x0 : List Val) (x1 : Int) (x5 : Int) : run tt (AbsCalls Try.prog) I82 3000 true (stkAt 2 I82.body) ⟨(S82_2 x0 x1 x5), [true, true], [], []⟩ = some (.done (laws_heldValueS_ro (-1)) [(decide ((x5 : Int) < (List.length x0 : Int))) = true, (0 : Int) ≤ x5 ∧ x5 < (List.length x0), (((Val.kind (List.getD x0 (Int.toNat x5) Ty.val.dflt)) : Int) != x1) = true]) := by kernel_rfl
theorem p82_2_1 (x0 : List Val) (x1 : Int) (x5 : Int) : run tt (AbsCalls Try.prog) I82 3000 true (stkAt 2 I82.body) ⟨(S82_2 x0 x1 x5), [true, false, true], [], []⟩ = some (.done (laws_heldValueS_ro (-1)) [(decide ((x5 : Int) < (List.length x0 : Int))) = true, (0 : Int) ≤ x5 ∧ x5 < (List.length x0), (((Val.kind (List.getD x0 (Int.toNat x5) Ty.val.dflt)) : Int) != x1) = false, (0 : Int) ≤ x5 ∧ x5 < (List.length x0), (((Val.n (List.getD x0 (Int.toNat x5) Ty.val.dflt)) : Int) != (IntKind.i64.wrap (x1 + 1))) = true]) := by kernel_rfl
theorem p82_2_2 (x0 : List Val) (x1 : Int) (x5 : Int) : run tt (AbsCalls Try.prog) I82 3000 true (stkAt 2 I82.body) ⟨(S82_2 x0 x1 x5), [true, false, false, true], [], []⟩ = some (.done (laws_heldValueS_ro (-1)) [(decide ((x5 : Int) < (List.length x0 : Int))) = true, (0 : Int) ≤ x5 ∧ x5 < (List.length x0), (((Val.kind (List.getD x0 (Int.toNat x5) Ty.val.dflt)) : Int) != x1) = false, (0 : Int) ≤ x5 ∧ x5 < (List.length x0), (((Val.n (List.getD x0 (Int.toNat x5) Ty.val.dflt)) : Int) != (IntKind.i64.wrap (x1 + 1))) = false, (0 : Int) ≤ x5 ∧ x5 < (List.length x0), (((Val.step (List.getD x0 (Int.toNat x5) Ty.val.dflt)) : Int) != (IntKind.i64.wrap ((IntKind.i64.wrap (x1 + 1)) + 1))) = true]) := by kernel_rfl
theorem p82_2_3 (x0 : List Val) (x1 : Int) (x5 : Int) (r1 : Str) : run tt (AbsCalls Try.prog) I82 3000 true (stkAt 2 I82.body) ⟨(S82_2 x0 x1 x5), [true, false, false, false, true], [laws_markText_ro r1], []⟩ = some (.done (laws_heldValueS_ro (-1)) [(decide ((x5 : Int) < (List.length x0 : Int))) = true, (0 : Int) ≤ x5 ∧ x5 < (List.length x0), (((Val.kind (List.getD x0 (Int.toNat x5) Ty.val.dflt)) : Int) != x1) = false, (0 : Int) ≤ x5 ∧ x5 < (List.length x0), (((Val.n (List.getD x0 (Int.toNat x5) Ty.val.dflt)) : Int) != (IntKind.i64.wrap (x1 + 1))) = false, (0 : Int) ≤ x5 ∧ x5 < (List.length x0), (((Val.step (List.getD x0 (Int.toNat x5) Ty.val.dflt)) : Int) != (IntKind.i64.wrap ((IntKind.i64.wrap (x1 + 1)) + 1))) = false, (0 : Int) ≤ x5 ∧ x5 < (List.length x0), AbsCalls Try.prog 79 (laws_markText_as (IntKind.i64.wrap ((IntKind.i64.wrap ((IntKind.i64.wrap (x1 + 1)) + 1)) + 1))) (laws_markText_ro r1), (!(((Val.text (List.getD x0 (Int.toNat x5) Ty.val.dflt)) : Str) == r1)) = true]) := by kernel_rfl
theorem p82_2_4 (x0 : List Val) (x1 : Int) (x5 : Int) (r1 : Str) (r2 : Int) : run tt (AbsCalls Try.prog) I82 3000 true (stkAt 2 I82.body) ⟨(S82_2 x0 x1 x5), [true, false, false, false, false, true], [laws_markText_ro r1, laws_heldValueS_ro r2], []⟩ = some (.done (laws_heldValueS_ro (-1)) [(decide ((x5 : Int) < (List.length x0 : Int))) = true, (0 : Int) ≤ x5 ∧ x5 < (List.length x0), (((Val.kind (List.getD x0 (Int.toNat x5) Ty.val.dflt)) : Int) != x1) = false, (0 : Int) ≤ x5 ∧ x5 < (List.length x0), (((Val.n (List.getD x0 (Int.toNat x5) Ty.val.dflt)) : Int) != (IntKind.i64.wrap (x1 + 1))) = false, (0 : Int) ≤ x5 ∧ x5 < (List.length x0), (((Val.step (List.getD x0 (Int.toNat x5) Ty.val.dflt)) : Int) != (IntKind.i64.wrap ((IntKind.i64.wrap (x1 + 1)) + 1))) = false, (0 : Int) ≤ x5 ∧ x5 < (List.length x0), AbsCalls Try.prog 79 (laws_markText_as (IntKind.i64.wrap ((IntKind.i64.wrap ((IntKind.i64.wrap (x1 + 1)) + 1)) + 1))) (laws_markText_ro r1), (!(((Val.text (List.getD x0 (Int.toNat x5) Ty.val.dflt)) : Str) == r1)) = false, (0 : Int) ≤ x5 ∧ x5 < (List.length x0), AbsCalls Try.prog 82 (laws_heldValueS_as (Val.list (List.getD x0 (Int.toNat x5) Ty.val.dflt)) (IntKind.i64.wrap ((IntKind.i64.wrap ((IntKind.i64.wrap ((IntKind.i64.wrap (x1 + 1)) + 1)) + 1)) + 1))) (laws_heldValueS_ro r2), (decide ((r2 : Int) < 0)) = true]) := by kernel_rfl
theorem p82_2_5 (x0 : List Val) (x1 : Int) (x5 : Int) (r1 : Str) (r2 : Int) (r3 : Int) : run tt (AbsCalls Try.prog) I82 3000 true (stkAt 2 I82.body) ⟨(S82_2 x0 x1 x5), [true, false, false, false, false, false, true], [laws_markText_ro r1, laws_heldValueS_ro r2, laws_heldStringS_ro r3], []⟩ = some (.done (laws_heldValueS_ro (-1)) [(decide ((x5 : Int) < (List.length x0 : Int))) = true, (0 : Int) ≤ x5 ∧ x5 < (List.length x0), (((Val.kind (List.getD x0 (Int.toNat x5) Ty.val.dflt)) : Int) != x1) = false, (0 : Int) ≤ x5 ∧ x5 < (List.length x0), (((Val.n (List.getD x0 (Int.toNat x5) Ty.val.dflt)) : Int) != (IntKind.i64.wrap (x1 + 1))) = false, (0 : Int) ≤ x5 ∧ x5 < (List.length x0), (((Val.step (List.getD x0 (Int.toNat x5) Ty.val.dflt)) : Int) != (IntKind.i64.wrap ((IntKind.i64.wrap (x1 + 1)) + 1))) = false, (0 : Int) ≤ x5 ∧ x5 < (List.length x0), AbsCalls Try.prog 79 (laws_markText_as (IntKind.i64.wrap ((IntKind.i64.wrap ((IntKind.i64.wrap (x1 + 1)) + 1)) + 1))) (laws_markText_ro r1), (!(((Val.text (List.getD x0 (Int.toNat x5) Ty.val.dflt)) : Str) == r1)) = false, (0 : Int) ≤ x5 ∧ x5 < (List.length x0), AbsCalls Try.prog 82 (laws_heldValueS_as (Val.list (List.getD x0 (Int.toNat x5) Ty.val.dflt)) (IntKind.i64.wrap ((IntKind.i64.wrap ((IntKind.i64.wrap ((IntKind.i64.wrap (x1 + 1)) + 1)) + 1)) + 1))) (laws_heldValueS_ro r2), (decide ((r2 : Int) < 0)) = false, (0 : Int) ≤ x5 ∧ x5 < (List.length x0), AbsCalls Try.prog 83 (laws_heldStringS_as (Val.columns (List.getD x0 (Int.toNat x5) Ty.val.dflt)) r2) (laws_heldStringS_ro r3), (decide ((r3 : Int) < 0)) = true]) := by kernel_rfl
theorem p82_2_6 (x0 : List Val) (x1 : Int) (x5 : Int) (r1 : Str) (r2 : Int) (r3 : Int) (r4 : Int) : run tt (AbsCalls Try.prog) I82 3000 true (stkAt 2 I82.body) ⟨(S82_2 x0 x1 x5), [true, false, false, false, false, false, false, true], [laws_markText_ro r1, laws_heldValueS_ro r2, laws_heldStringS_ro r3, laws_heldRowS_ro r4], []⟩ = some (.done (laws_heldValueS_ro (-1)) [(decide ((x5 : Int) < (List.length x0 : Int))) = true, (0 : Int) ≤ x5 ∧ x5 < (List.length x0), (((Val.kind (List.getD x0 (Int.toNat x5) Ty.val.dflt)) : Int) != x1) = false, (0 : Int) ≤ x5 ∧ x5 < (List.length x0), (((Val.n (List.getD x0 (Int.toNat x5) Ty.val.dflt)) : Int) != (IntKind.i64.wrap (x1 + 1))) = false, (0 : Int) ≤ x5 ∧ x5 < (List.length x0), (((Val.step (List.getD x0 (Int.toNat x5) Ty.val.dflt)) : Int) != (IntKind.i64.wrap ((IntKind.i64.wrap (x1 + 1)) + 1))) = false, (0 : Int) ≤ x5 ∧ x5 < (List.length x0), AbsCalls Try.prog 79 (laws_markText_as (IntKind.i64.wrap ((IntKind.i64.wrap ((IntKind.i64.wrap (x1 + 1)) + 1)) + 1))) (laws_markText_ro r1), (!(((Val.text (List.getD x0 (Int.toNat x5) Ty.val.dflt)) : Str) == r1)) = false, (0 : Int) ≤ x5 ∧ x5 < (List.length x0), AbsCalls Try.prog 82 (laws_heldValueS_as (Val.list (List.getD x0 (Int.toNat x5) Ty.val.dflt)) (IntKind.i64.wrap ((IntKind.i64.wrap ((IntKind.i64.wrap ((IntKind.i64.wrap (x1 + 1)) + 1)) + 1)) + 1))) (laws_heldValueS_ro r2), (decide ((r2 : Int) < 0)) = false, (0 : Int) ≤ x5 ∧ x5 < (List.length x0), AbsCalls Try.prog 83 (laws_heldStringS_as (Val.columns (List.getD x0 (Int.toNat x5) Ty.val.dflt)) r2) (laws_heldStringS_ro r3), (decide ((r3 : Int) < 0)) = false, (0 : Int) ≤ x5 ∧ x5 < (List.length x0), AbsCalls Try.prog 84 (laws_heldRowS_as (Val.rows (List.getD x0 (Int.toNat x5) Ty.val.dflt)) r3) (laws_heldRowS_ro r4), (decide ((r4 : Int) < 0)) = true]) := by kernel_rfl
theorem p82_2_7 (x0 : List Val) (x1 : Int) (x5 : Int) (r1 : Str) (r2 : Int) (r3 : Int) (r4 : Int) : run tt (AbsCalls Try.prog) I82 3000 true (stkAt 2 I82.body) ⟨(S82_2 x0 x1 x5), [true, false, false, false, false, false, false, false], [laws_markText_ro r1, laws_heldValueS_ro r2, laws_heldStringS_ro r3, laws_heldRowS_ro r4], []⟩ = some (.stop (stkAt 2 I82.body) (S82_2 x0 r4 (IntKind.i64.wrap (x5 + 1))) [(decide ((x5 : Int) < (List.length x0 : Int))) = true, (0 : Int) ≤ x5 ∧ x5 < (List.length x0), (((Val.kind (List.getD x0 (Int.toNat x5) Ty.val.dflt)) : Int) != x1) = false, (0 : Int) ≤ x5 ∧ x5 < (List.length x0), (((Val.n (List.getD x0 (Int.toNat x5) Ty.val.dflt)) : Int) != (IntKind.i64.wrap (x1 + 1))) = false, (0 : Int) ≤ x5 ∧ x5 < (List.length x0), (((Val.step (List.getD x0 (Int.toNat x5) Ty.val.dflt)) : Int) != (IntKind.i64.wrap ((IntKind.i64.wrap (x1 + 1)) + 1))) = false, (0 : Int) ≤ x5 ∧ x5 < (List.length x0), AbsCalls Try.prog 79 (laws_markText_as (IntKind.i64.wrap ((IntKind.i64.wrap ((IntKind.i64.wrap (x1 + 1)) + 1)) + 1))) (laws_markText_ro r1), (!(((Val.text (List.getD x0 (Int.toNat x5) Ty.val.dflt)) : Str) == r1)) = false, (0 : Int) ≤ x5 ∧ x5 < (List.length x0), AbsCalls Try.prog 82 (laws_heldValueS_as (Val.list (List.getD x0 (Int.toNat x5) Ty.val.dflt)) (IntKind.i64.wrap ((IntKind.i64.wrap ((IntKind.i64.wrap ((IntKind.i64.wrap (x1 + 1)) + 1)) + 1)) + 1))) (laws_heldValueS_ro r2), (decide ((r2 : Int) < 0)) = false, (0 : Int) ≤ x5 ∧ x5 < (List.length x0), AbsCalls Try.prog 83 (laws_heldStringS_as (Val.columns (List.getD x0 (Int.toNat x5) Ty.val.dflt)) r2) (laws_heldStringS_ro r3), (decide ((r3 : Int) < 0)) = false, (0 : Int) ≤ x5 ∧ x5 < (List.length x0), AbsCalls Try.prog 84 (laws_heldRowS_as (Val.rows (List.getD x0 (Int.toNat x5) Ty.val.dflt)) r3) (laws_heldRowS_ro r4), (decide ((r4 : Int) < 0)) = false]) := by kernel_rfl
theorem p82_2_8 (x0 : List Val) (x1 : Int) (x5 : Int) : run tt (AbsCalls Try.prog) I82 3000 true (stkAt 2 I82.body) ⟨(S82_2 x0 x1 x5), [false], [], []⟩ = some (.done (laws_heldValueS_ro x1) [(decide ((x5 : Int) < (List.length x0 : Int))) = false]) := by kernel_rfl
theorem p82_e_9 (a0 : List Val) (a1 : Int) : run tt (AbsCalls Try.prog) I82 3000 false [.code I82.body] ⟨(entry 0 (laws_heldValueS_as a0 a1)), [], [], []⟩ = some (.stop (stkAt 2 I82.body) (S82_2 a0 a1 0) []) := by kernel_rfl
theorem c82_2 {N : Nat} {rc_laws_heldValueS : (List Val) → Int → Option (Int)} (hrc_laws_heldValueS : ∀ a0 a1 r, rc_laws_heldValueS a0 a1 = some r → AbsCalls Try.prog 82 (laws_heldValueS_as a0 a1) (laws_heldValueS_ro r)) : ∀ n x0 x1 x5 r, laws_heldValueS_b2 N rc_laws_heldValueS n x0 x1 x5 = some r → Reach Try.prog Try.f82 I82 (stkAt 2 I82.body) (S82_2 x0 x1 x5) (laws_heldValueS_ro r) := by
  intro n
  induction n with
  | zero => intro x0 x1 x5 r h; have h' : (none : Option (Int)) = some r := h; cases h'
  | succ n ih =>
    intro x0 x1 x5 r h
    rw [laws_heldValueS_b2] at h
    rcases cond_inv h with ⟨h0, h⟩ | ⟨h0, h⟩
    · obtain ⟨h1, h⟩ := ite_inv h
      rcases cond_inv h with ⟨h2, h⟩ | ⟨h2, h⟩
      · obtain rfl := Option.some.inj h
        exact Reach.done ttok mix fk82 (p82_2_0 x0 x1 x5) (obs_cons h0 (obs_cons h1 (obs_cons h2 obs_nil)))
      · rcases cond_inv h with ⟨h4, h⟩ | ⟨h4, h⟩
        · obtain rfl := Option.some.inj h
          exact Reach.done ttok mix fk82 (p82_2_1 x0 x1 x5) (obs_cons h0 (obs_cons h1 (obs_cons h2 (obs_cons h1 (obs_cons h4 obs_nil)))))
        · rcases cond_inv h with ⟨h6, h⟩ | ⟨h6, h⟩
          · obtain rfl := Option.some.inj h
            exact Reach.done ttok mix fk82 (p82_2_2 x0 x1 x5) (obs_cons h0 (obs_cons h1 (obs_cons h2 (obs_cons h1 (obs_cons h4 (obs_cons h1 (obs_cons h6 obs_nil)))))))
          · obtain ⟨r1, h8, h⟩ := bind_inv h
            rcases cond_inv h with ⟨h9, h⟩ | ⟨h9, h⟩
            · obtain rfl := Option.some.inj h
              exact Reach.done ttok mix fk82 (p82_2_3 x0 x1 x5 r1) (obs_cons h0 (obs_cons h1 (obs_cons h2 (obs_cons h1 (obs_cons h4 (obs_cons h1 (obs_cons h6 (obs_cons h1 (obs_cons (laws_markText_ok h8) (obs_cons h9 obs_nil))))))))))
            · obtain ⟨r2, h11, h⟩ := bind_inv h
              rcases cond_inv h with ⟨h12, h⟩ | ⟨h12, h⟩
              · obtain rfl := Option.some.inj h
                exact Reach.done ttok mix fk82 (p82_2_4 x0 x1 x5 r1 r2) (obs_cons h0 (obs_cons h1 (obs_cons h2 (obs_cons h1 (obs_cons h4 (obs_cons h1 (obs_cons h6 (obs_cons h1 (obs_cons (laws_markText_ok h8) (obs_cons h9 (obs_cons h1 (obs_cons (hrc_laws_heldValueS _ _ _ h11) (obs_cons h12 obs_nil)))))))))))))
              · obtain ⟨r3, h14, h⟩ := bind_inv h
                rcases cond_inv h with ⟨h15, h⟩ | ⟨h15, h⟩
                · obtain rfl := Option.some.inj h
                  exact Reach.done ttok mix fk82 (p82_2_5 x0 x1 x5 r1 r2 r3) (obs_cons h0 (obs_cons h1 (obs_cons h2 (obs_cons h1 (obs_cons h4 (obs_cons h1 (obs_cons h6 (obs_cons h1 (obs_cons (laws_markText_ok h8) (obs_cons h9 (obs_cons h1 (obs_cons (hrc_laws_heldValueS _ _ _ h11) (obs_cons h12 (obs_cons h1 (obs_cons (laws_heldStringS_ok h14) (obs_cons h15 obs_nil))))))))))))))))
                · obtain ⟨r4, h17, h⟩ := bind_inv h
                  rcases cond_inv h with ⟨h18, h⟩ | ⟨h18, h⟩
                  · obtain rfl := Option.some.inj h
                    exact Reach.done ttok mix fk82 (p82_2_6 x0 x1 x5 r1 r2 r3 r4) (obs_cons h0 (obs_cons h1 (obs_cons h2 (obs_cons h1 (obs_cons h4 (obs_cons h1 (obs_cons h6 (obs_cons h1 (obs_cons (laws_markText_ok h8) (obs_cons h9 (obs_cons h1 (obs_cons (hrc_laws_heldValueS _ _ _ h11) (obs_cons h12 (obs_cons h1 (obs_cons (laws_heldStringS_ok h14) (obs_cons h15 (obs_cons h1 (obs_cons (laws_heldRowS_ok h17) (obs_cons h18 obs_nil)))))))))))))))))))
                  · exact Reach.stop ttok mix fk82 (p82_2_7 x0 x1 x5 r1 r2 r3 r4) (obs_cons h0 (obs_cons h1 (obs_cons h2 (obs_cons h1 (obs_cons h4 (obs_cons h1 (obs_cons h6 (obs_cons h1 (obs_cons (laws_markText_ok h8) (obs_cons h9 (obs_cons h1 (obs_cons (hrc_laws_heldValueS _ _ _ h11) (obs_cons h12 (obs_cons h1 (obs_cons (laws_heldStringS_ok h14) (obs_cons h15 (obs_cons h1 (obs_cons (laws_heldRowS_ok h17) (obs_cons h18 obs_nil))))))))))))))))))) (ih _ _ _ _ h)
    · obtain rfl := Option.some.inj h
      exact Reach.done ttok mix fk82 (p82_2_8 x0 x1 x5) (obs_cons h0 obs_nil)
theorem c82_e {N : Nat} {rc_laws_heldValueS : (List Val) → Int → Option (Int)} (hrc_laws_heldValueS : ∀ a0 a1 r, rc_laws_heldValueS a0 a1 = some r → AbsCalls Try.prog 82 (laws_heldValueS_as a0 a1) (laws_heldValueS_ro r)) : ∀ a0 a1 r, laws_heldValueS_body N rc_laws_heldValueS a0 a1 = some r → Reach Try.prog Try.f82 I82 [.code I82.body] (entry 0 (laws_heldValueS_as a0 a1)) (laws_heldValueS_ro r) := by
  intro a0 a1 r h
  unfold laws_heldValueS_body at h
  exact Reach.stop ttok mix fk82 (p82_e_9 a0 a1) obs_nil (c82_2 hrc_laws_heldValueS  _ _ _ _ _ h)
theorem laws_heldValueS_body_ok {N : Nat} {rc_laws_heldValueS : (List Val) → Int → Option (Int)} (hrc_laws_heldValueS : ∀ a0 a1 r, rc_laws_heldValueS a0 a1 = some r → AbsCalls Try.prog 82 (laws_heldValueS_as a0 a1) (laws_heldValueS_ro r)) {a0 : List Val} {a1 : Int} {r : Int} (h : laws_heldValueS_body N rc_laws_heldValueS a0 a1 = some r) : AbsCalls Try.prog 82 (laws_heldValueS_as a0 a1) (laws_heldValueS_ro r) :=
 AbsCalls.of_reach fk82 rfl rfl (Nat.le_of_ble_eq_true rfl) (c82_e hrc_laws_heldValueS a0 a1 r h)
theorem laws_heldValueS_fix_ok {N : Nat} : ∀ d, (∀ a0 a1 r, laws_heldValueS_fix N d a0 a1 = some r → AbsCalls Try.prog 82 (laws_heldValueS_as a0 a1) (laws_heldValueS_ro r)) := by
  intro d
  induction d with
  | zero => intro _ _ r h; have h' : (none : Option (Int)) = some r := h; cases h'
  | succ d ih => intro _ _ r h; exact laws_heldValueS_body_ok (N := N) ih h
theorem laws_heldValueS_ok {N : Nat} {a0 : List Val} {a1 : Int} {r : Int} (h : laws_heldValueS N a0 a1 = some r) : AbsCalls Try.prog 82 (laws_heldValueS_as a0 a1) (laws_heldValueS_ro r) := laws_heldValueS_fix_ok N _ _ r h
noncomputable def I23 : Info := { body := (Try.f23.body).getD .skip, nt := 24, results := [.tmp 4], keep := [0, 2, 4, 8, 20, 32, 44, 5], live := [], modes := [], ext := [], lnt := [], casts := [], fcast := [] }
theorem fk23 : FnOk Try.prog 23 Try.f23 I23 := ⟨Try.func23, by kernel_rfl, by kernel_rfl, by kernel_rfl, by kernel_rfl⟩
theorem p23_e_0 (a0 : Val) (a1 : Int) (r1 : Int) : run tt (AbsCalls Try.prog) I23 3000 false [.code I23.body] ⟨(entry 0 (laws_heldValue_as a0 a1)), [true], [laws_heldValueS_ro r1], []⟩ = some (.done (laws_heldValue_ro (-1)) [AbsCalls Try.prog 82 (laws_heldValueS_as (Val.list a0) a1) (laws_heldValueS_ro r1), (decide ((r1 : Int) < 0)) = true]) := by kernel_rfl
theorem p23_e_1 (a0 : Val) (a1 : Int) (r1 : Int) (r2 : Int) : run tt (AbsCalls Try.prog) I23 3000 false [.code I23.body] ⟨(entry 0 (laws_heldValue_as a0 a1)), [false, true], [laws_heldValueS_ro r1, laws_heldStringS_ro r2], []⟩ = some (.done (laws_heldValue_ro (-1)) [AbsCalls Try.prog 82 (laws_heldValueS_as (Val.list a0) a1) (laws_heldValueS_ro r1), (decide ((r1 : Int) < 0)) = false, AbsCalls Try.prog 83 (laws_heldStringS_as (Val.columns a0) r1) (laws_heldStringS_ro r2), (decide ((r2 : Int) < 0)) = true]) := by kernel_rfl
theorem p23_e_2 (a0 : Val) (a1 : Int) (r1 : Int) (r2 : Int) (r3 : Int) : run tt (AbsCalls Try.prog) I23 3000 false [.code I23.body] ⟨(entry 0 (laws_heldValue_as a0 a1)), [false, false, true], [laws_heldValueS_ro r1, laws_heldStringS_ro r2, laws_heldRowS_ro r3], []⟩ = some (.done (laws_heldValue_ro (-1)) [AbsCalls Try.prog 82 (laws_heldValueS_as (Val.list a0) a1) (laws_heldValueS_ro r1), (decide ((r1 : Int) < 0)) = false, AbsCalls Try.prog 83 (laws_heldStringS_as (Val.columns a0) r1) (laws_heldStringS_ro r2), (decide ((r2 : Int) < 0)) = false, AbsCalls Try.prog 84 (laws_heldRowS_as (Val.rows a0) r2) (laws_heldRowS_ro r3), (decide ((r3 : Int) < 0)) = true]) := by kernel_rfl
theorem p23_e_3 (a0 : Val) (a1 : Int) (r1 : Int) (r2 : Int) (r3 : Int) : run tt (AbsCalls Try.prog) I23 3000 false [.code I23.body] ⟨(entry 0 (laws_heldValue_as a0 a1)), [false, false, false], [laws_heldValueS_ro r1, laws_heldStringS_ro r2, laws_heldRowS_ro r3], []⟩ = some (.done (laws_heldValue_ro r3) [AbsCalls Try.prog 82 (laws_heldValueS_as (Val.list a0) a1) (laws_heldValueS_ro r1), (decide ((r1 : Int) < 0)) = false, AbsCalls Try.prog 83 (laws_heldStringS_as (Val.columns a0) r1) (laws_heldStringS_ro r2), (decide ((r2 : Int) < 0)) = false, AbsCalls Try.prog 84 (laws_heldRowS_as (Val.rows a0) r2) (laws_heldRowS_ro r3), (decide ((r3 : Int) < 0)) = false]) := by kernel_rfl
theorem c23_e {N : Nat} : ∀ a0 a1 r, laws_heldValue N a0 a1 = some r → Reach Try.prog Try.f23 I23 [.code I23.body] (entry 0 (laws_heldValue_as a0 a1)) (laws_heldValue_ro r) := by
  intro a0 a1 r h
  unfold laws_heldValue at h
  obtain ⟨r1, h0, h⟩ := bind_inv h
  rcases cond_inv h with ⟨h1, h⟩ | ⟨h1, h⟩
  · obtain rfl := Option.some.inj h
    exact Reach.done ttok mix fk23 (p23_e_0 a0 a1 r1) (obs_cons (laws_heldValueS_ok h0) (obs_cons h1 obs_nil))
  · obtain ⟨r2, h2, h⟩ := bind_inv h
    rcases cond_inv h with ⟨h3, h⟩ | ⟨h3, h⟩
    · obtain rfl := Option.some.inj h
      exact Reach.done ttok mix fk23 (p23_e_1 a0 a1 r1 r2) (obs_cons (laws_heldValueS_ok h0) (obs_cons h1 (obs_cons (laws_heldStringS_ok h2) (obs_cons h3 obs_nil))))
    · obtain ⟨r3, h4, h⟩ := bind_inv h
      rcases cond_inv h with ⟨h5, h⟩ | ⟨h5, h⟩
      · obtain rfl := Option.some.inj h
        exact Reach.done ttok mix fk23 (p23_e_2 a0 a1 r1 r2 r3) (obs_cons (laws_heldValueS_ok h0) (obs_cons h1 (obs_cons (laws_heldStringS_ok h2) (obs_cons h3 (obs_cons (laws_heldRowS_ok h4) (obs_cons h5 obs_nil))))))
      · obtain rfl := Option.some.inj h
        exact Reach.done ttok mix fk23 (p23_e_3 a0 a1 r1 r2 r3) (obs_cons (laws_heldValueS_ok h0) (obs_cons h1 (obs_cons (laws_heldStringS_ok h2) (obs_cons h3 (obs_cons (laws_heldRowS_ok h4) (obs_cons h5 obs_nil))))))
theorem laws_heldValue_ok {N : Nat} {a0 : Val} {a1 : Int} {r : Int} (h : laws_heldValue N  a0 a1 = some r) : AbsCalls Try.prog 23 (laws_heldValue_as a0 a1) (laws_heldValue_ro r) :=
 AbsCalls.of_reach fk23 rfl rfl (Nat.le_of_ble_eq_true rfl) (c23_e a0 a1 r h)
end Go.Ab.T
end
section
open Go.Proofs
namespace Go.Ab.T
set_option linter.unusedVariables false
set_option maxRecDepth 100000
noncomputable def I97 : Info := { body := (Try.f97.body).getD .skip, nt := 15, results := [.tmp 6], keep := [0, 2, 4, 12], live := [], modes := [(1, [(3, .take, false)])], ext := [], lnt := [], casts := [], fcast := [] }
theorem fk97 : FnOk Try.prog 97 Try.f97 I97 := ⟨Try.func97, by kernel_rfl, by kernel_rfl, by kernel_rfl, by kernel_rfl⟩
theorem p97_e_0 (a0 : Int) (a1 : Int) (a2 : Int) : run tt (AbsCalls Try.prog) I97 3000 false [.code I97.body] ⟨(entry 0 (spec_l1In_as a0 a1 a2)), [true], [], []⟩ = some (.done (spec_l1In_ro (decide ((a0 : Int) ≤ a2))) [(decide ((a0 : Int) ≥ a1)) = true]) := by kernel_rfl
theorem p97_e_1 (a0 : Int) (a1 : Int) (a2 : Int) : run tt (AbsCalls Try.prog) I97 3000 false [.code I97.body] ⟨(entry 0 (spec_l1In_as a0 a1 a2)), [false], [], []⟩ = some (.done (spec_l1In_ro false) [(decide ((a0 : Int) ≥ a1)) = false]) := by kernel_rfl
theorem c97_e {N : Nat} : ∀ a0 a1 a2 r, spec_l1In N a0 a1 a2 = some r → Reach Try.prog Try.f97 I97 [.code I97.body] (entry 0 (spec_l1In_as a0 a1 a2)) (spec_l1In_ro r) := by
  intro a0 a1 a2 r h
  unfold spec_l1In at h
  rcases cond_inv h with ⟨h0, h⟩ | ⟨h0, h⟩
  · obtain rfl := Option.some.inj h
    exact Reach.done ttok mix fk97 (p97_e_0 a0 a1 a2) (obs_cons h0 obs_nil)
  · obtain rfl := Option.some.inj h
    exact Reach.done ttok mix fk97 (p97_e_1 a0 a1 a2) (obs_cons h0 obs_nil)
theorem spec_l1In_ok {N : Nat} {a0 : Int} {a1 : Int} {a2 : Int} {r : Bool} (h : spec_l1In N  a0 a1 a2 = some r) : AbsCalls Try.prog 97 (spec_l1In_as a0 a1 a2) (spec_l1In_ro r) :=
 AbsCalls.of_reach fk97 rfl rfl (Nat.le_of_ble_eq_true rfl) (c97_e a0 a1 a2 r h)
noncomputable def I95 : Info := { body := (Try.f95.body).getD .skip, nt := 5, results := [.tmp 2], keep := [0, 4], live := [], modes := [], ext := [], lnt := [], casts := [], fcast := [] }
theorem fk95 : FnOk Try.prog 95 Try.f95 I95 := ⟨Try.func95, by kernel_rfl, by kernel_rfl, by kernel_rfl, by kernel_rfl⟩
theorem p95_e_0 (a0 : Int) (r1 : Bool) : run tt (AbsCalls Try.prog) I95 3000 false [.code I95.body] ⟨(entry 0 (spec_l3Number_as a0)), [], [spec_l1In_ro r1], []⟩ = some (.done (spec_l3Number_ro r1) [AbsCalls Try.prog 97 (spec_l1In_as a0 (-1000000000) 1000000000) (spec_l1In_ro r1)]) := by kernel_rfl
theorem c95_e {N : Nat} : ∀ a0 r, spec_l3Number N a0 = some r → Reach Try.prog Try.f95 I95 [.code I95.body] (entry 0 (spec_l3Number_as a0)) (spec_l3Number_ro r) := by
  intro a0 r h
  unfold spec_l3Number at h
  obtain ⟨r1, h0, h⟩ := bind_inv h
  obtain rfl := Option.some.inj h
  exact Reach.done ttok mix fk95 (p95_e_0 a0 r1) (obs_cons (spec_l1In_ok h0) obs_nil)
theorem spec_l3Number_ok {N : Nat} {a0 : Int} {r : Bool} (h : spec_l3Number N  a0 = some r) : AbsCalls Try.prog 95 (spec_l3Number_as a0) (spec_l3Number_ro r) :=
 AbsCalls.of_reach fk95 rfl rfl (Nat.le_of_ble_eq_true rfl) (c95_e a0 r h)
noncomputable def I101 : Info := { body := (Try.f101.body).getD .skip, nt := 15, results := [.tmp 6], keep := [0, 2, 4, 12], live := [], modes := [(1, [(3, .take, false)])], ext := [], lnt := [], casts := [], fcast := [] }
theorem fk101 : FnOk Try.prog 101 Try.f101 I101 := ⟨Try.func101, by kernel_rfl, by kernel_rfl, by kernel_rfl, by kernel_rfl⟩
theorem p101_e_0 (a0 : Int) (a1 : Int) (a2 : Int) : run tt (AbsCalls Try.prog) I101 3000 false [.code I101.body] ⟨(entry 0 (impl_within_as a0 a1 a2)), [true], [], []⟩ = some (.done (impl_within_ro (decide ((a0 : Int) ≤ a2))) [(decide ((a1 : Int) ≤ a0)) = true]) := by kernel_rfl
theorem p101_e_1 (a0 : Int) (a1 : Int) (a2 : Int) : run tt (AbsCalls Try.prog) I101 3000 false [.code I101.body] ⟨(entry 0 (impl_within_as a0 a1 a2)), [false], [], []⟩ = some (.done (impl_within_ro false) [(decide ((a1 : Int) ≤ a0)) = false]) := by kernel_rfl
theorem c101_e {N : Nat} : ∀ a0 a1 a2 r, impl_within N a0 a1 a2 = some r → Reach Try.prog Try.f101 I101 [.code I101.body] (entry 0 (impl_within_as a0 a1 a2)) (impl_within_ro r) := by
  intro a0 a1 a2 r h
  unfold impl_within at h
  rcases cond_inv h with ⟨h0, h⟩ | ⟨h0, h⟩
  · obtain rfl := Option.some.inj h
    exact Reach.done ttok mix fk101 (p101_e_0 a0 a1 a2) (obs_cons h0 obs_nil)
  · obtain rfl := Option.some.inj h
    exact Reach.done ttok mix fk101 (p101_e_1 a0 a1 a2) (obs_cons h0 obs_nil)
theorem impl_within_ok {N : Nat} {a0 : Int} {a1 : Int} {a2 : Int} {r : Bool} (h : impl_within N  a0 a1 a2 = some r) : AbsCalls Try.prog 101 (impl_within_as a0 a1 a2) (impl_within_ro r) :=
 AbsCalls.of_reach fk101 rfl rfl (Nat.le_of_ble_eq_true rfl) (c101_e a0 a1 a2 r h)
noncomputable def I104 : Info := { body := (Try.f104.body).getD .skip, nt := 5, results := [.tmp 2], keep := [0, 4], live := [], modes := [], ext := [], lnt := [], casts := [], fcast := [] }
theorem fk104 : FnOk Try.prog 104 Try.f104 I104 := ⟨Try.func104, by kernel_rfl, by kernel_rfl, by kernel_rfl, by kernel_rfl⟩
theorem p104_e_0 (a0 : Int) (r1 : Bool) : run tt (AbsCalls Try.prog) I104 3000 false [.code I104.body] ⟨(entry 0 (impl_isNumber_as a0)), [], [impl_within_ro r1], []⟩ = some (.done (impl_isNumber_ro r1) [AbsCalls Try.prog 101 (impl_within_as a0 (-1000000000) 1000000000) (impl_within_ro r1)]) := by kernel_rfl
theorem c104_e {N : Nat} : ∀ a0 r, impl_isNumber N a0 = some r → Reach Try.prog Try.f104 I104 [.code I104.body] (entry 0 (impl_isNumber_as a0)) (impl_isNumber_ro r) := by
  intro a0 r h
  unfold impl_isNumber at h
  obtain ⟨r1, h0, h⟩ := bind_inv h
  obtain rfl := Option.some.inj h
  exact Reach.done ttok mix fk104 (p104_e_0 a0 r1) (obs_cons (impl_within_ok h0) obs_nil)
theorem impl_isNumber_ok {N : Nat} {a0 : Int} {r : Bool} (h : impl_isNumber N  a0 = some r) : AbsCalls Try.prog 104 (impl_isNumber_as a0) (impl_isNumber_ro r) :=
 AbsCalls.of_reach fk104 rfl rfl (Nat.le_of_ble_eq_true rfl) (c104_e a0 r h)
noncomputable def I139 : Info := { body := (Try.f139.body).getD .skip, nt := 29, results := [.tmp 2], keep := [0, 4, 6, 14, 50], live := [(2, [0, 6])], modes := [(4, [(4, .take, false), (10, .take, false)])], ext := [], lnt := [], casts := [], fcast := [] }
theorem fk139 : FnOk Try.prog 139 Try.f139 I139 := ⟨Try.func139, by kernel_rfl, by kernel_rfl, by kernel_rfl, by kernel_rfl⟩
def S139_2 (x0 : Str) (x3 : Int) : St := [(0, .v false [.str x0]), (6, .v false [.int .i64 x3])]
theorem p139_2_0 (x0 : Str) (x3 : Int) : run tt (AbsCalls Try.prog) I139 3000 true (stkAt 2 I139.body) ⟨(S139_2 x0 x3), [true, true, true, true], [], []⟩ = some (.done (spec_IsValidText_ro false) [(decide ((x3 : Int) < (List.length x0 : Int))) = true, (0 : Int) ≤ x3 ∧ x3 < (List.length x0), (decide ((((List.getD x0 (Int.toNat x3) 0).toNat : Int) : Int) < 32)) = true, true = true, true = true]) := by kernel_rfl
theorem p139_2_1 (x0 : Str) (x3 : Int) : run tt (AbsCalls Try.prog) I139 3000 true (stkAt 2 I139.body) ⟨(S139_2 x0 x3), [true, false, true, true], [], []⟩ = some (.done (spec_IsValidText_ro false) [(decide ((x3 : Int) < (List.length x0 : Int))) = true, (0 : Int) ≤ x3 ∧ x3 < (List.length x0), (decide ((((List.getD x0 (Int.toNat x3) 0).toNat : Int) : Int) < 32)) = false, (0 : Int) ≤ x3 ∧ x3 < (List.length x0), (decide ((((List.getD x0 (Int.toNat x3) 0).toNat : Int) : Int) > 126)) = true, true = true]) := by kernel_rfl
theorem p139_2_2 (x0 : Str) (x3 : Int) : run tt (AbsCalls Try.prog) I139 3000 true (stkAt 2 I139.body) ⟨(S139_2 x0 x3), [true, false, false, true], [], []⟩ = some (.done (spec_IsValidText_ro false) [(decide ((x3 : Int) < (List.length x0 : Int))) = true, (0 : Int) ≤ x3 ∧ x3 < (List.length x0), (decide ((((List.getD x0 (Int.toNat x3) 0).toNat : Int) : Int) < 32)) = false, (0 : Int) ≤ x3 ∧ x3 < (List.length x0), (decide ((((List.getD x0 (Int.toNat x3) 0).toNat : Int) : Int) > 126)) = false, (0 : Int) ≤ x3 ∧ x3 < (List.length x0), ((((List.getD x0 (Int.toNat x3) 0).toNat : Int) : Int) == 34) = true]) := by kernel_rfl
theorem p139_2_3 (x0 : Str) (x3 : Int) : run tt (AbsCalls Try.prog) I139 3000 true (stkAt 2 I139.body) ⟨(S139_2 x0 x3), [true, false, false, false], [], []⟩ = some (.stop (stkAt 2 I139.body) (S139_2 x0 (IntKind.i64.wrap (x3 + 1))) [(decide ((x3 : Int) < (List.length x0 : Int))) = true, (0 : Int) ≤ x3 ∧ x3 < (List.length x0), (decide ((((List.getD x0 (Int.toNat x3) 0).toNat : Int) : Int) < 32)) = false, (0 : Int) ≤ x3 ∧ x3 < (List.length x0), (decide ((((List.getD x0 (Int.toNat x3) 0).toNat : Int) : Int) > 126)) = false, (0 : Int) ≤ x3 ∧ x3 < (List.length x0), ((((List.getD x0 (Int.toNat x3) 0).toNat : Int) : Int) == 34) = false]) := by kernel_rfl
theorem p139_2_4 (x0 : Str) (x3 : Int) : run tt (AbsCalls Try.prog) I139 3000 true (stkAt 2 I139.body) ⟨(S139_2 x0 x3), [false], [], []⟩ = some (.done (spec_IsValidText_ro (decide (((List.length x0 : Int) : Int) ≤ 20))) [(decide ((x3 : Int) < (List.length x0 : Int))) = false]) := by kernel_rfl
theorem p139_e_5 (a0 : Str) : run tt (AbsCalls Try.prog) I139 3000 false [.code I139.body] ⟨(entry 0 (spec_IsValidText_as a0)), [], [], []⟩ = some (.stop (stkAt 2 I139.body) (S139_2 a0 0) []) := by kernel_rfl
theorem c139_2 {N : Nat} : ∀ n x0 x3 r, spec_IsValidText_b2 N n x0 x3 = some r → Reach Try.prog Try.f139 I139 (stkAt 2 I139.body) (S139_2 x0 x3) (spec_IsValidText_ro r) := by
  intro n
  induction n with
  | zero => intro x0 x3 r h; have h' : (none : Option (Bool)) = some r := h; cases h'
  | succ n ih =>
    intro x0 x3 r h
    rw [spec_IsValidText_b2] at h
    rcases cond_inv h with ⟨h0, h⟩ | ⟨h0, h⟩
    · obtain ⟨h1, h⟩ := ite_inv h
      rcases cond_inv h with ⟨h2, h⟩ | ⟨h2, h⟩
      · obtain rfl := Option.some.inj h
        exact Reach.done ttok mix fk139 (p139_2_0 x0 x3) (obs_cons h0 (obs_cons h1 (obs_cons h2 (obs_cons rfl (obs_cons rfl obs_nil)))))
      · rcases cond_inv h with ⟨h4, h⟩ | ⟨h4, h⟩
        · obtain rfl := Option.some.inj h
          exact Reach.done ttok mix fk139 (p139_2_1 x0 x3) (obs_cons h0 (obs_cons h1 (obs_cons h2 (obs_cons h1 (obs_cons h4 (obs_cons rfl obs_nil))))))
        · rcases cond_inv h with ⟨h6, h⟩ | ⟨h6, h⟩
          · obtain rfl := Option.some.inj h
            exact Reach.done ttok mix fk139 (p139_2_2 x0 x3) (obs_cons h0 (obs_cons h1 (obs_cons h2 (obs_cons h1 (obs_cons h4 (obs_cons h1 (obs_cons h6 obs_nil)))))))
          · exact Reach.stop ttok mix fk139 (p139_2_3 x0 x3) (obs_cons h0 (obs_cons h1 (obs_cons h2 (obs_cons h1 (obs_cons h4 (obs_cons h1 (obs_cons h6 obs_nil))))))) (ih _ _ _ h)
    · obtain rfl := Option.some.inj h
      exact Reach.done ttok mix fk139 (p139_2_4 x0 x3) (obs_cons h0 obs_nil)
theorem c139_e {N : Nat} : ∀ a0 r, spec_IsValidText N a0 = some r → Reach Try.prog Try.f139 I139 [.code I139.body] (entry 0 (spec_IsValidText_as a0)) (spec_IsValidText_ro r) := by
  intro a0 r h
  unfold spec_IsValidText at h
  exact Reach.stop ttok mix fk139 (p139_e_5 a0) obs_nil (c139_2   _ _ _ _ h)
theorem spec_IsValidText_ok {N : Nat} {a0 : Str} {r : Bool} (h : spec_IsValidText N  a0 = some r) : AbsCalls Try.prog 139 (spec_IsValidText_as a0) (spec_IsValidText_ro r) :=
 AbsCalls.of_reach fk139 rfl rfl (Nat.le_of_ble_eq_true rfl) (c139_e a0 r h)
noncomputable def I123 : Info := { body := (Try.f123.body).getD .skip, nt := 16, results := [.tmp 2], keep := [0, 2, 4, 3], live := [], modes := [(1, [(3, .take, false), (8, .take, false)])], ext := [], lnt := [], casts := [], fcast := [] }
theorem fk123 : FnOk Try.prog 123 Try.f123 I123 := ⟨Try.func123, by kernel_rfl, by kernel_rfl, by kernel_rfl, by kernel_rfl⟩
theorem p123_e_0 (a0 : Val) : run tt (AbsCalls Try.prog) I123 3000 false [.code I123.body] ⟨(entry 0 (spec_l3Element_as a0)), [true, true], [], []⟩ = some (.done (spec_l3Element_ro true) [(((Val.kind a0) : Int) == 1) = true, true = true]) := by kernel_rfl
theorem p123_e_1 (a0 : Val) : run tt (AbsCalls Try.prog) I123 3000 false [.code I123.body] ⟨(entry 0 (spec_l3Element_as a0)), [false, true], [], []⟩ = some (.done (spec_l3Element_ro true) [(((Val.kind a0) : Int) == 1) = false, (((Val.kind a0) : Int) == 2) = true]) := by kernel_rfl
theorem p123_e_2 (a0 : Val) : run tt (AbsCalls Try.prog) I123 3000 false [.code I123.body] ⟨(entry 0 (spec_l3Element_as a0)), [false, false], [], []⟩ = some (.done (spec_l3Element_ro (((Val.kind a0) : Int) == 3)) [(((Val.kind a0) : Int) == 1) = false, (((Val.kind a0) : Int) == 2) = false]) := by kernel_rfl
theorem c123_e {N : Nat} : ∀ a0 r, spec_l3Element N a0 = some r → Reach Try.prog Try.f123 I123 [.code I123.body] (entry 0 (spec_l3Element_as a0)) (spec_l3Element_ro r) := by
  intro a0 r h
  unfold spec_l3Element at h
  rcases cond_inv h with ⟨h0, h⟩ | ⟨h0, h⟩
  · obtain rfl := Option.some.inj h
    exact Reach.done ttok mix fk123 (p123_e_0 a0) (obs_cons h0 (obs_cons rfl obs_nil))
  · rcases cond_inv h with ⟨h1, h⟩ | ⟨h1, h⟩
    · obtain rfl := Option.some.inj h
      exact Reach.done ttok mix fk123 (p123_e_1 a0) (obs_cons h0 (obs_cons h1 obs_nil))
    · obtain rfl := Option.some.inj h
      exact Reach.done ttok mix fk123 (p123_e_2 a0) (obs_cons h0 (obs_cons h1 obs_nil))
theorem spec_l3Element_ok {N : Nat} {a0 : Val} {r : Bool} (h : spec_l3Element N  a0 = some r) : AbsCalls Try.prog 123 (spec_l3Element_as a0) (spec_l3Element_ro r) :=
 AbsCalls.of_reach fk123 rfl rfl (Nat.le_of_ble_eq_true rfl) (c123_e a0 r h)
noncomputable def I147 : Info := { body := (Try.f147.body).getD .skip, nt := 10, results := [.tmp 4], keep := [0, 2, 8, 14], live := [], modes := [], ext := [], lnt := [], casts := [], fcast := [] }
theorem fk147 : FnOk Try.prog 147 Try.f147 I147 := ⟨Try.func147, by kernel_rfl, by kernel_rfl, by kernel_rfl, by kernel_rfl⟩
theorem p147_e_0 (a0 : Int) (a1 : Int) : run tt (AbsCalls Try.prog) I147 3000 false [.code I147.body] ⟨(entry 0 (spec_l1Max_as a0 a1)), [true], [], []⟩ = some (.done (spec_l1Max_ro a0) [(decide ((a0 : Int) > a1)) = true]) := by kernel_rfl
theorem p147_e_1 (a0 : Int) (a1 : Int) : run tt (AbsCalls Try.prog) I147 3000 false [.code I147.body] ⟨(entry 0 (spec_l1Max_as a0 a1)), [false], [], []⟩ = some (.done (spec_l1Max_ro a1) [(decide ((a0 : Int) > a1)) = false]) := by kernel_rfl
theorem c147_e {N : Nat} : ∀ a0 a1 r, spec_l1Max N a0 a1 = some r → Reach Try.prog Try.f147 I147 [.code I147.body] (entry 0 (spec_l1Max_as a0 a1)) (spec_l1Max_ro r) := by
  intro a0 a1 r h
  unfold spec_l1Max at h
  rcases cond_inv h with ⟨h0, h⟩ | ⟨h0, h⟩
  · obtain rfl := Option.some.inj h
    exact Reach.done ttok mix fk147 (p147_e_0 a0 a1) (obs_cons h0 obs_nil)
  · obtain rfl := Option.some.inj h
    exact Reach.done ttok mix fk147 (p147_e_1 a0 a1) (obs_cons h0 obs_nil)
theorem spec_l1Max_ok {N : Nat} {a0 : Int} {a1 : Int} {r : Int} (h : spec_l1Max N  a0 a1 = some r) : AbsCalls Try.prog 147 (spec_l1Max_as a0 a1) (spec_l1Max_ro r) :=
 AbsCalls.of_reach fk147 rfl rfl (Nat.le_of_ble_eq_true rfl) (c147_e a0 a1 r h)
noncomputable def I125 : Info := { body := (Try.f125.body).getD .skip, nt := 22, results := [.tmp 2], keep := [0, 2, 4, 6, 8, 18, 3], live := [(3, [2, 6, 8, 3])], modes := [], ext := [], lnt := [], casts := [], fcast := [] }
theorem fk125 : FnOk Try.prog 125 Try.f125 I125 := ⟨Try.func125, by kernel_rfl, by kernel_rfl, by kernel_rfl, by kernel_rfl⟩
def S125_3 (x3 : Int) (x4 : Int) (b1 : Val) : St := [(2, .v false [.ptr 1 0]), (6, .v false [.int .i64 x3]), (8, .v false [.int .i64 x4]), (3, .v true [.int .i64 (Val.kind b1), .int .i64 (Val.n b1), .int .i64 (Val.step b1), .str (Val.text b1), .sl .ro .val (Val.list b1), .sl .ro .str (Val.columns b1), .sl .ro .row (Val.rows b1)])]
theorem p125_3_0 (x3 : Int) (x4 : Int) (b1 : Val) (r1 : Int) (r2 : Int) : run tt (AbsCalls Try.prog) I125 3000 true (stkAt 3 I125.body) ⟨(S125_3 x3 x4 b1), [true], [spec_DepthOf_ro r1, spec_l1Max_ro r2], []⟩ = some (.stop (stkAt 3 I125.body) (S125_3 r2 (IntKind.i64.wrap (x4 + 1)) b1) [(decide ((x4 : Int) < (List.length (Val.list b1) : Int))) = true, (0 : Int) ≤ x4 ∧ x4 < (List.length (Val.list b1)), AbsCalls Try.prog 125 (spec_DepthOf_as (List.getD (Val.list b1) (Int.toNat x4) Ty.val.dflt)) (spec_DepthOf_ro r1), AbsCalls Try.prog 147 (spec_l1Max_as x3 r1) (spec_l1Max_ro r2)]) := by kernel_rfl
theorem p125_3_1 (x3 : Int) (x4 : Int) (b1 : Val) : run tt (AbsCalls Try.prog) I125 3000 true (stkAt 3 I125.body) ⟨(S125_3 x3 x4 b1), [false], [], []⟩ = some (.done (spec_DepthOf_ro (IntKind.i64.wrap (x3 + 1))) [(decide ((x4 : Int) < (List.length (Val.list b1) : Int))) = false]) := by kernel_rfl
theorem p125_e_2 (a0 : Val) : run tt (AbsCalls Try.prog) I125 3000 false [.code I125.body] ⟨(entry 0 (spec_DepthOf_as a0)), [], [], []⟩ = some (.stop (stkAt 3 I125.body) (S125_3 0 0 a0) []) := by kernel_rfl
theorem c125_3 {N : Nat} {rc_spec_DepthOf : Val → Option (Int)} (hrc_spec_DepthOf : ∀ a0 r, rc_spec_DepthOf a0 = some r → AbsCalls Try.prog 125 (spec_DepthOf_as a0) (spec_DepthOf_ro r)) : ∀ n x3 x4 b1 r, spec_DepthOf_b3 N rc_spec_DepthOf n x3 x4 b1 = some r → Reach Try.prog Try.f125 I125 (stkAt 3 I125.body) (S125_3 x3 x4 b1) (spec_DepthOf_ro r) := by
  intro n
  induction n with
  | zero => intro x3 x4 b1 r h; have h' : (none : Option (Int)) = some r := h; cases h'
  | succ n ih =>
    intro x3 x4 b1 r h
    rw [spec_DepthOf_b3] at h
    rcases cond_inv h with ⟨h0, h⟩ | ⟨h0, h⟩
    · obtain ⟨h1, h⟩ := ite_inv h
      obtain ⟨r1, h2, h⟩ := bind_inv h
      obtain ⟨r2, h3, h⟩ := bind_inv h
      exact Reach.stop ttok mix fk125 (p125_3_0 x3 x4 b1 r1 r2) (obs_cons h0 (obs_cons h1 (obs_cons (hrc_spec_DepthOf _ _ h2) (obs_cons (spec_l1Max_ok h3) obs_nil)))) (ih _ _ _ _ h)
    · obtain rfl := Option.some.inj h
      exact Reach.done ttok mix fk125 (p125_3_1 x3 x4 b1) (obs_cons h0 obs_nil)
theorem c125_e {N : Nat} {rc_spec_DepthOf : Val → Option (Int)} (hrc_spec_DepthOf : ∀ a0 r, rc_spec_DepthOf a0 = some r → AbsCalls Try.prog 125 (spec_DepthOf_as a0) (spec_DepthOf_ro r)) : ∀ a0 r, spec_DepthOf_body N rc_spec_DepthOf a0 = some r → Reach Try.prog Try.f125 I125 [.code I125.body] (entry 0 (spec_DepthOf_as a0)) (spec_DepthOf_ro r) := by
  intro a0 r h
  unfold spec_DepthOf_body at h
  exact Reach.stop ttok mix fk125 (p125_e_2 a0) obs_nil (c125_3 hrc_spec_DepthOf  _ _ _ _ _ h)
theorem spec_DepthOf_body_ok {N : Nat} {rc_spec_DepthOf : Val → Option (Int)} (hrc_spec_DepthOf : ∀ a0 r, rc_spec_DepthOf a0 = some r → AbsCalls Try.prog 125 (spec_DepthOf_as a0) (spec_DepthOf_ro r)) {a0 : Val} {r : Int} (h : spec_DepthOf_body N rc_spec_DepthOf a0 = some r) : AbsCalls Try.prog 125 (spec_DepthOf_as a0) (spec_DepthOf_ro r) :=
 AbsCalls.of_reach fk125 rfl rfl (Nat.le_of_ble_eq_true rfl) (c125_e hrc_spec_DepthOf a0 r h)
theorem spec_DepthOf_fix_ok {N : Nat} : ∀ d, (∀ a0 r, spec_DepthOf_fix N d a0 = some r → AbsCalls Try.prog 125 (spec_DepthOf_as a0) (spec_DepthOf_ro r)) := by
  intro d
  induction d with
  | zero => intro _ r h; have h' : (none : Option (Int)) = some r := h; cases h'
  | succ d ih => intro _ r h; exact spec_DepthOf_body_ok (N := N) ih h
theorem spec_DepthOf_ok {N : Nat} {a0 : Val} {r : Int} (h : spec_DepthOf N a0 = some r) : AbsCalls Try.prog 125 (spec_DepthOf_as a0) (spec_DepthOf_ro r) := spec_DepthOf_fix_ok N _ r h
noncomputable def I160 : Info := { body := (Try.f160.body).getD .skip, nt := 45, results := [.tmp 2], keep := [0, 4, 6, 8, 10, 18, 82], live := [(2, [0, 6])], modes := [(4, [(4, .take, false)]), (5, [(4, .take, false)]), (6, [(0, .take, false), (2, .take, false), (5, .take, false), (6, .take, false)])], ext := [], lnt := [], casts := [], fcast := [] }
theorem fk160 : FnOk Try.prog 160 Try.f160 I160 := ⟨Try.func160, by kernel_rfl, by kernel_rfl, by kernel_rfl, by kernel_rfl⟩
def S160_2 (x0 : Str) (x3 : Int) : St := [(0, .v false [.str x0]), (6, .v false [.int .i64 x3])]
theorem p160_2_0 (x0 : Str) (x3 : Int) : run tt (AbsCalls Try.prog) I160 3000 true (stkAt 2 I160.body) ⟨(S160_2 x0 x3), [true, true, true, true, true, true], [], []⟩ = some (.done (spec_l2Shape_ro false) [(decide ((x3 : Int) < (List.length x0 : Int))) = true, (0 : Int) ≤ x3 ∧ x3 < (List.length x0), (decide ((((List.getD x0 (Int.toNat x3) 0).toNat : Int) : Int) ≥ 97)) = true, (0 : Int) ≤ x3 ∧ x3 < (List.length x0), (0 : Int) ≤ x3 ∧ x3 < (List.length x0), (decide ((((List.getD x0 (Int.toNat x3) 0).toNat : Int) : Int) ≥ 48)) = true, (0 : Int) ≤ x3 ∧ x3 < (List.length x0), (!(decide ((((List.getD x0 (Int.toNat x3) 0).toNat : Int) : Int) ≤ 122))) = true, ((x3 : Int) == 0) = true, true = true]) := by kernel_rfl
theorem p160_2_1 (x0 : Str) (x3 : Int) : run tt (AbsCalls Try.prog) I160 3000 true (stkAt 2 I160.body) ⟨(S160_2 x0 x3), [true, true, true, true, false, true], [], []⟩ = some (.done (spec_l2Shape_ro false) [(decide ((x3 : Int) < (List.length x0 : Int))) = true, (0 : Int) ≤ x3 ∧ x3 < (List.length x0), (decide ((((List.getD x0 (Int.toNat x3) 0).toNat : Int) : Int) ≥ 97)) = true, (0 : Int) ≤ x3 ∧ x3 < (List.length x0), (0 : Int) ≤ x3 ∧ x3 < (List.length x0), (decide ((((List.getD x0 (Int.toNat x3) 0).toNat : Int) : Int) ≥ 48)) = true, (0 : Int) ≤ x3 ∧ x3 < (List.length x0), (!(decide ((((List.getD x0 (Int.toNat x3) 0).toNat : Int) : Int) ≤ 122))) = true, ((x3 : Int) == 0) = false, (!(decide ((((List.getD x0 (Int.toNat x3) 0).toNat : Int) : Int) ≤ 57))) = true]) := by kernel_rfl
theorem p160_2_2 (x0 : Str) (x3 : Int) : run tt (AbsCalls Try.prog) I160 3000 true (stkAt 2 I160.body) ⟨(S160_2 x0 x3), [true, true, true, true, false, false], [], []⟩ = some (.stop (stkAt 2 I160.body) (S160_2 x0 (IntKind.i64.wrap (x3 + 1))) [(decide ((x3 : Int) < (List.length x0 : Int))) = true, (0 : Int) ≤ x3 ∧ x3 < (List.length x0), (decide ((((List.getD x0 (Int.toNat x3) 0).toNat : Int) : Int) ≥ 97)) = true, (0 : Int) ≤ x3 ∧ x3 < (List.length x0), (0 : Int) ≤ x3 ∧ x3 < (List.length x0), (decide ((((List.getD x0 (Int.toNat x3) 0).toNat : Int) : Int) ≥ 48)) = true, (0 : Int) ≤ x3 ∧ x3 < (List.length x0), (!(decide ((((List.getD x0 (Int.toNat x3) 0).toNat : Int) : Int) ≤ 122))) = true, ((x3 : Int) == 0) = false, (!(decide ((((List.getD x0 (Int.toNat x3) 0).toNat : Int) : Int) ≤ 57))) = false]) := by kernel_rfl
theorem p160_2_3 (x0 : Str) (x3 : Int) : run tt (AbsCalls Try.prog) I160 3000 true (stkAt 2 I160.body) ⟨(S160_2 x0 x3), [true, true, true, false, false], [], []⟩ = some (.stop (stkAt 2 I160.body) (S160_2 x0 (IntKind.i64.wrap (x3 + 1))) [(decide ((x3 : Int) < (List.length x0 : Int))) = true, (0 : Int) ≤ x3 ∧ x3 < (List.length x0), (decide ((((List.getD x0 (Int.toNat x3) 0).toNat : Int) : Int) ≥ 97)) = true, (0 : Int) ≤ x3 ∧ x3 < (List.length x0), (0 : Int) ≤ x3 ∧ x3 < (List.length x0), (decide ((((List.getD x0 (Int.toNat x3) 0).toNat : Int) : Int) ≥ 48)) = true, (0 : Int) ≤ x3 ∧ x3 < (List.length x0), (!(decide ((((List.getD x0 (Int.toNat x3) 0).toNat : Int) : Int) ≤ 122))) = false, false = false]) := by kernel_rfl
theorem p160_2_4 (x0 : Str) (x3 : Int) : run tt (AbsCalls Try.prog) I160 3000 true (stkAt 2 I160.body) ⟨(S160_2 x0 x3), [true, true, false, true, true, true], [], []⟩ = some (.done (spec_l2Shape_ro false) [(decide ((x3 : Int) < (List.length x0 : Int))) = true, (0 : Int) ≤ x3 ∧ x3 < (List.length x0), (decide ((((List.getD x0 (Int.toNat x3) 0).toNat : Int) : Int) ≥ 97)) = true, (0 : Int) ≤ x3 ∧ x3 < (List.length x0), (0 : Int) ≤ x3 ∧ x3 < (List.length x0), (decide ((((List.getD x0 (Int.toNat x3) 0).toNat : Int) : Int) ≥ 48)) = false, (!(decide ((((List.getD x0 (Int.toNat x3) 0).toNat : Int) : Int) ≤ 122))) = true, ((x3 : Int) == 0) = true, true = true]) := by kernel_rfl
theorem p160_2_5 (x0 : Str) (x3 : Int) : run tt (AbsCalls Try.prog) I160 3000 true (stkAt 2 I160.body) ⟨(S160_2 x0 x3), [true, true, false, true, false, true], [], []⟩ = some (.done (spec_l2Shape_ro false) [(decide ((x3 : Int) < (List.length x0 : Int))) = true, (0 : Int) ≤ x3 ∧ x3 < (List.length x0), (decide ((((List.getD x0 (Int.toNat x3) 0).toNat : Int) : Int) ≥ 97)) = true, (0 : Int) ≤ x3 ∧ x3 < (List.length x0), (0 : Int) ≤ x3 ∧ x3 < (List.length x0), (decide ((((List.getD x0 (Int.toNat x3) 0).toNat : Int) : Int) ≥ 48)) = false, (!(decide ((((List.getD x0 (Int.toNat x3) 0).toNat : Int) : Int) ≤ 122))) = true, ((x3 : Int) == 0) = false, (!false) = true]) := by kernel_rfl
theorem p160_2_6 (x0 : Str) (x3 : Int) : run tt (AbsCalls Try.prog) I160 3000 true (stkAt 2 I160.body) ⟨(S160_2 x0 x3), [true, true, false, false, false], [], []⟩ = some (.stop (stkAt 2 I160.body) (S160_2 x0 (IntKind.i64.wrap (x3 + 1))) [(decide ((x3 : Int) < (List.length x0 : Int))) = true, (0 : Int) ≤ x3 ∧ x3 < (List.length x0), (decide ((((List.getD x0 (Int.toNat x3) 0).toNat : Int) : Int) ≥ 97)) = true, (0 : Int) ≤ x3 ∧ x3 < (List.length x0), (0 : Int) ≤ x3 ∧ x3 < (List.length x0), (decide ((((List.getD x0 (Int.toNat x3) 0).toNat : Int) : Int) ≥ 48)) = false, (!(decide ((((List.getD x0 (Int.toNat x3) 0).toNat : Int) : Int) ≤ 122))) = false, false = false]) := by kernel_rfl
theorem p160_2_7 (x0 : Str) (x3 : Int) : run tt (AbsCalls Try.prog) I160 3000 true (stkAt 2 I160.body) ⟨(S160_2 x0 x3), [true, false, true, true, true, true], [], []⟩ = some (.done (spec_l2Shape_ro false) [(decide ((x3 : Int) < (List.length x0 : Int))) = true, (0 : Int) ≤ x3 ∧ x3 < (List.length x0), (decide ((((List.getD x0 (Int.toNat x3) 0).toNat : Int) : Int) ≥ 97)) = false, (0 : Int) ≤ x3 ∧ x3 < (List.length x0), (decide ((((List.getD x0 (Int.toNat x3) 0).toNat : Int) : Int) ≥ 48)) = true, (0 : Int) ≤ x3 ∧ x3 < (List.length x0), (!false) = true, ((x3 : Int) == 0) = true, true = true]) := by kernel_rfl
theorem p160_2_8 (x0 : Str) (x3 : Int) : run tt (AbsCalls Try.prog) I160 3000 true (stkAt 2 I160.body) ⟨(S160_2 x0 x3), [true, false, true, true, false, true], [], []⟩ = some (.done (spec_l2Shape_ro false) [(decide ((x3 : Int) < (List.length x0 : Int))) = true, (0 : Int) ≤ x3 ∧ x3 < (List.length x0), (decide ((((List.getD x0 (Int.toNat x3) 0).toNat : Int) : Int) ≥ 97)) = false, (0 : Int) ≤ x3 ∧ x3 < (List.length x0), (decide ((((List.getD x0 (Int.toNat x3) 0).toNat : Int) : Int) ≥ 48)) = true, (0 : Int) ≤ x3 ∧ x3 < (List.length x0), (!false) = true, ((x3 : Int) == 0) = false, (!(decide ((((List.getD x0 (Int.toNat x3) 0).toNat : Int) : Int) ≤ 57))) = true]) := by kernel_rfl
theorem p160_2_9 (x0 : Str) (x3 : Int) : run tt (AbsCalls Try.prog) I160 3000 true (stkAt 2 I160.body) ⟨(S160_2 x0 x3), [true, false, true, true, false, false], [], []⟩ = some (.stop (stkAt 2 I160.body) (S160_2 x0 (IntKind.i64.wrap (x3 + 1))) [(decide ((x3 : Int) < (List.length x0 : Int))) = true, (0 : Int) ≤ x3 ∧ x3 < (List.length x0), (decide ((((List.getD x0 (Int.toNat x3) 0).toNat : Int) : Int) ≥ 97)) = false, (0 : Int) ≤ x3 ∧ x3 < (List.length x0), (decide ((((List.getD x0 (Int.toNat x3) 0).toNat : Int) : Int) ≥ 48)) = true, (0 : Int) ≤ x3 ∧ x3 < (List.length x0), (!false) = true, ((x3 : Int) == 0) = false, (!(decide ((((List.getD x0 (Int.toNat x3) 0).toNat : Int) : Int) ≤ 57))) = false]) := by kernel_rfl
theorem p160_2_10 (x0 : Str) (x3 : Int) : run tt (AbsCalls Try.prog) I160 3000 true (stkAt 2 I160.body) ⟨(S160_2 x0 x3), [true, false, false, true, true, true], [], []⟩ = some (.done (spec_l2Shape_ro false) [(decide ((x3 : Int) < (List.length x0 : Int))) = true, (0 : Int) ≤ x3 ∧ x3 < (List.length x0), (decide ((((List.getD x0 (Int.toNat x3) 0).toNat : Int) : Int) ≥ 97)) = false, (0 : Int) ≤ x3 ∧ x3 < (List.length x0), (decide ((((List.getD x0 (Int.toNat x3) 0).toNat : Int) : Int) ≥ 48)) = false, (!false) = true, ((x3 : Int) == 0) = true, true = true]) := by kernel_rfl
theorem p160_2_11 (x0 : Str) (x3 : Int) : run tt (AbsCalls Try.prog) I160 3000 true (stkAt 2 I160.body) ⟨(S160_2 x0 x3), [true, false, false, true, false, true], [], []⟩ = some (.done (spec_l2Shape_ro false) [(decide ((x3 : Int) < (List.length x0 : Int))) = true, (0 : Int) ≤ x3 ∧ x3 < (List.length x0), (decide ((((List.getD x0 (Int.toNat x3) 0).toNat : Int) : Int) ≥ 97)) = false, (0 : Int) ≤ x3 ∧ x3 < (List.length x0), (decide ((((List.getD x0 (Int.toNat x3) 0).toNat : Int) : Int) ≥ 48)) = false, (!false) = true, ((x3 : Int) == 0) = false, (!false) = true]) := by kernel_rfl
theorem p160_2_12 (x0 : Str) (x3 : Int) : run tt (AbsCalls Try.prog) I160 3000 true (stkAt 2 I160.body) ⟨(S160_2 x0 x3), [false], [], []⟩ = some (.done (spec_l2Shape_ro (decide (((List.length x0 : Int) : Int) > 0))) [(decide ((x3 : Int) < (List.length x0 : Int))) = false]) := by kernel_rfl
theorem p160_e_13 (a0 : Str) : run tt (AbsCalls Try.prog) I160 3000 false [.code I160.body] ⟨(entry 0 (spec_l2Shape_as a0)), [], [], []⟩ = some (.stop (stkAt 2 I160.body) (S160_2 a0 0) []) := by kernel_rfl
theorem c160_2 {N : Nat} : ∀ n x0 x3 r, spec_l2Shape_b2 N n x0 x3 = some r → Reach Try.prog Try.f160 I160 (stkAt 2 I160.body) (S160_2 x0 x3) (spec_l2Shape_ro r) := by
  intro n
  induction n with
  | zero => intro x0 x3 r h; have h' : (none : Option (Bool)) = some r := h; cases h'
  | succ n ih =>
    intro x0 x3 r h
    rw [spec_l2Shape_b2] at h
    rcases cond_inv h with ⟨h0, h⟩ | ⟨h0, h⟩
    · obtain ⟨h1, h⟩ := ite_inv h
      rcases cond_inv h with ⟨h2, h⟩ | ⟨h2, h⟩
      · rcases cond_inv h with ⟨h5, h⟩ | ⟨h5, h⟩
        · rcases cond_inv h with ⟨h7, h⟩ | ⟨h7, h⟩
          · rcases cond_inv h with ⟨h8, h⟩ | ⟨h8, h⟩
            · obtain rfl := Option.some.inj h
              exact Reach.done ttok mix fk160 (p160_2_0 x0 x3) (obs_cons h0 (obs_cons h1 (obs_cons h2 (obs_cons h1 (obs_cons h1 (obs_cons h5 (obs_cons h1 (obs_cons h7 (obs_cons h8 (obs_cons rfl obs_nil))))))))))
            · rcases cond_inv h with ⟨h9, h⟩ | ⟨h9, h⟩
              · obtain rfl := Option.some.inj h
                exact Reach.done ttok mix fk160 (p160_2_1 x0 x3) (obs_cons h0 (obs_cons h1 (obs_cons h2 (obs_cons h1 (obs_cons h1 (obs_cons h5 (obs_cons h1 (obs_cons h7 (obs_cons h8 (obs_cons h9 obs_nil))))))))))
              · exact Reach.stop ttok mix fk160 (p160_2_2 x0 x3) (obs_cons h0 (obs_cons h1 (obs_cons h2 (obs_cons h1 (obs_cons h1 (obs_cons h5 (obs_cons h1 (obs_cons h7 (obs_cons h8 (obs_cons h9 obs_nil)))))))))) (ih _ _ _ h)
          · exact Reach.stop ttok mix fk160 (p160_2_3 x0 x3) (obs_cons h0 (obs_cons h1 (obs_cons h2 (obs_cons h1 (obs_cons h1 (obs_cons h5 (obs_cons h1 (obs_cons h7 (obs_cons rfl obs_nil))))))))) (ih _ _ _ h)
        · rcases cond_inv h with ⟨h6, h⟩ | ⟨h6, h⟩
          · rcases cond_inv h with ⟨h7, h⟩ | ⟨h7, h⟩
            · obtain rfl := Option.some.inj h
              exact Reach.done ttok mix fk160 (p160_2_4 x0 x3) (obs_cons h0 (obs_cons h1 (obs_cons h2 (obs_cons h1 (obs_cons h1 (obs_cons h5 (obs_cons h6 (obs_cons h7 (obs_cons rfl obs_nil)))))))))
            · obtain rfl := Option.some.inj h
              exact Reach.done ttok mix fk160 (p160_2_5 x0 x3) (obs_cons h0 (obs_cons h1 (obs_cons h2 (obs_cons h1 (obs_cons h1 (obs_cons h5 (obs_cons h6 (obs_cons h7 (obs_cons rfl obs_nil)))))))))
          · exact Reach.stop ttok mix fk160 (p160_2_6 x0 x3) (obs_cons h0 (obs_cons h1 (obs_cons h2 (obs_cons h1 (obs_cons h1 (obs_cons h5 (obs_cons h6 (obs_cons rfl obs_nil)))))))) (ih _ _ _ h)
      · rcases cond_inv h with ⟨h4, h⟩ | ⟨h4, h⟩
        · rcases cond_inv h with ⟨h7, h⟩ | ⟨h7, h⟩
          · obtain rfl := Option.some.inj h
            exact Reach.done ttok mix fk160 (p160_2_7 x0 x3) (obs_cons h0 (obs_cons h1 (obs_cons h2 (obs_cons h1 (obs_cons h4 (obs_cons h1 (obs_cons rfl (obs_cons h7 (obs_cons rfl obs_nil)))))))))
          · rcases cond_inv h with ⟨h8, h⟩ | ⟨h8, h⟩
            · obtain rfl := Option.some.inj h
              exact Reach.done ttok mix fk160 (p160_2_8 x0 x3) (obs_cons h0 (obs_cons h1 (obs_cons h2 (obs_cons h1 (obs_cons h4 (obs_cons h1 (obs_cons rfl (obs_cons h7 (obs_cons h8 obs_nil)))))))))
            · exact Reach.stop ttok mix fk160 (p160_2_9 x0 x3) (obs_cons h0 (obs_cons h1 (obs_cons h2 (obs_cons h1 (obs_cons h4 (obs_cons h1 (obs_cons rfl (obs_cons h7 (obs_cons h8 obs_nil))))))))) (ih _ _ _ h)
        · rcases cond_inv h with ⟨h6, h⟩ | ⟨h6, h⟩
          · obtain rfl := Option.some.inj h
            exact Reach.done ttok mix fk160 (p160_2_10 x0 x3) (obs_cons h0 (obs_cons h1 (obs_cons h2 (obs_cons h1 (obs_cons h4 (obs_cons rfl (obs_cons h6 (obs_cons rfl obs_nil))))))))
          · obtain rfl := Option.some.inj h
            exact Reach.done ttok mix fk160 (p160_2_11 x0 x3) (obs_cons h0 (obs_cons h1 (obs_cons h2 (obs_cons h1 (obs_cons h4 (obs_cons rfl (obs_cons h6 (obs_cons rfl obs_nil))))))))
    · obtain rfl := Option.some.inj h
      exact Reach.done ttok mix fk160 (p160_2_12 x0 x3) (obs_cons h0 obs_nil)
theorem c160_e {N : Nat} : ∀ a0 r, spec_l2Shape N a0 = some r → Reach Try.prog Try.f160 I160 [.code I160.body] (entry 0 (spec_l2Shape_as a0)) (spec_l2Shape_ro r) := by
  intro a0 r h
  unfold spec_l2Shape at h
  exact Reach.stop ttok mix fk160 (p160_e_13 a0) obs_nil (c160_2   _ _ _ _ h)
theorem spec_l2Shape_ok {N : Nat} {a0 : Str} {r : Bool} (h : spec_l2Shape N  a0 = some r) : AbsCalls Try.prog 160 (spec_l2Shape_as a0) (spec_l2Shape_ro r) :=
 AbsCalls.of_reach fk160 rfl rfl (Nat.le_of_ble_eq_true rfl) (c160_e a0 r h)
noncomputable def I165 : Info := { body := (Try.f165.body).getD .skip, nt := 2, results := [.tmp 0], keep := [0], live := [], modes := [], ext := [], lnt := [], casts := [], fcast := [] }
theorem fk165 : FnOk Try.prog 165 Try.f165 I165 := ⟨Try.func165, by kernel_rfl, by kernel_rfl, by kernel_rfl, by kernel_rfl⟩
theorem p165_e_0 : run tt (AbsCalls Try.prog) I165 3000 false [.code I165.body] ⟨(entry 0 (spec_l2Reserved_as )), [], [], []⟩ = some (.done (spec_l2Reserved_ro [[108, 101, 116], [105, 110], [105, 102], [116, 104, 101, 110], [101, 108, 115, 101], [102, 111, 114], [100, 111], [108, 101, 110], [115, 117, 109], [116, 97, 107, 101], [115, 107, 105, 112], [114, 97, 110, 103, 101], [110, 116, 104], [119, 104, 101, 114, 101], [107, 101, 101, 112], [97, 100, 100], [103, 114, 111, 117, 112], [106, 111, 105, 110], [99, 111, 108, 117, 109, 110], [114, 111, 119, 115], [99, 108, 111, 99, 107], [99, 104, 97, 110, 99, 101], [102, 105, 108, 101], [116, 97, 98, 108, 101]]) []) := by kernel_rfl
theorem c165_e {N : Nat} : ∀ r, spec_l2Reserved N = some r → Reach Try.prog Try.f165 I165 [.code I165.body] (entry 0 (spec_l2Reserved_as )) (spec_l2Reserved_ro r) := by
  intro r h
  unfold spec_l2Reserved at h
  obtain rfl := Option.some.inj h
  exact Reach.done ttok mix fk165 (p165_e_0) obs_nil
theorem spec_l2Reserved_ok {N : Nat} {r : (List Str)} (h : spec_l2Reserved N   = some r) : AbsCalls Try.prog 165 (spec_l2Reserved_as ) (spec_l2Reserved_ro r) :=
 AbsCalls.of_reach fk165 rfl rfl (Nat.le_of_ble_eq_true rfl) (c165_e  r h)
noncomputable def I162 : Info := { body := (Try.f162.body).getD .skip, nt := 18, results := [.tmp 4], keep := [0, 2, 8, 10, 18, 34], live := [(2, [0, 2, 10])], modes := [], ext := [], lnt := [], casts := [], fcast := [] }
theorem fk162 : FnOk Try.prog 162 Try.f162 I162 := ⟨Try.func162, by kernel_rfl, by kernel_rfl, by kernel_rfl, by kernel_rfl⟩
def S162_2 (x0 : List Str) (x1 : Str) (x5 : Int) : St := [(0, .v false [.sl .ro .str x0]), (2, .v false [.str x1]), (10, .v false [.int .i64 x5])]
theorem p162_2_0 (x0 : List Str) (x1 : Str) (x5 : Int) : run tt (AbsCalls Try.prog) I162 3000 true (stkAt 2 I162.body) ⟨(S162_2 x0 x1 x5), [true, true], [], []⟩ = some (.done (spec_l1Has_ro true) [(decide ((x5 : Int) < (List.length x0 : Int))) = true, (0 : Int) ≤ x5 ∧ x5 < (List.length x0), (((List.getD x0 (Int.toNat x5) Ty.str.dflt) : Str) == x1) = true]) := by kernel_rfl
theorem p162_2_1 (x0 : List Str) (x1 : Str) (x5 : Int) : run tt (AbsCalls Try.prog) I162 3000 true (stkAt 2 I162.body) ⟨(S162_2 x0 x1 x5), [true, false], [], []⟩ = some (.stop (stkAt 2 I162.body) (S162_2 x0 x1 (IntKind.i64.wrap (x5 + 1))) [(decide ((x5 : Int) < (List.length x0 : Int))) = true, (0 : Int) ≤ x5 ∧ x5 < (List.length x0), (((List.getD x0 (Int.toNat x5) Ty.str.dflt) : Str) == x1) = false]) := by kernel_rfl
theorem p162_2_2 (x0 : List Str) (x1 : Str) (x5 : Int) : run tt (AbsCalls Try.prog) I162 3000 true (stkAt 2 I162.body) ⟨(S162_2 x0 x1 x5), [false], [], []⟩ = some (.done (spec_l1Has_ro false) [(decide ((x5 : Int) < (List.length x0 : Int))) = false]) := by kernel_rfl
theorem p162_e_3 (a0 : List Str) (a1 : Str) : run tt (AbsCalls Try.prog) I162 3000 false [.code I162.body] ⟨(entry 0 (spec_l1Has_as a0 a1)), [], [], []⟩ = some (.stop (stkAt 2 I162.body) (S162_2 a0 a1 0) []) := by kernel_rfl
theorem c162_2 {N : Nat} : ∀ n x0 x1 x5 r, spec_l1Has_b2 N n x0 x1 x5 = some r → Reach Try.prog Try.f162 I162 (stkAt 2 I162.body) (S162_2 x0 x1 x5) (spec_l1Has_ro r) := by
  intro n
  induction n with
  | zero => intro x0 x1 x5 r h; have h' : (none : Option (Bool)) = some r := h; cases h'
  | succ n ih =>
    intro x0 x1 x5 r h
    rw [spec_l1Has_b2] at h
    rcases cond_inv h with ⟨h0, h⟩ | ⟨h0, h⟩
    · obtain ⟨h1, h⟩ := ite_inv h
      rcases cond_inv h with ⟨h2, h⟩ | ⟨h2, h⟩
      · obtain rfl := Option.some.inj h
        exact Reach.done ttok mix fk162 (p162_2_0 x0 x1 x5) (obs_cons h0 (obs_cons h1 (obs_cons h2 obs_nil)))
      · exact Reach.stop ttok mix fk162 (p162_2_1 x0 x1 x5) (obs_cons h0 (obs_cons h1 (obs_cons h2 obs_nil))) (ih _ _ _ _ h)
    · obtain rfl := Option.some.inj h
      exact Reach.done ttok mix fk162 (p162_2_2 x0 x1 x5) (obs_cons h0 obs_nil)
theorem c162_e {N : Nat} : ∀ a0 a1 r, spec_l1Has N a0 a1 = some r → Reach Try.prog Try.f162 I162 [.code I162.body] (entry 0 (spec_l1Has_as a0 a1)) (spec_l1Has_ro r) := by
  intro a0 a1 r h
  unfold spec_l1Has at h
  exact Reach.stop ttok mix fk162 (p162_e_3 a0 a1) obs_nil (c162_2   _ _ _ _ _ h)
theorem spec_l1Has_ok {N : Nat} {a0 : List Str} {a1 : Str} {r : Bool} (h : spec_l1Has N  a0 a1 = some r) : AbsCalls Try.prog 162 (spec_l1Has_as a0 a1) (spec_l1Has_ro r) :=
 AbsCalls.of_reach fk162 rfl rfl (Nat.le_of_ble_eq_true rfl) (c162_e a0 a1 r h)
noncomputable def I161 : Info := { body := (Try.f161.body).getD .skip, nt := 6, results := [.tmp 2], keep := [0, 4], live := [], modes := [], ext := [], lnt := [], casts := [], fcast := [] }
theorem fk161 : FnOk Try.prog 161 Try.f161 I161 := ⟨Try.func161, by kernel_rfl, by kernel_rfl, by kernel_rfl, by kernel_rfl⟩
theorem p161_e_0 (a0 : Str) (r1 : (List Str)) (r2 : Bool) : run tt (AbsCalls Try.prog) I161 3000 false [.code I161.body] ⟨(entry 0 (spec_IsReserved_as a0)), [], [spec_l2Reserved_ro r1, spec_l1Has_ro r2], []⟩ = some (.done (spec_IsReserved_ro r2) [AbsCalls Try.prog 165 spec_l2Reserved_as (spec_l2Reserved_ro r1), AbsCalls Try.prog 162 (spec_l1Has_as r1 a0) (spec_l1Has_ro r2)]) := by kernel_rfl
theorem c161_e {N : Nat} : ∀ a0 r, spec_IsReserved N a0 = some r → Reach Try.prog Try.f161 I161 [.code I161.body] (entry 0 (spec_IsReserved_as a0)) (spec_IsReserved_ro r) := by
  intro a0 r h
  unfold spec_IsReserved at h
  obtain ⟨r1, h0, h⟩ := bind_inv h
  obtain ⟨r2, h1, h⟩ := bind_inv h
  obtain rfl := Option.some.inj h
  exact Reach.done ttok mix fk161 (p161_e_0 a0 r1 r2) (obs_cons (spec_l2Reserved_ok h0) (obs_cons (spec_l1Has_ok h1) obs_nil))
theorem spec_IsReserved_ok {N : Nat} {a0 : Str} {r : Bool} (h : spec_IsReserved N  a0 = some r) : AbsCalls Try.prog 161 (spec_IsReserved_as a0) (spec_IsReserved_ro r) :=
 AbsCalls.of_reach fk161 rfl rfl (Nat.le_of_ble_eq_true rfl) (c161_e a0 r h)
noncomputable def I155 : Info := { body := (Try.f155.body).getD .skip, nt := 15, results := [.tmp 2], keep := [0, 4], live := [], modes := [(1, [(2, .take, false), (7, .take, false)])], ext := [], lnt := [], casts := [], fcast := [] }
theorem fk155 : FnOk Try.prog 155 Try.f155 I155 := ⟨Try.func155, by kernel_rfl, by kernel_rfl, by kernel_rfl, by kernel_rfl⟩
theorem p155_e_0 (a0 : Str) (r1 : Bool) (r2 : Bool) : run tt (AbsCalls Try.prog) I155 3000 false [.code I155.body] ⟨(entry 0 (spec_IsValidName_as a0)), [true, true], [spec_l2Shape_ro r1, spec_IsReserved_ro r2], []⟩ = some (.done (spec_IsValidName_ro (!r2)) [AbsCalls Try.prog 160 (spec_l2Shape_as a0) (spec_l2Shape_ro r1), r1 = true, (decide (((List.length a0 : Int) : Int) ≤ 8)) = true, AbsCalls Try.prog 161 (spec_IsReserved_as a0) (spec_IsReserved_ro r2)]) := by kernel_rfl
theorem p155_e_1 (a0 : Str) (r1 : Bool) : run tt (AbsCalls Try.prog) I155 3000 false [.code I155.body] ⟨(entry 0 (spec_IsValidName_as a0)), [true, false], [spec_l2Shape_ro r1], []⟩ = some (.done (spec_IsValidName_ro false) [AbsCalls Try.prog 160 (spec_l2Shape_as a0) (spec_l2Shape_ro r1), r1 = true, (decide (((List.length a0 : Int) : Int) ≤ 8)) = false]) := by kernel_rfl
theorem p155_e_2 (a0 : Str) (r1 : Bool) : run tt (AbsCalls Try.prog) I155 3000 false [.code I155.body] ⟨(entry 0 (spec_IsValidName_as a0)), [false, false], [spec_l2Shape_ro r1], []⟩ = some (.done (spec_IsValidName_ro false) [AbsCalls Try.prog 160 (spec_l2Shape_as a0) (spec_l2Shape_ro r1), r1 = false, false = false]) := by kernel_rfl
theorem c155_e {N : Nat} : ∀ a0 r, spec_IsValidName N a0 = some r → Reach Try.prog Try.f155 I155 [.code I155.body] (entry 0 (spec_IsValidName_as a0)) (spec_IsValidName_ro r) := by
  intro a0 r h
  unfold spec_IsValidName at h
  obtain ⟨r1, h0, h⟩ := bind_inv h
  rcases cond_inv h with ⟨h1, h⟩ | ⟨h1, h⟩
  · rcases cond_inv h with ⟨h2, h⟩ | ⟨h2, h⟩
    · obtain ⟨r2, h3, h⟩ := bind_inv h
      obtain rfl := Option.some.inj h
      exact Reach.done ttok mix fk155 (p155_e_0 a0 r1 r2) (obs_cons (spec_l2Shape_ok h0) (obs_cons h1 (obs_cons h2 (obs_cons (spec_IsReserved_ok h3) obs_nil))))
    · obtain rfl := Option.some.inj h
      exact Reach.done ttok mix fk155 (p155_e_1 a0 r1) (obs_cons (spec_l2Shape_ok h0) (obs_cons h1 (obs_cons h2 obs_nil)))
  · obtain rfl := Option.some.inj h
    exact Reach.done ttok mix fk155 (p155_e_2 a0 r1) (obs_cons (spec_l2Shape_ok h0) (obs_cons h1 (obs_cons rfl obs_nil)))
theorem spec_IsValidName_ok {N : Nat} {a0 : Str} {r : Bool} (h : spec_IsValidName N  a0 = some r) : AbsCalls Try.prog 155 (spec_IsValidName_as a0) (spec_IsValidName_ro r) :=
 AbsCalls.of_reach fk155 rfl rfl (Nat.le_of_ble_eq_true rfl) (c155_e a0 r h)
noncomputable def I156 : Info := { body := (Try.f156.body).getD .skip, nt := 18, results := [.tmp 2], keep := [0, 4, 6, 14, 34], live := [(2, [0, 6])], modes := [], ext := [], lnt := [], casts := [], fcast := [] }
theorem fk156 : FnOk Try.prog 156 Try.f156 I156 := ⟨Try.func156, by kernel_rfl, by kernel_rfl, by kernel_rfl, by kernel_rfl⟩
def S156_2 (x0 : List Str) (x3 : Int) : St := [(0, .v false [.sl .ro .str x0]), (6, .v false [.int .i64 x3])]
theorem p156_2_0 (x0 : List Str) (x3 : Int) (r1 : Bool) : run tt (AbsCalls Try.prog) I156 3000 true (stkAt 2 I156.body) ⟨(S156_2 x0 x3), [true, true], [spec_l1Has_ro r1], []⟩ = some (.done (spec_AllDistinct_ro false) [(decide ((x3 : Int) < (List.length x0 : Int))) = true, (0 : Int) ≤ x3 ∧ x3 ≤ (List.length x0), (0 : Int) ≤ x3 ∧ x3 < (List.length x0), AbsCalls Try.prog 162 (spec_l1Has_as (List.take (Int.toNat x3) x0) (List.getD x0 (Int.toNat x3) Ty.str.dflt)) (spec_l1Has_ro r1), r1 = true]) := by kernel_rfl
theorem p156_2_1 (x0 : List Str) (x3 : Int) (r1 : Bool) : run tt (AbsCalls Try.prog) I156 3000 true (stkAt 2 I156.body) ⟨(S156_2 x0 x3), [true, false], [spec_l1Has_ro r1], []⟩ = some (.stop (stkAt 2 I156.body) (S156_2 x0 (IntKind.i64.wrap (x3 + 1))) [(decide ((x3 : Int) < (List.length x0 : Int))) = true, (0 : Int) ≤ x3 ∧ x3 ≤ (List.length x0), (0 : Int) ≤ x3 ∧ x3 < (List.length x0), AbsCalls Try.prog 162 (spec_l1Has_as (List.take (Int.toNat x3) x0) (List.getD x0 (Int.toNat x3) Ty.str.dflt)) (spec_l1Has_ro r1), r1 = false]) := by kernel_rfl
theorem p156_2_2 (x0 : List Str) (x3 : Int) : run tt (AbsCalls Try.prog) I156 3000 true (stkAt 2 I156.body) ⟨(S156_2 x0 x3), [false], [], []⟩ = some (.done (spec_AllDistinct_ro true) [(decide ((x3 : Int) < (List.length x0 : Int))) = false]) := by kernel_rfl
theorem p156_e_3 (a0 : List Str) : run tt (AbsCalls Try.prog) I156 3000 false [.code I156.body] ⟨(entry 0 (spec_AllDistinct_as a0)), [], [], []⟩ = some (.stop (stkAt 2 I156.body) (S156_2 a0 0) []) := by kernel_rfl
theorem c156_2 {N : Nat} : ∀ n x0 x3 r, spec_AllDistinct_b2 N n x0 x3 = some r → Reach Try.prog Try.f156 I156 (stkAt 2 I156.body) (S156_2 x0 x3) (spec_AllDistinct_ro r) := by
  intro n
  induction n with
  | zero => intro x0 x3 r h; have h' : (none : Option (Bool)) = some r := h; cases h'
  | succ n ih =>
    intro x0 x3 r h
    rw [spec_AllDistinct_b2] at h
    rcases cond_inv h with ⟨h0, h⟩ | ⟨h0, h⟩
    · obtain ⟨h1, h⟩ := ite_inv h
      obtain ⟨h2, h⟩ := ite_inv h
      obtain ⟨r1, h3, h⟩ := bind_inv h
      rcases cond_inv h with ⟨h4, h⟩ | ⟨h4, h⟩
      · obtain rfl := Option.some.inj h
        exact Reach.done ttok mix fk156 (p156_2_0 x0 x3 r1) (obs_cons h0 (obs_cons h1 (obs_cons h2 (obs_cons (spec_l1Has_ok h3) (obs_cons h4 obs_nil)))))
      · exact Reach.stop ttok mix fk156 (p156_2_1 x0 x3 r1) (obs_cons h0 (obs_cons h1 (obs_cons h2 (obs_cons (spec_l1Has_ok h3) (obs_cons h4 obs_nil))))) (ih _ _ _ h)
    · obtain rfl := Option.some.inj h
      exact Reach.done ttok mix fk156 (p156_2_2 x0 x3) (obs_cons h0 obs_nil)
theorem c156_e {N : Nat} : ∀ a0 r, spec_AllDistinct N a0 = some r → Reach Try.prog Try.f156 I156 [.code I156.body] (entry 0 (spec_AllDistinct_as a0)) (spec_AllDistinct_ro r) := by
  intro a0 r h
  unfold spec_AllDistinct at h
  exact Reach.stop ttok mix fk156 (p156_e_3 a0) obs_nil (c156_2   _ _ _ _ h)
theorem spec_AllDistinct_ok {N : Nat} {a0 : List Str} {r : Bool} (h : spec_AllDistinct N  a0 = some r) : AbsCalls Try.prog 156 (spec_AllDistinct_as a0) (spec_AllDistinct_ro r) :=
 AbsCalls.of_reach fk156 rfl rfl (Nat.le_of_ble_eq_true rfl) (c156_e a0 r h)
end Go.Ab.T
end
section
open Go.Proofs
namespace Go.Ab.T
set_option linter.unusedVariables false
set_option maxRecDepth 100000
noncomputable def I151 : Info := { body := (Try.f151.body).getD .skip, nt := 23, results := [.tmp 2], keep := [0, 4, 6, 14, 30], live := [(2, [0, 6])], modes := [(6, [(3, .take, false)])], ext := [], lnt := [], casts := [], fcast := [] }
theorem fk151 : FnOk Try.prog 151 Try.f151 I151 := ⟨Try.func151, by kernel_rfl, by kernel_rfl, by kernel_rfl, by kernel_rfl⟩
def S151_2 (x0 : List Str) (x3 : Int) : St := [(0, .v false [.sl .ro .str x0]), (6, .v false [.int .i64 x3])]
theorem p151_2_0 (x0 : List Str) (x3 : Int) (r1 : Bool) : run tt (AbsCalls Try.prog) I151 3000 true (stkAt 2 I151.body) ⟨(S151_2 x0 x3), [true, true], [spec_IsValidName_ro r1], []⟩ = some (.done (spec_l3Columns_ro false) [(decide ((x3 : Int) < (List.length x0 : Int))) = true, (0 : Int) ≤ x3 ∧ x3 < (List.length x0), AbsCalls Try.prog 155 (spec_IsValidName_as (List.getD x0 (Int.toNat x3) Ty.str.dflt)) (spec_IsValidName_ro r1), (!r1) = true]) := by kernel_rfl
theorem p151_2_1 (x0 : List Str) (x3 : Int) (r1 : Bool) : run tt (AbsCalls Try.prog) I151 3000 true (stkAt 2 I151.body) ⟨(S151_2 x0 x3), [true, false], [spec_IsValidName_ro r1], []⟩ = some (.stop (stkAt 2 I151.body) (S151_2 x0 (IntKind.i64.wrap (x3 + 1))) [(decide ((x3 : Int) < (List.length x0 : Int))) = true, (0 : Int) ≤ x3 ∧ x3 < (List.length x0), AbsCalls Try.prog 155 (spec_IsValidName_as (List.getD x0 (Int.toNat x3) Ty.str.dflt)) (spec_IsValidName_ro r1), (!r1) = false]) := by kernel_rfl
theorem p151_2_2 (x0 : List Str) (x3 : Int) (r1 : Bool) (r2 : Bool) : run tt (AbsCalls Try.prog) I151 3000 true (stkAt 2 I151.body) ⟨(S151_2 x0 x3), [false, true], [spec_l1In_ro r1, spec_AllDistinct_ro r2], []⟩ = some (.done (spec_l3Columns_ro r2) [(decide ((x3 : Int) < (List.length x0 : Int))) = false, AbsCalls Try.prog 97 (spec_l1In_as (List.length x0 : Int) 1 4) (spec_l1In_ro r1), r1 = true, AbsCalls Try.prog 156 (spec_AllDistinct_as x0) (spec_AllDistinct_ro r2)]) := by kernel_rfl
theorem p151_2_3 (x0 : List Str) (x3 : Int) (r1 : Bool) : run tt (AbsCalls Try.prog) I151 3000 true (stkAt 2 I151.body) ⟨(S151_2 x0 x3), [false, false], [spec_l1In_ro r1], []⟩ = some (.done (spec_l3Columns_ro false) [(decide ((x3 : Int) < (List.length x0 : Int))) = false, AbsCalls Try.prog 97 (spec_l1In_as (List.length x0 : Int) 1 4) (spec_l1In_ro r1), r1 = false]) := by kernel_rfl
theorem p151_e_4 (a0 : List Str) : run tt (AbsCalls Try.prog) I151 3000 false [.code I151.body] ⟨(entry 0 (spec_l3Columns_as a0)), [], [], []⟩ = some (.stop (stkAt 2 I151.body) (S151_2 a0 0) []) := by kernel_rfl
theorem c151_2 {N : Nat} : ∀ n x0 x3 r, spec_l3Columns_b2 N n x0 x3 = some r → Reach Try.prog Try.f151 I151 (stkAt 2 I151.body) (S151_2 x0 x3) (spec_l3Columns_ro r) := by
  intro n
  induction n with
  | zero => intro x0 x3 r h; have h' : (none : Option (Bool)) = some r := h; cases h'
  | succ n ih =>
    intro x0 x3 r h
    rw [spec_l3Columns_b2] at h
    rcases cond_inv h with ⟨h0, h⟩ | ⟨h0, h⟩
    · obtain ⟨h1, h⟩ := ite_inv h
      obtain ⟨r1, h2, h⟩ := bind_inv h
      rcases cond_inv h with ⟨h3, h⟩ | ⟨h3, h⟩
      · obtain rfl := Option.some.inj h
        exact Reach.done ttok mix fk151 (p151_2_0 x0 x3 r1) (obs_cons h0 (obs_cons h1 (obs_cons (spec_IsValidName_ok h2) (obs_cons h3 obs_nil))))
      · exact Reach.stop ttok mix fk151 (p151_2_1 x0 x3 r1) (obs_cons h0 (obs_cons h1 (obs_cons (spec_IsValidName_ok h2) (obs_cons h3 obs_nil)))) (ih _ _ _ h)
    · obtain ⟨r1, h1, h⟩ := bind_inv h
      rcases cond_inv h with ⟨h2, h⟩ | ⟨h2, h⟩
      · obtain ⟨r2, h3, h⟩ := bind_inv h
        obtain rfl := Option.some.inj h
        exact Reach.done ttok mix fk151 (p151_2_2 x0 x3 r1 r2) (obs_cons h0 (obs_cons (spec_l1In_ok h1) (obs_cons h2 (obs_cons (spec_AllDistinct_ok h3) obs_nil))))
      · obtain rfl := Option.some.inj h
        exact Reach.done ttok mix fk151 (p151_2_3 x0 x3 r1) (obs_cons h0 (obs_cons (spec_l1In_ok h1) (obs_cons h2 obs_nil)))
theorem c151_e {N : Nat} : ∀ a0 r, spec_l3Columns N a0 = some r → Reach Try.prog Try.f151 I151 [.code I151.body] (entry 0 (spec_l3Columns_as a0)) (spec_l3Columns_ro r) := by
  intro a0 r h
  unfold spec_l3Columns at h
  exact Reach.stop ttok mix fk151 (p151_e_4 a0) obs_nil (c151_2   _ _ _ _ h)
theorem spec_l3Columns_ok {N : Nat} {a0 : List Str} {r : Bool} (h : spec_l3Columns N  a0 = some r) : AbsCalls Try.prog 151 (spec_l3Columns_as a0) (spec_l3Columns_ro r) :=
 AbsCalls.of_reach fk151 rfl rfl (Nat.le_of_ble_eq_true rfl) (c151_e a0 r h)
noncomputable def I157 : Info := { body := (Try.f157.body).getD .skip, nt := 24, results := [.tmp 4], keep := [0, 2, 4, 6, 8, 5, 7], live := [], modes := [(1, [(5, .take, false), (11, .take, false)])], ext := [], lnt := [], casts := [], fcast := [] }
theorem fk157 : FnOk Try.prog 157 Try.f157 I157 := ⟨Try.func157, by kernel_rfl, by kernel_rfl, by kernel_rfl, by kernel_rfl⟩
theorem p157_e_0 (a0 : Org) (a1 : Org) : run tt (AbsCalls Try.prog) I157 3000 false [.code I157.body] ⟨(entry 0 (spec_l3Before_as a0 a1)), [true], [], []⟩ = some (.done (spec_l3Before_ro true) [(decide (((Org.cell a0) : Int) < (Org.cell a1))) = true]) := by kernel_rfl
theorem p157_e_1 (a0 : Org) (a1 : Org) : run tt (AbsCalls Try.prog) I157 3000 false [.code I157.body] ⟨(entry 0 (spec_l3Before_as a0 a1)), [false, true], [], []⟩ = some (.done (spec_l3Before_ro (decide (((Org.row a0) : Int) < (Org.row a1)))) [(decide (((Org.cell a0) : Int) < (Org.cell a1))) = false, (((Org.cell a0) : Int) == (Org.cell a1)) = true]) := by kernel_rfl
theorem p157_e_2 (a0 : Org) (a1 : Org) : run tt (AbsCalls Try.prog) I157 3000 false [.code I157.body] ⟨(entry 0 (spec_l3Before_as a0 a1)), [false, false], [], []⟩ = some (.done (spec_l3Before_ro false) [(decide (((Org.cell a0) : Int) < (Org.cell a1))) = false, (((Org.cell a0) : Int) == (Org.cell a1)) = false]) := by kernel_rfl
theorem c157_e {N : Nat} : ∀ a0 a1 r, spec_l3Before N a0 a1 = some r → Reach Try.prog Try.f157 I157 [.code I157.body] (entry 0 (spec_l3Before_as a0 a1)) (spec_l3Before_ro r) := by
  intro a0 a1 r h
  unfold spec_l3Before at h
  rcases cond_inv h with ⟨h0, h⟩ | ⟨h0, h⟩
  · obtain rfl := Option.some.inj h
    exact Reach.done ttok mix fk157 (p157_e_0 a0 a1) (obs_cons h0 obs_nil)
  · rcases cond_inv h with ⟨h1, h⟩ | ⟨h1, h⟩
    · obtain rfl := Option.some.inj h
      exact Reach.done ttok mix fk157 (p157_e_1 a0 a1) (obs_cons h0 (obs_cons h1 obs_nil))
    · obtain rfl := Option.some.inj h
      exact Reach.done ttok mix fk157 (p157_e_2 a0 a1) (obs_cons h0 (obs_cons h1 obs_nil))
theorem spec_l3Before_ok {N : Nat} {a0 : Org} {a1 : Org} {r : Bool} (h : spec_l3Before N  a0 a1 = some r) : AbsCalls Try.prog 157 (spec_l3Before_as a0 a1) (spec_l3Before_ro r) :=
 AbsCalls.of_reach fk157 rfl rfl (Nat.le_of_ble_eq_true rfl) (c157_e a0 a1 r h)
noncomputable def I152 : Info := { body := (Try.f152.body).getD .skip, nt := 41, results := [.tmp 2], keep := [0, 4, 6, 14, 80], live := [(2, [0, 6])], modes := [(4, [(6, .take, false), (14, .take, false), (17, .take, false)])], ext := [], lnt := [], casts := [], fcast := [] }
theorem fk152 : FnOk Try.prog 152 Try.f152 I152 := ⟨Try.func152, by kernel_rfl, by kernel_rfl, by kernel_rfl, by kernel_rfl⟩
def S152_2 (x0 : List Org) (x3 : Int) : St := [(0, .v false [.sl .ro .org x0]), (6, .v false [.int .i64 x3])]
theorem p152_2_0 (x0 : List Org) (x3 : Int) : run tt (AbsCalls Try.prog) I152 3000 true (stkAt 2 I152.body) ⟨(S152_2 x0 x3), [true, true, true, true], [], []⟩ = some (.done (spec_l3Ascending_ro false) [(decide ((x3 : Int) < (List.length x0 : Int))) = true, (0 : Int) ≤ x3 ∧ x3 < (List.length x0), (decide (((Org.cell (List.getD x0 (Int.toNat x3) Ty.org.dflt)) : Int) < 0)) = true, true = true, true = true]) := by kernel_rfl
theorem p152_2_1 (x0 : List Org) (x3 : Int) : run tt (AbsCalls Try.prog) I152 3000 true (stkAt 2 I152.body) ⟨(S152_2 x0 x3), [true, false, true, true], [], []⟩ = some (.done (spec_l3Ascending_ro false) [(decide ((x3 : Int) < (List.length x0 : Int))) = true, (0 : Int) ≤ x3 ∧ x3 < (List.length x0), (decide (((Org.cell (List.getD x0 (Int.toNat x3) Ty.org.dflt)) : Int) < 0)) = false, (0 : Int) ≤ x3 ∧ x3 < (List.length x0), (decide (((Org.row (List.getD x0 (Int.toNat x3) Ty.org.dflt)) : Int) < 0)) = true, true = true]) := by kernel_rfl
theorem p152_2_2 (x0 : List Org) (x3 : Int) (r1 : Bool) : run tt (AbsCalls Try.prog) I152 3000 true (stkAt 2 I152.body) ⟨(S152_2 x0 x3), [true, false, false, true, true], [spec_l3Before_ro r1], []⟩ = some (.done (spec_l3Ascending_ro false) [(decide ((x3 : Int) < (List.length x0 : Int))) = true, (0 : Int) ≤ x3 ∧ x3 < (List.length x0), (decide (((Org.cell (List.getD x0 (Int.toNat x3) Ty.org.dflt)) : Int) < 0)) = false, (0 : Int) ≤ x3 ∧ x3 < (List.length x0), (decide (((Org.row (List.getD x0 (Int.toNat x3) Ty.org.dflt)) : Int) < 0)) = false, (decide ((x3 : Int) > 0)) = true, (0 : Int) ≤ (IntKind.i64.wrap (x3 - 1)) ∧ (IntKind.i64.wrap (x3 - 1)) < (List.length x0), (0 : Int) ≤ x3 ∧ x3 < (List.length x0), AbsCalls Try.prog 157 (spec_l3Before_as (List.getD x0 (Int.toNat (IntKind.i64.wrap (x3 - 1))) Ty.org.dflt) (List.getD x0 (Int.toNat x3) Ty.org.dflt)) (spec_l3Before_ro r1), (!r1) = true]) := by kernel_rfl
theorem p152_2_3 (x0 : List Org) (x3 : Int) (r1 : Bool) : run tt (AbsCalls Try.prog) I152 3000 true (stkAt 2 I152.body) ⟨(S152_2 x0 x3), [true, false, false, true, false], [spec_l3Before_ro r1], []⟩ = some (.stop (stkAt 2 I152.body) (S152_2 x0 (IntKind.i64.wrap (x3 + 1))) [(decide ((x3 : Int) < (List.length x0 : Int))) = true, (0 : Int) ≤ x3 ∧ x3 < (List.length x0), (decide (((Org.cell (List.getD x0 (Int.toNat x3) Ty.org.dflt)) : Int) < 0)) = false, (0 : Int) ≤ x3 ∧ x3 < (List.length x0), (decide (((Org.row (List.getD x0 (Int.toNat x3) Ty.org.dflt)) : Int) < 0)) = false, (decide ((x3 : Int) > 0)) = true, (0 : Int) ≤ (IntKind.i64.wrap (x3 - 1)) ∧ (IntKind.i64.wrap (x3 - 1)) < (List.length x0), (0 : Int) ≤ x3 ∧ x3 < (List.length x0), AbsCalls Try.prog 157 (spec_l3Before_as (List.getD x0 (Int.toNat (IntKind.i64.wrap (x3 - 1))) Ty.org.dflt) (List.getD x0 (Int.toNat x3) Ty.org.dflt)) (spec_l3Before_ro r1), (!r1) = false]) := by kernel_rfl
theorem p152_2_4 (x0 : List Org) (x3 : Int) : run tt (AbsCalls Try.prog) I152 3000 true (stkAt 2 I152.body) ⟨(S152_2 x0 x3), [true, false, false, false, false], [], []⟩ = some (.stop (stkAt 2 I152.body) (S152_2 x0 (IntKind.i64.wrap (x3 + 1))) [(decide ((x3 : Int) < (List.length x0 : Int))) = true, (0 : Int) ≤ x3 ∧ x3 < (List.length x0), (decide (((Org.cell (List.getD x0 (Int.toNat x3) Ty.org.dflt)) : Int) < 0)) = false, (0 : Int) ≤ x3 ∧ x3 < (List.length x0), (decide (((Org.row (List.getD x0 (Int.toNat x3) Ty.org.dflt)) : Int) < 0)) = false, (decide ((x3 : Int) > 0)) = false, false = false]) := by kernel_rfl
theorem p152_2_5 (x0 : List Org) (x3 : Int) : run tt (AbsCalls Try.prog) I152 3000 true (stkAt 2 I152.body) ⟨(S152_2 x0 x3), [false], [], []⟩ = some (.done (spec_l3Ascending_ro true) [(decide ((x3 : Int) < (List.length x0 : Int))) = false]) := by kernel_rfl
theorem p152_e_6 (a0 : List Org) : run tt (AbsCalls Try.prog) I152 3000 false [.code I152.body] ⟨(entry 0 (spec_l3Ascending_as a0)), [], [], []⟩ = some (.stop (stkAt 2 I152.body) (S152_2 a0 0) []) := by kernel_rfl
theorem c152_2 {N : Nat} : ∀ n x0 x3 r, spec_l3Ascending_b2 N n x0 x3 = some r → Reach Try.prog Try.f152 I152 (stkAt 2 I152.body) (S152_2 x0 x3) (spec_l3Ascending_ro r) := by
  intro n
  induction n with
  | zero => intro x0 x3 r h; have h' : (none : Option (Bool)) = some r := h; cases h'
  | succ n ih =>
    intro x0 x3 r h
    rw [spec_l3Ascending_b2] at h
    rcases cond_inv h with ⟨h0, h⟩ | ⟨h0, h⟩
    · obtain ⟨h1, h⟩ := ite_inv h
      rcases cond_inv h with ⟨h2, h⟩ | ⟨h2, h⟩
      · obtain rfl := Option.some.inj h
        exact Reach.done ttok mix fk152 (p152_2_0 x0 x3) (obs_cons h0 (obs_cons h1 (obs_cons h2 (obs_cons rfl (obs_cons rfl obs_nil)))))
      · rcases cond_inv h with ⟨h4, h⟩ | ⟨h4, h⟩
        · obtain rfl := Option.some.inj h
          exact Reach.done ttok mix fk152 (p152_2_1 x0 x3) (obs_cons h0 (obs_cons h1 (obs_cons h2 (obs_cons h1 (obs_cons h4 (obs_cons rfl obs_nil))))))
        · rcases cond_inv h with ⟨h5, h⟩ | ⟨h5, h⟩
          · obtain ⟨h6, h⟩ := ite_inv h
            obtain ⟨r1, h8, h⟩ := bind_inv h
            rcases cond_inv h with ⟨h9, h⟩ | ⟨h9, h⟩
            · obtain rfl := Option.some.inj h
              exact Reach.done ttok mix fk152 (p152_2_2 x0 x3 r1) (obs_cons h0 (obs_cons h1 (obs_cons h2 (obs_cons h1 (obs_cons h4 (obs_cons h5 (obs_cons h6 (obs_cons h1 (obs_cons (spec_l3Before_ok h8) (obs_cons h9 obs_nil))))))))))
            · exact Reach.stop ttok mix fk152 (p152_2_3 x0 x3 r1) (obs_cons h0 (obs_cons h1 (obs_cons h2 (obs_cons h1 (obs_cons h4 (obs_cons h5 (obs_cons h6 (obs_cons h1 (obs_cons (spec_l3Before_ok h8) (obs_cons h9 obs_nil)))))))))) (ih _ _ _ h)
          · exact Reach.stop ttok mix fk152 (p152_2_4 x0 x3) (obs_cons h0 (obs_cons h1 (obs_cons h2 (obs_cons h1 (obs_cons h4 (obs_cons h5 (obs_cons rfl obs_nil))))))) (ih _ _ _ h)
    · obtain rfl := Option.some.inj h
      exact Reach.done ttok mix fk152 (p152_2_5 x0 x3) (obs_cons h0 obs_nil)
theorem c152_e {N : Nat} : ∀ a0 r, spec_l3Ascending N a0 = some r → Reach Try.prog Try.f152 I152 [.code I152.body] (entry 0 (spec_l3Ascending_as a0)) (spec_l3Ascending_ro r) := by
  intro a0 r h
  unfold spec_l3Ascending at h
  exact Reach.stop ttok mix fk152 (p152_e_6 a0) obs_nil (c152_2   _ _ _ _ h)
theorem spec_l3Ascending_ok {N : Nat} {a0 : List Org} {r : Bool} (h : spec_l3Ascending N  a0 = some r) : AbsCalls Try.prog 152 (spec_l3Ascending_as a0) (spec_l3Ascending_ro r) :=
 AbsCalls.of_reach fk152 rfl rfl (Nat.le_of_ble_eq_true rfl) (c152_e a0 r h)
noncomputable def I141 : Info := { body := (Try.f141.body).getD .skip, nt := 55, results := [.tmp 2], keep := [0, 2, 4, 6, 8, 10, 30, 40, 80, 90, 108, 3, 9], live := [(4, [2, 6, 3]), (10, [2, 6, 8, 10, 3, 9])], modes := [(1, [(4, .take, false)]), (7, [(7, .take, false)])], ext := [], lnt := [], casts := [], fcast := [] }
theorem fk141 : FnOk Try.prog 141 Try.f141 I141 := ⟨Try.func141, by kernel_rfl, by kernel_rfl, by kernel_rfl, by kernel_rfl⟩
def S141_4 (x3 : Int) (b1 : Val) : St := [(2, .v false [.ptr 1 0]), (6, .v false [.int .i64 x3]), (3, .v true [.int .i64 (Val.kind b1), .int .i64 (Val.n b1), .int .i64 (Val.step b1), .str (Val.text b1), .sl .ro .val (Val.list b1), .sl .ro .str (Val.columns b1), .sl .ro .row (Val.rows b1)])]
def S141_10 (x3 : Int) (x5 : Int) (b1 : Val) (b4 : Rowd) : St := [(2, .v false [.ptr 1 0]), (6, .v false [.int .i64 x3]), (8, .v false [.ptr 4 0]), (10, .v false [.int .i64 x5]), (3, .v true [.int .i64 (Val.kind b1), .int .i64 (Val.n b1), .int .i64 (Val.step b1), .str (Val.text b1), .sl .ro .val (Val.list b1), .sl .ro .str (Val.columns b1), .sl .ro .row (Val.rows b1)]), (9, .v true [.sl .ro .int (Rowd.cells b4), .sl .ro .org (Rowd.frm b4)])]
theorem p141_10_0 (x3 : Int) (x5 : Int) (b1 : Val) (b4 : Rowd) (r1 : Bool) : run tt (AbsCalls Try.prog) I141 3000 true (stkAt 10 I141.body) ⟨(S141_10 x3 x5 b1 b4), [true, true], [spec_l3Number_ro r1], []⟩ = some (.done (spec_l3Table_ro false) [(decide ((x5 : Int) < (List.length (Rowd.cells b4) : Int))) = true, (0 : Int) ≤ x5 ∧ x5 < (List.length (Rowd.cells b4)), AbsCalls Try.prog 95 (spec_l3Number_as (List.getD (Rowd.cells b4) (Int.toNat x5) Ty.int.dflt)) (spec_l3Number_ro r1), (!r1) = true]) := by kernel_rfl
theorem p141_10_1 (x3 : Int) (x5 : Int) (b1 : Val) (b4 : Rowd) (r1 : Bool) : run tt (AbsCalls Try.prog) I141 3000 true (stkAt 10 I141.body) ⟨(S141_10 x3 x5 b1 b4), [true, false], [spec_l3Number_ro r1], []⟩ = some (.stop (stkAt 10 I141.body) (S141_10 x3 (IntKind.i64.wrap (x5 + 1)) b1 b4) [(decide ((x5 : Int) < (List.length (Rowd.cells b4) : Int))) = true, (0 : Int) ≤ x5 ∧ x5 < (List.length (Rowd.cells b4)), AbsCalls Try.prog 95 (spec_l3Number_as (List.getD (Rowd.cells b4) (Int.toNat x5) Ty.int.dflt)) (spec_l3Number_ro r1), (!r1) = false]) := by kernel_rfl
theorem p141_10_2 (x3 : Int) (x5 : Int) (b1 : Val) (b4 : Rowd) : run tt (AbsCalls Try.prog) I141 3000 true (stkAt 10 I141.body) ⟨(S141_10 x3 x5 b1 b4), [false], [], []⟩ = some (.stop (stkAt 4 I141.body) (S141_4 (IntKind.i64.wrap (x3 + 1)) b1) [(decide ((x5 : Int) < (List.length (Rowd.cells b4) : Int))) = false]) := by kernel_rfl
theorem p141_4_3 (x3 : Int) (b1 : Val) : run tt (AbsCalls Try.prog) I141 3000 true (stkAt 4 I141.body) ⟨(S141_4 x3 b1), [true, true, true], [], []⟩ = some (.done (spec_l3Table_ro false) [(decide ((x3 : Int) < (List.length (Val.rows b1) : Int))) = true, (0 : Int) ≤ x3 ∧ x3 < (List.length (Val.rows b1)), (((List.length (Rowd.cells (List.getD (Val.rows b1) (Int.toNat x3) Ty.row.dflt)) : Int) : Int) != (List.length (Val.columns b1) : Int)) = true, true = true]) := by kernel_rfl
theorem p141_4_4 (x3 : Int) (b1 : Val) (r1 : Bool) : run tt (AbsCalls Try.prog) I141 3000 true (stkAt 4 I141.body) ⟨(S141_4 x3 b1), [true, false, true], [spec_l3Ascending_ro r1], []⟩ = some (.done (spec_l3Table_ro false) [(decide ((x3 : Int) < (List.length (Val.rows b1) : Int))) = true, (0 : Int) ≤ x3 ∧ x3 < (List.length (Val.rows b1)), (((List.length (Rowd.cells (List.getD (Val.rows b1) (Int.toNat x3) Ty.row.dflt)) : Int) : Int) != (List.length (Val.columns b1) : Int)) = false, AbsCalls Try.prog 152 (spec_l3Ascending_as (Rowd.frm (List.getD (Val.rows b1) (Int.toNat x3) Ty.row.dflt))) (spec_l3Ascending_ro r1), (!r1) = true]) := by kernel_rfl
theorem p141_4_5 (x3 : Int) (b1 : Val) (r1 : Bool) : run tt (AbsCalls Try.prog) I141 3000 true (stkAt 4 I141.body) ⟨(S141_4 x3 b1), [true, false, false], [spec_l3Ascending_ro r1], []⟩ = some (.stop (stkAt 10 I141.body) (S141_10 x3 0 b1 (List.getD (Val.rows b1) (Int.toNat x3) Ty.row.dflt)) [(decide ((x3 : Int) < (List.length (Val.rows b1) : Int))) = true, (0 : Int) ≤ x3 ∧ x3 < (List.length (Val.rows b1)), (((List.length (Rowd.cells (List.getD (Val.rows b1) (Int.toNat x3) Ty.row.dflt)) : Int) : Int) != (List.length (Val.columns b1) : Int)) = false, AbsCalls Try.prog 152 (spec_l3Ascending_as (Rowd.frm (List.getD (Val.rows b1) (Int.toNat x3) Ty.row.dflt))) (spec_l3Ascending_ro r1), (!r1) = false]) := by kernel_rfl
theorem p141_4_6 (x3 : Int) (b1 : Val) : run tt (AbsCalls Try.prog) I141 3000 true (stkAt 4 I141.body) ⟨(S141_4 x3 b1), [false], [], []⟩ = some (.done (spec_l3Table_ro true) [(decide ((x3 : Int) < (List.length (Val.rows b1) : Int))) = false]) := by kernel_rfl
theorem p141_e_7 (a0 : Val) (r1 : Bool) : run tt (AbsCalls Try.prog) I141 3000 false [.code I141.body] ⟨(entry 0 (spec_l3Table_as a0)), [true, true], [spec_l3Columns_ro r1], []⟩ = some (.done (spec_l3Table_ro false) [AbsCalls Try.prog 151 (spec_l3Columns_as (Val.columns a0)) (spec_l3Columns_ro r1), (!r1) = true, true = true]) := by kernel_rfl
theorem p141_e_8 (a0 : Val) (r1 : Bool) : run tt (AbsCalls Try.prog) I141 3000 false [.code I141.body] ⟨(entry 0 (spec_l3Table_as a0)), [false, true], [spec_l3Columns_ro r1], []⟩ = some (.done (spec_l3Table_ro false) [AbsCalls Try.prog 151 (spec_l3Columns_as (Val.columns a0)) (spec_l3Columns_ro r1), (!r1) = false, (decide (((List.length (Val.rows a0) : Int) : Int) > 12)) = true]) := by kernel_rfl
theorem p141_e_9 (a0 : Val) (r1 : Bool) : run tt (AbsCalls Try.prog) I141 3000 false [.code I141.body] ⟨(entry 0 (spec_l3Table_as a0)), [false, false], [spec_l3Columns_ro r1], []⟩ = some (.stop (stkAt 4 I141.body) (S141_4 0 a0) [AbsCalls Try.prog 151 (spec_l3Columns_as (Val.columns a0)) (spec_l3Columns_ro r1), (!r1) = false, (decide (((List.length (Val.rows a0) : Int) : Int) > 12)) = false]) := by kernel_rfl
theorem c141_10 {N : Nat} {k4 : Int → Val → Option (Bool)} (hk4 : ∀ z0 z1 r, k4 z0 z1 = some r → Reach Try.prog Try.f141 I141 (stkAt 4 I141.body) (S141_4 z0 z1) (spec_l3Table_ro r)) : ∀ n x3 x5 b1 b4 r, spec_l3Table_b10 N k4 n x3 x5 b1 b4 = some r → Reach Try.prog Try.f141 I141 (stkAt 10 I141.body) (S141_10 x3 x5 b1 b4) (spec_l3Table_ro r) := by
  intro n
  induction n with
  | zero => intro x3 x5 b1 b4 r h; have h' : (none : Option (Bool)) = some r := h; cases h'
  | succ n ih =>
    intro x3 x5 b1 b4 r h
    rw [spec_l3Table_b10] at h
    rcases cond_inv h with ⟨h0, h⟩ | ⟨h0, h⟩
    · obtain ⟨h1, h⟩ := ite_inv h
      obtain ⟨r1, h2, h⟩ := bind_inv h
      rcases cond_inv h with ⟨h3, h⟩ | ⟨h3, h⟩
      · obtain rfl := Option.some.inj h
        exact Reach.done ttok mix fk141 (p141_10_0 x3 x5 b1 b4 r1) (obs_cons h0 (obs_cons h1 (obs_cons (spec_l3Number_ok h2) (obs_cons h3 obs_nil))))
      · exact Reach.stop ttok mix fk141 (p141_10_1 x3 x5 b1 b4 r1) (obs_cons h0 (obs_cons h1 (obs_cons (spec_l3Number_ok h2) (obs_cons h3 obs_nil)))) (ih _ _ _ _ _ h)
    · exact Reach.stop ttok mix fk141 (p141_10_2 x3 x5 b1 b4) (obs_cons h0 obs_nil) (hk4 _ _ _ h)
theorem c141_4 {N : Nat} : ∀ n x3 b1 r, spec_l3Table_b4 N n x3 b1 = some r → Reach Try.prog Try.f141 I141 (stkAt 4 I141.body) (S141_4 x3 b1) (spec_l3Table_ro r) := by
  intro n
  induction n with
  | zero => intro x3 b1 r h; have h' : (none : Option (Bool)) = some r := h; cases h'
  | succ n ih =>
    intro x3 b1 r h
    rw [spec_l3Table_b4] at h
    rcases cond_inv h with ⟨h0, h⟩ | ⟨h0, h⟩
    · obtain ⟨h1, h⟩ := ite_inv h
      rcases cond_inv h with ⟨h2, h⟩ | ⟨h2, h⟩
      · obtain rfl := Option.some.inj h
        exact Reach.done ttok mix fk141 (p141_4_3 x3 b1) (obs_cons h0 (obs_cons h1 (obs_cons h2 (obs_cons rfl obs_nil))))
      · obtain ⟨r1, h3, h⟩ := bind_inv h
        rcases cond_inv h with ⟨h4, h⟩ | ⟨h4, h⟩
        · obtain rfl := Option.some.inj h
          exact Reach.done ttok mix fk141 (p141_4_4 x3 b1 r1) (obs_cons h0 (obs_cons h1 (obs_cons h2 (obs_cons (spec_l3Ascending_ok h3) (obs_cons h4 obs_nil)))))
        · exact Reach.stop ttok mix fk141 (p141_4_5 x3 b1 r1) (obs_cons h0 (obs_cons h1 (obs_cons h2 (obs_cons (spec_l3Ascending_ok h3) (obs_cons h4 obs_nil))))) (c141_10  ih _ _ _ _ _ _ h)
    · obtain rfl := Option.some.inj h
      exact Reach.done ttok mix fk141 (p141_4_6 x3 b1) (obs_cons h0 obs_nil)
theorem c141_e {N : Nat} : ∀ a0 r, spec_l3Table N a0 = some r → Reach Try.prog Try.f141 I141 [.code I141.body] (entry 0 (spec_l3Table_as a0)) (spec_l3Table_ro r) := by
  intro a0 r h
  unfold spec_l3Table at h
  obtain ⟨r1, h0, h⟩ := bind_inv h
  rcases cond_inv h with ⟨h1, h⟩ | ⟨h1, h⟩
  · obtain rfl := Option.some.inj h
    exact Reach.done ttok mix fk141 (p141_e_7 a0 r1) (obs_cons (spec_l3Columns_ok h0) (obs_cons h1 (obs_cons rfl obs_nil)))
  · rcases cond_inv h with ⟨h2, h⟩ | ⟨h2, h⟩
    · obtain rfl := Option.some.inj h
      exact Reach.done ttok mix fk141 (p141_e_8 a0 r1) (obs_cons (spec_l3Columns_ok h0) (obs_cons h1 (obs_cons h2 obs_nil)))
    · exact Reach.stop ttok mix fk141 (p141_e_9 a0 r1) (obs_cons (spec_l3Columns_ok h0) (obs_cons h1 (obs_cons h2 obs_nil))) (c141_4   _ _ _ _ h)
theorem spec_l3Table_ok {N : Nat} {a0 : Val} {r : Bool} (h : spec_l3Table N  a0 = some r) : AbsCalls Try.prog 141 (spec_l3Table_as a0) (spec_l3Table_ro r) :=
 AbsCalls.of_reach fk141 rfl rfl (Nat.le_of_ble_eq_true rfl) (c141_e a0 r h)
noncomputable def I108 : Info := { body := (Try.f108.body).getD .skip, nt := 95, results := [.tmp 2], keep := [0, 2, 4, 52, 88, 92, 94, 104, 124, 142, 162, 180, 3], live := [], modes := [(1, [(3, .take, false), (9, .take, false), (13, .take, false)]), (3, [(3, .take, false), (8, .take, false), (12, .take, false)]), (9, [(3, .take, false)]), (11, [(3, .take, false)]), (13, [(3, .take, false)]), (15, [(3, .take, false)])], ext := [], lnt := [], casts := [], fcast := [] }
theorem fk108 : FnOk Try.prog 108 Try.f108 I108 := ⟨Try.func108, by kernel_rfl, by kernel_rfl, by kernel_rfl, by kernel_rfl⟩
theorem p108_e_0 (a0 : Val) : run tt (AbsCalls Try.prog) I108 3000 false [.code I108.body] ⟨(entry 0 (spec_IsValidValue_as a0)), [true, true, true], [], []⟩ = some (.done (spec_IsValidValue_ro false) [(((Val.kind a0) : Int) != 3) = true, (decide (((List.length (Val.list a0) : Int) : Int) > 0)) = true, true = true]) := by kernel_rfl
theorem p108_e_1 (a0 : Val) : run tt (AbsCalls Try.prog) I108 3000 false [.code I108.body] ⟨(entry 0 (spec_IsValidValue_as a0)), [true, false, true, true], [], []⟩ = some (.done (spec_IsValidValue_ro false) [(((Val.kind a0) : Int) != 3) = true, (decide (((List.length (Val.list a0) : Int) : Int) > 0)) = false, (((Val.kind a0) : Int) != 5) = true, (decide (((IntKind.i64.wrap ((List.length (Val.columns a0) : Int) + (List.length (Val.rows a0) : Int))) : Int) > 0)) = true]) := by kernel_rfl
theorem p108_e_2 (a0 : Val) : run tt (AbsCalls Try.prog) I108 3000 false [.code I108.body] ⟨(entry 0 (spec_IsValidValue_as a0)), [true, false, true, false, true, true, true], [], []⟩ = some (.done (spec_IsValidValue_ro false) [(((Val.kind a0) : Int) != 3) = true, (decide (((List.length (Val.list a0) : Int) : Int) > 0)) = false, (((Val.kind a0) : Int) != 5) = true, (decide (((IntKind.i64.wrap ((List.length (Val.columns a0) : Int) + (List.length (Val.rows a0) : Int))) : Int) > 0)) = false, (((Val.kind a0) : Int) != 2) = true, (!(((Val.text a0) : Str) == [])) = true, true = true]) := by kernel_rfl
theorem p108_e_3 (a0 : Val) : run tt (AbsCalls Try.prog) I108 3000 false [.code I108.body] ⟨(entry 0 (spec_IsValidValue_as a0)), [true, false, true, false, true, false, true, true], [], []⟩ = some (.done (spec_IsValidValue_ro false) [(((Val.kind a0) : Int) != 3) = true, (decide (((List.length (Val.list a0) : Int) : Int) > 0)) = false, (((Val.kind a0) : Int) != 5) = true, (decide (((IntKind.i64.wrap ((List.length (Val.columns a0) : Int) + (List.length (Val.rows a0) : Int))) : Int) > 0)) = false, (((Val.kind a0) : Int) != 2) = true, (!(((Val.text a0) : Str) == [])) = false, (((Val.kind a0) : Int) != 4) = true, (((Val.step a0) : Int) != 0) = true]) := by kernel_rfl
theorem p108_e_4 (a0 : Val) (r1 : Bool) : run tt (AbsCalls Try.prog) I108 3000 false [.code I108.body] ⟨(entry 0 (spec_IsValidValue_as a0)), [true, false, true, false, true, false, true, false, true], [spec_l3Number_ro r1], []⟩ = some (.done (spec_IsValidValue_ro r1) [(((Val.kind a0) : Int) != 3) = true, (decide (((List.length (Val.list a0) : Int) : Int) > 0)) = false, (((Val.kind a0) : Int) != 5) = true, (decide (((IntKind.i64.wrap ((List.length (Val.columns a0) : Int) + (List.length (Val.rows a0) : Int))) : Int) > 0)) = false, (((Val.kind a0) : Int) != 2) = true, (!(((Val.text a0) : Str) == [])) = false, (((Val.kind a0) : Int) != 4) = true, (((Val.step a0) : Int) != 0) = false, (((Val.kind a0) : Int) == 1) = true, AbsCalls Try.prog 95 (spec_l3Number_as (Val.n a0)) (spec_l3Number_ro r1)]) := by kernel_rfl
theorem p108_e_5 (a0 : Val) (r1 : Bool) : run tt (AbsCalls Try.prog) I108 3000 false [.code I108.body] ⟨(entry 0 (spec_IsValidValue_as a0)), [true, false, true, false, true, false, true, false, false, false, false, false, false, true], [spec_l1In_ro r1], []⟩ = some (.done (spec_IsValidValue_ro r1) [(((Val.kind a0) : Int) != 3) = true, (decide (((List.length (Val.list a0) : Int) : Int) > 0)) = false, (((Val.kind a0) : Int) != 5) = true, (decide (((IntKind.i64.wrap ((List.length (Val.columns a0) : Int) + (List.length (Val.rows a0) : Int))) : Int) > 0)) = false, (((Val.kind a0) : Int) != 2) = true, (!(((Val.text a0) : Str) == [])) = false, (((Val.kind a0) : Int) != 4) = true, (((Val.step a0) : Int) != 0) = false, (((Val.kind a0) : Int) == 1) = false, (((Val.kind a0) : Int) == 2) = false, (((Val.kind a0) : Int) == 3) = false, (((Val.kind a0) : Int) == 4) = false, (((Val.kind a0) : Int) == 5) = false, (((Val.kind a0) : Int) == 6) = true, AbsCalls Try.prog 97 (spec_l1In_as (Val.n a0) 1 8) (spec_l1In_ro r1)]) := by kernel_rfl
theorem p108_e_6 (a0 : Val) : run tt (AbsCalls Try.prog) I108 3000 false [.code I108.body] ⟨(entry 0 (spec_IsValidValue_as a0)), [true, false, true, false, true, false, true, false, false, false, false, false, false, false], [], []⟩ = some (.done (spec_IsValidValue_ro false) [(((Val.kind a0) : Int) != 3) = true, (decide (((List.length (Val.list a0) : Int) : Int) > 0)) = false, (((Val.kind a0) : Int) != 5) = true, (decide (((IntKind.i64.wrap ((List.length (Val.columns a0) : Int) + (List.length (Val.rows a0) : Int))) : Int) > 0)) = false, (((Val.kind a0) : Int) != 2) = true, (!(((Val.text a0) : Str) == [])) = false, (((Val.kind a0) : Int) != 4) = true, (((Val.step a0) : Int) != 0) = false, (((Val.kind a0) : Int) == 1) = false, (((Val.kind a0) : Int) == 2) = false, (((Val.kind a0) : Int) == 3) = false, (((Val.kind a0) : Int) == 4) = false, (((Val.kind a0) : Int) == 5) = false, (((Val.kind a0) : Int) == 6) = false]) := by kernel_rfl
theorem p108_e_7 (a0 : Val) (r1 : Bool) (r2 : Bool) : run tt (AbsCalls Try.prog) I108 3000 false [.code I108.body] ⟨(entry 0 (spec_IsValidValue_as a0)), [true, false, true, false, true, false, false, false, false, false, false, true, true], [spec_l3Number_ro r1, spec_l3Number_ro r2], []⟩ = some (.done (spec_IsValidValue_ro r2) [(((Val.kind a0) : Int) != 3) = true, (decide (((List.length (Val.list a0) : Int) : Int) > 0)) = false, (((Val.kind a0) : Int) != 5) = true, (decide (((IntKind.i64.wrap ((List.length (Val.columns a0) : Int) + (List.length (Val.rows a0) : Int))) : Int) > 0)) = false, (((Val.kind a0) : Int) != 2) = true, (!(((Val.text a0) : Str) == [])) = false, (((Val.kind a0) : Int) != 4) = false, false = false, (((Val.kind a0) : Int) == 1) = false, (((Val.kind a0) : Int) == 2) = false, (((Val.kind a0) : Int) == 3) = false, (((Val.kind a0) : Int) == 4) = true, AbsCalls Try.prog 95 (spec_l3Number_as (Val.n a0)) (spec_l3Number_ro r1), r1 = true, AbsCalls Try.prog 95 (spec_l3Number_as (Val.step a0)) (spec_l3Number_ro r2)]) := by kernel_rfl
theorem p108_e_8 (a0 : Val) (r1 : Bool) : run tt (AbsCalls Try.prog) I108 3000 false [.code I108.body] ⟨(entry 0 (spec_IsValidValue_as a0)), [true, false, true, false, true, false, false, false, false, false, false, true, false], [spec_l3Number_ro r1], []⟩ = some (.done (spec_IsValidValue_ro false) [(((Val.kind a0) : Int) != 3) = true, (decide (((List.length (Val.list a0) : Int) : Int) > 0)) = false, (((Val.kind a0) : Int) != 5) = true, (decide (((IntKind.i64.wrap ((List.length (Val.columns a0) : Int) + (List.length (Val.rows a0) : Int))) : Int) > 0)) = false, (((Val.kind a0) : Int) != 2) = true, (!(((Val.text a0) : Str) == [])) = false, (((Val.kind a0) : Int) != 4) = false, false = false, (((Val.kind a0) : Int) == 1) = false, (((Val.kind a0) : Int) == 2) = false, (((Val.kind a0) : Int) == 3) = false, (((Val.kind a0) : Int) == 4) = true, AbsCalls Try.prog 95 (spec_l3Number_as (Val.n a0)) (spec_l3Number_ro r1), r1 = false]) := by kernel_rfl
theorem p108_e_9 (a0 : Val) : run tt (AbsCalls Try.prog) I108 3000 false [.code I108.body] ⟨(entry 0 (spec_IsValidValue_as a0)), [true, false, true, false, false, false, true, true], [], []⟩ = some (.done (spec_IsValidValue_ro false) [(((Val.kind a0) : Int) != 3) = true, (decide (((List.length (Val.list a0) : Int) : Int) > 0)) = false, (((Val.kind a0) : Int) != 5) = true, (decide (((IntKind.i64.wrap ((List.length (Val.columns a0) : Int) + (List.length (Val.rows a0) : Int))) : Int) > 0)) = false, (((Val.kind a0) : Int) != 2) = false, false = false, (((Val.kind a0) : Int) != 4) = true, (((Val.step a0) : Int) != 0) = true]) := by kernel_rfl
theorem p108_e_10 (a0 : Val) (r1 : Bool) : run tt (AbsCalls Try.prog) I108 3000 false [.code I108.body] ⟨(entry 0 (spec_IsValidValue_as a0)), [true, false, true, false, false, false, true, false, false, true, true], [spec_IsValidText_ro r1], []⟩ = some (.done (spec_IsValidValue_ro r1) [(((Val.kind a0) : Int) != 3) = true, (decide (((List.length (Val.list a0) : Int) : Int) > 0)) = false, (((Val.kind a0) : Int) != 5) = true, (decide (((IntKind.i64.wrap ((List.length (Val.columns a0) : Int) + (List.length (Val.rows a0) : Int))) : Int) > 0)) = false, (((Val.kind a0) : Int) != 2) = false, false = false, (((Val.kind a0) : Int) != 4) = true, (((Val.step a0) : Int) != 0) = false, (((Val.kind a0) : Int) == 1) = false, (((Val.kind a0) : Int) == 2) = true, (((Val.n a0) : Int) == 0) = true, AbsCalls Try.prog 139 (spec_IsValidText_as (Val.text a0)) (spec_IsValidText_ro r1)]) := by kernel_rfl
theorem p108_e_11 (a0 : Val) : run tt (AbsCalls Try.prog) I108 3000 false [.code I108.body] ⟨(entry 0 (spec_IsValidValue_as a0)), [true, false, true, false, false, false, true, false, false, true, false], [], []⟩ = some (.done (spec_IsValidValue_ro false) [(((Val.kind a0) : Int) != 3) = true, (decide (((List.length (Val.list a0) : Int) : Int) > 0)) = false, (((Val.kind a0) : Int) != 5) = true, (decide (((IntKind.i64.wrap ((List.length (Val.columns a0) : Int) + (List.length (Val.rows a0) : Int))) : Int) > 0)) = false, (((Val.kind a0) : Int) != 2) = false, false = false, (((Val.kind a0) : Int) != 4) = true, (((Val.step a0) : Int) != 0) = false, (((Val.kind a0) : Int) == 1) = false, (((Val.kind a0) : Int) == 2) = true, (((Val.n a0) : Int) == 0) = false]) := by kernel_rfl
theorem p108_e_12 (a0 : Val) : run tt (AbsCalls Try.prog) I108 3000 false [.code I108.body] ⟨(entry 0 (spec_IsValidValue_as a0)), [true, false, false, false, true, true, true], [], []⟩ = some (.done (spec_IsValidValue_ro false) [(((Val.kind a0) : Int) != 3) = true, (decide (((List.length (Val.list a0) : Int) : Int) > 0)) = false, (((Val.kind a0) : Int) != 5) = false, false = false, (((Val.kind a0) : Int) != 2) = true, (!(((Val.text a0) : Str) == [])) = true, true = true]) := by kernel_rfl
theorem p108_e_13 (a0 : Val) : run tt (AbsCalls Try.prog) I108 3000 false [.code I108.body] ⟨(entry 0 (spec_IsValidValue_as a0)), [true, false, false, false, true, false, true, true], [], []⟩ = some (.done (spec_IsValidValue_ro false) [(((Val.kind a0) : Int) != 3) = true, (decide (((List.length (Val.list a0) : Int) : Int) > 0)) = false, (((Val.kind a0) : Int) != 5) = false, false = false, (((Val.kind a0) : Int) != 2) = true, (!(((Val.text a0) : Str) == [])) = false, (((Val.kind a0) : Int) != 4) = true, (((Val.step a0) : Int) != 0) = true]) := by kernel_rfl
theorem p108_e_14 (a0 : Val) (r1 : Bool) : run tt (AbsCalls Try.prog) I108 3000 false [.code I108.body] ⟨(entry 0 (spec_IsValidValue_as a0)), [true, false, false, false, true, false, true, false, false, false, false, false, true, true], [spec_l3Table_ro r1], []⟩ = some (.done (spec_IsValidValue_ro r1) [(((Val.kind a0) : Int) != 3) = true, (decide (((List.length (Val.list a0) : Int) : Int) > 0)) = false, (((Val.kind a0) : Int) != 5) = false, false = false, (((Val.kind a0) : Int) != 2) = true, (!(((Val.text a0) : Str) == [])) = false, (((Val.kind a0) : Int) != 4) = true, (((Val.step a0) : Int) != 0) = false, (((Val.kind a0) : Int) == 1) = false, (((Val.kind a0) : Int) == 2) = false, (((Val.kind a0) : Int) == 3) = false, (((Val.kind a0) : Int) == 4) = false, (((Val.kind a0) : Int) == 5) = true, (((Val.n a0) : Int) == 0) = true, AbsCalls Try.prog 141 (spec_l3Table_as a0) (spec_l3Table_ro r1)]) := by kernel_rfl
theorem p108_e_15 (a0 : Val) : run tt (AbsCalls Try.prog) I108 3000 false [.code I108.body] ⟨(entry 0 (spec_IsValidValue_as a0)), [true, false, false, false, true, false, true, false, false, false, false, false, true, false], [], []⟩ = some (.done (spec_IsValidValue_ro false) [(((Val.kind a0) : Int) != 3) = true, (decide (((List.length (Val.list a0) : Int) : Int) > 0)) = false, (((Val.kind a0) : Int) != 5) = false, false = false, (((Val.kind a0) : Int) != 2) = true, (!(((Val.text a0) : Str) == [])) = false, (((Val.kind a0) : Int) != 4) = true, (((Val.step a0) : Int) != 0) = false, (((Val.kind a0) : Int) == 1) = false, (((Val.kind a0) : Int) == 2) = false, (((Val.kind a0) : Int) == 3) = false, (((Val.kind a0) : Int) == 4) = false, (((Val.kind a0) : Int) == 5) = true, (((Val.n a0) : Int) == 0) = false]) := by kernel_rfl
theorem p108_e_16 (a0 : Val) : run tt (AbsCalls Try.prog) I108 3000 false [.code I108.body] ⟨(entry 0 (spec_IsValidValue_as a0)), [false, false, true, true], [], []⟩ = some (.done (spec_IsValidValue_ro false) [(((Val.kind a0) : Int) != 3) = false, false = false, (((Val.kind a0) : Int) != 5) = true, (decide (((IntKind.i64.wrap ((List.length (Val.columns a0) : Int) + (List.length (Val.rows a0) : Int))) : Int) > 0)) = true]) := by kernel_rfl
theorem p108_e_17 (a0 : Val) : run tt (AbsCalls Try.prog) I108 3000 false [.code I108.body] ⟨(entry 0 (spec_IsValidValue_as a0)), [false, false, true, false, true, true, true], [], []⟩ = some (.done (spec_IsValidValue_ro false) [(((Val.kind a0) : Int) != 3) = false, false = false, (((Val.kind a0) : Int) != 5) = true, (decide (((IntKind.i64.wrap ((List.length (Val.columns a0) : Int) + (List.length (Val.rows a0) : Int))) : Int) > 0)) = false, (((Val.kind a0) : Int) != 2) = true, (!(((Val.text a0) : Str) == [])) = true, true = true]) := by kernel_rfl
theorem p108_e_18 (a0 : Val) : run tt (AbsCalls Try.prog) I108 3000 false [.code I108.body] ⟨(entry 0 (spec_IsValidValue_as a0)), [false, false, true, false, true, false, true, true], [], []⟩ = some (.done (spec_IsValidValue_ro false) [(((Val.kind a0) : Int) != 3) = false, false = false, (((Val.kind a0) : Int) != 5) = true, (decide (((IntKind.i64.wrap ((List.length (Val.columns a0) : Int) + (List.length (Val.rows a0) : Int))) : Int) > 0)) = false, (((Val.kind a0) : Int) != 2) = true, (!(((Val.text a0) : Str) == [])) = false, (((Val.kind a0) : Int) != 4) = true, (((Val.step a0) : Int) != 0) = true]) := by kernel_rfl
theorem p108_e_19 (a0 : Val) (r1 : Bool) : run tt (AbsCalls Try.prog) I108 3000 false [.code I108.body] ⟨(entry 0 (spec_IsValidValue_as a0)), [false, false, true, false, true, false, true, false, false, false, true, true], [spec_l3List_ro r1], []⟩ = some (.done (spec_IsValidValue_ro r1) [(((Val.kind a0) : Int) != 3) = false, false = false, (((Val.kind a0) : Int) != 5) = true, (decide (((IntKind.i64.wrap ((List.length (Val.columns a0) : Int) + (List.length (Val.rows a0) : Int))) : Int) > 0)) = false, (((Val.kind a0) : Int) != 2) = true, (!(((Val.text a0) : Str) == [])) = false, (((Val.kind a0) : Int) != 4) = true, (((Val.step a0) : Int) != 0) = false, (((Val.kind a0) : Int) == 1) = false, (((Val.kind a0) : Int) == 2) = false, (((Val.kind a0) : Int) == 3) = true, (((Val.n a0) : Int) == 0) = true, AbsCalls Try.prog 140 (spec_l3List_as a0) (spec_l3List_ro r1)]) := by kernel_rfl
theorem p108_e_20 (a0 : Val) : run tt (AbsCalls Try.prog) I108 3000 false [.code I108.body] ⟨(entry 0 (spec_IsValidValue_as a0)), [false, false, true, false, true, false, true, false, false, false, true, false], [], []⟩ = some (.done (spec_IsValidValue_ro false) [(((Val.kind a0) : Int) != 3) = false, false = false, (((Val.kind a0) : Int) != 5) = true, (decide (((IntKind.i64.wrap ((List.length (Val.columns a0) : Int) + (List.length (Val.rows a0) : Int))) : Int) > 0)) = false, (((Val.kind a0) : Int) != 2) = true, (!(((Val.text a0) : Str) == [])) = false, (((Val.kind a0) : Int) != 4) = true, (((Val.step a0) : Int) != 0) = false, (((Val.kind a0) : Int) == 1) = false, (((Val.kind a0) : Int) == 2) = false, (((Val.kind a0) : Int) == 3) = true, (((Val.n a0) : Int) == 0) = false]) := by kernel_rfl
theorem c108_e {N : Nat} {rc_spec_IsValidValue : Val → Option (Bool)} (hrc_spec_IsValidValue : ∀ a0 r, rc_spec_IsValidValue a0 = some r → AbsCalls Try.prog 108 (spec_IsValidValue_as a0) (spec_IsValidValue_ro r)) {rc_spec_l3List : Val → Option (Bool)} (hrc_spec_l3List : ∀ a0 r, rc_spec_l3List a0 = some r → AbsCalls Try.prog 140 (spec_l3List_as a0) (spec_l3List_ro r)) : ∀ a0 r, spec_IsValidValue_body N rc_spec_IsValidValue rc_spec_l3List a0 = some r → Reach Try.prog Try.f108 I108 [.code I108.body] (entry 0 (spec_IsValidValue_as a0)) (spec_IsValidValue_ro r) := by
  intro a0 r h
  unfold spec_IsValidValue_body at h
  rcases cond_inv h with ⟨h0, h⟩ | ⟨h0, h⟩
  · rcases cond_inv h with ⟨h1, h⟩ | ⟨h1, h⟩
    · obtain rfl := Option.some.inj h
      exact Reach.done ttok mix fk108 (p108_e_0 a0) (obs_cons h0 (obs_cons h1 (obs_cons rfl obs_nil)))
    · rcases cond_inv h with ⟨h2, h⟩ | ⟨h2, h⟩
      · rcases cond_inv h with ⟨h3, h⟩ | ⟨h3, h⟩
        · obtain rfl := Option.some.inj h
          exact Reach.done ttok mix fk108 (p108_e_1 a0) (obs_cons h0 (obs_cons h1 (obs_cons h2 (obs_cons h3 obs_nil))))
        · rcases cond_inv h with ⟨h4, h⟩ | ⟨h4, h⟩
          · rcases cond_inv h with ⟨h5, h⟩ | ⟨h5, h⟩
            · obtain rfl := Option.some.inj h
              exact Reach.done ttok mix fk108 (p108_e_2 a0) (obs_cons h0 (obs_cons h1 (obs_cons h2 (obs_cons h3 (obs_cons h4 (obs_cons h5 (obs_cons rfl obs_nil)))))))
            · rcases cond_inv h with ⟨h6, h⟩ | ⟨h6, h⟩
              · rcases cond_inv h with ⟨h7, h⟩ | ⟨h7, h⟩
                · obtain rfl := Option.some.inj h
                  exact Reach.done ttok mix fk108 (p108_e_3 a0) (obs_cons h0 (obs_cons h1 (obs_cons h2 (obs_cons h3 (obs_cons h4 (obs_cons h5 (obs_cons h6 (obs_cons h7 obs_nil))))))))
                · rcases cond_inv h with ⟨h8, h⟩ | ⟨h8, h⟩
                  · obtain ⟨r1, h9, h⟩ := bind_inv h
                    obtain rfl := Option.some.inj h
                    exact Reach.done ttok mix fk108 (p108_e_4 a0 r1) (obs_cons h0 (obs_cons h1 (obs_cons h2 (obs_cons h3 (obs_cons h4 (obs_cons h5 (obs_cons h6 (obs_cons h7 (obs_cons h8 (obs_cons (spec_l3Number_ok h9) obs_nil))))))))))
                  · rcases cond_inv h with ⟨h13, h⟩ | ⟨h13, h⟩
                    · obtain ⟨r1, h14, h⟩ := bind_inv h
                      obtain rfl := Option.some.inj h
                      exact Reach.done ttok mix fk108 (p108_e_5 a0 r1) (obs_cons h0 (obs_cons h1 (obs_cons h2 (obs_cons h3 (obs_cons h4 (obs_cons h5 (obs_cons h6 (obs_cons h7 (obs_cons h8 (obs_cons (of_not h4) (obs_cons (of_not h0) (obs_cons (of_not h6) (obs_cons (of_not h2) (obs_cons h13 (obs_cons (spec_l1In_ok h14) obs_nil)))))))))))))))
                    · obtain rfl := Option.some.inj h
                      exact Reach.done ttok mix fk108 (p108_e_6 a0) (obs_cons h0 (obs_cons h1 (obs_cons h2 (obs_cons h3 (obs_cons h4 (obs_cons h5 (obs_cons h6 (obs_cons h7 (obs_cons h8 (obs_cons (of_not h4) (obs_cons (of_not h0) (obs_cons (of_not h6) (obs_cons (of_not h2) (obs_cons h13 obs_nil))))))))))))))
              · obtain ⟨r1, h12, h⟩ := bind_inv h
                rcases cond_inv h with ⟨h13, h⟩ | ⟨h13, h⟩
                · obtain ⟨r2, h14, h⟩ := bind_inv h
                  obtain rfl := Option.some.inj h
                  exact Reach.done ttok mix fk108 (p108_e_7 a0 r1 r2) (obs_cons h0 (obs_cons h1 (obs_cons h2 (obs_cons h3 (obs_cons h4 (obs_cons h5 (obs_cons h6 (obs_cons rfl (obs_cons (eq_ne (of_not h6) rfl) (obs_cons (of_not h4) (obs_cons (of_not h0) (obs_cons (of_not h6) (obs_cons (spec_l3Number_ok h12) (obs_cons h13 (obs_cons (spec_l3Number_ok h14) obs_nil)))))))))))))))
                · obtain rfl := Option.some.inj h
                  exact Reach.done ttok mix fk108 (p108_e_8 a0 r1) (obs_cons h0 (obs_cons h1 (obs_cons h2 (obs_cons h3 (obs_cons h4 (obs_cons h5 (obs_cons h6 (obs_cons rfl (obs_cons (eq_ne (of_not h6) rfl) (obs_cons (of_not h4) (obs_cons (of_not h0) (obs_cons (of_not h6) (obs_cons (spec_l3Number_ok h12) (obs_cons h13 obs_nil))))))))))))))
          · rcases cond_inv h with ⟨h7, h⟩ | ⟨h7, h⟩
            · obtain rfl := Option.some.inj h
              exact Reach.done ttok mix fk108 (p108_e_9 a0) (obs_cons h0 (obs_cons h1 (obs_cons h2 (obs_cons h3 (obs_cons h4 (obs_cons rfl (obs_cons (not_of (eq_ne (of_not h4) rfl)) (obs_cons h7 obs_nil))))))))
            · rcases cond_inv h with ⟨h10, h⟩ | ⟨h10, h⟩
              · obtain ⟨r1, h11, h⟩ := bind_inv h
                obtain rfl := Option.some.inj h
                exact Reach.done ttok mix fk108 (p108_e_10 a0 r1) (obs_cons h0 (obs_cons h1 (obs_cons h2 (obs_cons h3 (obs_cons h4 (obs_cons rfl (obs_cons (not_of (eq_ne (of_not h4) rfl)) (obs_cons h7 (obs_cons (eq_ne (of_not h4) rfl) (obs_cons (of_not h4) (obs_cons h10 (obs_cons (spec_IsValidText_ok h11) obs_nil))))))))))))
              · obtain rfl := Option.some.inj h
                exact Reach.done ttok mix fk108 (p108_e_11 a0) (obs_cons h0 (obs_cons h1 (obs_cons h2 (obs_cons h3 (obs_cons h4 (obs_cons rfl (obs_cons (not_of (eq_ne (of_not h4) rfl)) (obs_cons h7 (obs_cons (eq_ne (of_not h4) rfl) (obs_cons (of_not h4) (obs_cons h10 obs_nil)))))))))))
      · rcases cond_inv h with ⟨h5, h⟩ | ⟨h5, h⟩
        · obtain rfl := Option.some.inj h
          exact Reach.done ttok mix fk108 (p108_e_12 a0) (obs_cons h0 (obs_cons h1 (obs_cons h2 (obs_cons rfl (obs_cons (not_of (eq_ne (of_not h2) rfl)) (obs_cons h5 (obs_cons rfl obs_nil)))))))
        · rcases cond_inv h with ⟨h7, h⟩ | ⟨h7, h⟩
          · obtain rfl := Option.some.inj h
            exact Reach.done ttok mix fk108 (p108_e_13 a0) (obs_cons h0 (obs_cons h1 (obs_cons h2 (obs_cons rfl (obs_cons (not_of (eq_ne (of_not h2) rfl)) (obs_cons h5 (obs_cons (not_of (eq_ne (of_not h2) rfl)) (obs_cons h7 obs_nil))))))))
          · rcases cond_inv h with ⟨h13, h⟩ | ⟨h13, h⟩
            · obtain ⟨r1, h14, h⟩ := bind_inv h
              obtain rfl := Option.some.inj h
              exact Reach.done ttok mix fk108 (p108_e_14 a0 r1) (obs_cons h0 (obs_cons h1 (obs_cons h2 (obs_cons rfl (obs_cons (not_of (eq_ne (of_not h2) rfl)) (obs_cons h5 (obs_cons (not_of (eq_ne (of_not h2) rfl)) (obs_cons h7 (obs_cons (eq_ne (of_not h2) rfl) (obs_cons (eq_ne (of_not h2) rfl) (obs_cons (of_not h0) (obs_cons (eq_ne (of_not h2) rfl) (obs_cons (of_not h2) (obs_cons h13 (obs_cons (spec_l3Table_ok h14) obs_nil)))))))))))))))
            · obtain rfl := Option.some.inj h
              exact Reach.done ttok mix fk108 (p108_e_15 a0) (obs_cons h0 (obs_cons h1 (obs_cons h2 (obs_cons rfl (obs_cons (not_of (eq_ne (of_not h2) rfl)) (obs_cons h5 (obs_cons (not_of (eq_ne (of_not h2) rfl)) (obs_cons h7 (obs_cons (eq_ne (of_not h2) rfl) (obs_cons (eq_ne (of_not h2) rfl) (obs_cons (of_not h0) (obs_cons (eq_ne (of_not h2) rfl) (obs_cons (of_not h2) (obs_cons h13 obs_nil))))))))))))))
  · rcases cond_inv h with ⟨h3, h⟩ | ⟨h3, h⟩
    · obtain rfl := Option.some.inj h
      exact Reach.done ttok mix fk108 (p108_e_16 a0) (obs_cons h0 (obs_cons rfl (obs_cons (not_of (eq_ne (of_not h0) rfl)) (obs_cons h3 obs_nil))))
    · rcases cond_inv h with ⟨h5, h⟩ | ⟨h5, h⟩
      · obtain rfl := Option.some.inj h
        exact Reach.done ttok mix fk108 (p108_e_17 a0) (obs_cons h0 (obs_cons rfl (obs_cons (not_of (eq_ne (of_not h0) rfl)) (obs_cons h3 (obs_cons (not_of (eq_ne (of_not h0) rfl)) (obs_cons h5 (obs_cons rfl obs_nil)))))))
      · rcases cond_inv h with ⟨h7, h⟩ | ⟨h7, h⟩
        · obtain rfl := Option.some.inj h
          exact Reach.done ttok mix fk108 (p108_e_18 a0) (obs_cons h0 (obs_cons rfl (obs_cons (not_of (eq_ne (of_not h0) rfl)) (obs_cons h3 (obs_cons (not_of (eq_ne (of_not h0) rfl)) (obs_cons h5 (obs_cons (not_of (eq_ne (of_not h0) rfl)) (obs_cons h7 obs_nil))))))))
        · rcases cond_inv h with ⟨h11, h⟩ | ⟨h11, h⟩
          · obtain ⟨r1, h12, h⟩ := bind_inv h
            obtain rfl := Option.some.inj h
            exact Reach.done ttok mix fk108 (p108_e_19 a0 r1) (obs_cons h0 (obs_cons rfl (obs_cons (not_of (eq_ne (of_not h0) rfl)) (obs_cons h3 (obs_cons (not_of (eq_ne (of_not h0) rfl)) (obs_cons h5 (obs_cons (not_of (eq_ne (of_not h0) rfl)) (obs_cons h7 (obs_cons (eq_ne (of_not h0) rfl) (obs_cons (eq_ne (of_not h0) rfl) (obs_cons (of_not h0) (obs_cons h11 (obs_cons (hrc_spec_l3List _ _ h12) obs_nil)))))))))))))
          · obtain rfl := Option.some.inj h
            exact Reach.done ttok mix fk108 (p108_e_20 a0) (obs_cons h0 (obs_cons rfl (obs_cons (not_of (eq_ne (of_not h0) rfl)) (obs_cons h3 (obs_cons (not_of (eq_ne (of_not h0) rfl)) (obs_cons h5 (obs_cons (not_of (eq_ne (of_not h0) rfl)) (obs_cons h7 (obs_cons (eq_ne (of_not h0) rfl) (obs_cons (eq_ne (of_not h0) rfl) (obs_cons (of_not h0) (obs_cons h11 obs_nil))))))))))))
theorem spec_IsValidValue_body_ok {N : Nat} {rc_spec_IsValidValue : Val → Option (Bool)} (hrc_spec_IsValidValue : ∀ a0 r, rc_spec_IsValidValue a0 = some r → AbsCalls Try.prog 108 (spec_IsValidValue_as a0) (spec_IsValidValue_ro r)) {rc_spec_l3List : Val → Option (Bool)} (hrc_spec_l3List : ∀ a0 r, rc_spec_l3List a0 = some r → AbsCalls Try.prog 140 (spec_l3List_as a0) (spec_l3List_ro r)) {a0 : Val} {r : Bool} (h : spec_IsValidValue_body N rc_spec_IsValidValue rc_spec_l3List a0 = some r) : AbsCalls Try.prog 108 (spec_IsValidValue_as a0) (spec_IsValidValue_ro r) :=
 AbsCalls.of_reach fk108 rfl rfl (Nat.le_of_ble_eq_true rfl) (c108_e hrc_spec_IsValidValue hrc_spec_l3List a0 r h)
noncomputable def I140 : Info := { body := (Try.f140.body).getD .skip, nt := 36, results := [.tmp 2], keep := [0, 2, 4, 6, 16, 52, 3], live := [(2, [2, 6, 3])], modes := [(4, [(7, .take, false)]), (6, [(4, .take, false)])], ext := [], lnt := [], casts := [], fcast := [] }
theorem fk140 : FnOk Try.prog 140 Try.f140 I140 := ⟨Try.func140, by kernel_rfl, by kernel_rfl, by kernel_rfl, by kernel_rfl⟩
def S140_2 (x3 : Int) (b1 : Val) : St := [(2, .v false [.ptr 1 0]), (6, .v false [.int .i64 x3]), (3, .v true [.int .i64 (Val.kind b1), .int .i64 (Val.n b1), .int .i64 (Val.step b1), .str (Val.text b1), .sl .ro .val (Val.list b1), .sl .ro .str (Val.columns b1), .sl .ro .row (Val.rows b1)])]
theorem p140_2_0 (x3 : Int) (b1 : Val) (r1 : Bool) : run tt (AbsCalls Try.prog) I140 3000 true (stkAt 2 I140.body) ⟨(S140_2 x3 b1), [true, true, true], [spec_l3Element_ro r1], []⟩ = some (.done (spec_l3List_ro false) [(decide ((x3 : Int) < (List.length (Val.list b1) : Int))) = true, (0 : Int) ≤ x3 ∧ x3 < (List.length (Val.list b1)), AbsCalls Try.prog 123 (spec_l3Element_as (List.getD (Val.list b1) (Int.toNat x3) Ty.val.dflt)) (spec_l3Element_ro r1), (!r1) = true, true = true]) := by kernel_rfl
theorem p140_2_1 (x3 : Int) (b1 : Val) (r1 : Bool) (r2 : Bool) : run tt (AbsCalls Try.prog) I140 3000 true (stkAt 2 I140.body) ⟨(S140_2 x3 b1), [true, false, true], [spec_l3Element_ro r1, spec_IsValidValue_ro r2], []⟩ = some (.done (spec_l3List_ro false) [(decide ((x3 : Int) < (List.length (Val.list b1) : Int))) = true, (0 : Int) ≤ x3 ∧ x3 < (List.length (Val.list b1)), AbsCalls Try.prog 123 (spec_l3Element_as (List.getD (Val.list b1) (Int.toNat x3) Ty.val.dflt)) (spec_l3Element_ro r1), (!r1) = false, (0 : Int) ≤ x3 ∧ x3 < (List.length (Val.list b1)), AbsCalls Try.prog 108 (spec_IsValidValue_as (List.getD (Val.list b1) (Int.toNat x3) Ty.val.dflt)) (spec_IsValidValue_ro r2), (!r2) = true]) := by kernel_rfl
theorem p140_2_2 (x3 : Int) (b1 : Val) (r1 : Bool) (r2 : Bool) : run tt (AbsCalls Try.prog) I140 3000 true (stkAt 2 I140.body) ⟨(S140_2 x3 b1), [true, false, false], [spec_l3Element_ro r1, spec_IsValidValue_ro r2], []⟩ = some (.stop (stkAt 2 I140.body) (S140_2 (IntKind.i64.wrap (x3 + 1)) b1) [(decide ((x3 : Int) < (List.length (Val.list b1) : Int))) = true, (0 : Int) ≤ x3 ∧ x3 < (List.length (Val.list b1)), AbsCalls Try.prog 123 (spec_l3Element_as (List.getD (Val.list b1) (Int.toNat x3) Ty.val.dflt)) (spec_l3Element_ro r1), (!r1) = false, (0 : Int) ≤ x3 ∧ x3 < (List.length (Val.list b1)), AbsCalls Try.prog 108 (spec_IsValidValue_as (List.getD (Val.list b1) (Int.toNat x3) Ty.val.dflt)) (spec_IsValidValue_ro r2), (!r2) = false]) := by kernel_rfl
theorem p140_2_3 (x3 : Int) (b1 : Val) (r1 : Int) : run tt (AbsCalls Try.prog) I140 3000 true (stkAt 2 I140.body) ⟨(S140_2 x3 b1), [false, true], [spec_DepthOf_ro r1], []⟩ = some (.done (spec_l3List_ro (decide ((r1 : Int) ≤ 3))) [(decide ((x3 : Int) < (List.length (Val.list b1) : Int))) = false, (decide (((List.length (Val.list b1) : Int) : Int) ≤ 8)) = true, AbsCalls Try.prog 125 (spec_DepthOf_as b1) (spec_DepthOf_ro r1)]) := by kernel_rfl
theorem p140_2_4 (x3 : Int) (b1 : Val) : run tt (AbsCalls Try.prog) I140 3000 true (stkAt 2 I140.body) ⟨(S140_2 x3 b1), [false, false], [], []⟩ = some (.done (spec_l3List_ro false) [(decide ((x3 : Int) < (List.length (Val.list b1) : Int))) = false, (decide (((List.length (Val.list b1) : Int) : Int) ≤ 8)) = false]) := by kernel_rfl
theorem p140_e_5 (a0 : Val) : run tt (AbsCalls Try.prog) I140 3000 false [.code I140.body] ⟨(entry 0 (spec_l3List_as a0)), [], [], []⟩ = some (.stop (stkAt 2 I140.body) (S140_2 0 a0) []) := by kernel_rfl
theorem c140_2 {N : Nat} {rc_spec_IsValidValue : Val → Option (Bool)} (hrc_spec_IsValidValue : ∀ a0 r, rc_spec_IsValidValue a0 = some r → AbsCalls Try.prog 108 (spec_IsValidValue_as a0) (spec_IsValidValue_ro r)) {rc_spec_l3List : Val → Option (Bool)} (hrc_spec_l3List : ∀ a0 r, rc_spec_l3List a0 = some r → AbsCalls Try.prog 140 (spec_l3List_as a0) (spec_l3List_ro r)) : ∀ n x3 b1 r, spec_l3List_b2 N rc_spec_IsValidValue rc_spec_l3List n x3 b1 = some r → Reach Try.prog Try.f140 I140 (stkAt 2 I140.body) (S140_2 x3 b1) (spec_l3List_ro r) := by
  intro n
  induction n with
  | zero => intro x3 b1 r h; have h' : (none : Option (Bool)) = some r := h; cases h'
  | succ n ih =>
    intro x3 b1 r h
    rw [spec_l3List_b2] at h
    rcases cond_inv h with ⟨h0, h⟩ | ⟨h0, h⟩
    · obtain ⟨h1, h⟩ := ite_inv h
      obtain ⟨r1, h2, h⟩ := bind_inv h
      rcases cond_inv h with ⟨h3, h⟩ | ⟨h3, h⟩
      · obtain rfl := Option.some.inj h
        exact Reach.done ttok mix fk140 (p140_2_0 x3 b1 r1) (obs_cons h0 (obs_cons h1 (obs_cons (spec_l3Element_ok h2) (obs_cons h3 (obs_cons rfl obs_nil)))))
      · obtain ⟨r2, h5, h⟩ := bind_inv h
        rcases cond_inv h with ⟨h6, h⟩ | ⟨h6, h⟩
        · obtain rfl := Option.some.inj h
          exact Reach.done ttok mix fk140 (p140_2_1 x3 b1 r1 r2) (obs_cons h0 (obs_cons h1 (obs_cons (spec_l3Element_ok h2) (obs_cons h3 (obs_cons h1 (obs_cons (hrc_spec_IsValidValue _ _ h5) (obs_cons h6 obs_nil)))))))
        · exact Reach.stop ttok mix fk140 (p140_2_2 x3 b1 r1 r2) (obs_cons h0 (obs_cons h1 (obs_cons (spec_l3Element_ok h2) (obs_cons h3 (obs_cons h1 (obs_cons (hrc_spec_IsValidValue _ _ h5) (obs_cons h6 obs_nil))))))) (ih _ _ _ h)
    · rcases cond_inv h with ⟨h1, h⟩ | ⟨h1, h⟩
      · obtain ⟨r1, h2, h⟩ := bind_inv h
        obtain rfl := Option.some.inj h
        exact Reach.done ttok mix fk140 (p140_2_3 x3 b1 r1) (obs_cons h0 (obs_cons h1 (obs_cons (spec_DepthOf_ok h2) obs_nil)))
      · obtain rfl := Option.some.inj h
        exact Reach.done ttok mix fk140 (p140_2_4 x3 b1) (obs_cons h0 (obs_cons h1 obs_nil))
theorem c140_e {N : Nat} {rc_spec_IsValidValue : Val → Option (Bool)} (hrc_spec_IsValidValue : ∀ a0 r, rc_spec_IsValidValue a0 = some r → AbsCalls Try.prog 108 (spec_IsValidValue_as a0) (spec_IsValidValue_ro r)) {rc_spec_l3List : Val → Option (Bool)} (hrc_spec_l3List : ∀ a0 r, rc_spec_l3List a0 = some r → AbsCalls Try.prog 140 (spec_l3List_as a0) (spec_l3List_ro r)) : ∀ a0 r, spec_l3List_body N rc_spec_IsValidValue rc_spec_l3List a0 = some r → Reach Try.prog Try.f140 I140 [.code I140.body] (entry 0 (spec_l3List_as a0)) (spec_l3List_ro r) := by
  intro a0 r h
  unfold spec_l3List_body at h
  exact Reach.stop ttok mix fk140 (p140_e_5 a0) obs_nil (c140_2 hrc_spec_IsValidValue hrc_spec_l3List  _ _ _ _ h)
theorem spec_l3List_body_ok {N : Nat} {rc_spec_IsValidValue : Val → Option (Bool)} (hrc_spec_IsValidValue : ∀ a0 r, rc_spec_IsValidValue a0 = some r → AbsCalls Try.prog 108 (spec_IsValidValue_as a0) (spec_IsValidValue_ro r)) {rc_spec_l3List : Val → Option (Bool)} (hrc_spec_l3List : ∀ a0 r, rc_spec_l3List a0 = some r → AbsCalls Try.prog 140 (spec_l3List_as a0) (spec_l3List_ro r)) {a0 : Val} {r : Bool} (h : spec_l3List_body N rc_spec_IsValidValue rc_spec_l3List a0 = some r) : AbsCalls Try.prog 140 (spec_l3List_as a0) (spec_l3List_ro r) :=
 AbsCalls.of_reach fk140 rfl rfl (Nat.le_of_ble_eq_true rfl) (c140_e hrc_spec_IsValidValue hrc_spec_l3List a0 r h)
theorem spec_IsValidValue_fix_ok {N : Nat} : ∀ d, (∀ a0 r, (spec_IsValidValue_fix N d).c_spec_IsValidValue a0 = some r → AbsCalls Try.prog 108 (spec_IsValidValue_as a0) (spec_IsValidValue_ro r)) ∧ (∀ a0 r, (spec_IsValidValue_fix N d).c_spec_l3List a0 = some r → AbsCalls Try.prog 140 (spec_l3List_as a0) (spec_l3List_ro r)) := by
  intro d
  induction d with
  | zero =>
    refine ⟨?_, ?_⟩ <;> (intros; rename_i h; cases h)
  | succ d ih =>
    obtain ⟨ih0, ih1⟩ := ih
    refine ⟨?_, ?_⟩
    · intro _ r h; exact spec_IsValidValue_body_ok (N := N) ih0 ih1 h
    · intro _ r h; exact spec_l3List_body_ok (N := N) ih0 ih1 h
theorem spec_IsValidValue_ok {N : Nat} {a0 : Val} {r : Bool} (h : spec_IsValidValue N a0 = some r) : AbsCalls Try.prog 108 (spec_IsValidValue_as a0) (spec_IsValidValue_ro r) := (spec_IsValidValue_fix_ok N).1 _ r h
noncomputable def I142 : Info := { body := (Try.f142.body).getD .skip, nt := 29, results := [.tmp 2], keep := [0, 4, 6, 14, 50], live := [(2, [0, 6])], modes := [(4, [(4, .take, false), (10, .take, false)])], ext := [], lnt := [], casts := [], fcast := [] }
theorem fk142 : FnOk Try.prog 142 Try.f142 I142 := ⟨Try.func142, by kernel_rfl, by kernel_rfl, by kernel_rfl, by kernel_rfl⟩
def S142_2 (x0 : Str) (x3 : Int) : St := [(0, .v false [.str x0]), (6, .v false [.int .i64 x3])]
theorem p142_2_0 (x0 : Str) (x3 : Int) : run tt (AbsCalls Try.prog) I142 3000 true (stkAt 2 I142.body) ⟨(S142_2 x0 x3), [true, true, true, true], [], []⟩ = some (.done (impl_IsValidText_ro false) [(decide ((x3 : Int) < (List.length x0 : Int))) = true, (0 : Int) ≤ x3 ∧ x3 < (List.length x0), (decide ((((List.getD x0 (Int.toNat x3) 0).toNat : Int) : Int) < 32)) = true, true = true, true = true]) := by kernel_rfl
theorem p142_2_1 (x0 : Str) (x3 : Int) : run tt (AbsCalls Try.prog) I142 3000 true (stkAt 2 I142.body) ⟨(S142_2 x0 x3), [true, false, true, true], [], []⟩ = some (.done (impl_IsValidText_ro false) [(decide ((x3 : Int) < (List.length x0 : Int))) = true, (0 : Int) ≤ x3 ∧ x3 < (List.length x0), (decide ((((List.getD x0 (Int.toNat x3) 0).toNat : Int) : Int) < 32)) = false, (0 : Int) ≤ x3 ∧ x3 < (List.length x0), (decide ((((List.getD x0 (Int.toNat x3) 0).toNat : Int) : Int) > 126)) = true, true = true]) := by kernel_rfl
theorem p142_2_2 (x0 : Str) (x3 : Int) : run tt (AbsCalls Try.prog) I142 3000 true (stkAt 2 I142.body) ⟨(S142_2 x0 x3), [true, false, false, true], [], []⟩ = some (.done (impl_IsValidText_ro false) [(decide ((x3 : Int) < (List.length x0 : Int))) = true, (0 : Int) ≤ x3 ∧ x3 < (List.length x0), (decide ((((List.getD x0 (Int.toNat x3) 0).toNat : Int) : Int) < 32)) = false, (0 : Int) ≤ x3 ∧ x3 < (List.length x0), (decide ((((List.getD x0 (Int.toNat x3) 0).toNat : Int) : Int) > 126)) = false, (0 : Int) ≤ x3 ∧ x3 < (List.length x0), ((((List.getD x0 (Int.toNat x3) 0).toNat : Int) : Int) == 34) = true]) := by kernel_rfl
theorem p142_2_3 (x0 : Str) (x3 : Int) : run tt (AbsCalls Try.prog) I142 3000 true (stkAt 2 I142.body) ⟨(S142_2 x0 x3), [true, false, false, false], [], []⟩ = some (.stop (stkAt 2 I142.body) (S142_2 x0 (IntKind.i64.wrap (x3 + 1))) [(decide ((x3 : Int) < (List.length x0 : Int))) = true, (0 : Int) ≤ x3 ∧ x3 < (List.length x0), (decide ((((List.getD x0 (Int.toNat x3) 0).toNat : Int) : Int) < 32)) = false, (0 : Int) ≤ x3 ∧ x3 < (List.length x0), (decide ((((List.getD x0 (Int.toNat x3) 0).toNat : Int) : Int) > 126)) = false, (0 : Int) ≤ x3 ∧ x3 < (List.length x0), ((((List.getD x0 (Int.toNat x3) 0).toNat : Int) : Int) == 34) = false]) := by kernel_rfl
theorem p142_2_4 (x0 : Str) (x3 : Int) : run tt (AbsCalls Try.prog) I142 3000 true (stkAt 2 I142.body) ⟨(S142_2 x0 x3), [false], [], []⟩ = some (.done (impl_IsValidText_ro (decide (((List.length x0 : Int) : Int) ≤ 20))) [(decide ((x3 : Int) < (List.length x0 : Int))) = false]) := by kernel_rfl
theorem p142_e_5 (a0 : Str) : run tt (AbsCalls Try.prog) I142 3000 false [.code I142.body] ⟨(entry 0 (impl_IsValidText_as a0)), [], [], []⟩ = some (.stop (stkAt 2 I142.body) (S142_2 a0 0) []) := by kernel_rfl
theorem c142_2 {N : Nat} : ∀ n x0 x3 r, impl_IsValidText_b2 N n x0 x3 = some r → Reach Try.prog Try.f142 I142 (stkAt 2 I142.body) (S142_2 x0 x3) (impl_IsValidText_ro r) := by
  intro n
  induction n with
  | zero => intro x0 x3 r h; have h' : (none : Option (Bool)) = some r := h; cases h'
  | succ n ih =>
    intro x0 x3 r h
    rw [impl_IsValidText_b2] at h
    rcases cond_inv h with ⟨h0, h⟩ | ⟨h0, h⟩
    · obtain ⟨h1, h⟩ := ite_inv h
      rcases cond_inv h with ⟨h2, h⟩ | ⟨h2, h⟩
      · obtain rfl := Option.some.inj h
        exact Reach.done ttok mix fk142 (p142_2_0 x0 x3) (obs_cons h0 (obs_cons h1 (obs_cons h2 (obs_cons rfl (obs_cons rfl obs_nil)))))
      · rcases cond_inv h with ⟨h4, h⟩ | ⟨h4, h⟩
        · obtain rfl := Option.some.inj h
          exact Reach.done ttok mix fk142 (p142_2_1 x0 x3) (obs_cons h0 (obs_cons h1 (obs_cons h2 (obs_cons h1 (obs_cons h4 (obs_cons rfl obs_nil))))))
        · rcases cond_inv h with ⟨h6, h⟩ | ⟨h6, h⟩
          · obtain rfl := Option.some.inj h
            exact Reach.done ttok mix fk142 (p142_2_2 x0 x3) (obs_cons h0 (obs_cons h1 (obs_cons h2 (obs_cons h1 (obs_cons h4 (obs_cons h1 (obs_cons h6 obs_nil)))))))
          · exact Reach.stop ttok mix fk142 (p142_2_3 x0 x3) (obs_cons h0 (obs_cons h1 (obs_cons h2 (obs_cons h1 (obs_cons h4 (obs_cons h1 (obs_cons h6 obs_nil))))))) (ih _ _ _ h)
    · obtain rfl := Option.some.inj h
      exact Reach.done ttok mix fk142 (p142_2_4 x0 x3) (obs_cons h0 obs_nil)
theorem c142_e {N : Nat} : ∀ a0 r, impl_IsValidText N a0 = some r → Reach Try.prog Try.f142 I142 [.code I142.body] (entry 0 (impl_IsValidText_as a0)) (impl_IsValidText_ro r) := by
  intro a0 r h
  unfold impl_IsValidText at h
  exact Reach.stop ttok mix fk142 (p142_e_5 a0) obs_nil (c142_2   _ _ _ _ h)
theorem impl_IsValidText_ok {N : Nat} {a0 : Str} {r : Bool} (h : impl_IsValidText N  a0 = some r) : AbsCalls Try.prog 142 (impl_IsValidText_as a0) (impl_IsValidText_ro r) :=
 AbsCalls.of_reach fk142 rfl rfl (Nat.le_of_ble_eq_true rfl) (c142_e a0 r h)
noncomputable def I163 : Info := { body := (Try.f163.body).getD .skip, nt := 42, results := [.tmp 2], keep := [0, 4, 6, 8, 16, 76], live := [(2, [0, 6])], modes := [(4, [(4, .take, false)]), (5, [(0, .take, false), (2, .take, false), (5, .take, false), (11, .take, false)])], ext := [], lnt := [], casts := [], fcast := [] }
theorem fk163 : FnOk Try.prog 163 Try.f163 I163 := ⟨Try.func163, by kernel_rfl, by kernel_rfl, by kernel_rfl, by kernel_rfl⟩
def S163_2 (x0 : Str) (x3 : Int) : St := [(0, .v false [.str x0]), (6, .v false [.int .i64 x3])]
theorem p163_2_0 (x0 : Str) (x3 : Int) : run tt (AbsCalls Try.prog) I163 3000 true (stkAt 2 I163.body) ⟨(S163_2 x0 x3), [true, true, true, true, true, true], [], []⟩ = some (.done (impl_isWord_ro false) [(decide ((x3 : Int) < (List.length x0 : Int))) = true, (0 : Int) ≤ x3 ∧ x3 < (List.length x0), (decide ((((List.getD x0 (Int.toNat x3) 0).toNat : Int) : Int) ≥ 97)) = true, (0 : Int) ≤ x3 ∧ x3 < (List.length x0), (!(decide ((((List.getD x0 (Int.toNat x3) 0).toNat : Int) : Int) ≤ 122))) = true, ((x3 : Int) == 0) = true, true = true, true = true]) := by kernel_rfl
theorem p163_2_1 (x0 : Str) (x3 : Int) : run tt (AbsCalls Try.prog) I163 3000 true (stkAt 2 I163.body) ⟨(S163_2 x0 x3), [true, true, true, false, true, true], [], []⟩ = some (.done (impl_isWord_ro false) [(decide ((x3 : Int) < (List.length x0 : Int))) = true, (0 : Int) ≤ x3 ∧ x3 < (List.length x0), (decide ((((List.getD x0 (Int.toNat x3) 0).toNat : Int) : Int) ≥ 97)) = true, (0 : Int) ≤ x3 ∧ x3 < (List.length x0), (!(decide ((((List.getD x0 (Int.toNat x3) 0).toNat : Int) : Int) ≤ 122))) = true, ((x3 : Int) == 0) = false, (0 : Int) ≤ x3 ∧ x3 < (List.length x0), (decide ((((List.getD x0 (Int.toNat x3) 0).toNat : Int) : Int) < 48)) = true, true = true]) := by kernel_rfl
theorem p163_2_2 (x0 : Str) (x3 : Int) : run tt (AbsCalls Try.prog) I163 3000 true (stkAt 2 I163.body) ⟨(S163_2 x0 x3), [true, true, true, false, false, true], [], []⟩ = some (.done (impl_isWord_ro false) [(decide ((x3 : Int) < (List.length x0 : Int))) = true, (0 : Int) ≤ x3 ∧ x3 < (List.length x0), (decide ((((List.getD x0 (Int.toNat x3) 0).toNat : Int) : Int) ≥ 97)) = true, (0 : Int) ≤ x3 ∧ x3 < (List.length x0), (!(decide ((((List.getD x0 (Int.toNat x3) 0).toNat : Int) : Int) ≤ 122))) = true, ((x3 : Int) == 0) = false, (0 : Int) ≤ x3 ∧ x3 < (List.length x0), (decide ((((List.getD x0 (Int.toNat x3) 0).toNat : Int) : Int) < 48)) = false, (0 : Int) ≤ x3 ∧ x3 < (List.length x0), (decide ((((List.getD x0 (Int.toNat x3) 0).toNat : Int) : Int) > 57)) = true]) := by kernel_rfl
theorem p163_2_3 (x0 : Str) (x3 : Int) : run tt (AbsCalls Try.prog) I163 3000 true (stkAt 2 I163.body) ⟨(S163_2 x0 x3), [true, true, true, false, false, false], [], []⟩ = some (.stop (stkAt 2 I163.body) (S163_2 x0 (IntKind.i64.wrap (x3 + 1))) [(decide ((x3 : Int) < (List.length x0 : Int))) = true, (0 : Int) ≤ x3 ∧ x3 < (List.length x0), (decide ((((List.getD x0 (Int.toNat x3) 0).toNat : Int) : Int) ≥ 97)) = true, (0 : Int) ≤ x3 ∧ x3 < (List.length x0), (!(decide ((((List.getD x0 (Int.toNat x3) 0).toNat : Int) : Int) ≤ 122))) = true, ((x3 : Int) == 0) = false, (0 : Int) ≤ x3 ∧ x3 < (List.length x0), (decide ((((List.getD x0 (Int.toNat x3) 0).toNat : Int) : Int) < 48)) = false, (0 : Int) ≤ x3 ∧ x3 < (List.length x0), (decide ((((List.getD x0 (Int.toNat x3) 0).toNat : Int) : Int) > 57)) = false]) := by kernel_rfl
theorem p163_2_4 (x0 : Str) (x3 : Int) : run tt (AbsCalls Try.prog) I163 3000 true (stkAt 2 I163.body) ⟨(S163_2 x0 x3), [true, true, false, false], [], []⟩ = some (.stop (stkAt 2 I163.body) (S163_2 x0 (IntKind.i64.wrap (x3 + 1))) [(decide ((x3 : Int) < (List.length x0 : Int))) = true, (0 : Int) ≤ x3 ∧ x3 < (List.length x0), (decide ((((List.getD x0 (Int.toNat x3) 0).toNat : Int) : Int) ≥ 97)) = true, (0 : Int) ≤ x3 ∧ x3 < (List.length x0), (!(decide ((((List.getD x0 (Int.toNat x3) 0).toNat : Int) : Int) ≤ 122))) = false, false = false]) := by kernel_rfl
theorem p163_2_5 (x0 : Str) (x3 : Int) : run tt (AbsCalls Try.prog) I163 3000 true (stkAt 2 I163.body) ⟨(S163_2 x0 x3), [true, false, true, true, true, true], [], []⟩ = some (.done (impl_isWord_ro false) [(decide ((x3 : Int) < (List.length x0 : Int))) = true, (0 : Int) ≤ x3 ∧ x3 < (List.length x0), (decide ((((List.getD x0 (Int.toNat x3) 0).toNat : Int) : Int) ≥ 97)) = false, (!false) = true, ((x3 : Int) == 0) = true, true = true, true = true]) := by kernel_rfl
theorem p163_2_6 (x0 : Str) (x3 : Int) : run tt (AbsCalls Try.prog) I163 3000 true (stkAt 2 I163.body) ⟨(S163_2 x0 x3), [true, false, true, false, true, true], [], []⟩ = some (.done (impl_isWord_ro false) [(decide ((x3 : Int) < (List.length x0 : Int))) = true, (0 : Int) ≤ x3 ∧ x3 < (List.length x0), (decide ((((List.getD x0 (Int.toNat x3) 0).toNat : Int) : Int) ≥ 97)) = false, (!false) = true, ((x3 : Int) == 0) = false, (0 : Int) ≤ x3 ∧ x3 < (List.length x0), (decide ((((List.getD x0 (Int.toNat x3) 0).toNat : Int) : Int) < 48)) = true, true = true]) := by kernel_rfl
theorem p163_2_7 (x0 : Str) (x3 : Int) : run tt (AbsCalls Try.prog) I163 3000 true (stkAt 2 I163.body) ⟨(S163_2 x0 x3), [true, false, true, false, false, true], [], []⟩ = some (.done (impl_isWord_ro false) [(decide ((x3 : Int) < (List.length x0 : Int))) = true, (0 : Int) ≤ x3 ∧ x3 < (List.length x0), (decide ((((List.getD x0 (Int.toNat x3) 0).toNat : Int) : Int) ≥ 97)) = false, (!false) = true, ((x3 : Int) == 0) = false, (0 : Int) ≤ x3 ∧ x3 < (List.length x0), (decide ((((List.getD x0 (Int.toNat x3) 0).toNat : Int) : Int) < 48)) = false, (0 : Int) ≤ x3 ∧ x3 < (List.length x0), (decide ((((List.getD x0 (Int.toNat x3) 0).toNat : Int) : Int) > 57)) = true]) := by kernel_rfl
theorem p163_2_8 (x0 : Str) (x3 : Int) : run tt (AbsCalls Try.prog) I163 3000 true (stkAt 2 I163.body) ⟨(S163_2 x0 x3), [true, false, true, false, false, false], [], []⟩ = some (.stop (stkAt 2 I163.body) (S163_2 x0 (IntKind.i64.wrap (x3 + 1))) [(decide ((x3 : Int) < (List.length x0 : Int))) = true, (0 : Int) ≤ x3 ∧ x3 < (List.length x0), (decide ((((List.getD x0 (Int.toNat x3) 0).toNat : Int) : Int) ≥ 97)) = false, (!false) = true, ((x3 : Int) == 0) = false, (0 : Int) ≤ x3 ∧ x3 < (List.length x0), (decide ((((List.getD x0 (Int.toNat x3) 0).toNat : Int) : Int) < 48)) = false, (0 : Int) ≤ x3 ∧ x3 < (List.length x0), (decide ((((List.getD x0 (Int.toNat x3) 0).toNat : Int) : Int) > 57)) = false]) := by kernel_rfl
theorem p163_2_9 (x0 : Str) (x3 : Int) (r1 : Bool) : run tt (AbsCalls Try.prog) I163 3000 true (stkAt 2 I163.body) ⟨(S163_2 x0 x3), [false], [impl_within_ro r1], []⟩ = some (.done (impl_isWord_ro r1) [(decide ((x3 : Int) < (List.length x0 : Int))) = false, AbsCalls Try.prog 101 (impl_within_as (List.length x0 : Int) 1 8) (impl_within_ro r1)]) := by kernel_rfl
theorem p163_e_10 (a0 : Str) : run tt (AbsCalls Try.prog) I163 3000 false [.code I163.body] ⟨(entry 0 (impl_isWord_as a0)), [], [], []⟩ = some (.stop (stkAt 2 I163.body) (S163_2 a0 0) []) := by kernel_rfl
theorem c163_2 {N : Nat} : ∀ n x0 x3 r, impl_isWord_b2 N n x0 x3 = some r → Reach Try.prog Try.f163 I163 (stkAt 2 I163.body) (S163_2 x0 x3) (impl_isWord_ro r) := by
  intro n
  induction n with
  | zero => intro x0 x3 r h; have h' : (none : Option (Bool)) = some r := h; cases h'
  | succ n ih =>
    intro x0 x3 r h
    rw [impl_isWord_b2] at h
    rcases cond_inv h with ⟨h0, h⟩ | ⟨h0, h⟩
    · obtain ⟨h1, h⟩ := ite_inv h
      rcases cond_inv h with ⟨h2, h⟩ | ⟨h2, h⟩
      · rcases cond_inv h with ⟨h4, h⟩ | ⟨h4, h⟩
        · rcases cond_inv h with ⟨h5, h⟩ | ⟨h5, h⟩
          · obtain rfl := Option.some.inj h
            exact Reach.done ttok mix fk163 (p163_2_0 x0 x3) (obs_cons h0 (obs_cons h1 (obs_cons h2 (obs_cons h1 (obs_cons h4 (obs_cons h5 (obs_cons rfl (obs_cons rfl obs_nil))))))))
          · rcases cond_inv h with ⟨h7, h⟩ | ⟨h7, h⟩
            · obtain rfl := Option.some.inj h
              exact Reach.done ttok mix fk163 (p163_2_1 x0 x3) (obs_cons h0 (obs_cons h1 (obs_cons h2 (obs_cons h1 (obs_cons h4 (obs_cons h5 (obs_cons h1 (obs_cons h7 (obs_cons rfl obs_nil)))))))))
            · rcases cond_inv h with ⟨h9, h⟩ | ⟨h9, h⟩
              · obtain rfl := Option.some.inj h
                exact Reach.done ttok mix fk163 (p163_2_2 x0 x3) (obs_cons h0 (obs_cons h1 (obs_cons h2 (obs_cons h1 (obs_cons h4 (obs_cons h5 (obs_cons h1 (obs_cons h7 (obs_cons h1 (obs_cons h9 obs_nil))))))))))
              · exact Reach.stop ttok mix fk163 (p163_2_3 x0 x3) (obs_cons h0 (obs_cons h1 (obs_cons h2 (obs_cons h1 (obs_cons h4 (obs_cons h5 (obs_cons h1 (obs_cons h7 (obs_cons h1 (obs_cons h9 obs_nil)))))))))) (ih _ _ _ h)
        · exact Reach.stop ttok mix fk163 (p163_2_4 x0 x3) (obs_cons h0 (obs_cons h1 (obs_cons h2 (obs_cons h1 (obs_cons h4 (obs_cons rfl obs_nil)))))) (ih _ _ _ h)
      · rcases cond_inv h with ⟨h4, h⟩ | ⟨h4, h⟩
        · obtain rfl := Option.some.inj h
          exact Reach.done ttok mix fk163 (p163_2_5 x0 x3) (obs_cons h0 (obs_cons h1 (obs_cons h2 (obs_cons rfl (obs_cons h4 (obs_cons rfl (obs_cons rfl obs_nil)))))))
        · rcases cond_inv h with ⟨h6, h⟩ | ⟨h6, h⟩
          · obtain rfl := Option.some.inj h
            exact Reach.done ttok mix fk163 (p163_2_6 x0 x3) (obs_cons h0 (obs_cons h1 (obs_cons h2 (obs_cons rfl (obs_cons h4 (obs_cons h1 (obs_cons h6 (obs_cons rfl obs_nil))))))))
          · rcases cond_inv h with ⟨h8, h⟩ | ⟨h8, h⟩
            · obtain rfl := Option.some.inj h
              exact Reach.done ttok mix fk163 (p163_2_7 x0 x3) (obs_cons h0 (obs_cons h1 (obs_cons h2 (obs_cons rfl (obs_cons h4 (obs_cons h1 (obs_cons h6 (obs_cons h1 (obs_cons h8 obs_nil)))))))))
            · exact Reach.stop ttok mix fk163 (p163_2_8 x0 x3) (obs_cons h0 (obs_cons h1 (obs_cons h2 (obs_cons rfl (obs_cons h4 (obs_cons h1 (obs_cons h6 (obs_cons h1 (obs_cons h8 obs_nil))))))))) (ih _ _ _ h)
    · obtain ⟨r1, h1, h⟩ := bind_inv h
      obtain rfl := Option.some.inj h
      exact Reach.done ttok mix fk163 (p163_2_9 x0 x3 r1) (obs_cons h0 (obs_cons (impl_within_ok h1) obs_nil))
theorem c163_e {N : Nat} : ∀ a0 r, impl_isWord N a0 = some r → Reach Try.prog Try.f163 I163 [.code I163.body] (entry 0 (impl_isWord_as a0)) (impl_isWord_ro r) := by
  intro a0 r h
  unfold impl_isWord at h
  exact Reach.stop ttok mix fk163 (p163_e_10 a0) obs_nil (c163_2   _ _ _ _ h)
theorem impl_isWord_ok {N : Nat} {a0 : Str} {r : Bool} (h : impl_isWord N  a0 = some r) : AbsCalls Try.prog 163 (impl_isWord_as a0) (impl_isWord_ro r) :=
 AbsCalls.of_reach fk163 rfl rfl (Nat.le_of_ble_eq_true rfl) (c163_e a0 r h)
noncomputable def I166 : Info := { body := (Try.f166.body).getD .skip, nt := 26, results := [.tmp 2], keep := [0, 4, 6, 8, 12, 24, 40, 48], live := [], modes := [], ext := [], lnt := [], casts := [], fcast := [] }
theorem fk166 : FnOk Try.prog 166 Try.f166 I166 := ⟨Try.func166, by kernel_rfl, by kernel_rfl, by kernel_rfl, by kernel_rfl⟩
theorem p166_e_0 (a0 : Str) : run tt (AbsCalls Try.prog) I166 3000 false [.code I166.body] ⟨(entry 0 (impl_ArgumentCount_as a0)), [true], [], []⟩ = some (.done (impl_ArgumentCount_ro 0) [((a0 : Str) == [99, 108, 111, 99, 107]) = true]) := by kernel_rfl
theorem p166_e_1 (a0 : Str) : run tt (AbsCalls Try.prog) I166 3000 false [.code I166.body] ⟨(entry 0 (impl_ArgumentCount_as a0)), [false, true, true], [], []⟩ = some (.done (impl_ArgumentCount_ro 1) [((a0 : Str) == [99, 108, 111, 99, 107]) = false, ((a0 : Str) == [108, 101, 110]) = true, ((a0 : Str) == [108, 101, 110]) = true]) := by kernel_rfl
theorem p166_e_2 (a0 : Str) : run tt (AbsCalls Try.prog) I166 3000 false [.code I166.body] ⟨(entry 0 (impl_ArgumentCount_as a0)), [false, false, true, true], [], []⟩ = some (.done (impl_ArgumentCount_ro 1) [((a0 : Str) == [99, 108, 111, 99, 107]) = false, ((a0 : Str) == [108, 101, 110]) = false, ((a0 : Str) == [115, 117, 109]) = true, ((a0 : Str) == [115, 117, 109]) = true]) := by kernel_rfl
theorem p166_e_3 (a0 : Str) : run tt (AbsCalls Try.prog) I166 3000 false [.code I166.body] ⟨(entry 0 (impl_ArgumentCount_as a0)), [false, false, false, true, true], [], []⟩ = some (.done (impl_ArgumentCount_ro 1) [((a0 : Str) == [99, 108, 111, 99, 107]) = false, ((a0 : Str) == [108, 101, 110]) = false, ((a0 : Str) == [115, 117, 109]) = false, ((a0 : Str) == [114, 111, 119, 115]) = true, ((a0 : Str) == [114, 111, 119, 115]) = true]) := by kernel_rfl
theorem p166_e_4 (a0 : Str) : run tt (AbsCalls Try.prog) I166 3000 false [.code I166.body] ⟨(entry 0 (impl_ArgumentCount_as a0)), [false, false, false, false, true, true], [], []⟩ = some (.done (impl_ArgumentCount_ro 1) [((a0 : Str) == [99, 108, 111, 99, 107]) = false, ((a0 : Str) == [108, 101, 110]) = false, ((a0 : Str) == [115, 117, 109]) = false, ((a0 : Str) == [114, 111, 119, 115]) = false, ((a0 : Str) == [99, 104, 97, 110, 99, 101]) = true, ((a0 : Str) == [99, 104, 97, 110, 99, 101]) = true]) := by kernel_rfl
theorem p166_e_5 (a0 : Str) : run tt (AbsCalls Try.prog) I166 3000 false [.code I166.body] ⟨(entry 0 (impl_ArgumentCount_as a0)), [false, false, false, false, false, true], [], []⟩ = some (.done (impl_ArgumentCount_ro 1) [((a0 : Str) == [99, 108, 111, 99, 107]) = false, ((a0 : Str) == [108, 101, 110]) = false, ((a0 : Str) == [115, 117, 109]) = false, ((a0 : Str) == [114, 111, 119, 115]) = false, ((a0 : Str) == [99, 104, 97, 110, 99, 101]) = false, ((a0 : Str) == [102, 105, 108, 101]) = true]) := by kernel_rfl
theorem p166_e_6 (a0 : Str) : run tt (AbsCalls Try.prog) I166 3000 false [.code I166.body] ⟨(entry 0 (impl_ArgumentCount_as a0)), [false, false, false, false, false, false, true, true], [], []⟩ = some (.done (impl_ArgumentCount_ro 2) [((a0 : Str) == [99, 108, 111, 99, 107]) = false, ((a0 : Str) == [108, 101, 110]) = false, ((a0 : Str) == [115, 117, 109]) = false, ((a0 : Str) == [114, 111, 119, 115]) = false, ((a0 : Str) == [99, 104, 97, 110, 99, 101]) = false, ((a0 : Str) == [102, 105, 108, 101]) = false, ((a0 : Str) == [116, 97, 107, 101]) = true, ((a0 : Str) == [116, 97, 107, 101]) = true]) := by kernel_rfl
theorem p166_e_7 (a0 : Str) : run tt (AbsCalls Try.prog) I166 3000 false [.code I166.body] ⟨(entry 0 (impl_ArgumentCount_as a0)), [false, false, false, false, false, false, false, true, true], [], []⟩ = some (.done (impl_ArgumentCount_ro 2) [((a0 : Str) == [99, 108, 111, 99, 107]) = false, ((a0 : Str) == [108, 101, 110]) = false, ((a0 : Str) == [115, 117, 109]) = false, ((a0 : Str) == [114, 111, 119, 115]) = false, ((a0 : Str) == [99, 104, 97, 110, 99, 101]) = false, ((a0 : Str) == [102, 105, 108, 101]) = false, ((a0 : Str) == [116, 97, 107, 101]) = false, ((a0 : Str) == [115, 107, 105, 112]) = true, ((a0 : Str) == [115, 107, 105, 112]) = true]) := by kernel_rfl
theorem p166_e_8 (a0 : Str) : run tt (AbsCalls Try.prog) I166 3000 false [.code I166.body] ⟨(entry 0 (impl_ArgumentCount_as a0)), [false, false, false, false, false, false, false, false, true, true], [], []⟩ = some (.done (impl_ArgumentCount_ro 2) [((a0 : Str) == [99, 108, 111, 99, 107]) = false, ((a0 : Str) == [108, 101, 110]) = false, ((a0 : Str) == [115, 117, 109]) = false, ((a0 : Str) == [114, 111, 119, 115]) = false, ((a0 : Str) == [99, 104, 97, 110, 99, 101]) = false, ((a0 : Str) == [102, 105, 108, 101]) = false, ((a0 : Str) == [116, 97, 107, 101]) = false, ((a0 : Str) == [115, 107, 105, 112]) = false, ((a0 : Str) == [114, 97, 110, 103, 101]) = true, ((a0 : Str) == [114, 97, 110, 103, 101]) = true]) := by kernel_rfl
theorem p166_e_9 (a0 : Str) : run tt (AbsCalls Try.prog) I166 3000 false [.code I166.body] ⟨(entry 0 (impl_ArgumentCount_as a0)), [false, false, false, false, false, false, false, false, false, true, true], [], []⟩ = some (.done (impl_ArgumentCount_ro 2) [((a0 : Str) == [99, 108, 111, 99, 107]) = false, ((a0 : Str) == [108, 101, 110]) = false, ((a0 : Str) == [115, 117, 109]) = false, ((a0 : Str) == [114, 111, 119, 115]) = false, ((a0 : Str) == [99, 104, 97, 110, 99, 101]) = false, ((a0 : Str) == [102, 105, 108, 101]) = false, ((a0 : Str) == [116, 97, 107, 101]) = false, ((a0 : Str) == [115, 107, 105, 112]) = false, ((a0 : Str) == [114, 97, 110, 103, 101]) = false, ((a0 : Str) == [110, 116, 104]) = true, ((a0 : Str) == [110, 116, 104]) = true]) := by kernel_rfl
theorem p166_e_10 (a0 : Str) : run tt (AbsCalls Try.prog) I166 3000 false [.code I166.body] ⟨(entry 0 (impl_ArgumentCount_as a0)), [false, false, false, false, false, false, false, false, false, false, true, true], [], []⟩ = some (.done (impl_ArgumentCount_ro 2) [((a0 : Str) == [99, 108, 111, 99, 107]) = false, ((a0 : Str) == [108, 101, 110]) = false, ((a0 : Str) == [115, 117, 109]) = false, ((a0 : Str) == [114, 111, 119, 115]) = false, ((a0 : Str) == [99, 104, 97, 110, 99, 101]) = false, ((a0 : Str) == [102, 105, 108, 101]) = false, ((a0 : Str) == [116, 97, 107, 101]) = false, ((a0 : Str) == [115, 107, 105, 112]) = false, ((a0 : Str) == [114, 97, 110, 103, 101]) = false, ((a0 : Str) == [110, 116, 104]) = false, ((a0 : Str) == [107, 101, 101, 112]) = true, ((a0 : Str) == [107, 101, 101, 112]) = true]) := by kernel_rfl
theorem p166_e_11 (a0 : Str) : run tt (AbsCalls Try.prog) I166 3000 false [.code I166.body] ⟨(entry 0 (impl_ArgumentCount_as a0)), [false, false, false, false, false, false, false, false, false, false, false, true, true], [], []⟩ = some (.done (impl_ArgumentCount_ro 2) [((a0 : Str) == [99, 108, 111, 99, 107]) = false, ((a0 : Str) == [108, 101, 110]) = false, ((a0 : Str) == [115, 117, 109]) = false, ((a0 : Str) == [114, 111, 119, 115]) = false, ((a0 : Str) == [99, 104, 97, 110, 99, 101]) = false, ((a0 : Str) == [102, 105, 108, 101]) = false, ((a0 : Str) == [116, 97, 107, 101]) = false, ((a0 : Str) == [115, 107, 105, 112]) = false, ((a0 : Str) == [114, 97, 110, 103, 101]) = false, ((a0 : Str) == [110, 116, 104]) = false, ((a0 : Str) == [107, 101, 101, 112]) = false, ((a0 : Str) == [99, 111, 108, 117, 109, 110]) = true, ((a0 : Str) == [99, 111, 108, 117, 109, 110]) = true]) := by kernel_rfl
theorem p166_e_12 (a0 : Str) : run tt (AbsCalls Try.prog) I166 3000 false [.code I166.body] ⟨(entry 0 (impl_ArgumentCount_as a0)), [false, false, false, false, false, false, false, false, false, false, false, false, true], [], []⟩ = some (.done (impl_ArgumentCount_ro 2) [((a0 : Str) == [99, 108, 111, 99, 107]) = false, ((a0 : Str) == [108, 101, 110]) = false, ((a0 : Str) == [115, 117, 109]) = false, ((a0 : Str) == [114, 111, 119, 115]) = false, ((a0 : Str) == [99, 104, 97, 110, 99, 101]) = false, ((a0 : Str) == [102, 105, 108, 101]) = false, ((a0 : Str) == [116, 97, 107, 101]) = false, ((a0 : Str) == [115, 107, 105, 112]) = false, ((a0 : Str) == [114, 97, 110, 103, 101]) = false, ((a0 : Str) == [110, 116, 104]) = false, ((a0 : Str) == [107, 101, 101, 112]) = false, ((a0 : Str) == [99, 111, 108, 117, 109, 110]) = false, ((a0 : Str) == [116, 97, 98, 108, 101]) = true]) := by kernel_rfl
theorem p166_e_13 (a0 : Str) : run tt (AbsCalls Try.prog) I166 3000 false [.code I166.body] ⟨(entry 0 (impl_ArgumentCount_as a0)), [false, false, false, false, false, false, false, false, false, false, false, false, false, true, true], [], []⟩ = some (.done (impl_ArgumentCount_ro 3) [((a0 : Str) == [99, 108, 111, 99, 107]) = false, ((a0 : Str) == [108, 101, 110]) = false, ((a0 : Str) == [115, 117, 109]) = false, ((a0 : Str) == [114, 111, 119, 115]) = false, ((a0 : Str) == [99, 104, 97, 110, 99, 101]) = false, ((a0 : Str) == [102, 105, 108, 101]) = false, ((a0 : Str) == [116, 97, 107, 101]) = false, ((a0 : Str) == [115, 107, 105, 112]) = false, ((a0 : Str) == [114, 97, 110, 103, 101]) = false, ((a0 : Str) == [110, 116, 104]) = false, ((a0 : Str) == [107, 101, 101, 112]) = false, ((a0 : Str) == [99, 111, 108, 117, 109, 110]) = false, ((a0 : Str) == [116, 97, 98, 108, 101]) = false, ((a0 : Str) == [119, 104, 101, 114, 101]) = true, ((a0 : Str) == [119, 104, 101, 114, 101]) = true]) := by kernel_rfl
theorem p166_e_14 (a0 : Str) : run tt (AbsCalls Try.prog) I166 3000 false [.code I166.body] ⟨(entry 0 (impl_ArgumentCount_as a0)), [false, false, false, false, false, false, false, false, false, false, false, false, false, false, true, true], [], []⟩ = some (.done (impl_ArgumentCount_ro 3) [((a0 : Str) == [99, 108, 111, 99, 107]) = false, ((a0 : Str) == [108, 101, 110]) = false, ((a0 : Str) == [115, 117, 109]) = false, ((a0 : Str) == [114, 111, 119, 115]) = false, ((a0 : Str) == [99, 104, 97, 110, 99, 101]) = false, ((a0 : Str) == [102, 105, 108, 101]) = false, ((a0 : Str) == [116, 97, 107, 101]) = false, ((a0 : Str) == [115, 107, 105, 112]) = false, ((a0 : Str) == [114, 97, 110, 103, 101]) = false, ((a0 : Str) == [110, 116, 104]) = false, ((a0 : Str) == [107, 101, 101, 112]) = false, ((a0 : Str) == [99, 111, 108, 117, 109, 110]) = false, ((a0 : Str) == [116, 97, 98, 108, 101]) = false, ((a0 : Str) == [119, 104, 101, 114, 101]) = false, ((a0 : Str) == [103, 114, 111, 117, 112]) = true, ((a0 : Str) == [103, 114, 111, 117, 112]) = true]) := by kernel_rfl
theorem p166_e_15 (a0 : Str) : run tt (AbsCalls Try.prog) I166 3000 false [.code I166.body] ⟨(entry 0 (impl_ArgumentCount_as a0)), [false, false, false, false, false, false, false, false, false, false, false, false, false, false, false, true], [], []⟩ = some (.done (impl_ArgumentCount_ro 3) [((a0 : Str) == [99, 108, 111, 99, 107]) = false, ((a0 : Str) == [108, 101, 110]) = false, ((a0 : Str) == [115, 117, 109]) = false, ((a0 : Str) == [114, 111, 119, 115]) = false, ((a0 : Str) == [99, 104, 97, 110, 99, 101]) = false, ((a0 : Str) == [102, 105, 108, 101]) = false, ((a0 : Str) == [116, 97, 107, 101]) = false, ((a0 : Str) == [115, 107, 105, 112]) = false, ((a0 : Str) == [114, 97, 110, 103, 101]) = false, ((a0 : Str) == [110, 116, 104]) = false, ((a0 : Str) == [107, 101, 101, 112]) = false, ((a0 : Str) == [99, 111, 108, 117, 109, 110]) = false, ((a0 : Str) == [116, 97, 98, 108, 101]) = false, ((a0 : Str) == [119, 104, 101, 114, 101]) = false, ((a0 : Str) == [103, 114, 111, 117, 112]) = false, ((a0 : Str) == [106, 111, 105, 110]) = true]) := by kernel_rfl
theorem p166_e_16 (a0 : Str) : run tt (AbsCalls Try.prog) I166 3000 false [.code I166.body] ⟨(entry 0 (impl_ArgumentCount_as a0)), [false, false, false, false, false, false, false, false, false, false, false, false, false, false, false, false, true], [], []⟩ = some (.done (impl_ArgumentCount_ro 4) [((a0 : Str) == [99, 108, 111, 99, 107]) = false, ((a0 : Str) == [108, 101, 110]) = false, ((a0 : Str) == [115, 117, 109]) = false, ((a0 : Str) == [114, 111, 119, 115]) = false, ((a0 : Str) == [99, 104, 97, 110, 99, 101]) = false, ((a0 : Str) == [102, 105, 108, 101]) = false, ((a0 : Str) == [116, 97, 107, 101]) = false, ((a0 : Str) == [115, 107, 105, 112]) = false, ((a0 : Str) == [114, 97, 110, 103, 101]) = false, ((a0 : Str) == [110, 116, 104]) = false, ((a0 : Str) == [107, 101, 101, 112]) = false, ((a0 : Str) == [99, 111, 108, 117, 109, 110]) = false, ((a0 : Str) == [116, 97, 98, 108, 101]) = false, ((a0 : Str) == [119, 104, 101, 114, 101]) = false, ((a0 : Str) == [103, 114, 111, 117, 112]) = false, ((a0 : Str) == [106, 111, 105, 110]) = false, ((a0 : Str) == [97, 100, 100]) = true]) := by kernel_rfl
theorem p166_e_17 (a0 : Str) : run tt (AbsCalls Try.prog) I166 3000 false [.code I166.body] ⟨(entry 0 (impl_ArgumentCount_as a0)), [false, false, false, false, false, false, false, false, false, false, false, false, false, false, false, false, false], [], []⟩ = some (.done (impl_ArgumentCount_ro (-1)) [((a0 : Str) == [99, 108, 111, 99, 107]) = false, ((a0 : Str) == [108, 101, 110]) = false, ((a0 : Str) == [115, 117, 109]) = false, ((a0 : Str) == [114, 111, 119, 115]) = false, ((a0 : Str) == [99, 104, 97, 110, 99, 101]) = false, ((a0 : Str) == [102, 105, 108, 101]) = false, ((a0 : Str) == [116, 97, 107, 101]) = false, ((a0 : Str) == [115, 107, 105, 112]) = false, ((a0 : Str) == [114, 97, 110, 103, 101]) = false, ((a0 : Str) == [110, 116, 104]) = false, ((a0 : Str) == [107, 101, 101, 112]) = false, ((a0 : Str) == [99, 111, 108, 117, 109, 110]) = false, ((a0 : Str) == [116, 97, 98, 108, 101]) = false, ((a0 : Str) == [119, 104, 101, 114, 101]) = false, ((a0 : Str) == [103, 114, 111, 117, 112]) = false, ((a0 : Str) == [106, 111, 105, 110]) = false, ((a0 : Str) == [97, 100, 100]) = false]) := by kernel_rfl
theorem c166_e {N : Nat} : ∀ a0 r, impl_ArgumentCount N a0 = some r → Reach Try.prog Try.f166 I166 [.code I166.body] (entry 0 (impl_ArgumentCount_as a0)) (impl_ArgumentCount_ro r) := by
  intro a0 r h
  unfold impl_ArgumentCount at h
  rcases cond_inv h with ⟨h0, h⟩ | ⟨h0, h⟩
  · obtain rfl := Option.some.inj h
    exact Reach.done ttok mix fk166 (p166_e_0 a0) (obs_cons h0 obs_nil)
  · rcases cond_inv h with ⟨h1, h⟩ | ⟨h1, h⟩
    · obtain rfl := Option.some.inj h
      exact Reach.done ttok mix fk166 (p166_e_1 a0) (obs_cons h0 (obs_cons h1 (obs_cons h1 obs_nil)))
    · rcases cond_inv h with ⟨h2, h⟩ | ⟨h2, h⟩
      · obtain rfl := Option.some.inj h
        exact Reach.done ttok mix fk166 (p166_e_2 a0) (obs_cons h0 (obs_cons h1 (obs_cons h2 (obs_cons h2 obs_nil))))
      · rcases cond_inv h with ⟨h3, h⟩ | ⟨h3, h⟩
        · obtain rfl := Option.some.inj h
          exact Reach.done ttok mix fk166 (p166_e_3 a0) (obs_cons h0 (obs_cons h1 (obs_cons h2 (obs_cons h3 (obs_cons h3 obs_nil)))))
        · rcases cond_inv h with ⟨h4, h⟩ | ⟨h4, h⟩
          · obtain rfl := Option.some.inj h
            exact Reach.done ttok mix fk166 (p166_e_4 a0) (obs_cons h0 (obs_cons h1 (obs_cons h2 (obs_cons h3 (obs_cons h4 (obs_cons h4 obs_nil))))))
          · rcases cond_inv h with ⟨h5, h⟩ | ⟨h5, h⟩
            · obtain rfl := Option.some.inj h
              exact Reach.done ttok mix fk166 (p166_e_5 a0) (obs_cons h0 (obs_cons h1 (obs_cons h2 (obs_cons h3 (obs_cons h4 (obs_cons h5 obs_nil))))))
            · rcases cond_inv h with ⟨h6, h⟩ | ⟨h6, h⟩
              · obtain rfl := Option.some.inj h
                exact Reach.done ttok mix fk166 (p166_e_6 a0) (obs_cons h0 (obs_cons h1 (obs_cons h2 (obs_cons h3 (obs_cons h4 (obs_cons h5 (obs_cons h6 (obs_cons h6 obs_nil))))))))
              · rcases cond_inv h with ⟨h7, h⟩ | ⟨h7, h⟩
                · obtain rfl := Option.some.inj h
                  exact Reach.done ttok mix fk166 (p166_e_7 a0) (obs_cons h0 (obs_cons h1 (obs_cons h2 (obs_cons h3 (obs_cons h4 (obs_cons h5 (obs_cons h6 (obs_cons h7 (obs_cons h7 obs_nil)))))))))
                · rcases cond_inv h with ⟨h8, h⟩ | ⟨h8, h⟩
                  · obtain rfl := Option.some.inj h
                    exact Reach.done ttok mix fk166 (p166_e_8 a0) (obs_cons h0 (obs_cons h1 (obs_cons h2 (obs_cons h3 (obs_cons h4 (obs_cons h5 (obs_cons h6 (obs_cons h7 (obs_cons h8 (obs_cons h8 obs_nil))))))))))
                  · rcases cond_inv h with ⟨h9, h⟩ | ⟨h9, h⟩
                    · obtain rfl := Option.some.inj h
                      exact Reach.done ttok mix fk166 (p166_e_9 a0) (obs_cons h0 (obs_cons h1 (obs_cons h2 (obs_cons h3 (obs_cons h4 (obs_cons h5 (obs_cons h6 (obs_cons h7 (obs_cons h8 (obs_cons h9 (obs_cons h9 obs_nil)))))))))))
                    · rcases cond_inv h with ⟨h10, h⟩ | ⟨h10, h⟩
                      · obtain rfl := Option.some.inj h
                        exact Reach.done ttok mix fk166 (p166_e_10 a0) (obs_cons h0 (obs_cons h1 (obs_cons h2 (obs_cons h3 (obs_cons h4 (obs_cons h5 (obs_cons h6 (obs_cons h7 (obs_cons h8 (obs_cons h9 (obs_cons h10 (obs_cons h10 obs_nil))))))))))))
                      · rcases cond_inv h with ⟨h11, h⟩ | ⟨h11, h⟩
                        · obtain rfl := Option.some.inj h
                          exact Reach.done ttok mix fk166 (p166_e_11 a0) (obs_cons h0 (obs_cons h1 (obs_cons h2 (obs_cons h3 (obs_cons h4 (obs_cons h5 (obs_cons h6 (obs_cons h7 (obs_cons h8 (obs_cons h9 (obs_cons h10 (obs_cons h11 (obs_cons h11 obs_nil)))))))))))))
                        · rcases cond_inv h with ⟨h12, h⟩ | ⟨h12, h⟩
                          · obtain rfl := Option.some.inj h
                            exact Reach.done ttok mix fk166 (p166_e_12 a0) (obs_cons h0 (obs_cons h1 (obs_cons h2 (obs_cons h3 (obs_cons h4 (obs_cons h5 (obs_cons h6 (obs_cons h7 (obs_cons h8 (obs_cons h9 (obs_cons h10 (obs_cons h11 (obs_cons h12 obs_nil)))))))))))))
                          · rcases cond_inv h with ⟨h13, h⟩ | ⟨h13, h⟩
                            · obtain rfl := Option.some.inj h
                              exact Reach.done ttok mix fk166 (p166_e_13 a0) (obs_cons h0 (obs_cons h1 (obs_cons h2 (obs_cons h3 (obs_cons h4 (obs_cons h5 (obs_cons h6 (obs_cons h7 (obs_cons h8 (obs_cons h9 (obs_cons h10 (obs_cons h11 (obs_cons h12 (obs_cons h13 (obs_cons h13 obs_nil)))))))))))))))
                            · rcases cond_inv h with ⟨h14, h⟩ | ⟨h14, h⟩
                              · obtain rfl := Option.some.inj h
                                exact Reach.done ttok mix fk166 (p166_e_14 a0) (obs_cons h0 (obs_cons h1 (obs_cons h2 (obs_cons h3 (obs_cons h4 (obs_cons h5 (obs_cons h6 (obs_cons h7 (obs_cons h8 (obs_cons h9 (obs_cons h10 (obs_cons h11 (obs_cons h12 (obs_cons h13 (obs_cons h14 (obs_cons h14 obs_nil))))))))))))))))
                              · rcases cond_inv h with ⟨h15, h⟩ | ⟨h15, h⟩
                                · obtain rfl := Option.some.inj h
                                  exact Reach.done ttok mix fk166 (p166_e_15 a0) (obs_cons h0 (obs_cons h1 (obs_cons h2 (obs_cons h3 (obs_cons h4 (obs_cons h5 (obs_cons h6 (obs_cons h7 (obs_cons h8 (obs_cons h9 (obs_cons h10 (obs_cons h11 (obs_cons h12 (obs_cons h13 (obs_cons h14 (obs_cons h15 obs_nil))))))))))))))))
                                · rcases cond_inv h with ⟨h16, h⟩ | ⟨h16, h⟩
                                  · obtain rfl := Option.some.inj h
                                    exact Reach.done ttok mix fk166 (p166_e_16 a0) (obs_cons h0 (obs_cons h1 (obs_cons h2 (obs_cons h3 (obs_cons h4 (obs_cons h5 (obs_cons h6 (obs_cons h7 (obs_cons h8 (obs_cons h9 (obs_cons h10 (obs_cons h11 (obs_cons h12 (obs_cons h13 (obs_cons h14 (obs_cons h15 (obs_cons h16 obs_nil)))))))))))))))))
                                  · obtain rfl := Option.some.inj h
                                    exact Reach.done ttok mix fk166 (p166_e_17 a0) (obs_cons h0 (obs_cons h1 (obs_cons h2 (obs_cons h3 (obs_cons h4 (obs_cons h5 (obs_cons h6 (obs_cons h7 (obs_cons h8 (obs_cons h9 (obs_cons h10 (obs_cons h11 (obs_cons h12 (obs_cons h13 (obs_cons h14 (obs_cons h15 (obs_cons h16 obs_nil)))))))))))))))))
theorem impl_ArgumentCount_ok {N : Nat} {a0 : Str} {r : Int} (h : impl_ArgumentCount N  a0 = some r) : AbsCalls Try.prog 166 (impl_ArgumentCount_as a0) (impl_ArgumentCount_ro r) :=
 AbsCalls.of_reach fk166 rfl rfl (Nat.le_of_ble_eq_true rfl) (c166_e a0 r h)
noncomputable def I164 : Info := { body := (Try.f164.body).getD .skip, nt := 15, results := [.tmp 2], keep := [0, 4, 6, 8], live := [], modes := [], ext := [], lnt := [], casts := [], fcast := [] }
theorem fk164 : FnOk Try.prog 164 Try.f164 I164 := ⟨Try.func164, by kernel_rfl, by kernel_rfl, by kernel_rfl, by kernel_rfl⟩
theorem p164_e_0 (a0 : Str) : run tt (AbsCalls Try.prog) I164 3000 false [.code I164.body] ⟨(entry 0 (impl_IsReserved_as a0)), [true, true], [], []⟩ = some (.done (impl_IsReserved_ro true) [((a0 : Str) == [108, 101, 116]) = true, ((a0 : Str) == [108, 101, 116]) = true]) := by kernel_rfl
theorem p164_e_1 (a0 : Str) : run tt (AbsCalls Try.prog) I164 3000 false [.code I164.body] ⟨(entry 0 (impl_IsReserved_as a0)), [false, true, true], [], []⟩ = some (.done (impl_IsReserved_ro true) [((a0 : Str) == [108, 101, 116]) = false, ((a0 : Str) == [105, 110]) = true, ((a0 : Str) == [105, 110]) = true]) := by kernel_rfl
theorem p164_e_2 (a0 : Str) : run tt (AbsCalls Try.prog) I164 3000 false [.code I164.body] ⟨(entry 0 (impl_IsReserved_as a0)), [false, false, true, true], [], []⟩ = some (.done (impl_IsReserved_ro true) [((a0 : Str) == [108, 101, 116]) = false, ((a0 : Str) == [105, 110]) = false, ((a0 : Str) == [105, 102]) = true, ((a0 : Str) == [105, 102]) = true]) := by kernel_rfl
theorem p164_e_3 (a0 : Str) : run tt (AbsCalls Try.prog) I164 3000 false [.code I164.body] ⟨(entry 0 (impl_IsReserved_as a0)), [false, false, false, true, true], [], []⟩ = some (.done (impl_IsReserved_ro true) [((a0 : Str) == [108, 101, 116]) = false, ((a0 : Str) == [105, 110]) = false, ((a0 : Str) == [105, 102]) = false, ((a0 : Str) == [116, 104, 101, 110]) = true, ((a0 : Str) == [116, 104, 101, 110]) = true]) := by kernel_rfl
theorem p164_e_4 (a0 : Str) : run tt (AbsCalls Try.prog) I164 3000 false [.code I164.body] ⟨(entry 0 (impl_IsReserved_as a0)), [false, false, false, false, true, true], [], []⟩ = some (.done (impl_IsReserved_ro true) [((a0 : Str) == [108, 101, 116]) = false, ((a0 : Str) == [105, 110]) = false, ((a0 : Str) == [105, 102]) = false, ((a0 : Str) == [116, 104, 101, 110]) = false, ((a0 : Str) == [101, 108, 115, 101]) = true, ((a0 : Str) == [101, 108, 115, 101]) = true]) := by kernel_rfl
theorem p164_e_5 (a0 : Str) : run tt (AbsCalls Try.prog) I164 3000 false [.code I164.body] ⟨(entry 0 (impl_IsReserved_as a0)), [false, false, false, false, false, true, true], [], []⟩ = some (.done (impl_IsReserved_ro true) [((a0 : Str) == [108, 101, 116]) = false, ((a0 : Str) == [105, 110]) = false, ((a0 : Str) == [105, 102]) = false, ((a0 : Str) == [116, 104, 101, 110]) = false, ((a0 : Str) == [101, 108, 115, 101]) = false, ((a0 : Str) == [102, 111, 114]) = true, ((a0 : Str) == [102, 111, 114]) = true]) := by kernel_rfl
theorem p164_e_6 (a0 : Str) : run tt (AbsCalls Try.prog) I164 3000 false [.code I164.body] ⟨(entry 0 (impl_IsReserved_as a0)), [false, false, false, false, false, false, true], [], []⟩ = some (.done (impl_IsReserved_ro true) [((a0 : Str) == [108, 101, 116]) = false, ((a0 : Str) == [105, 110]) = false, ((a0 : Str) == [105, 102]) = false, ((a0 : Str) == [116, 104, 101, 110]) = false, ((a0 : Str) == [101, 108, 115, 101]) = false, ((a0 : Str) == [102, 111, 114]) = false, ((a0 : Str) == [100, 111]) = true]) := by kernel_rfl
theorem p164_e_7 (a0 : Str) (r1 : Int) : run tt (AbsCalls Try.prog) I164 3000 false [.code I164.body] ⟨(entry 0 (impl_IsReserved_as a0)), [false, false, false, false, false, false, false], [impl_ArgumentCount_ro r1], []⟩ = some (.done (impl_IsReserved_ro (decide ((r1 : Int) ≥ 0))) [((a0 : Str) == [108, 101, 116]) = false, ((a0 : Str) == [105, 110]) = false, ((a0 : Str) == [105, 102]) = false, ((a0 : Str) == [116, 104, 101, 110]) = false, ((a0 : Str) == [101, 108, 115, 101]) = false, ((a0 : Str) == [102, 111, 114]) = false, ((a0 : Str) == [100, 111]) = false, AbsCalls Try.prog 166 (impl_ArgumentCount_as a0) (impl_ArgumentCount_ro r1)]) := by kernel_rfl
theorem c164_e {N : Nat} : ∀ a0 r, impl_IsReserved N a0 = some r → Reach Try.prog Try.f164 I164 [.code I164.body] (entry 0 (impl_IsReserved_as a0)) (impl_IsReserved_ro r) := by
  intro a0 r h
  unfold impl_IsReserved at h
  rcases cond_inv h with ⟨h0, h⟩ | ⟨h0, h⟩
  · obtain rfl := Option.some.inj h
    exact Reach.done ttok mix fk164 (p164_e_0 a0) (obs_cons h0 (obs_cons h0 obs_nil))
  · rcases cond_inv h with ⟨h1, h⟩ | ⟨h1, h⟩
    · obtain rfl := Option.some.inj h
      exact Reach.done ttok mix fk164 (p164_e_1 a0) (obs_cons h0 (obs_cons h1 (obs_cons h1 obs_nil)))
    · rcases cond_inv h with ⟨h2, h⟩ | ⟨h2, h⟩
      · obtain rfl := Option.some.inj h
        exact Reach.done ttok mix fk164 (p164_e_2 a0) (obs_cons h0 (obs_cons h1 (obs_cons h2 (obs_cons h2 obs_nil))))
      · rcases cond_inv h with ⟨h3, h⟩ | ⟨h3, h⟩
        · obtain rfl := Option.some.inj h
          exact Reach.done ttok mix fk164 (p164_e_3 a0) (obs_cons h0 (obs_cons h1 (obs_cons h2 (obs_cons h3 (obs_cons h3 obs_nil)))))
        · rcases cond_inv h with ⟨h4, h⟩ | ⟨h4, h⟩
          · obtain rfl := Option.some.inj h
            exact Reach.done ttok mix fk164 (p164_e_4 a0) (obs_cons h0 (obs_cons h1 (obs_cons h2 (obs_cons h3 (obs_cons h4 (obs_cons h4 obs_nil))))))
          · rcases cond_inv h with ⟨h5, h⟩ | ⟨h5, h⟩
            · obtain rfl := Option.some.inj h
              exact Reach.done ttok mix fk164 (p164_e_5 a0) (obs_cons h0 (obs_cons h1 (obs_cons h2 (obs_cons h3 (obs_cons h4 (obs_cons h5 (obs_cons h5 obs_nil)))))))
            · rcases cond_inv h with ⟨h6, h⟩ | ⟨h6, h⟩
              · obtain rfl := Option.some.inj h
                exact Reach.done ttok mix fk164 (p164_e_6 a0) (obs_cons h0 (obs_cons h1 (obs_cons h2 (obs_cons h3 (obs_cons h4 (obs_cons h5 (obs_cons h6 obs_nil)))))))
              · obtain ⟨r1, h7, h⟩ := bind_inv h
                obtain rfl := Option.some.inj h
                exact Reach.done ttok mix fk164 (p164_e_7 a0 r1) (obs_cons h0 (obs_cons h1 (obs_cons h2 (obs_cons h3 (obs_cons h4 (obs_cons h5 (obs_cons h6 (obs_cons (impl_ArgumentCount_ok h7) obs_nil))))))))
theorem impl_IsReserved_ok {N : Nat} {a0 : Str} {r : Bool} (h : impl_IsReserved N  a0 = some r) : AbsCalls Try.prog 164 (impl_IsReserved_as a0) (impl_IsReserved_ro r) :=
 AbsCalls.of_reach fk164 rfl rfl (Nat.le_of_ble_eq_true rfl) (c164_e a0 r h)
noncomputable def I158 : Info := { body := (Try.f158.body).getD .skip, nt := 10, results := [.tmp 2], keep := [0, 4], live := [], modes := [(1, [(2, .take, false)])], ext := [], lnt := [], casts := [], fcast := [] }
theorem fk158 : FnOk Try.prog 158 Try.f158 I158 := ⟨Try.func158, by kernel_rfl, by kernel_rfl, by kernel_rfl, by kernel_rfl⟩
theorem p158_e_0 (a0 : Str) (r1 : Bool) (r2 : Bool) : run tt (AbsCalls Try.prog) I158 3000 false [.code I158.body] ⟨(entry 0 (impl_IsValidName_as a0)), [true], [impl_isWord_ro r1, impl_IsReserved_ro r2], []⟩ = some (.done (impl_IsValidName_ro (!r2)) [AbsCalls Try.prog 163 (impl_isWord_as a0) (impl_isWord_ro r1), r1 = true, AbsCalls Try.prog 164 (impl_IsReserved_as a0) (impl_IsReserved_ro r2)]) := by kernel_rfl
theorem p158_e_1 (a0 : Str) (r1 : Bool) : run tt (AbsCalls Try.prog) I158 3000 false [.code I158.body] ⟨(entry 0 (impl_IsValidName_as a0)), [false], [impl_isWord_ro r1], []⟩ = some (.done (impl_IsValidName_ro false) [AbsCalls Try.prog 163 (impl_isWord_as a0) (impl_isWord_ro r1), r1 = false]) := by kernel_rfl
theorem c158_e {N : Nat} : ∀ a0 r, impl_IsValidName N a0 = some r → Reach Try.prog Try.f158 I158 [.code I158.body] (entry 0 (impl_IsValidName_as a0)) (impl_IsValidName_ro r) := by
  intro a0 r h
  unfold impl_IsValidName at h
  obtain ⟨r1, h0, h⟩ := bind_inv h
  rcases cond_inv h with ⟨h1, h⟩ | ⟨h1, h⟩
  · obtain ⟨r2, h2, h⟩ := bind_inv h
    obtain rfl := Option.some.inj h
    exact Reach.done ttok mix fk158 (p158_e_0 a0 r1 r2) (obs_cons (impl_isWord_ok h0) (obs_cons h1 (obs_cons (impl_IsReserved_ok h2) obs_nil)))
  · obtain rfl := Option.some.inj h
    exact Reach.done ttok mix fk158 (p158_e_1 a0 r1) (obs_cons (impl_isWord_ok h0) (obs_cons h1 obs_nil))
theorem impl_IsValidName_ok {N : Nat} {a0 : Str} {r : Bool} (h : impl_IsValidName N  a0 = some r) : AbsCalls Try.prog 158 (impl_IsValidName_as a0) (impl_IsValidName_ro r) :=
 AbsCalls.of_reach fk158 rfl rfl (Nat.le_of_ble_eq_true rfl) (c158_e a0 r h)
noncomputable def I146 : Info := { body := (Try.f146.body).getD .skip, nt := 19, results := [.tmp 4], keep := [0, 2, 8, 10, 12, 14, 16, 18, 20, 32], live := [(2, [2, 14, 16, 18])], modes := [(4, [(0, .take, false)]), (5, [(0, .take, false)]), (6, [(1, .take, false)])], ext := [], lnt := [], casts := [], fcast := [] }
theorem fk146 : FnOk Try.prog 146 Try.f146 I146 := ⟨Try.func146, by kernel_rfl, by kernel_rfl, by kernel_rfl, by kernel_rfl⟩
def S146_2 (x1 : Str) (x7 : List Str) (x8 : Int) (x9 : Int) : St := [(2, .v false [.str x1]), (14, .v false [.sl .ro .str x7]), (16, .v false [.int .i64 x8]), (18, .v false [.int .i64 x9])]
theorem p146_2_0 (x1 : Str) (x7 : List Str) (x8 : Int) (x9 : Int) : run tt (AbsCalls Try.prog) I146 3000 true (stkAt 2 I146.body) ⟨(S146_2 x1 x7 x8 x9), [true, true], [], []⟩ = some (.done (impl_IndexOf_ro x9) [(decide ((x9 : Int) < x8)) = true, (0 : Int) ≤ x9 ∧ x9 < (List.length x7), (((List.getD x7 (Int.toNat x9) Ty.str.dflt) : Str) == x1) = true]) := by kernel_rfl
theorem p146_2_1 (x1 : Str) (x7 : List Str) (x8 : Int) (x9 : Int) : run tt (AbsCalls Try.prog) I146 3000 true (stkAt 2 I146.body) ⟨(S146_2 x1 x7 x8 x9), [true, false], [], []⟩ = some (.stop (stkAt 2 I146.body) (S146_2 x1 x7 x8 (IntKind.i64.wrap (x9 + 1))) [(decide ((x9 : Int) < x8)) = true, (0 : Int) ≤ x9 ∧ x9 < (List.length x7), (((List.getD x7 (Int.toNat x9) Ty.str.dflt) : Str) == x1) = false]) := by kernel_rfl
theorem p146_2_2 (x1 : Str) (x7 : List Str) (x8 : Int) (x9 : Int) : run tt (AbsCalls Try.prog) I146 3000 true (stkAt 2 I146.body) ⟨(S146_2 x1 x7 x8 x9), [false], [], []⟩ = some (.done (impl_IndexOf_ro (-1)) [(decide ((x9 : Int) < x8)) = false]) := by kernel_rfl
theorem p146_e_3 (a0 : List Str) (a1 : Str) : run tt (AbsCalls Try.prog) I146 3000 false [.code I146.body] ⟨(entry 0 (impl_IndexOf_as a0 a1)), [], [], []⟩ = some (.stop (stkAt 2 I146.body) (S146_2 a1 a0 (List.length a0 : Int) 0) []) := by kernel_rfl
theorem c146_2 {N : Nat} : ∀ n x1 x7 x8 x9 r, impl_IndexOf_b2 N n x1 x7 x8 x9 = some r → Reach Try.prog Try.f146 I146 (stkAt 2 I146.body) (S146_2 x1 x7 x8 x9) (impl_IndexOf_ro r) := by
  intro n
  induction n with
  | zero => intro x1 x7 x8 x9 r h; have h' : (none : Option (Int)) = some r := h; cases h'
  | succ n ih =>
    intro x1 x7 x8 x9 r h
    rw [impl_IndexOf_b2] at h
    rcases cond_inv h with ⟨h0, h⟩ | ⟨h0, h⟩
    · obtain ⟨h1, h⟩ := ite_inv h
      rcases cond_inv h with ⟨h2, h⟩ | ⟨h2, h⟩
      · obtain rfl := Option.some.inj h
        exact Reach.done ttok mix fk146 (p146_2_0 x1 x7 x8 x9) (obs_cons h0 (obs_cons h1 (obs_cons h2 obs_nil)))
      · exact Reach.stop ttok mix fk146 (p146_2_1 x1 x7 x8 x9) (obs_cons h0 (obs_cons h1 (obs_cons h2 obs_nil))) (ih _ _ _ _ _ h)
    · obtain rfl := Option.some.inj h
      exact Reach.done ttok mix fk146 (p146_2_2 x1 x7 x8 x9) (obs_cons h0 obs_nil)
theorem c146_e {N : Nat} : ∀ a0 a1 r, impl_IndexOf N a0 a1 = some r → Reach Try.prog Try.f146 I146 [.code I146.body] (entry 0 (impl_IndexOf_as a0 a1)) (impl_IndexOf_ro r) := by
  intro a0 a1 r h
  unfold impl_IndexOf at h
  exact Reach.stop ttok mix fk146 (p146_e_3 a0 a1) obs_nil (c146_2   _ _ _ _ _ _ h)
theorem impl_IndexOf_ok {N : Nat} {a0 : List Str} {a1 : Str} {r : Int} (h : impl_IndexOf N  a0 a1 = some r) : AbsCalls Try.prog 146 (impl_IndexOf_as a0 a1) (impl_IndexOf_ro r) :=
 AbsCalls.of_reach fk146 rfl rfl (Nat.le_of_ble_eq_true rfl) (c146_e a0 a1 r h)
noncomputable def I159 : Info := { body := (Try.f159.body).getD .skip, nt := 18, results := [.tmp 2], keep := [0, 4, 6, 8, 10, 12, 14, 16, 32], live := [(2, [0, 10, 12, 14])], modes := [(4, [(1, .take, false), (3, .take, false)]), (6, [(1, .take, false)])], ext := [], lnt := [], casts := [], fcast := [] }
theorem fk159 : FnOk Try.prog 159 Try.f159 I159 := ⟨Try.func159, by kernel_rfl, by kernel_rfl, by kernel_rfl, by kernel_rfl⟩
def S159_2 (x0 : List Str) (x5 : List Str) (x6 : Int) (x7 : Int) : St := [(0, .v false [.sl .ro .str x0]), (10, .v false [.sl .ro .str x5]), (12, .v false [.int .i64 x6]), (14, .v false [.int .i64 x7])]
theorem p159_2_0 (x0 : List Str) (x5 : List Str) (x6 : Int) (x7 : Int) (r1 : Int) : run tt (AbsCalls Try.prog) I159 3000 true (stkAt 2 I159.body) ⟨(S159_2 x0 x5 x6 x7), [true, true], [impl_IndexOf_ro r1], []⟩ = some (.done (impl_AllDistinct_ro false) [(decide ((x7 : Int) < x6)) = true, (0 : Int) ≤ x7 ∧ x7 < (List.length x5), AbsCalls Try.prog 146 (impl_IndexOf_as x0 (List.getD x5 (Int.toNat x7) Ty.str.dflt)) (impl_IndexOf_ro r1), ((r1 : Int) != x7) = true]) := by kernel_rfl
theorem p159_2_1 (x0 : List Str) (x5 : List Str) (x6 : Int) (x7 : Int) (r1 : Int) : run tt (AbsCalls Try.prog) I159 3000 true (stkAt 2 I159.body) ⟨(S159_2 x0 x5 x6 x7), [true, false], [impl_IndexOf_ro r1], []⟩ = some (.stop (stkAt 2 I159.body) (S159_2 x0 x5 x6 (IntKind.i64.wrap (x7 + 1))) [(decide ((x7 : Int) < x6)) = true, (0 : Int) ≤ x7 ∧ x7 < (List.length x5), AbsCalls Try.prog 146 (impl_IndexOf_as x0 (List.getD x5 (Int.toNat x7) Ty.str.dflt)) (impl_IndexOf_ro r1), ((r1 : Int) != x7) = false]) := by kernel_rfl
theorem p159_2_2 (x0 : List Str) (x5 : List Str) (x6 : Int) (x7 : Int) : run tt (AbsCalls Try.prog) I159 3000 true (stkAt 2 I159.body) ⟨(S159_2 x0 x5 x6 x7), [false], [], []⟩ = some (.done (impl_AllDistinct_ro true) [(decide ((x7 : Int) < x6)) = false]) := by kernel_rfl
theorem p159_e_3 (a0 : List Str) : run tt (AbsCalls Try.prog) I159 3000 false [.code I159.body] ⟨(entry 0 (impl_AllDistinct_as a0)), [], [], []⟩ = some (.stop (stkAt 2 I159.body) (S159_2 a0 a0 (List.length a0 : Int) 0) []) := by kernel_rfl
theorem c159_2 {N : Nat} : ∀ n x0 x5 x6 x7 r, impl_AllDistinct_b2 N n x0 x5 x6 x7 = some r → Reach Try.prog Try.f159 I159 (stkAt 2 I159.body) (S159_2 x0 x5 x6 x7) (impl_AllDistinct_ro r) := by
  intro n
  induction n with
  | zero => intro x0 x5 x6 x7 r h; have h' : (none : Option (Bool)) = some r := h; cases h'
  | succ n ih =>
    intro x0 x5 x6 x7 r h
    rw [impl_AllDistinct_b2] at h
    rcases cond_inv h with ⟨h0, h⟩ | ⟨h0, h⟩
    · obtain ⟨h1, h⟩ := ite_inv h
      obtain ⟨r1, h2, h⟩ := bind_inv h
      rcases cond_inv h with ⟨h3, h⟩ | ⟨h3, h⟩
      · obtain rfl := Option.some.inj h
        exact Reach.done ttok mix fk159 (p159_2_0 x0 x5 x6 x7 r1) (obs_cons h0 (obs_cons h1 (obs_cons (impl_IndexOf_ok h2) (obs_cons h3 obs_nil))))
      · exact Reach.stop ttok mix fk159 (p159_2_1 x0 x5 x6 x7 r1) (obs_cons h0 (obs_cons h1 (obs_cons (impl_IndexOf_ok h2) (obs_cons h3 obs_nil)))) (ih _ _ _ _ _ h)
    · obtain rfl := Option.some.inj h
      exact Reach.done ttok mix fk159 (p159_2_2 x0 x5 x6 x7) (obs_cons h0 obs_nil)
theorem c159_e {N : Nat} : ∀ a0 r, impl_AllDistinct N a0 = some r → Reach Try.prog Try.f159 I159 [.code I159.body] (entry 0 (impl_AllDistinct_as a0)) (impl_AllDistinct_ro r) := by
  intro a0 r h
  unfold impl_AllDistinct at h
  exact Reach.stop ttok mix fk159 (p159_e_3 a0) obs_nil (c159_2   _ _ _ _ _ _ h)
theorem impl_AllDistinct_ok {N : Nat} {a0 : List Str} {r : Bool} (h : impl_AllDistinct N  a0 = some r) : AbsCalls Try.prog 159 (impl_AllDistinct_as a0) (impl_AllDistinct_ro r) :=
 AbsCalls.of_reach fk159 rfl rfl (Nat.le_of_ble_eq_true rfl) (c159_e a0 r h)
noncomputable def I153 : Info := { body := (Try.f153.body).getD .skip, nt := 22, results := [.tmp 2], keep := [0, 4, 8, 10, 12, 14, 16, 26], live := [(2, [0, 10, 12, 14])], modes := [(4, [(0, .take, false)]), (6, [(1, .take, false)]), (7, [(3, .take, false)])], ext := [], lnt := [], casts := [], fcast := [] }
theorem fk153 : FnOk Try.prog 153 Try.f153 I153 := ⟨Try.func153, by kernel_rfl, by kernel_rfl, by kernel_rfl, by kernel_rfl⟩
def S153_2 (x0 : List Str) (x5 : List Str) (x6 : Int) (x7 : Int) : St := [(0, .v false [.sl .ro .str x0]), (10, .v false [.sl .ro .str x5]), (12, .v false [.int .i64 x6]), (14, .v false [.int .i64 x7])]
theorem p153_2_0 (x0 : List Str) (x5 : List Str) (x6 : Int) (x7 : Int) (r1 : Bool) : run tt (AbsCalls Try.prog) I153 3000 true (stkAt 2 I153.body) ⟨(S153_2 x0 x5 x6 x7), [true, true], [impl_IsValidName_ro r1], []⟩ = some (.done (impl_areColumns_ro false) [(decide ((x7 : Int) < x6)) = true, (0 : Int) ≤ x7 ∧ x7 < (List.length x5), AbsCalls Try.prog 158 (impl_IsValidName_as (List.getD x5 (Int.toNat x7) Ty.str.dflt)) (impl_IsValidName_ro r1), (!r1) = true]) := by kernel_rfl
theorem p153_2_1 (x0 : List Str) (x5 : List Str) (x6 : Int) (x7 : Int) (r1 : Bool) : run tt (AbsCalls Try.prog) I153 3000 true (stkAt 2 I153.body) ⟨(S153_2 x0 x5 x6 x7), [true, false], [impl_IsValidName_ro r1], []⟩ = some (.stop (stkAt 2 I153.body) (S153_2 x0 x5 x6 (IntKind.i64.wrap (x7 + 1))) [(decide ((x7 : Int) < x6)) = true, (0 : Int) ≤ x7 ∧ x7 < (List.length x5), AbsCalls Try.prog 158 (impl_IsValidName_as (List.getD x5 (Int.toNat x7) Ty.str.dflt)) (impl_IsValidName_ro r1), (!r1) = false]) := by kernel_rfl
theorem p153_2_2 (x0 : List Str) (x5 : List Str) (x6 : Int) (x7 : Int) (r1 : Bool) (r2 : Bool) : run tt (AbsCalls Try.prog) I153 3000 true (stkAt 2 I153.body) ⟨(S153_2 x0 x5 x6 x7), [false, true], [impl_within_ro r1, impl_AllDistinct_ro r2], []⟩ = some (.done (impl_areColumns_ro r2) [(decide ((x7 : Int) < x6)) = false, AbsCalls Try.prog 101 (impl_within_as (List.length x0 : Int) 1 4) (impl_within_ro r1), r1 = true, AbsCalls Try.prog 159 (impl_AllDistinct_as x0) (impl_AllDistinct_ro r2)]) := by kernel_rfl
theorem p153_2_3 (x0 : List Str) (x5 : List Str) (x6 : Int) (x7 : Int) (r1 : Bool) : run tt (AbsCalls Try.prog) I153 3000 true (stkAt 2 I153.body) ⟨(S153_2 x0 x5 x6 x7), [false, false], [impl_within_ro r1], []⟩ = some (.done (impl_areColumns_ro false) [(decide ((x7 : Int) < x6)) = false, AbsCalls Try.prog 101 (impl_within_as (List.length x0 : Int) 1 4) (impl_within_ro r1), r1 = false]) := by kernel_rfl
theorem p153_e_4 (a0 : List Str) : run tt (AbsCalls Try.prog) I153 3000 false [.code I153.body] ⟨(entry 0 (impl_areColumns_as a0)), [], [], []⟩ = some (.stop (stkAt 2 I153.body) (S153_2 a0 a0 (List.length a0 : Int) 0) []) := by kernel_rfl
theorem c153_2 {N : Nat} : ∀ n x0 x5 x6 x7 r, impl_areColumns_b2 N n x0 x5 x6 x7 = some r → Reach Try.prog Try.f153 I153 (stkAt 2 I153.body) (S153_2 x0 x5 x6 x7) (impl_areColumns_ro r) := by
  intro n
  induction n with
  | zero => intro x0 x5 x6 x7 r h; have h' : (none : Option (Bool)) = some r := h; cases h'
  | succ n ih =>
    intro x0 x5 x6 x7 r h
    rw [impl_areColumns_b2] at h
    rcases cond_inv h with ⟨h0, h⟩ | ⟨h0, h⟩
    · obtain ⟨h1, h⟩ := ite_inv h
      obtain ⟨r1, h2, h⟩ := bind_inv h
      rcases cond_inv h with ⟨h3, h⟩ | ⟨h3, h⟩
      · obtain rfl := Option.some.inj h
        exact Reach.done ttok mix fk153 (p153_2_0 x0 x5 x6 x7 r1) (obs_cons h0 (obs_cons h1 (obs_cons (impl_IsValidName_ok h2) (obs_cons h3 obs_nil))))
      · exact Reach.stop ttok mix fk153 (p153_2_1 x0 x5 x6 x7 r1) (obs_cons h0 (obs_cons h1 (obs_cons (impl_IsValidName_ok h2) (obs_cons h3 obs_nil)))) (ih _ _ _ _ _ h)
    · obtain ⟨r1, h1, h⟩ := bind_inv h
      rcases cond_inv h with ⟨h2, h⟩ | ⟨h2, h⟩
      · obtain ⟨r2, h3, h⟩ := bind_inv h
        obtain rfl := Option.some.inj h
        exact Reach.done ttok mix fk153 (p153_2_2 x0 x5 x6 x7 r1 r2) (obs_cons h0 (obs_cons (impl_within_ok h1) (obs_cons h2 (obs_cons (impl_AllDistinct_ok h3) obs_nil))))
      · obtain rfl := Option.some.inj h
        exact Reach.done ttok mix fk153 (p153_2_3 x0 x5 x6 x7 r1) (obs_cons h0 (obs_cons (impl_within_ok h1) (obs_cons h2 obs_nil)))
theorem c153_e {N : Nat} : ∀ a0 r, impl_areColumns N a0 = some r → Reach Try.prog Try.f153 I153 [.code I153.body] (entry 0 (impl_areColumns_as a0)) (impl_areColumns_ro r) := by
  intro a0 r h
  unfold impl_areColumns at h
  exact Reach.stop ttok mix fk153 (p153_e_4 a0) obs_nil (c153_2   _ _ _ _ _ _ h)
theorem impl_areColumns_ok {N : Nat} {a0 : List Str} {r : Bool} (h : impl_areColumns N  a0 = some r) : AbsCalls Try.prog 153 (impl_areColumns_as a0) (impl_areColumns_ro r) :=
 AbsCalls.of_reach fk153 rfl rfl (Nat.le_of_ble_eq_true rfl) (c153_e a0 r h)
noncomputable def I154 : Info := { body := (Try.f154.body).getD .skip, nt := 24, results := [.tmp 4], keep := [0, 2, 4, 6, 8, 5, 7], live := [], modes := [(1, [(5, .take, false), (11, .take, false)])], ext := [], lnt := [], casts := [], fcast := [] }
theorem fk154 : FnOk Try.prog 154 Try.f154 I154 := ⟨Try.func154, by kernel_rfl, by kernel_rfl, by kernel_rfl, by kernel_rfl⟩
theorem p154_e_0 (a0 : Org) (a1 : Org) : run tt (AbsCalls Try.prog) I154 3000 false [.code I154.body] ⟨(entry 0 (impl_originBefore_as a0 a1)), [true], [], []⟩ = some (.done (impl_originBefore_ro true) [(decide (((Org.cell a0) : Int) < (Org.cell a1))) = true]) := by kernel_rfl
theorem p154_e_1 (a0 : Org) (a1 : Org) : run tt (AbsCalls Try.prog) I154 3000 false [.code I154.body] ⟨(entry 0 (impl_originBefore_as a0 a1)), [false, true], [], []⟩ = some (.done (impl_originBefore_ro (decide (((Org.row a0) : Int) < (Org.row a1)))) [(decide (((Org.cell a0) : Int) < (Org.cell a1))) = false, (((Org.cell a0) : Int) == (Org.cell a1)) = true]) := by kernel_rfl
theorem p154_e_2 (a0 : Org) (a1 : Org) : run tt (AbsCalls Try.prog) I154 3000 false [.code I154.body] ⟨(entry 0 (impl_originBefore_as a0 a1)), [false, false], [], []⟩ = some (.done (impl_originBefore_ro false) [(decide (((Org.cell a0) : Int) < (Org.cell a1))) = false, (((Org.cell a0) : Int) == (Org.cell a1)) = false]) := by kernel_rfl
theorem c154_e {N : Nat} : ∀ a0 a1 r, impl_originBefore N a0 a1 = some r → Reach Try.prog Try.f154 I154 [.code I154.body] (entry 0 (impl_originBefore_as a0 a1)) (impl_originBefore_ro r) := by
  intro a0 a1 r h
  unfold impl_originBefore at h
  rcases cond_inv h with ⟨h0, h⟩ | ⟨h0, h⟩
  · obtain rfl := Option.some.inj h
    exact Reach.done ttok mix fk154 (p154_e_0 a0 a1) (obs_cons h0 obs_nil)
  · rcases cond_inv h with ⟨h1, h⟩ | ⟨h1, h⟩
    · obtain rfl := Option.some.inj h
      exact Reach.done ttok mix fk154 (p154_e_1 a0 a1) (obs_cons h0 (obs_cons h1 obs_nil))
    · obtain rfl := Option.some.inj h
      exact Reach.done ttok mix fk154 (p154_e_2 a0 a1) (obs_cons h0 (obs_cons h1 obs_nil))
theorem impl_originBefore_ok {N : Nat} {a0 : Org} {a1 : Org} {r : Bool} (h : impl_originBefore N  a0 a1 = some r) : AbsCalls Try.prog 154 (impl_originBefore_as a0 a1) (impl_originBefore_ro r) :=
 AbsCalls.of_reach fk154 rfl rfl (Nat.le_of_ble_eq_true rfl) (c154_e a0 a1 r h)
noncomputable def I143 : Info := { body := (Try.f143.body).getD .skip, nt := 77, results := [.tmp 2], keep := [0, 2, 4, 8, 12, 14, 16, 36, 40, 42, 44, 46, 64, 68, 70, 72, 74, 84, 90, 92, 94, 96, 148, 3, 9, 17], live := [(4, [2, 40, 42, 44, 3]), (9, [2, 8, 40, 42, 44, 68, 70, 72, 3, 9]), (15, [2, 8, 40, 42, 44, 90, 92, 94, 3, 9])], modes := [(1, [(4, .take, false)]), (11, [(0, .take, false)]), (13, [(1, .take, false)]), (17, [(3, .take, false), (8, .take, false), (11, .take, false)]), (19, [(1, .take, false)]), (20, [(1, .take, false)])], ext := [], lnt := [], casts := [], fcast := [] }
theorem fk143 : FnOk Try.prog 143 Try.f143 I143 := ⟨Try.func143, by kernel_rfl, by kernel_rfl, by kernel_rfl, by kernel_rfl⟩
def S143_4 (x20 : List Rowd) (x21 : Int) (x22 : Int) (b1 : Val) : St := [(2, .v false [.ptr 1 0]), (40, .v false [.sl .ro .row x20]), (42, .v false [.int .i64 x21]), (44, .v false [.int .i64 x22]), (3, .v true [.int .i64 (Val.kind b1), .int .i64 (Val.n b1), .int .i64 (Val.step b1), .str (Val.text b1), .sl .ro .val (Val.list b1), .sl .ro .str (Val.columns b1), .sl .ro .row (Val.rows b1)])]
def S143_9 (x20 : List Rowd) (x21 : Int) (x22 : Int) (x34 : List Int) (x35 : Int) (x36 : Int) (b1 : Val) (b4 : Rowd) : St := [(2, .v false [.ptr 1 0]), (8, .v false [.ptr 4 0]), (40, .v false [.sl .ro .row x20]), (42, .v false [.int .i64 x21]), (44, .v false [.int .i64 x22]), (68, .v false [.sl .ro .int x34]), (70, .v false [.int .i64 x35]), (72, .v false [.int .i64 x36]), (3, .v true [.int .i64 (Val.kind b1), .int .i64 (Val.n b1), .int .i64 (Val.step b1), .str (Val.text b1), .sl .ro .val (Val.list b1), .sl .ro .str (Val.columns b1), .sl .ro .row (Val.rows b1)]), (9, .v true [.sl .ro .int (Rowd.cells b4), .sl .ro .org (Rowd.frm b4)])]
def S143_15 (x20 : List Rowd) (x21 : Int) (x22 : Int) (x45 : List Org) (x46 : Int) (x47 : Int) (b1 : Val) (b4 : Rowd) : St := [(2, .v false [.ptr 1 0]), (8, .v false [.ptr 4 0]), (40, .v false [.sl .ro .row x20]), (42, .v false [.int .i64 x21]), (44, .v false [.int .i64 x22]), (90, .v false [.sl .ro .org x45]), (92, .v false [.int .i64 x46]), (94, .v false [.int .i64 x47]), (3, .v true [.int .i64 (Val.kind b1), .int .i64 (Val.n b1), .int .i64 (Val.step b1), .str (Val.text b1), .sl .ro .val (Val.list b1), .sl .ro .str (Val.columns b1), .sl .ro .row (Val.rows b1)]), (9, .v true [.sl .ro .int (Rowd.cells b4), .sl .ro .org (Rowd.frm b4)])]
theorem p143_15_0 (x20 : List Rowd) (x21 : Int) (x22 : Int) (x45 : List Org) (x46 : Int) (x47 : Int) (b1 : Val) (b4 : Rowd) : run tt (AbsCalls Try.prog) I143 3000 true (stkAt 15 I143.body) ⟨(S143_15 x20 x21 x22 x45 x46 x47 b1 b4), [true, true, true, true], [], []⟩ = some (.done (impl_isTable_ro false) [(decide ((x47 : Int) < x46)) = true, (0 : Int) ≤ x47 ∧ x47 < (List.length x45), (decide (((Org.cell (List.getD x45 (Int.toNat x47) Ty.org.dflt)) : Int) < 0)) = true, true = true, true = true]) := by kernel_rfl
theorem p143_15_1 (x20 : List Rowd) (x21 : Int) (x22 : Int) (x45 : List Org) (x46 : Int) (x47 : Int) (b1 : Val) (b4 : Rowd) : run tt (AbsCalls Try.prog) I143 3000 true (stkAt 15 I143.body) ⟨(S143_15 x20 x21 x22 x45 x46 x47 b1 b4), [true, false, true, true], [], []⟩ = some (.done (impl_isTable_ro false) [(decide ((x47 : Int) < x46)) = true, (0 : Int) ≤ x47 ∧ x47 < (List.length x45), (decide (((Org.cell (List.getD x45 (Int.toNat x47) Ty.org.dflt)) : Int) < 0)) = false, (decide (((Org.row (List.getD x45 (Int.toNat x47) Ty.org.dflt)) : Int) < 0)) = true, true = true]) := by kernel_rfl
theorem p143_15_2 (x20 : List Rowd) (x21 : Int) (x22 : Int) (x45 : List Org) (x46 : Int) (x47 : Int) (b1 : Val) (b4 : Rowd) (r1 : Bool) : run tt (AbsCalls Try.prog) I143 3000 true (stkAt 15 I143.body) ⟨(S143_15 x20 x21 x22 x45 x46 x47 b1 b4), [true, false, false, true, true], [impl_originBefore_ro r1], []⟩ = some (.done (impl_isTable_ro false) [(decide ((x47 : Int) < x46)) = true, (0 : Int) ≤ x47 ∧ x47 < (List.length x45), (decide (((Org.cell (List.getD x45 (Int.toNat x47) Ty.org.dflt)) : Int) < 0)) = false, (decide (((Org.row (List.getD x45 (Int.toNat x47) Ty.org.dflt)) : Int) < 0)) = false, (decide ((x47 : Int) > 0)) = true, (0 : Int) ≤ (IntKind.i64.wrap (x47 - 1)) ∧ (IntKind.i64.wrap (x47 - 1)) < (List.length (Rowd.frm b4)), AbsCalls Try.prog 154 (impl_originBefore_as (List.getD (Rowd.frm b4) (Int.toNat (IntKind.i64.wrap (x47 - 1))) Ty.org.dflt) (List.getD x45 (Int.toNat x47) Ty.org.dflt)) (impl_originBefore_ro r1), (!r1) = true]) := by kernel_rfl
theorem p143_15_3 (x20 : List Rowd) (x21 : Int) (x22 : Int) (x45 : List Org) (x46 : Int) (x47 : Int) (b1 : Val) (b4 : Rowd) (r1 : Bool) : run tt (AbsCalls Try.prog) I143 3000 true (stkAt 15 I143.body) ⟨(S143_15 x20 x21 x22 x45 x46 x47 b1 b4), [true, false, false, true, false], [impl_originBefore_ro r1], []⟩ = some (.stop (stkAt 15 I143.body) (S143_15 x20 x21 x22 x45 x46 (IntKind.i64.wrap (x47 + 1)) b1 b4) [(decide ((x47 : Int) < x46)) = true, (0 : Int) ≤ x47 ∧ x47 < (List.length x45), (decide (((Org.cell (List.getD x45 (Int.toNat x47) Ty.org.dflt)) : Int) < 0)) = false, (decide (((Org.row (List.getD x45 (Int.toNat x47) Ty.org.dflt)) : Int) < 0)) = false, (decide ((x47 : Int) > 0)) = true, (0 : Int) ≤ (IntKind.i64.wrap (x47 - 1)) ∧ (IntKind.i64.wrap (x47 - 1)) < (List.length (Rowd.frm b4)), AbsCalls Try.prog 154 (impl_originBefore_as (List.getD (Rowd.frm b4) (Int.toNat (IntKind.i64.wrap (x47 - 1))) Ty.org.dflt) (List.getD x45 (Int.toNat x47) Ty.org.dflt)) (impl_originBefore_ro r1), (!r1) = false]) := by kernel_rfl
theorem p143_15_4 (x20 : List Rowd) (x21 : Int) (x22 : Int) (x45 : List Org) (x46 : Int) (x47 : Int) (b1 : Val) (b4 : Rowd) : run tt (AbsCalls Try.prog) I143 3000 true (stkAt 15 I143.body) ⟨(S143_15 x20 x21 x22 x45 x46 x47 b1 b4), [true, false, false, false, false], [], []⟩ = some (.stop (stkAt 15 I143.body) (S143_15 x20 x21 x22 x45 x46 (IntKind.i64.wrap (x47 + 1)) b1 b4) [(decide ((x47 : Int) < x46)) = true, (0 : Int) ≤ x47 ∧ x47 < (List.length x45), (decide (((Org.cell (List.getD x45 (Int.toNat x47) Ty.org.dflt)) : Int) < 0)) = false, (decide (((Org.row (List.getD x45 (Int.toNat x47) Ty.org.dflt)) : Int) < 0)) = false, (decide ((x47 : Int) > 0)) = false, false = false]) := by kernel_rfl
theorem p143_15_5 (x20 : List Rowd) (x21 : Int) (x22 : Int) (x45 : List Org) (x46 : Int) (x47 : Int) (b1 : Val) (b4 : Rowd) : run tt (AbsCalls Try.prog) I143 3000 true (stkAt 15 I143.body) ⟨(S143_15 x20 x21 x22 x45 x46 x47 b1 b4), [false], [], []⟩ = some (.stop (stkAt 4 I143.body) (S143_4 x20 x21 (IntKind.i64.wrap (x22 + 1)) b1) [(decide ((x47 : Int) < x46)) = false]) := by kernel_rfl
theorem p143_9_6 (x20 : List Rowd) (x21 : Int) (x22 : Int) (x34 : List Int) (x35 : Int) (x36 : Int) (b1 : Val) (b4 : Rowd) (r1 : Bool) : run tt (AbsCalls Try.prog) I143 3000 true (stkAt 9 I143.body) ⟨(S143_9 x20 x21 x22 x34 x35 x36 b1 b4), [true, true], [impl_isNumber_ro r1], []⟩ = some (.done (impl_isTable_ro false) [(decide ((x36 : Int) < x35)) = true, (0 : Int) ≤ x36 ∧ x36 < (List.length x34), AbsCalls Try.prog 104 (impl_isNumber_as (List.getD x34 (Int.toNat x36) Ty.int.dflt)) (impl_isNumber_ro r1), (!r1) = true]) := by kernel_rfl
theorem p143_9_7 (x20 : List Rowd) (x21 : Int) (x22 : Int) (x34 : List Int) (x35 : Int) (x36 : Int) (b1 : Val) (b4 : Rowd) (r1 : Bool) : run tt (AbsCalls Try.prog) I143 3000 true (stkAt 9 I143.body) ⟨(S143_9 x20 x21 x22 x34 x35 x36 b1 b4), [true, false], [impl_isNumber_ro r1], []⟩ = some (.stop (stkAt 9 I143.body) (S143_9 x20 x21 x22 x34 x35 (IntKind.i64.wrap (x36 + 1)) b1 b4) [(decide ((x36 : Int) < x35)) = true, (0 : Int) ≤ x36 ∧ x36 < (List.length x34), AbsCalls Try.prog 104 (impl_isNumber_as (List.getD x34 (Int.toNat x36) Ty.int.dflt)) (impl_isNumber_ro r1), (!r1) = false]) := by kernel_rfl
theorem p143_9_8 (x20 : List Rowd) (x21 : Int) (x22 : Int) (x34 : List Int) (x35 : Int) (x36 : Int) (b1 : Val) (b4 : Rowd) : run tt (AbsCalls Try.prog) I143 3000 true (stkAt 9 I143.body) ⟨(S143_9 x20 x21 x22 x34 x35 x36 b1 b4), [false], [], []⟩ = some (.stop (stkAt 15 I143.body) (S143_15 x20 x21 x22 (Rowd.frm b4) (List.length (Rowd.frm b4) : Int) 0 b1 b4) [(decide ((x36 : Int) < x35)) = false]) := by kernel_rfl
theorem p143_4_9 (x20 : List Rowd) (x21 : Int) (x22 : Int) (b1 : Val) : run tt (AbsCalls Try.prog) I143 3000 true (stkAt 4 I143.body) ⟨(S143_4 x20 x21 x22 b1), [true, true], [], []⟩ = some (.done (impl_isTable_ro false) [(decide ((x22 : Int) < x21)) = true, (0 : Int) ≤ x22 ∧ x22 < (List.length x20), (((List.length (Rowd.cells (List.getD x20 (Int.toNat x22) Ty.row.dflt)) : Int) : Int) != (List.length (Val.columns b1) : Int)) = true]) := by kernel_rfl
theorem p143_4_10 (x20 : List Rowd) (x21 : Int) (x22 : Int) (b1 : Val) : run tt (AbsCalls Try.prog) I143 3000 true (stkAt 4 I143.body) ⟨(S143_4 x20 x21 x22 b1), [true, false], [], []⟩ = some (.stop (stkAt 9 I143.body) (S143_9 x20 x21 x22 (Rowd.cells (List.getD x20 (Int.toNat x22) Ty.row.dflt)) (List.length (Rowd.cells (List.getD x20 (Int.toNat x22) Ty.row.dflt)) : Int) 0 b1 (List.getD x20 (Int.toNat x22) Ty.row.dflt)) [(decide ((x22 : Int) < x21)) = true, (0 : Int) ≤ x22 ∧ x22 < (List.length x20), (((List.length (Rowd.cells (List.getD x20 (Int.toNat x22) Ty.row.dflt)) : Int) : Int) != (List.length (Val.columns b1) : Int)) = false]) := by kernel_rfl
theorem p143_4_11 (x20 : List Rowd) (x21 : Int) (x22 : Int) (b1 : Val) : run tt (AbsCalls Try.prog) I143 3000 true (stkAt 4 I143.body) ⟨(S143_4 x20 x21 x22 b1), [false], [], []⟩ = some (.done (impl_isTable_ro true) [(decide ((x22 : Int) < x21)) = false]) := by kernel_rfl
theorem p143_e_12 (a0 : Val) (r1 : Bool) : run tt (AbsCalls Try.prog) I143 3000 false [.code I143.body] ⟨(entry 0 (impl_isTable_as a0)), [true, true], [impl_areColumns_ro r1], []⟩ = some (.done (impl_isTable_ro false) [AbsCalls Try.prog 153 (impl_areColumns_as (Val.columns a0)) (impl_areColumns_ro r1), (!r1) = true, true = true]) := by kernel_rfl
theorem p143_e_13 (a0 : Val) (r1 : Bool) : run tt (AbsCalls Try.prog) I143 3000 false [.code I143.body] ⟨(entry 0 (impl_isTable_as a0)), [false, true], [impl_areColumns_ro r1], []⟩ = some (.done (impl_isTable_ro false) [AbsCalls Try.prog 153 (impl_areColumns_as (Val.columns a0)) (impl_areColumns_ro r1), (!r1) = false, (decide (((List.length (Val.rows a0) : Int) : Int) > 12)) = true]) := by kernel_rfl
theorem p143_e_14 (a0 : Val) (r1 : Bool) : run tt (AbsCalls Try.prog) I143 3000 false [.code I143.body] ⟨(entry 0 (impl_isTable_as a0)), [false, false], [impl_areColumns_ro r1], []⟩ = some (.stop (stkAt 4 I143.body) (S143_4 (Val.rows a0) (List.length (Val.rows a0) : Int) 0 a0) [AbsCalls Try.prog 153 (impl_areColumns_as (Val.columns a0)) (impl_areColumns_ro r1), (!r1) = false, (decide (((List.length (Val.rows a0) : Int) : Int) > 12)) = false]) := by kernel_rfl
theorem c143_15 {N : Nat} {k4 : (List Rowd) → Int → Int → Val → Option (Bool)} (hk4 : ∀ z0 z1 z2 z3 r, k4 z0 z1 z2 z3 = some r → Reach Try.prog Try.f143 I143 (stkAt 4 I143.body) (S143_4 z0 z1 z2 z3) (impl_isTable_ro r)) : ∀ n x20 x21 x22 x45 x46 x47 b1 b4 r, impl_isTable_b15 N k4 n x20 x21 x22 x45 x46 x47 b1 b4 = some r → Reach Try.prog Try.f143 I143 (stkAt 15 I143.body) (S143_15 x20 x21 x22 x45 x46 x47 b1 b4) (impl_isTable_ro r) := by
  intro n
  induction n with
  | zero => intro x20 x21 x22 x45 x46 x47 b1 b4 r h; have h' : (none : Option (Bool)) = some r := h; cases h'
  | succ n ih =>
    intro x20 x21 x22 x45 x46 x47 b1 b4 r h
    rw [impl_isTable_b15] at h
    rcases cond_inv h with ⟨h0, h⟩ | ⟨h0, h⟩
    · obtain ⟨h1, h⟩ := ite_inv h
      rcases cond_inv h with ⟨h2, h⟩ | ⟨h2, h⟩
      · obtain rfl := Option.some.inj h
        exact Reach.done ttok mix fk143 (p143_15_0 x20 x21 x22 x45 x46 x47 b1 b4) (obs_cons h0 (obs_cons h1 (obs_cons h2 (obs_cons rfl (obs_cons rfl obs_nil)))))
      · rcases cond_inv h with ⟨h3, h⟩ | ⟨h3, h⟩
        · obtain rfl := Option.some.inj h
          exact Reach.done ttok mix fk143 (p143_15_1 x20 x21 x22 x45 x46 x47 b1 b4) (obs_cons h0 (obs_cons h1 (obs_cons h2 (obs_cons h3 (obs_cons rfl obs_nil)))))
        · rcases cond_inv h with ⟨h4, h⟩ | ⟨h4, h⟩
          · obtain ⟨h5, h⟩ := ite_inv h
            obtain ⟨r1, h6, h⟩ := bind_inv h
            rcases cond_inv h with ⟨h7, h⟩ | ⟨h7, h⟩
            · obtain rfl := Option.some.inj h
              exact Reach.done ttok mix fk143 (p143_15_2 x20 x21 x22 x45 x46 x47 b1 b4 r1) (obs_cons h0 (obs_cons h1 (obs_cons h2 (obs_cons h3 (obs_cons h4 (obs_cons h5 (obs_cons (impl_originBefore_ok h6) (obs_cons h7 obs_nil))))))))
            · exact Reach.stop ttok mix fk143 (p143_15_3 x20 x21 x22 x45 x46 x47 b1 b4 r1) (obs_cons h0 (obs_cons h1 (obs_cons h2 (obs_cons h3 (obs_cons h4 (obs_cons h5 (obs_cons (impl_originBefore_ok h6) (obs_cons h7 obs_nil)))))))) (ih _ _ _ _ _ _ _ _ _ h)
          · exact Reach.stop ttok mix fk143 (p143_15_4 x20 x21 x22 x45 x46 x47 b1 b4) (obs_cons h0 (obs_cons h1 (obs_cons h2 (obs_cons h3 (obs_cons h4 (obs_cons rfl obs_nil)))))) (ih _ _ _ _ _ _ _ _ _ h)
    · exact Reach.stop ttok mix fk143 (p143_15_5 x20 x21 x22 x45 x46 x47 b1 b4) (obs_cons h0 obs_nil) (hk4 _ _ _ _ _ h)
theorem c143_9 {N : Nat} {k4 : (List Rowd) → Int → Int → Val → Option (Bool)} (hk4 : ∀ z0 z1 z2 z3 r, k4 z0 z1 z2 z3 = some r → Reach Try.prog Try.f143 I143 (stkAt 4 I143.body) (S143_4 z0 z1 z2 z3) (impl_isTable_ro r)) : ∀ n x20 x21 x22 x34 x35 x36 b1 b4 r, impl_isTable_b9 N k4 n x20 x21 x22 x34 x35 x36 b1 b4 = some r → Reach Try.prog Try.f143 I143 (stkAt 9 I143.body) (S143_9 x20 x21 x22 x34 x35 x36 b1 b4) (impl_isTable_ro r) := by
  intro n
  induction n with
  | zero => intro x20 x21 x22 x34 x35 x36 b1 b4 r h; have h' : (none : Option (Bool)) = some r := h; cases h'
  | succ n ih =>
    intro x20 x21 x22 x34 x35 x36 b1 b4 r h
    rw [impl_isTable_b9] at h
    rcases cond_inv h with ⟨h0, h⟩ | ⟨h0, h⟩
    · obtain ⟨h1, h⟩ := ite_inv h
      obtain ⟨r1, h2, h⟩ := bind_inv h
      rcases cond_inv h with ⟨h3, h⟩ | ⟨h3, h⟩
      · obtain rfl := Option.some.inj h
        exact Reach.done ttok mix fk143 (p143_9_6 x20 x21 x22 x34 x35 x36 b1 b4 r1) (obs_cons h0 (obs_cons h1 (obs_cons (impl_isNumber_ok h2) (obs_cons h3 obs_nil))))
      · exact Reach.stop ttok mix fk143 (p143_9_7 x20 x21 x22 x34 x35 x36 b1 b4 r1) (obs_cons h0 (obs_cons h1 (obs_cons (impl_isNumber_ok h2) (obs_cons h3 obs_nil)))) (ih _ _ _ _ _ _ _ _ _ h)
    · exact Reach.stop ttok mix fk143 (p143_9_8 x20 x21 x22 x34 x35 x36 b1 b4) (obs_cons h0 obs_nil) (c143_15  hk4 _ _ _ _ _ _ _ _ _ _ h)
theorem c143_4 {N : Nat} : ∀ n x20 x21 x22 b1 r, impl_isTable_b4 N n x20 x21 x22 b1 = some r → Reach Try.prog Try.f143 I143 (stkAt 4 I143.body) (S143_4 x20 x21 x22 b1) (impl_isTable_ro r) := by
  intro n
  induction n with
  | zero => intro x20 x21 x22 b1 r h; have h' : (none : Option (Bool)) = some r := h; cases h'
  | succ n ih =>
    intro x20 x21 x22 b1 r h
    rw [impl_isTable_b4] at h
    rcases cond_inv h with ⟨h0, h⟩ | ⟨h0, h⟩
    · obtain ⟨h1, h⟩ := ite_inv h
      rcases cond_inv h with ⟨h2, h⟩ | ⟨h2, h⟩
      · obtain rfl := Option.some.inj h
        exact Reach.done ttok mix fk143 (p143_4_9 x20 x21 x22 b1) (obs_cons h0 (obs_cons h1 (obs_cons h2 obs_nil)))
      · exact Reach.stop ttok mix fk143 (p143_4_10 x20 x21 x22 b1) (obs_cons h0 (obs_cons h1 (obs_cons h2 obs_nil))) (c143_9  ih _ _ _ _ _ _ _ _ _ _ h)
    · obtain rfl := Option.some.inj h
      exact Reach.done ttok mix fk143 (p143_4_11 x20 x21 x22 b1) (obs_cons h0 obs_nil)
theorem c143_e {N : Nat} : ∀ a0 r, impl_isTable N a0 = some r → Reach Try.prog Try.f143 I143 [.code I143.body] (entry 0 (impl_isTable_as a0)) (impl_isTable_ro r) := by
  intro a0 r h
  unfold impl_isTable at h
  obtain ⟨r1, h0, h⟩ := bind_inv h
  rcases cond_inv h with ⟨h1, h⟩ | ⟨h1, h⟩
  · obtain rfl := Option.some.inj h
    exact Reach.done ttok mix fk143 (p143_e_12 a0 r1) (obs_cons (impl_areColumns_ok h0) (obs_cons h1 (obs_cons rfl obs_nil)))
  · rcases cond_inv h with ⟨h2, h⟩ | ⟨h2, h⟩
    · obtain rfl := Option.some.inj h
      exact Reach.done ttok mix fk143 (p143_e_13 a0 r1) (obs_cons (impl_areColumns_ok h0) (obs_cons h1 (obs_cons h2 obs_nil)))
    · exact Reach.stop ttok mix fk143 (p143_e_14 a0 r1) (obs_cons (impl_areColumns_ok h0) (obs_cons h1 (obs_cons h2 obs_nil))) (c143_4   _ _ _ _ _ _ h)
theorem impl_isTable_ok {N : Nat} {a0 : Val} {r : Bool} (h : impl_isTable N  a0 = some r) : AbsCalls Try.prog 143 (impl_isTable_as a0) (impl_isTable_ro r) :=
 AbsCalls.of_reach fk143 rfl rfl (Nat.le_of_ble_eq_true rfl) (c143_e a0 r h)
noncomputable def I127 : Info := { body := (Try.f127.body).getD .skip, nt := 20, results := [.tmp 2], keep := [0, 2, 4, 6, 10, 14, 16, 18, 20, 3, 11], live := [(3, [6, 14, 16, 18])], modes := [(6, [(1, .take, false)])], ext := [], lnt := [], casts := [], fcast := [] }
theorem fk127 : FnOk Try.prog 127 Try.f127 I127 := ⟨Try.func127, by kernel_rfl, by kernel_rfl, by kernel_rfl, by kernel_rfl⟩
def S127_3 (x3 : Int) (x7 : List Val) (x8 : Int) (x9 : Int) : St := [(6, .v false [.int .i64 x3]), (14, .v false [.sl .ro .val x7]), (16, .v false [.int .i64 x8]), (18, .v false [.int .i64 x9])]
theorem p127_3_0 (x3 : Int) (x7 : List Val) (x8 : Int) (x9 : Int) (r1 : Int) : run tt (AbsCalls Try.prog) I127 3000 true (stkAt 3 I127.body) ⟨(S127_3 x3 x7 x8 x9), [true], [impl_DepthOf_ro r1], []⟩ = some (.stop (stkAt 3 I127.body) (S127_3 (if (r1 : Int) > x3 then r1 else x3) x7 x8 (IntKind.i64.wrap (x9 + 1))) [(decide ((x9 : Int) < x8)) = true, (0 : Int) ≤ x9 ∧ x9 < (List.length x7), AbsCalls Try.prog 127 (impl_DepthOf_as (List.getD x7 (Int.toNat x9) Ty.val.dflt)) (impl_DepthOf_ro r1)]) := by kernel_rfl
theorem p127_3_1 (x3 : Int) (x7 : List Val) (x8 : Int) (x9 : Int) : run tt (AbsCalls Try.prog) I127 3000 true (stkAt 3 I127.body) ⟨(S127_3 x3 x7 x8 x9), [false], [], []⟩ = some (.done (impl_DepthOf_ro (IntKind.i64.wrap (x3 + 1))) [(decide ((x9 : Int) < x8)) = false]) := by kernel_rfl
theorem p127_e_2 (a0 : Val) : run tt (AbsCalls Try.prog) I127 3000 false [.code I127.body] ⟨(entry 0 (impl_DepthOf_as a0)), [], [], []⟩ = some (.stop (stkAt 3 I127.body) (S127_3 0 (Val.list a0) (List.length (Val.list a0) : Int) 0) []) := by kernel_rfl
theorem c127_3 {N : Nat} {rc_impl_DepthOf : Val → Option (Int)} (hrc_impl_DepthOf : ∀ a0 r, rc_impl_DepthOf a0 = some r → AbsCalls Try.prog 127 (impl_DepthOf_as a0) (impl_DepthOf_ro r)) : ∀ n x3 x7 x8 x9 r, impl_DepthOf_b3 N rc_impl_DepthOf n x3 x7 x8 x9 = some r → Reach Try.prog Try.f127 I127 (stkAt 3 I127.body) (S127_3 x3 x7 x8 x9) (impl_DepthOf_ro r) := by
  intro n
  induction n with
  | zero => intro x3 x7 x8 x9 r h; have h' : (none : Option (Int)) = some r := h; cases h'
  | succ n ih =>
    intro x3 x7 x8 x9 r h
    rw [impl_DepthOf_b3] at h
    rcases cond_inv h with ⟨h0, h⟩ | ⟨h0, h⟩
    · obtain ⟨h1, h⟩ := ite_inv h
      obtain ⟨r1, h2, h⟩ := bind_inv h
      exact Reach.stop ttok mix fk127 (p127_3_0 x3 x7 x8 x9 r1) (obs_cons h0 (obs_cons h1 (obs_cons (hrc_impl_DepthOf _ _ h2) obs_nil))) (ih _ _ _ _ _ h)
    · obtain rfl := Option.some.inj h
      exact Reach.done ttok mix fk127 (p127_3_1 x3 x7 x8 x9) (obs_cons h0 obs_nil)
theorem c127_e {N : Nat} {rc_impl_DepthOf : Val → Option (Int)} (hrc_impl_DepthOf : ∀ a0 r, rc_impl_DepthOf a0 = some r → AbsCalls Try.prog 127 (impl_DepthOf_as a0) (impl_DepthOf_ro r)) : ∀ a0 r, impl_DepthOf_body N rc_impl_DepthOf a0 = some r → Reach Try.prog Try.f127 I127 [.code I127.body] (entry 0 (impl_DepthOf_as a0)) (impl_DepthOf_ro r) := by
  intro a0 r h
  unfold impl_DepthOf_body at h
  exact Reach.stop ttok mix fk127 (p127_e_2 a0) obs_nil (c127_3 hrc_impl_DepthOf  _ _ _ _ _ _ h)
theorem impl_DepthOf_body_ok {N : Nat} {rc_impl_DepthOf : Val → Option (Int)} (hrc_impl_DepthOf : ∀ a0 r, rc_impl_DepthOf a0 = some r → AbsCalls Try.prog 127 (impl_DepthOf_as a0) (impl_DepthOf_ro r)) {a0 : Val} {r : Int} (h : impl_DepthOf_body N rc_impl_DepthOf a0 = some r) : AbsCalls Try.prog 127 (impl_DepthOf_as a0) (impl_DepthOf_ro r) :=
 AbsCalls.of_reach fk127 rfl rfl (Nat.le_of_ble_eq_true rfl) (c127_e hrc_impl_DepthOf a0 r h)
theorem impl_DepthOf_fix_ok {N : Nat} : ∀ d, (∀ a0 r, impl_DepthOf_fix N d a0 = some r → AbsCalls Try.prog 127 (impl_DepthOf_as a0) (impl_DepthOf_ro r)) := by
  intro d
  induction d with
  | zero => intro _ r h; have h' : (none : Option (Int)) = some r := h; cases h'
  | succ d ih => intro _ r h; exact impl_DepthOf_body_ok (N := N) ih h
theorem impl_DepthOf_ok {N : Nat} {a0 : Val} {r : Int} (h : impl_DepthOf N a0 = some r) : AbsCalls Try.prog 127 (impl_DepthOf_as a0) (impl_DepthOf_ro r) := impl_DepthOf_fix_ok N _ r h
end Go.Ab.T
end
