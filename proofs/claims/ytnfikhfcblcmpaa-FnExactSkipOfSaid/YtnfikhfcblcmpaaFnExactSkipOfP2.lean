/- The statement FnExactSkipOf holds: plain functions, certificates, laws. Conditions: none. -/
import Derived.Test.YtnfikhfcblcmpaaL2
import Derived.Test.YtnfikhfcblcmpaaFnExactSkipOfP1
set_option linter.all false
section
open Go.Proofs
namespace Go.Ab.T
set_option linter.unusedVariables false
set_option maxRecDepth 100000
noncomputable def I80 : Info := { body := (Try.f80.body).getD .skip, nt := 27, results := [.tmp 4], keep := [0, 2, 8, 10, 18], live := [(2, [0, 2, 10])], modes := [(4, [(0, .ref, false)]), (6, [(0, .ref, false)])], ext := [], lnt := [(0, 0)], casts := [], fcast := [] }
theorem fk80 : FnOk Try.prog 80 Try.f80 I80 := ⟨Try.func80, by kernel_rfl, by kernel_rfl, by kernel_rfl, by kernel_rfl⟩
def S80_2 (x0 : List Org) (x1 x5 : Int) : St := [(0, .v false [.sl (.lnt 0) .org x0]), (2, .v false [.int .i64 x1]), (10, .v false [.int .i64 x5])]
theorem p80_2_0 (x0 : List Org) (x1 x5 : Int) : run tt (AbsCalls Try.prog) I80 3000 true (stkAt 2 I80.body) ⟨(S80_2 x0 x1 x5), [true], [], []⟩ = some (.stop (stkAt 2 I80.body) (S80_2 ((fun (z1 : List Org) => List.set z1 (Int.toNat x5) (Org.mk (Org.cell (List.getD z1 (Int.toNat x5) Ty.org.dflt)) (IntKind.i64.wrap (x1 + 1)))) (List.set x0 (Int.toNat x5) (Org.mk x1 (Org.row (List.getD x0 (Int.toNat x5) Ty.org.dflt))))) (IntKind.i64.wrap ((IntKind.i64.wrap (x1 + 1)) + 1)) (IntKind.i64.wrap (x5 + 1))) [(decide ((x5 : Int) < (List.length x0 : Int))) = true, (0 : Int) ≤ x5 ∧ x5 < (List.length x0), (0 : Int) ≤ x5 ∧ x5 < (List.length (List.set x0 (Int.toNat x5) (Org.mk x1 (Org.row (List.getD x0 (Int.toNat x5) Ty.org.dflt)))))]) := by kernel_rfl
theorem p80_2_1 (x0 : List Org) (x1 x5 : Int) : run tt (AbsCalls Try.prog) I80 3000 true (stkAt 2 I80.body) ⟨(S80_2 x0 x1 x5), [false], [], []⟩ = some (.done (xDj (x1, x0)) [(decide ((x5 : Int) < (List.length x0 : Int))) = false]) := by kernel_rfl
theorem p80_e_2 (a0 : List Org) (a1 : Int) : run tt (AbsCalls Try.prog) I80 3000 false [.code I80.body] ⟨(zBi 0 (xEY a0 a1)), [], [], []⟩ = some (.stop (stkAt 2 I80.body) (S80_2 a0 a1 0) []) := by kernel_rfl
theorem c80_2 {N : Nat} : ∀ n x0 x1 x5 r, xCx N n x0 x1 x5 = some r → Reach Try.prog Try.f80 I80 (stkAt 2 I80.body) (S80_2 x0 x1 x5) (xDj r) := by
 intro n
 induction n with
 | zero => intro x0 x1 x5 r h; have h' : (none : Option (Int × (List Org))) = some r := h; cases h'
 | succ n ih =>
  intro x0 x1 x5 r h
  rw [xCx] at h
  rcases cond_inv h with ⟨h0, h⟩ | ⟨h0, h⟩
  ·obtain ⟨h1, h⟩ := ite_inv h
   obtain ⟨h2, h⟩ := ite_inv h
   exact Reach.stop ttok mix fk80 (p80_2_0 x0 x1 x5) (obs_cons h0 (obs_cons h1 (obs_cons h2 obs_nil))) (ih _ _ _ _ h)
  ·obtain rfl := Option.some.inj h
   exact Reach.done ttok mix fk80 (p80_2_1 x0 x1 x5) (obs_cons h0 obs_nil)
theorem c80_e {N : Nat} : ∀ a0 a1 r, xE8 N a0 a1 = some r → Reach Try.prog Try.f80 I80 [.code I80.body] (zBi 0 (xEY a0 a1)) (xDj r) := by
 intro a0 a1 r h
 unfold xE8 at h
 exact Reach.stop ttok mix fk80 (p80_e_2 a0 a1) obs_nil (c80_2   _ _ _ _ _ h)
theorem xIu {N : Nat} {a0 : List Org} {a1 : Int} {r : Int × (List Org)} (h : xE8 N  a0 a1 = some r) : AbC 80 (xEY a0 a1) (xDj r) :=
 AbsCalls.of_reach fk80 rfl rfl (Nat.le_of_ble_eq_true rfl) (c80_e a0 a1 r h)
noncomputable def I42 : Info := { body := (Try.f42.body).getD .skip, nt := 27, results := [.tmp 4], keep := [0, 2, 8, 10, 18], live := [(2, [0, 2, 10])], modes := [(4, [(0, .ref, false), (4, .ref, false), (6, .ref, false)]), (5, [(0, .ref, false), (4, .ref, false), (6, .ref, false)])], ext := [], lnt := [(0, 0)], casts := [], fcast := [] }
theorem fk42 : FnOk Try.prog 42 Try.f42 I42 := ⟨Try.func42, by kernel_rfl, by kernel_rfl, by kernel_rfl, by kernel_rfl⟩
def S42_2 (x0 : List Rowd) (x1 x5 : Int) : St := [(0, .v false [.sl (.lnt 0) .row x0]), (2, .v false [.int .i64 x1]), (10, .v false [.int .i64 x5])]
theorem p42_2_0 (x0 : List Rowd) (x1 x5 : Int) (r1 : Int × (List Int)) (r2 : Int × (List Org)) : run tt (AbsCalls Try.prog) I42 3000 true (stkAt 2 I42.body) ⟨(S42_2 x0 x1 x5), [true], [xEf r1, xDj r2], []⟩ = some (.stop (stkAt 2 I42.body) (S42_2 ((fun (z1 : List Rowd) => List.set z1 (Int.toNat x5) (Rowd.mk (Rowd.cells (List.getD z1 (Int.toNat x5) Ty.row.dflt)) r2.2)) (List.set x0 (Int.toNat x5) (Rowd.mk r1.2 (Rowd.frm (List.getD x0 (Int.toNat x5) Ty.row.dflt))))) r2.1 (IntKind.i64.wrap (x5 + 1))) [(decide ((x5 : Int) < (List.length x0 : Int))) = true, (0 : Int) ≤ x5 ∧ x5 < (List.length x0), AbC 79 (xF7 (Rowd.cells (List.getD x0 (Int.toNat x5) Ty.row.dflt)) x1) (xEf r1), (Int.toNat x5) = (Int.toNat x5), List.length r1.2 = List.length (Rowd.cells (List.getD x0 (Int.toNat x5) Ty.row.dflt)), (0 : Int) ≤ x5 ∧ x5 < (List.length (List.set x0 (Int.toNat x5) (Rowd.mk r1.2 (Rowd.frm (List.getD x0 (Int.toNat x5) Ty.row.dflt))))), AbC 80 (xEY (Rowd.frm (List.getD (List.set x0 (Int.toNat x5) (Rowd.mk r1.2 (Rowd.frm (List.getD x0 (Int.toNat x5) Ty.row.dflt)))) (Int.toNat x5) Ty.row.dflt)) r1.1) (xDj r2), (Int.toNat x5) = (Int.toNat x5), List.length r2.2 = List.length (Rowd.frm (List.getD (List.set x0 (Int.toNat x5) (Rowd.mk r1.2 (Rowd.frm (List.getD x0 (Int.toNat x5) Ty.row.dflt)))) (Int.toNat x5) Ty.row.dflt))]) := by kernel_rfl
theorem p42_2_1 (x0 : List Rowd) (x1 x5 : Int) : run tt (AbsCalls Try.prog) I42 3000 true (stkAt 2 I42.body) ⟨(S42_2 x0 x1 x5), [false], [], []⟩ = some (.done (xC4 (x1, x0)) [(decide ((x5 : Int) < (List.length x0 : Int))) = false]) := by kernel_rfl
theorem p42_e_2 (a0 : List Rowd) (a1 : Int) : run tt (AbsCalls Try.prog) I42 3000 false [.code I42.body] ⟨(zBi 0 (xE9 a0 a1)), [], [], []⟩ = some (.stop (stkAt 2 I42.body) (S42_2 a0 a1 0) []) := by kernel_rfl
theorem c42_2 {N : Nat} : ∀ n x0 x1 x5 r, xDL N n x0 x1 x5 = some r → Reach Try.prog Try.f42 I42 (stkAt 2 I42.body) (S42_2 x0 x1 x5) (xC4 r) := by
 intro n
 induction n with
 | zero => intro x0 x1 x5 r h; have h' : (none : Option (Int × (List Rowd))) = some r := h; cases h'
 | succ n ih =>
  intro x0 x1 x5 r h
  rw [xDL] at h
  rcases cond_inv h with ⟨h0, h⟩ | ⟨h0, h⟩
  ·obtain ⟨h1, h⟩ := ite_inv h
   obtain ⟨r1, h2, h⟩ := bind_inv h
   obtain ⟨h4, h⟩ := ite_inv h
   obtain ⟨h5, h⟩ := ite_inv h
   obtain ⟨r2, h6, h⟩ := bind_inv h
   obtain ⟨h8, h⟩ := ite_inv h
   exact Reach.stop ttok mix fk42 (p42_2_0 x0 x1 x5 r1 r2) (obs_cons h0 (obs_cons h1 (obs_cons (laws_markIntS_ok h2) (obs_cons rfl (obs_cons h4 (obs_cons h5 (obs_cons (xIu h6) (obs_cons rfl (obs_cons h8 obs_nil))))))))) (ih _ _ _ _ h)
  ·obtain rfl := Option.some.inj h
   exact Reach.done ttok mix fk42 (p42_2_1 x0 x1 x5) (obs_cons h0 obs_nil)
theorem c42_e {N : Nat} : ∀ a0 a1 r, xFJ N a0 a1 = some r → Reach Try.prog Try.f42 I42 [.code I42.body] (zBi 0 (xE9 a0 a1)) (xC4 r) := by
 intro a0 a1 r h
 unfold xFJ at h
 exact Reach.stop ttok mix fk42 (p42_e_2 a0 a1) obs_nil (c42_2   _ _ _ _ _ h)
theorem xHL {N : Nat} {a0 : List Rowd} {a1 : Int} {r : Int × (List Rowd)} (h : xFJ N  a0 a1 = some r) : AbC 42 (xE9 a0 a1) (xC4 r) :=
 AbsCalls.of_reach fk42 rfl rfl (Nat.le_of_ble_eq_true rfl) (c42_e a0 a1 r h)
noncomputable def I40 : Info := { body := (Try.f40.body).getD .skip, nt := 63, results := [.tmp 4], keep := [0, 2, 8, 10, 18], live := [(2, [0, 2, 10])], modes := [(4, [(0, .ref, false)]), (6, [(0, .ref, false)]), (8, [(0, .ref, false)]), (10, [(0, .ref, false)]), (12, [(0, .ref, false), (4, .ref, false), (6, .ref, false)]), (13, [(0, .ref, false), (4, .ref, false), (6, .ref, false)]), (14, [(0, .ref, false), (4, .ref, false), (6, .ref, false)])], ext := [], lnt := [(0, 0)], casts := [], fcast := [] }
theorem fk40 : FnOk Try.prog 40 Try.f40 I40 := ⟨Try.func40, by kernel_rfl, by kernel_rfl, by kernel_rfl, by kernel_rfl⟩
def S40_2 (x0 : List Val) (x1 x5 : Int) : St := [(0, .v false [.sl (.lnt 0) .val x0]), (2, .v false [.int .i64 x1]), (10, .v false [.int .i64 x5])]
theorem p40_2_0 (x0 : List Val) (x1 x5 : Int) (r1 : Str) (r2 : Int × (List Val)) (r3 : Int × (List Str)) (r4 : Int × (List Rowd)) : run tt (AbsCalls Try.prog) I40 3000 true (stkAt 2 I40.body) ⟨(S40_2 x0 x1 x5), [true], [xAP r1, xBo r2, xCd r3, xC4 r4], []⟩ = some (.stop (stkAt 2 I40.body) (S40_2 ((fun (z45 : List Val) => List.set z45 (Int.toNat x5) (Val.mk (Val.kind (List.getD z45 (Int.toNat x5) Ty.val.dflt)) (Val.n (List.getD z45 (Int.toNat x5) Ty.val.dflt)) (Val.step (List.getD z45 (Int.toNat x5) Ty.val.dflt)) (Val.text (List.getD z45 (Int.toNat x5) Ty.val.dflt)) (Val.list (List.getD z45 (Int.toNat x5) Ty.val.dflt)) (Val.columns (List.getD z45 (Int.toNat x5) Ty.val.dflt)) r4.2)) ((fun (z44 : List Val) => List.set z44 (Int.toNat x5) (Val.mk (Val.kind (List.getD z44 (Int.toNat x5) Ty.val.dflt)) (Val.n (List.getD z44 (Int.toNat x5) Ty.val.dflt)) (Val.step (List.getD z44 (Int.toNat x5) Ty.val.dflt)) (Val.text (List.getD z44 (Int.toNat x5) Ty.val.dflt)) (Val.list (List.getD z44 (Int.toNat x5) Ty.val.dflt)) r3.2 (Val.rows (List.getD z44 (Int.toNat x5) Ty.val.dflt)))) ((fun (z43 : List Val) => List.set z43 (Int.toNat x5) (Val.mk (Val.kind (List.getD z43 (Int.toNat x5) Ty.val.dflt)) (Val.n (List.getD z43 (Int.toNat x5) Ty.val.dflt)) (Val.step (List.getD z43 (Int.toNat x5) Ty.val.dflt)) (Val.text (List.getD z43 (Int.toNat x5) Ty.val.dflt)) r2.2 (Val.columns (List.getD z43 (Int.toNat x5) Ty.val.dflt)) (Val.rows (List.getD z43 (Int.toNat x5) Ty.val.dflt)))) ((fun (z42 : List Val) => List.set z42 (Int.toNat x5) (Val.mk (Val.kind (List.getD z42 (Int.toNat x5) Ty.val.dflt)) (Val.n (List.getD z42 (Int.toNat x5) Ty.val.dflt)) (Val.step (List.getD z42 (Int.toNat x5) Ty.val.dflt)) r1 (Val.list (List.getD z42 (Int.toNat x5) Ty.val.dflt)) (Val.columns (List.getD z42 (Int.toNat x5) Ty.val.dflt)) (Val.rows (List.getD z42 (Int.toNat x5) Ty.val.dflt)))) ((fun (z41 : List Val) => List.set z41 (Int.toNat x5) (Val.mk (Val.kind (List.getD z41 (Int.toNat x5) Ty.val.dflt)) (Val.n (List.getD z41 (Int.toNat x5) Ty.val.dflt)) (IntKind.i64.wrap ((IntKind.i64.wrap (x1 + 1)) + 1)) (Val.text (List.getD z41 (Int.toNat x5) Ty.val.dflt)) (Val.list (List.getD z41 (Int.toNat x5) Ty.val.dflt)) (Val.columns (List.getD z41 (Int.toNat x5) Ty.val.dflt)) (Val.rows (List.getD z41 (Int.toNat x5) Ty.val.dflt)))) ((fun (z40 : List Val) => List.set z40 (Int.toNat x5) (Val.mk (Val.kind (List.getD z40 (Int.toNat x5) Ty.val.dflt)) (IntKind.i64.wrap (x1 + 1)) (Val.step (List.getD z40 (Int.toNat x5) Ty.val.dflt)) (Val.text (List.getD z40 (Int.toNat x5) Ty.val.dflt)) (Val.list (List.getD z40 (Int.toNat x5) Ty.val.dflt)) (Val.columns (List.getD z40 (Int.toNat x5) Ty.val.dflt)) (Val.rows (List.getD z40 (Int.toNat x5) Ty.val.dflt)))) (List.set x0 (Int.toNat x5) (Val.mk x1 (Val.n (List.getD x0 (Int.toNat x5) Ty.val.dflt)) (Val.step (List.getD x0 (Int.toNat x5) Ty.val.dflt)) (Val.text (List.getD x0 (Int.toNat x5) Ty.val.dflt)) (Val.list (List.getD x0 (Int.toNat x5) Ty.val.dflt)) (Val.columns (List.getD x0 (Int.toNat x5) Ty.val.dflt)) (Val.rows (List.getD x0 (Int.toNat x5) Ty.val.dflt)))))))))) r4.1 (IntKind.i64.wrap (x5 + 1))) [(decide ((x5 : Int) < (List.length x0 : Int))) = true, (0 : Int) ≤ x5 ∧ x5 < (List.length x0), (0 : Int) ≤ x5 ∧ x5 < (List.length (List.set x0 (Int.toNat x5) (Val.mk x1 (Val.n (List.getD x0 (Int.toNat x5) Ty.val.dflt)) (Val.step (List.getD x0 (Int.toNat x5) Ty.val.dflt)) (Val.text (List.getD x0 (Int.toNat x5) Ty.val.dflt)) (Val.list (List.getD x0 (Int.toNat x5) Ty.val.dflt)) (Val.columns (List.getD x0 (Int.toNat x5) Ty.val.dflt)) (Val.rows (List.getD x0 (Int.toNat x5) Ty.val.dflt))))), (0 : Int) ≤ x5 ∧ x5 < (List.length ((fun (z40 : List Val) => List.set z40 (Int.toNat x5) (Val.mk (Val.kind (List.getD z40 (Int.toNat x5) Ty.val.dflt)) (IntKind.i64.wrap (x1 + 1)) (Val.step (List.getD z40 (Int.toNat x5) Ty.val.dflt)) (Val.text (List.getD z40 (Int.toNat x5) Ty.val.dflt)) (Val.list (List.getD z40 (Int.toNat x5) Ty.val.dflt)) (Val.columns (List.getD z40 (Int.toNat x5) Ty.val.dflt)) (Val.rows (List.getD z40 (Int.toNat x5) Ty.val.dflt)))) (List.set x0 (Int.toNat x5) (Val.mk x1 (Val.n (List.getD x0 (Int.toNat x5) Ty.val.dflt)) (Val.step (List.getD x0 (Int.toNat x5) Ty.val.dflt)) (Val.text (List.getD x0 (Int.toNat x5) Ty.val.dflt)) (Val.list (List.getD x0 (Int.toNat x5) Ty.val.dflt)) (Val.columns (List.getD x0 (Int.toNat x5) Ty.val.dflt)) (Val.rows (List.getD x0 (Int.toNat x5) Ty.val.dflt)))))), AbC 78 (xBD (IntKind.i64.wrap ((IntKind.i64.wrap ((IntKind.i64.wrap (x1 + 1)) + 1)) + 1))) (xAP r1), (0 : Int) ≤ x5 ∧ x5 < (List.length ((fun (z41 : List Val) => List.set z41 (Int.toNat x5) (Val.mk (Val.kind (List.getD z41 (Int.toNat x5) Ty.val.dflt)) (Val.n (List.getD z41 (Int.toNat x5) Ty.val.dflt)) (IntKind.i64.wrap ((IntKind.i64.wrap (x1 + 1)) + 1)) (Val.text (List.getD z41 (Int.toNat x5) Ty.val.dflt)) (Val.list (List.getD z41 (Int.toNat x5) Ty.val.dflt)) (Val.columns (List.getD z41 (Int.toNat x5) Ty.val.dflt)) (Val.rows (List.getD z41 (Int.toNat x5) Ty.val.dflt)))) ((fun (z40 : List Val) => List.set z40 (Int.toNat x5) (Val.mk (Val.kind (List.getD z40 (Int.toNat x5) Ty.val.dflt)) (IntKind.i64.wrap (x1 + 1)) (Val.step (List.getD z40 (Int.toNat x5) Ty.val.dflt)) (Val.text (List.getD z40 (Int.toNat x5) Ty.val.dflt)) (Val.list (List.getD z40 (Int.toNat x5) Ty.val.dflt)) (Val.columns (List.getD z40 (Int.toNat x5) Ty.val.dflt)) (Val.rows (List.getD z40 (Int.toNat x5) Ty.val.dflt)))) (List.set x0 (Int.toNat x5) (Val.mk x1 (Val.n (List.getD x0 (Int.toNat x5) Ty.val.dflt)) (Val.step (List.getD x0 (Int.toNat x5) Ty.val.dflt)) (Val.text (List.getD x0 (Int.toNat x5) Ty.val.dflt)) (Val.list (List.getD x0 (Int.toNat x5) Ty.val.dflt)) (Val.columns (List.getD x0 (Int.toNat x5) Ty.val.dflt)) (Val.rows (List.getD x0 (Int.toNat x5) Ty.val.dflt))))))), (0 : Int) ≤ x5 ∧ x5 < (List.length ((fun (z42 : List Val) => List.set z42 (Int.toNat x5) (Val.mk (Val.kind (List.getD z42 (Int.toNat x5) Ty.val.dflt)) (Val.n (List.getD z42 (Int.toNat x5) Ty.val.dflt)) (Val.step (List.getD z42 (Int.toNat x5) Ty.val.dflt)) r1 (Val.list (List.getD z42 (Int.toNat x5) Ty.val.dflt)) (Val.columns (List.getD z42 (Int.toNat x5) Ty.val.dflt)) (Val.rows (List.getD z42 (Int.toNat x5) Ty.val.dflt)))) ((fun (z41 : List Val) => List.set z41 (Int.toNat x5) (Val.mk (Val.kind (List.getD z41 (Int.toNat x5) Ty.val.dflt)) (Val.n (List.getD z41 (Int.toNat x5) Ty.val.dflt)) (IntKind.i64.wrap ((IntKind.i64.wrap (x1 + 1)) + 1)) (Val.text (List.getD z41 (Int.toNat x5) Ty.val.dflt)) (Val.list (List.getD z41 (Int.toNat x5) Ty.val.dflt)) (Val.columns (List.getD z41 (Int.toNat x5) Ty.val.dflt)) (Val.rows (List.getD z41 (Int.toNat x5) Ty.val.dflt)))) ((fun (z40 : List Val) => List.set z40 (Int.toNat x5) (Val.mk (Val.kind (List.getD z40 (Int.toNat x5) Ty.val.dflt)) (IntKind.i64.wrap (x1 + 1)) (Val.step (List.getD z40 (Int.toNat x5) Ty.val.dflt)) (Val.text (List.getD z40 (Int.toNat x5) Ty.val.dflt)) (Val.list (List.getD z40 (Int.toNat x5) Ty.val.dflt)) (Val.columns (List.getD z40 (Int.toNat x5) Ty.val.dflt)) (Val.rows (List.getD z40 (Int.toNat x5) Ty.val.dflt)))) (List.set x0 (Int.toNat x5) (Val.mk x1 (Val.n (List.getD x0 (Int.toNat x5) Ty.val.dflt)) (Val.step (List.getD x0 (Int.toNat x5) Ty.val.dflt)) (Val.text (List.getD x0 (Int.toNat x5) Ty.val.dflt)) (Val.list (List.getD x0 (Int.toNat x5) Ty.val.dflt)) (Val.columns (List.getD x0 (Int.toNat x5) Ty.val.dflt)) (Val.rows (List.getD x0 (Int.toNat x5) Ty.val.dflt)))))))), AbC 40 (xBW (Val.list (List.getD ((fun (z42 : List Val) => List.set z42 (Int.toNat x5) (Val.mk (Val.kind (List.getD z42 (Int.toNat x5) Ty.val.dflt)) (Val.n (List.getD z42 (Int.toNat x5) Ty.val.dflt)) (Val.step (List.getD z42 (Int.toNat x5) Ty.val.dflt)) r1 (Val.list (List.getD z42 (Int.toNat x5) Ty.val.dflt)) (Val.columns (List.getD z42 (Int.toNat x5) Ty.val.dflt)) (Val.rows (List.getD z42 (Int.toNat x5) Ty.val.dflt)))) ((fun (z41 : List Val) => List.set z41 (Int.toNat x5) (Val.mk (Val.kind (List.getD z41 (Int.toNat x5) Ty.val.dflt)) (Val.n (List.getD z41 (Int.toNat x5) Ty.val.dflt)) (IntKind.i64.wrap ((IntKind.i64.wrap (x1 + 1)) + 1)) (Val.text (List.getD z41 (Int.toNat x5) Ty.val.dflt)) (Val.list (List.getD z41 (Int.toNat x5) Ty.val.dflt)) (Val.columns (List.getD z41 (Int.toNat x5) Ty.val.dflt)) (Val.rows (List.getD z41 (Int.toNat x5) Ty.val.dflt)))) ((fun (z40 : List Val) => List.set z40 (Int.toNat x5) (Val.mk (Val.kind (List.getD z40 (Int.toNat x5) Ty.val.dflt)) (IntKind.i64.wrap (x1 + 1)) (Val.step (List.getD z40 (Int.toNat x5) Ty.val.dflt)) (Val.text (List.getD z40 (Int.toNat x5) Ty.val.dflt)) (Val.list (List.getD z40 (Int.toNat x5) Ty.val.dflt)) (Val.columns (List.getD z40 (Int.toNat x5) Ty.val.dflt)) (Val.rows (List.getD z40 (Int.toNat x5) Ty.val.dflt)))) (List.set x0 (Int.toNat x5) (Val.mk x1 (Val.n (List.getD x0 (Int.toNat x5) Ty.val.dflt)) (Val.step (List.getD x0 (Int.toNat x5) Ty.val.dflt)) (Val.text (List.getD x0 (Int.toNat x5) Ty.val.dflt)) (Val.list (List.getD x0 (Int.toNat x5) Ty.val.dflt)) (Val.columns (List.getD x0 (Int.toNat x5) Ty.val.dflt)) (Val.rows (List.getD x0 (Int.toNat x5) Ty.val.dflt))))))) (Int.toNat x5) Ty.val.dflt)) (IntKind.i64.wrap ((IntKind.i64.wrap ((IntKind.i64.wrap ((IntKind.i64.wrap (x1 + 1)) + 1)) + 1)) + 1))) (xBo r2), (Int.toNat x5) = (Int.toNat x5), List.length r2.2 = List.length (Val.list (List.getD ((fun (z42 : List Val) => List.set z42 (Int.toNat x5) (Val.mk (Val.kind (List.getD z42 (Int.toNat x5) Ty.val.dflt)) (Val.n (List.getD z42 (Int.toNat x5) Ty.val.dflt)) (Val.step (List.getD z42 (Int.toNat x5) Ty.val.dflt)) r1 (Val.list (List.getD z42 (Int.toNat x5) Ty.val.dflt)) (Val.columns (List.getD z42 (Int.toNat x5) Ty.val.dflt)) (Val.rows (List.getD z42 (Int.toNat x5) Ty.val.dflt)))) ((fun (z41 : List Val) => List.set z41 (Int.toNat x5) (Val.mk (Val.kind (List.getD z41 (Int.toNat x5) Ty.val.dflt)) (Val.n (List.getD z41 (Int.toNat x5) Ty.val.dflt)) (IntKind.i64.wrap ((IntKind.i64.wrap (x1 + 1)) + 1)) (Val.text (List.getD z41 (Int.toNat x5) Ty.val.dflt)) (Val.list (List.getD z41 (Int.toNat x5) Ty.val.dflt)) (Val.columns (List.getD z41 (Int.toNat x5) Ty.val.dflt)) (Val.rows (List.getD z41 (Int.toNat x5) Ty.val.dflt)))) ((fun (z40 : List Val) => List.set z40 (Int.toNat x5) (Val.mk (Val.kind (List.getD z40 (Int.toNat x5) Ty.val.dflt)) (IntKind.i64.wrap (x1 + 1)) (Val.step (List.getD z40 (Int.toNat x5) Ty.val.dflt)) (Val.text (List.getD z40 (Int.toNat x5) Ty.val.dflt)) (Val.list (List.getD z40 (Int.toNat x5) Ty.val.dflt)) (Val.columns (List.getD z40 (Int.toNat x5) Ty.val.dflt)) (Val.rows (List.getD z40 (Int.toNat x5) Ty.val.dflt)))) (List.set x0 (Int.toNat x5) (Val.mk x1 (Val.n (List.getD x0 (Int.toNat x5) Ty.val.dflt)) (Val.step (List.getD x0 (Int.toNat x5) Ty.val.dflt)) (Val.text (List.getD x0 (Int.toNat x5) Ty.val.dflt)) (Val.list (List.getD x0 (Int.toNat x5) Ty.val.dflt)) (Val.columns (List.getD x0 (Int.toNat x5) Ty.val.dflt)) (Val.rows (List.getD x0 (Int.toNat x5) Ty.val.dflt))))))) (Int.toNat x5) Ty.val.dflt)), (0 : Int) ≤ x5 ∧ x5 < (List.length ((fun (z43 : List Val) => List.set z43 (Int.toNat x5) (Val.mk (Val.kind (List.getD z43 (Int.toNat x5) Ty.val.dflt)) (Val.n (List.getD z43 (Int.toNat x5) Ty.val.dflt)) (Val.step (List.getD z43 (Int.toNat x5) Ty.val.dflt)) (Val.text (List.getD z43 (Int.toNat x5) Ty.val.dflt)) r2.2 (Val.columns (List.getD z43 (Int.toNat x5) Ty.val.dflt)) (Val.rows (List.getD z43 (Int.toNat x5) Ty.val.dflt)))) ((fun (z42 : List Val) => List.set z42 (Int.toNat x5) (Val.mk (Val.kind (List.getD z42 (Int.toNat x5) Ty.val.dflt)) (Val.n (List.getD z42 (Int.toNat x5) Ty.val.dflt)) (Val.step (List.getD z42 (Int.toNat x5) Ty.val.dflt)) r1 (Val.list (List.getD z42 (Int.toNat x5) Ty.val.dflt)) (Val.columns (List.getD z42 (Int.toNat x5) Ty.val.dflt)) (Val.rows (List.getD z42 (Int.toNat x5) Ty.val.dflt)))) ((fun (z41 : List Val) => List.set z41 (Int.toNat x5) (Val.mk (Val.kind (List.getD z41 (Int.toNat x5) Ty.val.dflt)) (Val.n (List.getD z41 (Int.toNat x5) Ty.val.dflt)) (IntKind.i64.wrap ((IntKind.i64.wrap (x1 + 1)) + 1)) (Val.text (List.getD z41 (Int.toNat x5) Ty.val.dflt)) (Val.list (List.getD z41 (Int.toNat x5) Ty.val.dflt)) (Val.columns (List.getD z41 (Int.toNat x5) Ty.val.dflt)) (Val.rows (List.getD z41 (Int.toNat x5) Ty.val.dflt)))) ((fun (z40 : List Val) => List.set z40 (Int.toNat x5) (Val.mk (Val.kind (List.getD z40 (Int.toNat x5) Ty.val.dflt)) (IntKind.i64.wrap (x1 + 1)) (Val.step (List.getD z40 (Int.toNat x5) Ty.val.dflt)) (Val.text (List.getD z40 (Int.toNat x5) Ty.val.dflt)) (Val.list (List.getD z40 (Int.toNat x5) Ty.val.dflt)) (Val.columns (List.getD z40 (Int.toNat x5) Ty.val.dflt)) (Val.rows (List.getD z40 (Int.toNat x5) Ty.val.dflt)))) (List.set x0 (Int.toNat x5) (Val.mk x1 (Val.n (List.getD x0 (Int.toNat x5) Ty.val.dflt)) (Val.step (List.getD x0 (Int.toNat x5) Ty.val.dflt)) (Val.text (List.getD x0 (Int.toNat x5) Ty.val.dflt)) (Val.list (List.getD x0 (Int.toNat x5) Ty.val.dflt)) (Val.columns (List.getD x0 (Int.toNat x5) Ty.val.dflt)) (Val.rows (List.getD x0 (Int.toNat x5) Ty.val.dflt))))))))), AbC 41 (xD6 (Val.columns (List.getD ((fun (z43 : List Val) => List.set z43 (Int.toNat x5) (Val.mk (Val.kind (List.getD z43 (Int.toNat x5) Ty.val.dflt)) (Val.n (List.getD z43 (Int.toNat x5) Ty.val.dflt)) (Val.step (List.getD z43 (Int.toNat x5) Ty.val.dflt)) (Val.text (List.getD z43 (Int.toNat x5) Ty.val.dflt)) r2.2 (Val.columns (List.getD z43 (Int.toNat x5) Ty.val.dflt)) (Val.rows (List.getD z43 (Int.toNat x5) Ty.val.dflt)))) ((fun (z42 : List Val) => List.set z42 (Int.toNat x5) (Val.mk (Val.kind (List.getD z42 (Int.toNat x5) Ty.val.dflt)) (Val.n (List.getD z42 (Int.toNat x5) Ty.val.dflt)) (Val.step (List.getD z42 (Int.toNat x5) Ty.val.dflt)) r1 (Val.list (List.getD z42 (Int.toNat x5) Ty.val.dflt)) (Val.columns (List.getD z42 (Int.toNat x5) Ty.val.dflt)) (Val.rows (List.getD z42 (Int.toNat x5) Ty.val.dflt)))) ((fun (z41 : List Val) => List.set z41 (Int.toNat x5) (Val.mk (Val.kind (List.getD z41 (Int.toNat x5) Ty.val.dflt)) (Val.n (List.getD z41 (Int.toNat x5) Ty.val.dflt)) (IntKind.i64.wrap ((IntKind.i64.wrap (x1 + 1)) + 1)) (Val.text (List.getD z41 (Int.toNat x5) Ty.val.dflt)) (Val.list (List.getD z41 (Int.toNat x5) Ty.val.dflt)) (Val.columns (List.getD z41 (Int.toNat x5) Ty.val.dflt)) (Val.rows (List.getD z41 (Int.toNat x5) Ty.val.dflt)))) ((fun (z40 : List Val) => List.set z40 (Int.toNat x5) (Val.mk (Val.kind (List.getD z40 (Int.toNat x5) Ty.val.dflt)) (IntKind.i64.wrap (x1 + 1)) (Val.step (List.getD z40 (Int.toNat x5) Ty.val.dflt)) (Val.text (List.getD z40 (Int.toNat x5) Ty.val.dflt)) (Val.list (List.getD z40 (Int.toNat x5) Ty.val.dflt)) (Val.columns (List.getD z40 (Int.toNat x5) Ty.val.dflt)) (Val.rows (List.getD z40 (Int.toNat x5) Ty.val.dflt)))) (List.set x0 (Int.toNat x5) (Val.mk x1 (Val.n (List.getD x0 (Int.toNat x5) Ty.val.dflt)) (Val.step (List.getD x0 (Int.toNat x5) Ty.val.dflt)) (Val.text (List.getD x0 (Int.toNat x5) Ty.val.dflt)) (Val.list (List.getD x0 (Int.toNat x5) Ty.val.dflt)) (Val.columns (List.getD x0 (Int.toNat x5) Ty.val.dflt)) (Val.rows (List.getD x0 (Int.toNat x5) Ty.val.dflt)))))))) (Int.toNat x5) Ty.val.dflt)) r2.1) (xCd r3), (Int.toNat x5) = (Int.toNat x5), List.length r3.2 = List.length (Val.columns (List.getD ((fun (z43 : List Val) => List.set z43 (Int.toNat x5) (Val.mk (Val.kind (List.getD z43 (Int.toNat x5) Ty.val.dflt)) (Val.n (List.getD z43 (Int.toNat x5) Ty.val.dflt)) (Val.step (List.getD z43 (Int.toNat x5) Ty.val.dflt)) (Val.text (List.getD z43 (Int.toNat x5) Ty.val.dflt)) r2.2 (Val.columns (List.getD z43 (Int.toNat x5) Ty.val.dflt)) (Val.rows (List.getD z43 (Int.toNat x5) Ty.val.dflt)))) ((fun (z42 : List Val) => List.set z42 (Int.toNat x5) (Val.mk (Val.kind (List.getD z42 (Int.toNat x5) Ty.val.dflt)) (Val.n (List.getD z42 (Int.toNat x5) Ty.val.dflt)) (Val.step (List.getD z42 (Int.toNat x5) Ty.val.dflt)) r1 (Val.list (List.getD z42 (Int.toNat x5) Ty.val.dflt)) (Val.columns (List.getD z42 (Int.toNat x5) Ty.val.dflt)) (Val.rows (List.getD z42 (Int.toNat x5) Ty.val.dflt)))) ((fun (z41 : List Val) => List.set z41 (Int.toNat x5) (Val.mk (Val.kind (List.getD z41 (Int.toNat x5) Ty.val.dflt)) (Val.n (List.getD z41 (Int.toNat x5) Ty.val.dflt)) (IntKind.i64.wrap ((IntKind.i64.wrap (x1 + 1)) + 1)) (Val.text (List.getD z41 (Int.toNat x5) Ty.val.dflt)) (Val.list (List.getD z41 (Int.toNat x5) Ty.val.dflt)) (Val.columns (List.getD z41 (Int.toNat x5) Ty.val.dflt)) (Val.rows (List.getD z41 (Int.toNat x5) Ty.val.dflt)))) ((fun (z40 : List Val) => List.set z40 (Int.toNat x5) (Val.mk (Val.kind (List.getD z40 (Int.toNat x5) Ty.val.dflt)) (IntKind.i64.wrap (x1 + 1)) (Val.step (List.getD z40 (Int.toNat x5) Ty.val.dflt)) (Val.text (List.getD z40 (Int.toNat x5) Ty.val.dflt)) (Val.list (List.getD z40 (Int.toNat x5) Ty.val.dflt)) (Val.columns (List.getD z40 (Int.toNat x5) Ty.val.dflt)) (Val.rows (List.getD z40 (Int.toNat x5) Ty.val.dflt)))) (List.set x0 (Int.toNat x5) (Val.mk x1 (Val.n (List.getD x0 (Int.toNat x5) Ty.val.dflt)) (Val.step (List.getD x0 (Int.toNat x5) Ty.val.dflt)) (Val.text (List.getD x0 (Int.toNat x5) Ty.val.dflt)) (Val.list (List.getD x0 (Int.toNat x5) Ty.val.dflt)) (Val.columns (List.getD x0 (Int.toNat x5) Ty.val.dflt)) (Val.rows (List.getD x0 (Int.toNat x5) Ty.val.dflt)))))))) (Int.toNat x5) Ty.val.dflt)), (0 : Int) ≤ x5 ∧ x5 < (List.length ((fun (z44 : List Val) => List.set z44 (Int.toNat x5) (Val.mk (Val.kind (List.getD z44 (Int.toNat x5) Ty.val.dflt)) (Val.n (List.getD z44 (Int.toNat x5) Ty.val.dflt)) (Val.step (List.getD z44 (Int.toNat x5) Ty.val.dflt)) (Val.text (List.getD z44 (Int.toNat x5) Ty.val.dflt)) (Val.list (List.getD z44 (Int.toNat x5) Ty.val.dflt)) r3.2 (Val.rows (List.getD z44 (Int.toNat x5) Ty.val.dflt)))) ((fun (z43 : List Val) => List.set z43 (Int.toNat x5) (Val.mk (Val.kind (List.getD z43 (Int.toNat x5) Ty.val.dflt)) (Val.n (List.getD z43 (Int.toNat x5) Ty.val.dflt)) (Val.step (List.getD z43 (Int.toNat x5) Ty.val.dflt)) (Val.text (List.getD z43 (Int.toNat x5) Ty.val.dflt)) r2.2 (Val.columns (List.getD z43 (Int.toNat x5) Ty.val.dflt)) (Val.rows (List.getD z43 (Int.toNat x5) Ty.val.dflt)))) ((fun (z42 : List Val) => List.set z42 (Int.toNat x5) (Val.mk (Val.kind (List.getD z42 (Int.toNat x5) Ty.val.dflt)) (Val.n (List.getD z42 (Int.toNat x5) Ty.val.dflt)) (Val.step (List.getD z42 (Int.toNat x5) Ty.val.dflt)) r1 (Val.list (List.getD z42 (Int.toNat x5) Ty.val.dflt)) (Val.columns (List.getD z42 (Int.toNat x5) Ty.val.dflt)) (Val.rows (List.getD z42 (Int.toNat x5) Ty.val.dflt)))) ((fun (z41 : List Val) => List.set z41 (Int.toNat x5) (Val.mk (Val.kind (List.getD z41 (Int.toNat x5) Ty.val.dflt)) (Val.n (List.getD z41 (Int.toNat x5) Ty.val.dflt)) (IntKind.i64.wrap ((IntKind.i64.wrap (x1 + 1)) + 1)) (Val.text (List.getD z41 (Int.toNat x5) Ty.val.dflt)) (Val.list (List.getD z41 (Int.toNat x5) Ty.val.dflt)) (Val.columns (List.getD z41 (Int.toNat x5) Ty.val.dflt)) (Val.rows (List.getD z41 (Int.toNat x5) Ty.val.dflt)))) ((fun (z40 : List Val) => List.set z40 (Int.toNat x5) (Val.mk (Val.kind (List.getD z40 (Int.toNat x5) Ty.val.dflt)) (IntKind.i64.wrap (x1 + 1)) (Val.step (List.getD z40 (Int.toNat x5) Ty.val.dflt)) (Val.text (List.getD z40 (Int.toNat x5) Ty.val.dflt)) (Val.list (List.getD z40 (Int.toNat x5) Ty.val.dflt)) (Val.columns (List.getD z40 (Int.toNat x5) Ty.val.dflt)) (Val.rows (List.getD z40 (Int.toNat x5) Ty.val.dflt)))) (List.set x0 (Int.toNat x5) (Val.mk x1 (Val.n (List.getD x0 (Int.toNat x5) Ty.val.dflt)) (Val.step (List.getD x0 (Int.toNat x5) Ty.val.dflt)) (Val.text (List.getD x0 (Int.toNat x5) Ty.val.dflt)) (Val.list (List.getD x0 (Int.toNat x5) Ty.val.dflt)) (Val.columns (List.getD x0 (Int.toNat x5) Ty.val.dflt)) (Val.rows (List.getD x0 (Int.toNat x5) Ty.val.dflt)))))))))), AbC 42 (xE9 (Val.rows (List.getD ((fun (z44 : List Val) => List.set z44 (Int.toNat x5) (Val.mk (Val.kind (List.getD z44 (Int.toNat x5) Ty.val.dflt)) (Val.n (List.getD z44 (Int.toNat x5) Ty.val.dflt)) (Val.step (List.getD z44 (Int.toNat x5) Ty.val.dflt)) (Val.text (List.getD z44 (Int.toNat x5) Ty.val.dflt)) (Val.list (List.getD z44 (Int.toNat x5) Ty.val.dflt)) r3.2 (Val.rows (List.getD z44 (Int.toNat x5) Ty.val.dflt)))) ((fun (z43 : List Val) => List.set z43 (Int.toNat x5) (Val.mk (Val.kind (List.getD z43 (Int.toNat x5) Ty.val.dflt)) (Val.n (List.getD z43 (Int.toNat x5) Ty.val.dflt)) (Val.step (List.getD z43 (Int.toNat x5) Ty.val.dflt)) (Val.text (List.getD z43 (Int.toNat x5) Ty.val.dflt)) r2.2 (Val.columns (List.getD z43 (Int.toNat x5) Ty.val.dflt)) (Val.rows (List.getD z43 (Int.toNat x5) Ty.val.dflt)))) ((fun (z42 : List Val) => List.set z42 (Int.toNat x5) (Val.mk (Val.kind (List.getD z42 (Int.toNat x5) Ty.val.dflt)) (Val.n (List.getD z42 (Int.toNat x5) Ty.val.dflt)) (Val.step (List.getD z42 (Int.toNat x5) Ty.val.dflt)) r1 (Val.list (List.getD z42 (Int.toNat x5) Ty.val.dflt)) (Val.columns (List.getD z42 (Int.toNat x5) Ty.val.dflt)) (Val.rows (List.getD z42 (Int.toNat x5) Ty.val.dflt)))) ((fun (z41 : List Val) => List.set z41 (Int.toNat x5) (Val.mk (Val.kind (List.getD z41 (Int.toNat x5) Ty.val.dflt)) (Val.n (List.getD z41 (Int.toNat x5) Ty.val.dflt)) (IntKind.i64.wrap ((IntKind.i64.wrap (x1 + 1)) + 1)) (Val.text (List.getD z41 (Int.toNat x5) Ty.val.dflt)) (Val.list (List.getD z41 (Int.toNat x5) Ty.val.dflt)) (Val.columns (List.getD z41 (Int.toNat x5) Ty.val.dflt)) (Val.rows (List.getD z41 (Int.toNat x5) Ty.val.dflt)))) ((fun (z40 : List Val) => List.set z40 (Int.toNat x5) (Val.mk (Val.kind (List.getD z40 (Int.toNat x5) Ty.val.dflt)) (IntKind.i64.wrap (x1 + 1)) (Val.step (List.getD z40 (Int.toNat x5) Ty.val.dflt)) (Val.text (List.getD z40 (Int.toNat x5) Ty.val.dflt)) (Val.list (List.getD z40 (Int.toNat x5) Ty.val.dflt)) (Val.columns (List.getD z40 (Int.toNat x5) Ty.val.dflt)) (Val.rows (List.getD z40 (Int.toNat x5) Ty.val.dflt)))) (List.set x0 (Int.toNat x5) (Val.mk x1 (Val.n (List.getD x0 (Int.toNat x5) Ty.val.dflt)) (Val.step (List.getD x0 (Int.toNat x5) Ty.val.dflt)) (Val.text (List.getD x0 (Int.toNat x5) Ty.val.dflt)) (Val.list (List.getD x0 (Int.toNat x5) Ty.val.dflt)) (Val.columns (List.getD x0 (Int.toNat x5) Ty.val.dflt)) (Val.rows (List.getD x0 (Int.toNat x5) Ty.val.dflt))))))))) (Int.toNat x5) Ty.val.dflt)) r3.1) (xC4 r4), (Int.toNat x5) = (Int.toNat x5), List.length r4.2 = List.length (Val.rows (List.getD ((fun (z44 : List Val) => List.set z44 (Int.toNat x5) (Val.mk (Val.kind (List.getD z44 (Int.toNat x5) Ty.val.dflt)) (Val.n (List.getD z44 (Int.toNat x5) Ty.val.dflt)) (Val.step (List.getD z44 (Int.toNat x5) Ty.val.dflt)) (Val.text (List.getD z44 (Int.toNat x5) Ty.val.dflt)) (Val.list (List.getD z44 (Int.toNat x5) Ty.val.dflt)) r3.2 (Val.rows (List.getD z44 (Int.toNat x5) Ty.val.dflt)))) ((fun (z43 : List Val) => List.set z43 (Int.toNat x5) (Val.mk (Val.kind (List.getD z43 (Int.toNat x5) Ty.val.dflt)) (Val.n (List.getD z43 (Int.toNat x5) Ty.val.dflt)) (Val.step (List.getD z43 (Int.toNat x5) Ty.val.dflt)) (Val.text (List.getD z43 (Int.toNat x5) Ty.val.dflt)) r2.2 (Val.columns (List.getD z43 (Int.toNat x5) Ty.val.dflt)) (Val.rows (List.getD z43 (Int.toNat x5) Ty.val.dflt)))) ((fun (z42 : List Val) => List.set z42 (Int.toNat x5) (Val.mk (Val.kind (List.getD z42 (Int.toNat x5) Ty.val.dflt)) (Val.n (List.getD z42 (Int.toNat x5) Ty.val.dflt)) (Val.step (List.getD z42 (Int.toNat x5) Ty.val.dflt)) r1 (Val.list (List.getD z42 (Int.toNat x5) Ty.val.dflt)) (Val.columns (List.getD z42 (Int.toNat x5) Ty.val.dflt)) (Val.rows (List.getD z42 (Int.toNat x5) Ty.val.dflt)))) ((fun (z41 : List Val) => List.set z41 (Int.toNat x5) (Val.mk (Val.kind (List.getD z41 (Int.toNat x5) Ty.val.dflt)) (Val.n (List.getD z41 (Int.toNat x5) Ty.val.dflt)) (IntKind.i64.wrap ((IntKind.i64.wrap (x1 + 1)) + 1)) (Val.text (List.getD z41 (Int.toNat x5) Ty.val.dflt)) (Val.list (List.getD z41 (Int.toNat x5) Ty.val.dflt)) (Val.columns (List.getD z41 (Int.toNat x5) Ty.val.dflt)) (Val.rows (List.getD z41 (Int.toNat x5) Ty.val.dflt)))) ((fun (z40 : List Val) => List.set z40 (Int.toNat x5) (Val.mk (Val.kind (List.getD z40 (Int.toNat x5) Ty.val.dflt)) (IntKind.i64.wrap (x1 + 1)) (Val.step (List.getD z40 (Int.toNat x5) Ty.val.dflt)) (Val.text (List.getD z40 (Int.toNat x5) Ty.val.dflt)) (Val.list (List.getD z40 (Int.toNat x5) Ty.val.dflt)) (Val.columns (List.getD z40 (Int.toNat x5) Ty.val.dflt)) (Val.rows (List.getD z40 (Int.toNat x5) Ty.val.dflt)))) (List.set x0 (Int.toNat x5) (Val.mk x1 (Val.n (List.getD x0 (Int.toNat x5) Ty.val.dflt)) (Val.step (List.getD x0 (Int.toNat x5) Ty.val.dflt)) (Val.text (List.getD x0 (Int.toNat x5) Ty.val.dflt)) (Val.list (List.getD x0 (Int.toNat x5) Ty.val.dflt)) (Val.columns (List.getD x0 (Int.toNat x5) Ty.val.dflt)) (Val.rows (List.getD x0 (Int.toNat x5) Ty.val.dflt))))))))) (Int.toNat x5) Ty.val.dflt))]) := by kernel_rfl
theorem p40_2_1 (x0 : List Val) (x1 x5 : Int) : run tt (AbsCalls Try.prog) I40 3000 true (stkAt 2 I40.body) ⟨(S40_2 x0 x1 x5), [false], [], []⟩ = some (.done (xBo (x1, x0)) [(decide ((x5 : Int) < (List.length x0 : Int))) = false]) := by kernel_rfl
theorem p40_e_2 (a0 : List Val) (a1 : Int) : run tt (AbsCalls Try.prog) I40 3000 false [.code I40.body] ⟨(zBi 0 (xBW a0 a1)), [], [], []⟩ = some (.stop (stkAt 2 I40.body) (S40_2 a0 a1 0) []) := by kernel_rfl
theorem c40_2 {N : Nat} {rc_laws_markValueS : (List Val) → Int → Option (Int × (List Val))} (hrc_laws_markValueS : ∀ a0 a1 r, rc_laws_markValueS a0 a1 = some r → AbC 40 (xBW a0 a1) (xBo r)) : ∀ n x0 x1 x5 r, xCU N rc_laws_markValueS n x0 x1 x5 = some r → Reach Try.prog Try.f40 I40 (stkAt 2 I40.body) (S40_2 x0 x1 x5) (xBo r) := by
 intro n
 induction n with
 | zero => intro x0 x1 x5 r h; have h' : (none : Option (Int × (List Val))) = some r := h; cases h'
 | succ n ih =>
  intro x0 x1 x5 r h
  rw [xCU] at h
  rcases cond_inv h with ⟨h0, h⟩ | ⟨h0, h⟩
  ·obtain ⟨h1, h⟩ := ite_inv h
   obtain ⟨h2, h⟩ := ite_inv h
   obtain ⟨h3, h⟩ := ite_inv h
   obtain ⟨r1, h4, h⟩ := bind_inv h
   obtain ⟨h5, h⟩ := ite_inv h
   obtain ⟨h6, h⟩ := ite_inv h
   obtain ⟨r2, h7, h⟩ := bind_inv h
   obtain ⟨h9, h⟩ := ite_inv h
   obtain ⟨h10, h⟩ := ite_inv h
   obtain ⟨r3, h11, h⟩ := bind_inv h
   obtain ⟨h13, h⟩ := ite_inv h
   obtain ⟨h14, h⟩ := ite_inv h
   obtain ⟨r4, h15, h⟩ := bind_inv h
   obtain ⟨h17, h⟩ := ite_inv h
   exact Reach.stop ttok mix fk40 (p40_2_0 x0 x1 x5 r1 r2 r3 r4) (obs_cons h0 (obs_cons h1 (obs_cons h2 (obs_cons h3 (obs_cons (xCs h4) (obs_cons h5 (obs_cons h6 (obs_cons (hrc_laws_markValueS _ _ _ h7) (obs_cons rfl (obs_cons h9 (obs_cons h10 (obs_cons (xG9 h11) (obs_cons rfl (obs_cons h13 (obs_cons h14 (obs_cons (xHL h15) (obs_cons rfl (obs_cons h17 obs_nil)))))))))))))))))) (ih _ _ _ _ h)
  ·obtain rfl := Option.some.inj h
   exact Reach.done ttok mix fk40 (p40_2_1 x0 x1 x5) (obs_cons h0 obs_nil)
theorem c40_e {N : Nat} {rc_laws_markValueS : (List Val) → Int → Option (Int × (List Val))} (hrc_laws_markValueS : ∀ a0 a1 r, rc_laws_markValueS a0 a1 = some r → AbC 40 (xBW a0 a1) (xBo r)) : ∀ a0 a1 r, xEC N rc_laws_markValueS a0 a1 = some r → Reach Try.prog Try.f40 I40 [.code I40.body] (zBi 0 (xBW a0 a1)) (xBo r) := by
 intro a0 a1 r h
 unfold xEC at h
 exact Reach.stop ttok mix fk40 (p40_e_2 a0 a1) obs_nil (c40_2 hrc_laws_markValueS  _ _ _ _ _ h)
theorem xHH {N : Nat} {rc_laws_markValueS : (List Val) → Int → Option (Int × (List Val))} (hrc_laws_markValueS : ∀ a0 a1 r, rc_laws_markValueS a0 a1 = some r → AbC 40 (xBW a0 a1) (xBo r)) {a0 : List Val} {a1 : Int} {r : Int × (List Val)} (h : xEC N rc_laws_markValueS a0 a1 = some r) : AbC 40 (xBW a0 a1) (xBo r) :=
 AbsCalls.of_reach fk40 rfl rfl (Nat.le_of_ble_eq_true rfl) (c40_e hrc_laws_markValueS a0 a1 r h)
theorem xHS {N : Nat} : ∀ d, (∀ a0 a1 r, xD7 N d a0 a1 = some r → AbC 40 (xBW a0 a1) (xBo r)) := by
 intro d
 induction d with
 | zero => intro _ _ r h; have h' : (none : Option (Int × (List Val))) = some r := h; cases h'
 | succ d ih => intro _ _ r h; exact xHH (N := N) ih h
theorem laws_markValueS_ok {N : Nat} {a0 : List Val} {a1 : Int} {r : Int × (List Val)} (h : xHa N a0 a1 = some r) : AbC 40 (xBW a0 a1) (xBo r) := xHS N _ _ r h
noncomputable def I13 : Info := { body := (Try.f13.body).getD .skip, nt := 18, results := [.tmp 4], keep := [0, 2, 4, 8, 5], live := [], modes := [(1, [(1, .ref, false), (3, .ref, false)]), (2, [(1, .ref, false), (3, .ref, false)]), (3, [(1, .ref, false), (3, .ref, false)])], ext := [], lnt := [(5, 4), (5, 5), (5, 6)], casts := [], fcast := [] }
theorem fk13 : FnOk Try.prog 13 Try.f13 I13 := ⟨Try.func13, by kernel_rfl, by kernel_rfl, by kernel_rfl, by kernel_rfl⟩
theorem p13_e_0 (a0 : Val) (a1 : Int) (r1 : Int × (List Val)) (r2 : Int × (List Str)) (r3 : Int × (List Rowd)) : run tt (AbsCalls Try.prog) I13 3000 false [.code I13.body] ⟨(zBi 0 (xAm a0 a1)), [], [xBo r1, xCd r2, xC4 r3], []⟩ = some (.done (xAg (r3.1, r1.2, r2.2, r3.2)) [AbC 40 (xBW (Val.list a0) a1) (xBo r1), List.length r1.2 = List.length (Val.list a0), AbC 41 (xD6 (Val.columns a0) r1.1) (xCd r2), List.length r2.2 = List.length (Val.columns a0), AbC 42 (xE9 (Val.rows a0) r2.1) (xC4 r3), List.length r3.2 = List.length (Val.rows a0)]) := by kernel_rfl
theorem c13_e {N : Nat} : ∀ a0 a1 r, xBc N a0 a1 = some r → Reach Try.prog Try.f13 I13 [.code I13.body] (zBi 0 (xAm a0 a1)) (xAg r) := by
 intro a0 a1 r h
 unfold xBc at h
 obtain ⟨r1, h0, h⟩ := bind_inv h
 obtain ⟨h1, h⟩ := ite_inv h
 obtain ⟨r2, h2, h⟩ := bind_inv h
 obtain ⟨h3, h⟩ := ite_inv h
 obtain ⟨r3, h4, h⟩ := bind_inv h
 obtain ⟨h5, h⟩ := ite_inv h
 obtain rfl := Option.some.inj h
 exact Reach.done ttok mix fk13 (p13_e_0 a0 a1 r1 r2 r3) (obs_cons (laws_markValueS_ok h0) (obs_cons h1 (obs_cons (xG9 h2) (obs_cons h3 (obs_cons (xHL h4) (obs_cons h5 obs_nil))))))
theorem xAn {N : Nat} {a0 : Val} {a1 : Int} {r : Int × (List Val) × (List Str) × (List Rowd)} (h : xBc N  a0 a1 = some r) : AbC 13 (xAm a0 a1) (xAg r) :=
 AbsCalls.of_reach fk13 rfl rfl (Nat.le_of_ble_eq_true rfl) (c13_e a0 a1 r h)
noncomputable def I44 : Info := { body := (Try.f44.body).getD .skip, nt := 22, results := [.tmp 4], keep := [0, 2, 8, 10, 18, 36], live := [(2, [0, 2, 10])], modes := [], ext := [], lnt := [], casts := [], fcast := [] }
theorem fk44 : FnOk Try.prog 44 Try.f44 I44 := ⟨Try.func44, by kernel_rfl, by kernel_rfl, by kernel_rfl, by kernel_rfl⟩
def S44_2 (x0 : List Str) (x1 x5 : Int) : St := [(0, .v false [.sl .ro .str x0]), (2, .v false [.int .i64 x1]), (10, .v false [.int .i64 x5])]
theorem p44_2_0 (x0 : List Str) (x1 x5 : Int) (r1 : Str) : run tt (AbsCalls Try.prog) I44 3000 true (stkAt 2 I44.body) ⟨(S44_2 x0 x1 x5), [true, true], [xAP r1], []⟩ = some (.done (xAV (-1)) [(decide ((x5 : Int) < (List.length x0 : Int))) = true, (0 : Int) ≤ x5 ∧ x5 < (List.length x0), AbC 78 (xBD x1) (xAP r1), (!(((List.getD x0 (Int.toNat x5) Ty.str.dflt) : Str) == r1)) = true]) := by kernel_rfl
theorem p44_2_1 (x0 : List Str) (x1 x5 : Int) (r1 : Str) : run tt (AbsCalls Try.prog) I44 3000 true (stkAt 2 I44.body) ⟨(S44_2 x0 x1 x5), [true, false], [xAP r1], []⟩ = some (.stop (stkAt 2 I44.body) (S44_2 x0 (IntKind.i64.wrap (x1 + 1)) (IntKind.i64.wrap (x5 + 1))) [(decide ((x5 : Int) < (List.length x0 : Int))) = true, (0 : Int) ≤ x5 ∧ x5 < (List.length x0), AbC 78 (xBD x1) (xAP r1), (!(((List.getD x0 (Int.toNat x5) Ty.str.dflt) : Str) == r1)) = false]) := by kernel_rfl
theorem p44_2_2 (x0 : List Str) (x1 x5 : Int) : run tt (AbsCalls Try.prog) I44 3000 true (stkAt 2 I44.body) ⟨(S44_2 x0 x1 x5), [false], [], []⟩ = some (.done (xAV x1) [(decide ((x5 : Int) < (List.length x0 : Int))) = false]) := by kernel_rfl
theorem p44_e_3 (a0 : List Str) (a1 : Int) : run tt (AbsCalls Try.prog) I44 3000 false [.code I44.body] ⟨(zBi 0 (xBZ a0 a1)), [], [], []⟩ = some (.stop (stkAt 2 I44.body) (S44_2 a0 a1 0) []) := by kernel_rfl
theorem c44_2 {N : Nat} : ∀ n x0 x1 x5 r, xCc N n x0 x1 x5 = some r → Reach Try.prog Try.f44 I44 (stkAt 2 I44.body) (S44_2 x0 x1 x5) (xAV r) := by
 intro n
 induction n with
 | zero => intro x0 x1 x5 r h; have h' : (none : Option (Int)) = some r := h; cases h'
 | succ n ih =>
  intro x0 x1 x5 r h
  rw [xCc] at h
  rcases cond_inv h with ⟨h0, h⟩ | ⟨h0, h⟩
  ·obtain ⟨h1, h⟩ := ite_inv h
   obtain ⟨r1, h2, h⟩ := bind_inv h
   rcases cond_inv h with ⟨h3, h⟩ | ⟨h3, h⟩
   ·obtain rfl := Option.some.inj h
    exact Reach.done ttok mix fk44 (p44_2_0 x0 x1 x5 r1) (obs_cons h0 (obs_cons h1 (obs_cons (xCs h2) (obs_cons h3 obs_nil))))
   ·exact Reach.stop ttok mix fk44 (p44_2_1 x0 x1 x5 r1) (obs_cons h0 (obs_cons h1 (obs_cons (xCs h2) (obs_cons h3 obs_nil)))) (ih _ _ _ _ h)
  ·obtain rfl := Option.some.inj h
   exact Reach.done ttok mix fk44 (p44_2_2 x0 x1 x5) (obs_cons h0 obs_nil)
theorem c44_e {N : Nat} : ∀ a0 a1 r, xDJ N a0 a1 = some r → Reach Try.prog Try.f44 I44 [.code I44.body] (zBi 0 (xBZ a0 a1)) (xAV r) := by
 intro a0 a1 r h
 unfold xDJ at h
 exact Reach.stop ttok mix fk44 (p44_e_3 a0 a1) obs_nil (c44_2   _ _ _ _ _ h)
theorem xDh {N : Nat} {a0 : List Str} {a1 : Int} {r : Int} (h : xDJ N  a0 a1 = some r) : AbC 44 (xBZ a0 a1) (xAV r) :=
 AbsCalls.of_reach fk44 rfl rfl (Nat.le_of_ble_eq_true rfl) (c44_e a0 a1 r h)
noncomputable def I81 : Info := { body := (Try.f81.body).getD .skip, nt := 21, results := [.tmp 4], keep := [0, 2, 8, 10, 18, 34], live := [(2, [0, 2, 10])], modes := [], ext := [], lnt := [], casts := [], fcast := [] }
theorem fk81 : FnOk Try.prog 81 Try.f81 I81 := ⟨Try.func81, by kernel_rfl, by kernel_rfl, by kernel_rfl, by kernel_rfl⟩
def S81_2 (x0 : List Int) (x1 x5 : Int) : St := [(0, .v false [.sl .ro .int x0]), (2, .v false [.int .i64 x1]), (10, .v false [.int .i64 x5])]
theorem p81_2_0 (x0 : List Int) (x1 x5 : Int) : run tt (AbsCalls Try.prog) I81 3000 true (stkAt 2 I81.body) ⟨(S81_2 x0 x1 x5), [true, true], [], []⟩ = some (.done (xB5 (-1)) [(decide ((x5 : Int) < (List.length x0 : Int))) = true, (0 : Int) ≤ x5 ∧ x5 < (List.length x0), (((List.getD x0 (Int.toNat x5) Ty.int.dflt) : Int) != x1) = true]) := by kernel_rfl
theorem p81_2_1 (x0 : List Int) (x1 x5 : Int) : run tt (AbsCalls Try.prog) I81 3000 true (stkAt 2 I81.body) ⟨(S81_2 x0 x1 x5), [true, false], [], []⟩ = some (.stop (stkAt 2 I81.body) (S81_2 x0 (IntKind.i64.wrap (x1 + 1)) (IntKind.i64.wrap (x5 + 1))) [(decide ((x5 : Int) < (List.length x0 : Int))) = true, (0 : Int) ≤ x5 ∧ x5 < (List.length x0), (((List.getD x0 (Int.toNat x5) Ty.int.dflt) : Int) != x1) = false]) := by kernel_rfl
theorem p81_2_2 (x0 : List Int) (x1 x5 : Int) : run tt (AbsCalls Try.prog) I81 3000 true (stkAt 2 I81.body) ⟨(S81_2 x0 x1 x5), [false], [], []⟩ = some (.done (xB5 x1) [(decide ((x5 : Int) < (List.length x0 : Int))) = false]) := by kernel_rfl
theorem p81_e_3 (a0 : List Int) (a1 : Int) : run tt (AbsCalls Try.prog) I81 3000 false [.code I81.body] ⟨(zBi 0 (xEe a0 a1)), [], [], []⟩ = some (.stop (stkAt 2 I81.body) (S81_2 a0 a1 0) []) := by kernel_rfl
theorem c81_2 {N : Nat} : ∀ n x0 x1 x5 r, xDH N n x0 x1 x5 = some r → Reach Try.prog Try.f81 I81 (stkAt 2 I81.body) (S81_2 x0 x1 x5) (xB5 r) := by
 intro n
 induction n with
 | zero => intro x0 x1 x5 r h; have h' : (none : Option (Int)) = some r := h; cases h'
 | succ n ih =>
  intro x0 x1 x5 r h
  rw [xDH] at h
  rcases cond_inv h with ⟨h0, h⟩ | ⟨h0, h⟩
  ·obtain ⟨h1, h⟩ := ite_inv h
   rcases cond_inv h with ⟨h2, h⟩ | ⟨h2, h⟩
   ·obtain rfl := Option.some.inj h
    exact Reach.done ttok mix fk81 (p81_2_0 x0 x1 x5) (obs_cons h0 (obs_cons h1 (obs_cons h2 obs_nil)))
   ·exact Reach.stop ttok mix fk81 (p81_2_1 x0 x1 x5) (obs_cons h0 (obs_cons h1 (obs_cons h2 obs_nil))) (ih _ _ _ _ h)
  ·obtain rfl := Option.some.inj h
   exact Reach.done ttok mix fk81 (p81_2_2 x0 x1 x5) (obs_cons h0 obs_nil)
theorem c81_e {N : Nat} : ∀ a0 a1 r, xGe N a0 a1 = some r → Reach Try.prog Try.f81 I81 [.code I81.body] (zBi 0 (xEe a0 a1)) (xB5 r) := by
 intro a0 a1 r h
 unfold xGe at h
 exact Reach.stop ttok mix fk81 (p81_e_3 a0 a1) obs_nil (c81_2   _ _ _ _ _ h)
theorem xGR {N : Nat} {a0 : List Int} {a1 : Int} {r : Int} (h : xGe N  a0 a1 = some r) : AbC 81 (xEe a0 a1) (xB5 r) :=
 AbsCalls.of_reach fk81 rfl rfl (Nat.le_of_ble_eq_true rfl) (c81_e a0 a1 r h)
noncomputable def I82 : Info := { body := (Try.f82.body).getD .skip, nt := 31, results := [.tmp 4], keep := [0, 2, 8, 10, 18, 36, 54], live := [(2, [0, 2, 10])], modes := [], ext := [], lnt := [], casts := [], fcast := [] }
theorem fk82 : FnOk Try.prog 82 Try.f82 I82 := ⟨Try.func82, by kernel_rfl, by kernel_rfl, by kernel_rfl, by kernel_rfl⟩
def S82_2 (x0 : List Org) (x1 x5 : Int) : St := [(0, .v false [.sl .ro .org x0]), (2, .v false [.int .i64 x1]), (10, .v false [.int .i64 x5])]
theorem p82_2_0 (x0 : List Org) (x1 x5 : Int) : run tt (AbsCalls Try.prog) I82 3000 true (stkAt 2 I82.body) ⟨(S82_2 x0 x1 x5), [true, true], [], []⟩ = some (.done (xBJ (-1)) [(decide ((x5 : Int) < (List.length x0 : Int))) = true, (0 : Int) ≤ x5 ∧ x5 < (List.length x0), (((Org.cell (List.getD x0 (Int.toNat x5) Ty.org.dflt)) : Int) != x1) = true]) := by kernel_rfl
theorem p82_2_1 (x0 : List Org) (x1 x5 : Int) : run tt (AbsCalls Try.prog) I82 3000 true (stkAt 2 I82.body) ⟨(S82_2 x0 x1 x5), [true, false, true], [], []⟩ = some (.done (xBJ (-1)) [(decide ((x5 : Int) < (List.length x0 : Int))) = true, (0 : Int) ≤ x5 ∧ x5 < (List.length x0), (((Org.cell (List.getD x0 (Int.toNat x5) Ty.org.dflt)) : Int) != x1) = false, (0 : Int) ≤ x5 ∧ x5 < (List.length x0), (((Org.row (List.getD x0 (Int.toNat x5) Ty.org.dflt)) : Int) != (IntKind.i64.wrap (x1 + 1))) = true]) := by kernel_rfl
theorem p82_2_2 (x0 : List Org) (x1 x5 : Int) : run tt (AbsCalls Try.prog) I82 3000 true (stkAt 2 I82.body) ⟨(S82_2 x0 x1 x5), [true, false, false], [], []⟩ = some (.stop (stkAt 2 I82.body) (S82_2 x0 (IntKind.i64.wrap ((IntKind.i64.wrap (x1 + 1)) + 1)) (IntKind.i64.wrap (x5 + 1))) [(decide ((x5 : Int) < (List.length x0 : Int))) = true, (0 : Int) ≤ x5 ∧ x5 < (List.length x0), (((Org.cell (List.getD x0 (Int.toNat x5) Ty.org.dflt)) : Int) != x1) = false, (0 : Int) ≤ x5 ∧ x5 < (List.length x0), (((Org.row (List.getD x0 (Int.toNat x5) Ty.org.dflt)) : Int) != (IntKind.i64.wrap (x1 + 1))) = false]) := by kernel_rfl
theorem p82_2_3 (x0 : List Org) (x1 x5 : Int) : run tt (AbsCalls Try.prog) I82 3000 true (stkAt 2 I82.body) ⟨(S82_2 x0 x1 x5), [false], [], []⟩ = some (.done (xBJ x1) [(decide ((x5 : Int) < (List.length x0 : Int))) = false]) := by kernel_rfl
theorem p82_e_4 (a0 : List Org) (a1 : Int) : run tt (AbsCalls Try.prog) I82 3000 false [.code I82.body] ⟨(zBi 0 (xD5 a0 a1)), [], [], []⟩ = some (.stop (stkAt 2 I82.body) (S82_2 a0 a1 0) []) := by kernel_rfl
theorem c82_2 {N : Nat} : ∀ n x0 x1 x5 r, xCw N n x0 x1 x5 = some r → Reach Try.prog Try.f82 I82 (stkAt 2 I82.body) (S82_2 x0 x1 x5) (xBJ r) := by
 intro n
 induction n with
 | zero => intro x0 x1 x5 r h; have h' : (none : Option (Int)) = some r := h; cases h'
 | succ n ih =>
  intro x0 x1 x5 r h
  rw [xCw] at h
  rcases cond_inv h with ⟨h0, h⟩ | ⟨h0, h⟩
  ·obtain ⟨h1, h⟩ := ite_inv h
   rcases cond_inv h with ⟨h2, h⟩ | ⟨h2, h⟩
   ·obtain rfl := Option.some.inj h
    exact Reach.done ttok mix fk82 (p82_2_0 x0 x1 x5) (obs_cons h0 (obs_cons h1 (obs_cons h2 obs_nil)))
   ·rcases cond_inv h with ⟨h4, h⟩ | ⟨h4, h⟩
    ·obtain rfl := Option.some.inj h
     exact Reach.done ttok mix fk82 (p82_2_1 x0 x1 x5) (obs_cons h0 (obs_cons h1 (obs_cons h2 (obs_cons h1 (obs_cons h4 obs_nil)))))
    ·exact Reach.stop ttok mix fk82 (p82_2_2 x0 x1 x5) (obs_cons h0 (obs_cons h1 (obs_cons h2 (obs_cons h1 (obs_cons h4 obs_nil))))) (ih _ _ _ _ h)
  ·obtain rfl := Option.some.inj h
   exact Reach.done ttok mix fk82 (p82_2_3 x0 x1 x5) (obs_cons h0 obs_nil)
theorem c82_e {N : Nat} : ∀ a0 a1 r, xE7 N a0 a1 = some r → Reach Try.prog Try.f82 I82 [.code I82.body] (zBi 0 (xD5 a0 a1)) (xBJ r) := by
 intro a0 a1 r h
 unfold xE7 at h
 exact Reach.stop ttok mix fk82 (p82_e_4 a0 a1) obs_nil (c82_2   _ _ _ _ _ h)
theorem xG8 {N : Nat} {a0 : List Org} {a1 : Int} {r : Int} (h : xE7 N  a0 a1 = some r) : AbC 82 (xD5 a0 a1) (xBJ r) :=
 AbsCalls.of_reach fk82 rfl rfl (Nat.le_of_ble_eq_true rfl) (c82_e a0 a1 r h)
noncomputable def I45 : Info := { body := (Try.f45.body).getD .skip, nt := 31, results := [.tmp 4], keep := [0, 2, 8, 10, 18, 40, 58], live := [(2, [0, 2, 10])], modes := [], ext := [], lnt := [], casts := [], fcast := [] }
theorem fk45 : FnOk Try.prog 45 Try.f45 I45 := ⟨Try.func45, by kernel_rfl, by kernel_rfl, by kernel_rfl, by kernel_rfl⟩
def S45_2 (x0 : List Rowd) (x1 x5 : Int) : St := [(0, .v false [.sl .ro .row x0]), (2, .v false [.int .i64 x1]), (10, .v false [.int .i64 x5])]
theorem p45_2_0 (x0 : List Rowd) (x1 x5 r1 : Int) : run tt (AbsCalls Try.prog) I45 3000 true (stkAt 2 I45.body) ⟨(S45_2 x0 x1 x5), [true, true], [xB5 r1], []⟩ = some (.done (xBy (-1)) [(decide ((x5 : Int) < (List.length x0 : Int))) = true, (0 : Int) ≤ x5 ∧ x5 < (List.length x0), AbC 81 (xEe (Rowd.cells (List.getD x0 (Int.toNat x5) Ty.row.dflt)) x1) (xB5 r1), (decide ((r1 : Int) < 0)) = true]) := by kernel_rfl
theorem p45_2_1 (x0 : List Rowd) (x1 x5 r1 r2 : Int) : run tt (AbsCalls Try.prog) I45 3000 true (stkAt 2 I45.body) ⟨(S45_2 x0 x1 x5), [true, false, true], [xB5 r1, xBJ r2], []⟩ = some (.done (xBy (-1)) [(decide ((x5 : Int) < (List.length x0 : Int))) = true, (0 : Int) ≤ x5 ∧ x5 < (List.length x0), AbC 81 (xEe (Rowd.cells (List.getD x0 (Int.toNat x5) Ty.row.dflt)) x1) (xB5 r1), (decide ((r1 : Int) < 0)) = false, (0 : Int) ≤ x5 ∧ x5 < (List.length x0), AbC 82 (xD5 (Rowd.frm (List.getD x0 (Int.toNat x5) Ty.row.dflt)) r1) (xBJ r2), (decide ((r2 : Int) < 0)) = true]) := by kernel_rfl
theorem p45_2_2 (x0 : List Rowd) (x1 x5 r1 r2 : Int) : run tt (AbsCalls Try.prog) I45 3000 true (stkAt 2 I45.body) ⟨(S45_2 x0 x1 x5), [true, false, false], [xB5 r1, xBJ r2], []⟩ = some (.stop (stkAt 2 I45.body) (S45_2 x0 r2 (IntKind.i64.wrap (x5 + 1))) [(decide ((x5 : Int) < (List.length x0 : Int))) = true, (0 : Int) ≤ x5 ∧ x5 < (List.length x0), AbC 81 (xEe (Rowd.cells (List.getD x0 (Int.toNat x5) Ty.row.dflt)) x1) (xB5 r1), (decide ((r1 : Int) < 0)) = false, (0 : Int) ≤ x5 ∧ x5 < (List.length x0), AbC 82 (xD5 (Rowd.frm (List.getD x0 (Int.toNat x5) Ty.row.dflt)) r1) (xBJ r2), (decide ((r2 : Int) < 0)) = false]) := by kernel_rfl
theorem p45_2_3 (x0 : List Rowd) (x1 x5 : Int) : run tt (AbsCalls Try.prog) I45 3000 true (stkAt 2 I45.body) ⟨(S45_2 x0 x1 x5), [false], [], []⟩ = some (.done (xBy x1) [(decide ((x5 : Int) < (List.length x0 : Int))) = false]) := by kernel_rfl
theorem p45_e_4 (a0 : List Rowd) (a1 : Int) : run tt (AbsCalls Try.prog) I45 3000 false [.code I45.body] ⟨(zBi 0 (xDI a0 a1)), [], [], []⟩ = some (.stop (stkAt 2 I45.body) (S45_2 a0 a1 0) []) := by kernel_rfl
theorem c45_2 {N : Nat} : ∀ n x0 x1 x5 r, xC3 N n x0 x1 x5 = some r → Reach Try.prog Try.f45 I45 (stkAt 2 I45.body) (S45_2 x0 x1 x5) (xBy r) := by
 intro n
 induction n with
 | zero => intro x0 x1 x5 r h; have h' : (none : Option (Int)) = some r := h; cases h'
 | succ n ih =>
  intro x0 x1 x5 r h
  rw [xC3] at h
  rcases cond_inv h with ⟨h0, h⟩ | ⟨h0, h⟩
  ·obtain ⟨h1, h⟩ := ite_inv h
   obtain ⟨r1, h2, h⟩ := bind_inv h
   rcases cond_inv h with ⟨h3, h⟩ | ⟨h3, h⟩
   ·obtain rfl := Option.some.inj h
    exact Reach.done ttok mix fk45 (p45_2_0 x0 x1 x5 r1) (obs_cons h0 (obs_cons h1 (obs_cons (xGR h2) (obs_cons h3 obs_nil))))
   ·obtain ⟨r2, h5, h⟩ := bind_inv h
    rcases cond_inv h with ⟨h6, h⟩ | ⟨h6, h⟩
    ·obtain rfl := Option.some.inj h
     exact Reach.done ttok mix fk45 (p45_2_1 x0 x1 x5 r1 r2) (obs_cons h0 (obs_cons h1 (obs_cons (xGR h2) (obs_cons h3 (obs_cons h1 (obs_cons (xG8 h5) (obs_cons h6 obs_nil)))))))
    ·exact Reach.stop ttok mix fk45 (p45_2_2 x0 x1 x5 r1 r2) (obs_cons h0 (obs_cons h1 (obs_cons (xGR h2) (obs_cons h3 (obs_cons h1 (obs_cons (xG8 h5) (obs_cons h6 obs_nil))))))) (ih _ _ _ _ h)
  ·obtain rfl := Option.some.inj h
   exact Reach.done ttok mix fk45 (p45_2_3 x0 x1 x5) (obs_cons h0 obs_nil)
theorem c45_e {N : Nat} : ∀ a0 a1 r, xEX N a0 a1 = some r → Reach Try.prog Try.f45 I45 [.code I45.body] (zBi 0 (xDI a0 a1)) (xBy r) := by
 intro a0 a1 r h
 unfold xEX at h
 exact Reach.stop ttok mix fk45 (p45_e_4 a0 a1) obs_nil (c45_2   _ _ _ _ _ h)
theorem xF6 {N : Nat} {a0 : List Rowd} {a1 : Int} {r : Int} (h : xEX N  a0 a1 = some r) : AbC 45 (xDI a0 a1) (xBy r) :=
 AbsCalls.of_reach fk45 rfl rfl (Nat.le_of_ble_eq_true rfl) (c45_e a0 a1 r h)
noncomputable def I43 : Info := { body := (Try.f43.body).getD .skip, nt := 77, results := [.tmp 4], keep := [0, 2, 8, 10, 18, 36, 54, 72, 92, 114, 132, 150], live := [(2, [0, 2, 10])], modes := [], ext := [], lnt := [], casts := [], fcast := [] }
theorem fk43 : FnOk Try.prog 43 Try.f43 I43 := ⟨Try.func43, by kernel_rfl, by kernel_rfl, by kernel_rfl, by kernel_rfl⟩
def S43_2 (x0 : List Val) (x1 x5 : Int) : St := [(0, .v false [.sl .ro .val x0]), (2, .v false [.int .i64 x1]), (10, .v false [.int .i64 x5])]
theorem p43_2_0 (x0 : List Val) (x1 x5 : Int) : run tt (AbsCalls Try.prog) I43 3000 true (stkAt 2 I43.body) ⟨(S43_2 x0 x1 x5), [true, true], [], []⟩ = some (.done (xAC (-1)) [(decide ((x5 : Int) < (List.length x0 : Int))) = true, (0 : Int) ≤ x5 ∧ x5 < (List.length x0), (((Val.kind (List.getD x0 (Int.toNat x5) Ty.val.dflt)) : Int) != x1) = true]) := by kernel_rfl
theorem p43_2_1 (x0 : List Val) (x1 x5 : Int) : run tt (AbsCalls Try.prog) I43 3000 true (stkAt 2 I43.body) ⟨(S43_2 x0 x1 x5), [true, false, true], [], []⟩ = some (.done (xAC (-1)) [(decide ((x5 : Int) < (List.length x0 : Int))) = true, (0 : Int) ≤ x5 ∧ x5 < (List.length x0), (((Val.kind (List.getD x0 (Int.toNat x5) Ty.val.dflt)) : Int) != x1) = false, (0 : Int) ≤ x5 ∧ x5 < (List.length x0), (((Val.n (List.getD x0 (Int.toNat x5) Ty.val.dflt)) : Int) != (IntKind.i64.wrap (x1 + 1))) = true]) := by kernel_rfl
theorem p43_2_2 (x0 : List Val) (x1 x5 : Int) : run tt (AbsCalls Try.prog) I43 3000 true (stkAt 2 I43.body) ⟨(S43_2 x0 x1 x5), [true, false, false, true], [], []⟩ = some (.done (xAC (-1)) [(decide ((x5 : Int) < (List.length x0 : Int))) = true, (0 : Int) ≤ x5 ∧ x5 < (List.length x0), (((Val.kind (List.getD x0 (Int.toNat x5) Ty.val.dflt)) : Int) != x1) = false, (0 : Int) ≤ x5 ∧ x5 < (List.length x0), (((Val.n (List.getD x0 (Int.toNat x5) Ty.val.dflt)) : Int) != (IntKind.i64.wrap (x1 + 1))) = false, (0 : Int) ≤ x5 ∧ x5 < (List.length x0), (((Val.step (List.getD x0 (Int.toNat x5) Ty.val.dflt)) : Int) != (IntKind.i64.wrap ((IntKind.i64.wrap (x1 + 1)) + 1))) = true]) := by kernel_rfl
theorem p43_2_3 (x0 : List Val) (x1 x5 : Int) (r1 : Str) : run tt (AbsCalls Try.prog) I43 3000 true (stkAt 2 I43.body) ⟨(S43_2 x0 x1 x5), [true, false, false, false, true], [xAP r1], []⟩ = some (.done (xAC (-1)) [(decide ((x5 : Int) < (List.length x0 : Int))) = true, (0 : Int) ≤ x5 ∧ x5 < (List.length x0), (((Val.kind (List.getD x0 (Int.toNat x5) Ty.val.dflt)) : Int) != x1) = false, (0 : Int) ≤ x5 ∧ x5 < (List.length x0), (((Val.n (List.getD x0 (Int.toNat x5) Ty.val.dflt)) : Int) != (IntKind.i64.wrap (x1 + 1))) = false, (0 : Int) ≤ x5 ∧ x5 < (List.length x0), (((Val.step (List.getD x0 (Int.toNat x5) Ty.val.dflt)) : Int) != (IntKind.i64.wrap ((IntKind.i64.wrap (x1 + 1)) + 1))) = false, (0 : Int) ≤ x5 ∧ x5 < (List.length x0), AbC 78 (xBD (IntKind.i64.wrap ((IntKind.i64.wrap ((IntKind.i64.wrap (x1 + 1)) + 1)) + 1))) (xAP r1), (!(((Val.text (List.getD x0 (Int.toNat x5) Ty.val.dflt)) : Str) == r1)) = true]) := by kernel_rfl
theorem p43_2_4 (x0 : List Val) (x1 x5 : Int) (r1 : Str) (r2 : Int) : run tt (AbsCalls Try.prog) I43 3000 true (stkAt 2 I43.body) ⟨(S43_2 x0 x1 x5), [true, false, false, false, false, true], [xAP r1, xAC r2], []⟩ = some (.done (xAC (-1)) [(decide ((x5 : Int) < (List.length x0 : Int))) = true, (0 : Int) ≤ x5 ∧ x5 < (List.length x0), (((Val.kind (List.getD x0 (Int.toNat x5) Ty.val.dflt)) : Int) != x1) = false, (0 : Int) ≤ x5 ∧ x5 < (List.length x0), (((Val.n (List.getD x0 (Int.toNat x5) Ty.val.dflt)) : Int) != (IntKind.i64.wrap (x1 + 1))) = false, (0 : Int) ≤ x5 ∧ x5 < (List.length x0), (((Val.step (List.getD x0 (Int.toNat x5) Ty.val.dflt)) : Int) != (IntKind.i64.wrap ((IntKind.i64.wrap (x1 + 1)) + 1))) = false, (0 : Int) ≤ x5 ∧ x5 < (List.length x0), AbC 78 (xBD (IntKind.i64.wrap ((IntKind.i64.wrap ((IntKind.i64.wrap (x1 + 1)) + 1)) + 1))) (xAP r1), (!(((Val.text (List.getD x0 (Int.toNat x5) Ty.val.dflt)) : Str) == r1)) = false, (0 : Int) ≤ x5 ∧ x5 < (List.length x0), AbC 43 (xA6 (Val.list (List.getD x0 (Int.toNat x5) Ty.val.dflt)) (IntKind.i64.wrap ((IntKind.i64.wrap ((IntKind.i64.wrap ((IntKind.i64.wrap (x1 + 1)) + 1)) + 1)) + 1))) (xAC r2), (decide ((r2 : Int) < 0)) = true]) := by kernel_rfl
theorem p43_2_5 (x0 : List Val) (x1 x5 : Int) (r1 : Str) (r2 r3 : Int) : run tt (AbsCalls Try.prog) I43 3000 true (stkAt 2 I43.body) ⟨(S43_2 x0 x1 x5), [true, false, false, false, false, false, true], [xAP r1, xAC r2, xAV r3], []⟩ = some (.done (xAC (-1)) [(decide ((x5 : Int) < (List.length x0 : Int))) = true, (0 : Int) ≤ x5 ∧ x5 < (List.length x0), (((Val.kind (List.getD x0 (Int.toNat x5) Ty.val.dflt)) : Int) != x1) = false, (0 : Int) ≤ x5 ∧ x5 < (List.length x0), (((Val.n (List.getD x0 (Int.toNat x5) Ty.val.dflt)) : Int) != (IntKind.i64.wrap (x1 + 1))) = false, (0 : Int) ≤ x5 ∧ x5 < (List.length x0), (((Val.step (List.getD x0 (Int.toNat x5) Ty.val.dflt)) : Int) != (IntKind.i64.wrap ((IntKind.i64.wrap (x1 + 1)) + 1))) = false, (0 : Int) ≤ x5 ∧ x5 < (List.length x0), AbC 78 (xBD (IntKind.i64.wrap ((IntKind.i64.wrap ((IntKind.i64.wrap (x1 + 1)) + 1)) + 1))) (xAP r1), (!(((Val.text (List.getD x0 (Int.toNat x5) Ty.val.dflt)) : Str) == r1)) = false, (0 : Int) ≤ x5 ∧ x5 < (List.length x0), AbC 43 (xA6 (Val.list (List.getD x0 (Int.toNat x5) Ty.val.dflt)) (IntKind.i64.wrap ((IntKind.i64.wrap ((IntKind.i64.wrap ((IntKind.i64.wrap (x1 + 1)) + 1)) + 1)) + 1))) (xAC r2), (decide ((r2 : Int) < 0)) = false, (0 : Int) ≤ x5 ∧ x5 < (List.length x0), AbC 44 (xBZ (Val.columns (List.getD x0 (Int.toNat x5) Ty.val.dflt)) r2) (xAV r3), (decide ((r3 : Int) < 0)) = true]) := by kernel_rfl
theorem p43_2_6 (x0 : List Val) (x1 x5 : Int) (r1 : Str) (r2 r3 r4 : Int) : run tt (AbsCalls Try.prog) I43 3000 true (stkAt 2 I43.body) ⟨(S43_2 x0 x1 x5), [true, false, false, false, false, false, false, true], [xAP r1, xAC r2, xAV r3, xBy r4], []⟩ = some (.done (xAC (-1)) [(decide ((x5 : Int) < (List.length x0 : Int))) = true, (0 : Int) ≤ x5 ∧ x5 < (List.length x0), (((Val.kind (List.getD x0 (Int.toNat x5) Ty.val.dflt)) : Int) != x1) = false, (0 : Int) ≤ x5 ∧ x5 < (List.length x0), (((Val.n (List.getD x0 (Int.toNat x5) Ty.val.dflt)) : Int) != (IntKind.i64.wrap (x1 + 1))) = false, (0 : Int) ≤ x5 ∧ x5 < (List.length x0), (((Val.step (List.getD x0 (Int.toNat x5) Ty.val.dflt)) : Int) != (IntKind.i64.wrap ((IntKind.i64.wrap (x1 + 1)) + 1))) = false, (0 : Int) ≤ x5 ∧ x5 < (List.length x0), AbC 78 (xBD (IntKind.i64.wrap ((IntKind.i64.wrap ((IntKind.i64.wrap (x1 + 1)) + 1)) + 1))) (xAP r1), (!(((Val.text (List.getD x0 (Int.toNat x5) Ty.val.dflt)) : Str) == r1)) = false, (0 : Int) ≤ x5 ∧ x5 < (List.length x0), AbC 43 (xA6 (Val.list (List.getD x0 (Int.toNat x5) Ty.val.dflt)) (IntKind.i64.wrap ((IntKind.i64.wrap ((IntKind.i64.wrap ((IntKind.i64.wrap (x1 + 1)) + 1)) + 1)) + 1))) (xAC r2), (decide ((r2 : Int) < 0)) = false, (0 : Int) ≤ x5 ∧ x5 < (List.length x0), AbC 44 (xBZ (Val.columns (List.getD x0 (Int.toNat x5) Ty.val.dflt)) r2) (xAV r3), (decide ((r3 : Int) < 0)) = false, (0 : Int) ≤ x5 ∧ x5 < (List.length x0), AbC 45 (xDI (Val.rows (List.getD x0 (Int.toNat x5) Ty.val.dflt)) r3) (xBy r4), (decide ((r4 : Int) < 0)) = true]) := by kernel_rfl
theorem p43_2_7 (x0 : List Val) (x1 x5 : Int) (r1 : Str) (r2 r3 r4 : Int) : run tt (AbsCalls Try.prog) I43 3000 true (stkAt 2 I43.body) ⟨(S43_2 x0 x1 x5), [true, false, false, false, false, false, false, false], [xAP r1, xAC r2, xAV r3, xBy r4], []⟩ = some (.stop (stkAt 2 I43.body) (S43_2 x0 r4 (IntKind.i64.wrap (x5 + 1))) [(decide ((x5 : Int) < (List.length x0 : Int))) = true, (0 : Int) ≤ x5 ∧ x5 < (List.length x0), (((Val.kind (List.getD x0 (Int.toNat x5) Ty.val.dflt)) : Int) != x1) = false, (0 : Int) ≤ x5 ∧ x5 < (List.length x0), (((Val.n (List.getD x0 (Int.toNat x5) Ty.val.dflt)) : Int) != (IntKind.i64.wrap (x1 + 1))) = false, (0 : Int) ≤ x5 ∧ x5 < (List.length x0), (((Val.step (List.getD x0 (Int.toNat x5) Ty.val.dflt)) : Int) != (IntKind.i64.wrap ((IntKind.i64.wrap (x1 + 1)) + 1))) = false, (0 : Int) ≤ x5 ∧ x5 < (List.length x0), AbC 78 (xBD (IntKind.i64.wrap ((IntKind.i64.wrap ((IntKind.i64.wrap (x1 + 1)) + 1)) + 1))) (xAP r1), (!(((Val.text (List.getD x0 (Int.toNat x5) Ty.val.dflt)) : Str) == r1)) = false, (0 : Int) ≤ x5 ∧ x5 < (List.length x0), AbC 43 (xA6 (Val.list (List.getD x0 (Int.toNat x5) Ty.val.dflt)) (IntKind.i64.wrap ((IntKind.i64.wrap ((IntKind.i64.wrap ((IntKind.i64.wrap (x1 + 1)) + 1)) + 1)) + 1))) (xAC r2), (decide ((r2 : Int) < 0)) = false, (0 : Int) ≤ x5 ∧ x5 < (List.length x0), AbC 44 (xBZ (Val.columns (List.getD x0 (Int.toNat x5) Ty.val.dflt)) r2) (xAV r3), (decide ((r3 : Int) < 0)) = false, (0 : Int) ≤ x5 ∧ x5 < (List.length x0), AbC 45 (xDI (Val.rows (List.getD x0 (Int.toNat x5) Ty.val.dflt)) r3) (xBy r4), (decide ((r4 : Int) < 0)) = false]) := by kernel_rfl
theorem p43_2_8 (x0 : List Val) (x1 x5 : Int) : run tt (AbsCalls Try.prog) I43 3000 true (stkAt 2 I43.body) ⟨(S43_2 x0 x1 x5), [false], [], []⟩ = some (.done (xAC x1) [(decide ((x5 : Int) < (List.length x0 : Int))) = false]) := by kernel_rfl
theorem p43_e_9 (a0 : List Val) (a1 : Int) : run tt (AbsCalls Try.prog) I43 3000 false [.code I43.body] ⟨(zBi 0 (xA6 a0 a1)), [], [], []⟩ = some (.stop (stkAt 2 I43.body) (S43_2 a0 a1 0) []) := by kernel_rfl
theorem c43_2 {N : Nat} {rc_laws_heldValueS : (List Val) → Int → Option (Int)} (hrc_laws_heldValueS : ∀ a0 a1 r, rc_laws_heldValueS a0 a1 = some r → AbC 43 (xA6 a0 a1) (xAC r)) : ∀ n x0 x1 x5 r, xCk N rc_laws_heldValueS n x0 x1 x5 = some r → Reach Try.prog Try.f43 I43 (stkAt 2 I43.body) (S43_2 x0 x1 x5) (xAC r) := by
 intro n
 induction n with
 | zero => intro x0 x1 x5 r h; have h' : (none : Option (Int)) = some r := h; cases h'
 | succ n ih =>
  intro x0 x1 x5 r h
  rw [xCk] at h
  rcases cond_inv h with ⟨h0, h⟩ | ⟨h0, h⟩
  ·obtain ⟨h1, h⟩ := ite_inv h
   rcases cond_inv h with ⟨h2, h⟩ | ⟨h2, h⟩
   ·obtain rfl := Option.some.inj h
    exact Reach.done ttok mix fk43 (p43_2_0 x0 x1 x5) (obs_cons h0 (obs_cons h1 (obs_cons h2 obs_nil)))
   ·rcases cond_inv h with ⟨h4, h⟩ | ⟨h4, h⟩
    ·obtain rfl := Option.some.inj h
     exact Reach.done ttok mix fk43 (p43_2_1 x0 x1 x5) (obs_cons h0 (obs_cons h1 (obs_cons h2 (obs_cons h1 (obs_cons h4 obs_nil)))))
    ·rcases cond_inv h with ⟨h6, h⟩ | ⟨h6, h⟩
     ·obtain rfl := Option.some.inj h
      exact Reach.done ttok mix fk43 (p43_2_2 x0 x1 x5) (obs_cons h0 (obs_cons h1 (obs_cons h2 (obs_cons h1 (obs_cons h4 (obs_cons h1 (obs_cons h6 obs_nil)))))))
     ·obtain ⟨r1, h8, h⟩ := bind_inv h
      rcases cond_inv h with ⟨h9, h⟩ | ⟨h9, h⟩
      ·obtain rfl := Option.some.inj h
       exact Reach.done ttok mix fk43 (p43_2_3 x0 x1 x5 r1) (obs_cons h0 (obs_cons h1 (obs_cons h2 (obs_cons h1 (obs_cons h4 (obs_cons h1 (obs_cons h6 (obs_cons h1 (obs_cons (xCs h8) (obs_cons h9 obs_nil))))))))))
      ·obtain ⟨r2, h11, h⟩ := bind_inv h
       rcases cond_inv h with ⟨h12, h⟩ | ⟨h12, h⟩
       ·obtain rfl := Option.some.inj h
        exact Reach.done ttok mix fk43 (p43_2_4 x0 x1 x5 r1 r2) (obs_cons h0 (obs_cons h1 (obs_cons h2 (obs_cons h1 (obs_cons h4 (obs_cons h1 (obs_cons h6 (obs_cons h1 (obs_cons (xCs h8) (obs_cons h9 (obs_cons h1 (obs_cons (hrc_laws_heldValueS _ _ _ h11) (obs_cons h12 obs_nil)))))))))))))
       ·obtain ⟨r3, h14, h⟩ := bind_inv h
        rcases cond_inv h with ⟨h15, h⟩ | ⟨h15, h⟩
        ·obtain rfl := Option.some.inj h
         exact Reach.done ttok mix fk43 (p43_2_5 x0 x1 x5 r1 r2 r3) (obs_cons h0 (obs_cons h1 (obs_cons h2 (obs_cons h1 (obs_cons h4 (obs_cons h1 (obs_cons h6 (obs_cons h1 (obs_cons (xCs h8) (obs_cons h9 (obs_cons h1 (obs_cons (hrc_laws_heldValueS _ _ _ h11) (obs_cons h12 (obs_cons h1 (obs_cons (xDh h14) (obs_cons h15 obs_nil))))))))))))))))
        ·obtain ⟨r4, h17, h⟩ := bind_inv h
         rcases cond_inv h with ⟨h18, h⟩ | ⟨h18, h⟩
         ·obtain rfl := Option.some.inj h
          exact Reach.done ttok mix fk43 (p43_2_6 x0 x1 x5 r1 r2 r3 r4) (obs_cons h0 (obs_cons h1 (obs_cons h2 (obs_cons h1 (obs_cons h4 (obs_cons h1 (obs_cons h6 (obs_cons h1 (obs_cons (xCs h8) (obs_cons h9 (obs_cons h1 (obs_cons (hrc_laws_heldValueS _ _ _ h11) (obs_cons h12 (obs_cons h1 (obs_cons (xDh h14) (obs_cons h15 (obs_cons h1 (obs_cons (xF6 h17) (obs_cons h18 obs_nil)))))))))))))))))))
         ·exact Reach.stop ttok mix fk43 (p43_2_7 x0 x1 x5 r1 r2 r3 r4) (obs_cons h0 (obs_cons h1 (obs_cons h2 (obs_cons h1 (obs_cons h4 (obs_cons h1 (obs_cons h6 (obs_cons h1 (obs_cons (xCs h8) (obs_cons h9 (obs_cons h1 (obs_cons (hrc_laws_heldValueS _ _ _ h11) (obs_cons h12 (obs_cons h1 (obs_cons (xDh h14) (obs_cons h15 (obs_cons h1 (obs_cons (xF6 h17) (obs_cons h18 obs_nil))))))))))))))))))) (ih _ _ _ _ h)
  ·obtain rfl := Option.some.inj h
   exact Reach.done ttok mix fk43 (p43_2_8 x0 x1 x5) (obs_cons h0 obs_nil)
theorem c43_e {N : Nat} {rc_laws_heldValueS : (List Val) → Int → Option (Int)} (hrc_laws_heldValueS : ∀ a0 a1 r, rc_laws_heldValueS a0 a1 = some r → AbC 43 (xA6 a0 a1) (xAC r)) : ∀ a0 a1 r, xDP N rc_laws_heldValueS a0 a1 = some r → Reach Try.prog Try.f43 I43 [.code I43.body] (zBi 0 (xA6 a0 a1)) (xAC r) := by
 intro a0 a1 r h
 unfold xDP at h
 exact Reach.stop ttok mix fk43 (p43_e_9 a0 a1) obs_nil (c43_2 hrc_laws_heldValueS  _ _ _ _ _ h)
theorem xHG {N : Nat} {rc_laws_heldValueS : (List Val) → Int → Option (Int)} (hrc_laws_heldValueS : ∀ a0 a1 r, rc_laws_heldValueS a0 a1 = some r → AbC 43 (xA6 a0 a1) (xAC r)) {a0 : List Val} {a1 : Int} {r : Int} (h : xDP N rc_laws_heldValueS a0 a1 = some r) : AbC 43 (xA6 a0 a1) (xAC r) :=
 AbsCalls.of_reach fk43 rfl rfl (Nat.le_of_ble_eq_true rfl) (c43_e hrc_laws_heldValueS a0 a1 r h)
theorem xHR {N : Nat} : ∀ d, (∀ a0 a1 r, xDi N d a0 a1 = some r → AbC 43 (xA6 a0 a1) (xAC r)) := by
 intro d
 induction d with
 | zero => intro _ _ r h; have h' : (none : Option (Int)) = some r := h; cases h'
 | succ d ih => intro _ _ r h; exact xHG (N := N) ih h
theorem xFs {N : Nat} {a0 : List Val} {a1 : Int} {r : Int} (h : xGf N a0 a1 = some r) : AbC 43 (xA6 a0 a1) (xAC r) := xHR N _ _ r h
noncomputable def I14 : Info := { body := (Try.f14.body).getD .skip, nt := 24, results := [.tmp 4], keep := [0, 2, 4, 8, 20, 32, 44, 5], live := [], modes := [], ext := [], lnt := [], casts := [], fcast := [] }
theorem fk14 : FnOk Try.prog 14 Try.f14 I14 := ⟨Try.func14, by kernel_rfl, by kernel_rfl, by kernel_rfl, by kernel_rfl⟩
theorem p14_e_0 (a0 : Val) (a1 r1 : Int) : run tt (AbsCalls Try.prog) I14 3000 false [.code I14.body] ⟨(zBi 0 (xAy a0 a1)), [true], [xAC r1], []⟩ = some (.done (xAk (-1)) [AbC 43 (xA6 (Val.list a0) a1) (xAC r1), (decide ((r1 : Int) < 0)) = true]) := by kernel_rfl
theorem p14_e_1 (a0 : Val) (a1 r1 r2 : Int) : run tt (AbsCalls Try.prog) I14 3000 false [.code I14.body] ⟨(zBi 0 (xAy a0 a1)), [false, true], [xAC r1, xAV r2], []⟩ = some (.done (xAk (-1)) [AbC 43 (xA6 (Val.list a0) a1) (xAC r1), (decide ((r1 : Int) < 0)) = false, AbC 44 (xBZ (Val.columns a0) r1) (xAV r2), (decide ((r2 : Int) < 0)) = true]) := by kernel_rfl
theorem p14_e_2 (a0 : Val) (a1 r1 r2 r3 : Int) : run tt (AbsCalls Try.prog) I14 3000 false [.code I14.body] ⟨(zBi 0 (xAy a0 a1)), [false, false, true], [xAC r1, xAV r2, xBy r3], []⟩ = some (.done (xAk (-1)) [AbC 43 (xA6 (Val.list a0) a1) (xAC r1), (decide ((r1 : Int) < 0)) = false, AbC 44 (xBZ (Val.columns a0) r1) (xAV r2), (decide ((r2 : Int) < 0)) = false, AbC 45 (xDI (Val.rows a0) r2) (xBy r3), (decide ((r3 : Int) < 0)) = true]) := by kernel_rfl
theorem p14_e_3 (a0 : Val) (a1 r1 r2 r3 : Int) : run tt (AbsCalls Try.prog) I14 3000 false [.code I14.body] ⟨(zBi 0 (xAy a0 a1)), [false, false, false], [xAC r1, xAV r2, xBy r3], []⟩ = some (.done (xAk r3) [AbC 43 (xA6 (Val.list a0) a1) (xAC r1), (decide ((r1 : Int) < 0)) = false, AbC 44 (xBZ (Val.columns a0) r1) (xAV r2), (decide ((r2 : Int) < 0)) = false, AbC 45 (xDI (Val.rows a0) r2) (xBy r3), (decide ((r3 : Int) < 0)) = false]) := by kernel_rfl
theorem c14_e {N : Nat} : ∀ a0 a1 r, xAQ N a0 a1 = some r → Reach Try.prog Try.f14 I14 [.code I14.body] (zBi 0 (xAy a0 a1)) (xAk r) := by
 intro a0 a1 r h
 unfold xAQ at h
 obtain ⟨r1, h0, h⟩ := bind_inv h
 rcases cond_inv h with ⟨h1, h⟩ | ⟨h1, h⟩
 ·obtain rfl := Option.some.inj h
  exact Reach.done ttok mix fk14 (p14_e_0 a0 a1 r1) (obs_cons (xFs h0) (obs_cons h1 obs_nil))
 ·obtain ⟨r2, h2, h⟩ := bind_inv h
  rcases cond_inv h with ⟨h3, h⟩ | ⟨h3, h⟩
  ·obtain rfl := Option.some.inj h
   exact Reach.done ttok mix fk14 (p14_e_1 a0 a1 r1 r2) (obs_cons (xFs h0) (obs_cons h1 (obs_cons (xDh h2) (obs_cons h3 obs_nil))))
  ·obtain ⟨r3, h4, h⟩ := bind_inv h
   rcases cond_inv h with ⟨h5, h⟩ | ⟨h5, h⟩
   ·obtain rfl := Option.some.inj h
    exact Reach.done ttok mix fk14 (p14_e_2 a0 a1 r1 r2 r3) (obs_cons (xFs h0) (obs_cons h1 (obs_cons (xDh h2) (obs_cons h3 (obs_cons (xF6 h4) (obs_cons h5 obs_nil))))))
   ·obtain rfl := Option.some.inj h
    exact Reach.done ttok mix fk14 (p14_e_3 a0 a1 r1 r2 r3) (obs_cons (xFs h0) (obs_cons h1 (obs_cons (xDh h2) (obs_cons h3 (obs_cons (xF6 h4) (obs_cons h5 obs_nil))))))
theorem xAE {N : Nat} {a0 : Val} {a1 : Int} {r : Int} (h : xAQ N  a0 a1 = some r) : AbC 14 (xAy a0 a1) (xAk r) :=
 AbsCalls.of_reach fk14 rfl rfl (Nat.le_of_ble_eq_true rfl) (c14_e a0 a1 r h)
end Go.Ab.T
end
section
open Go.Proofs
namespace Go.Ab.T
set_option linter.unusedVariables false
set_option maxRecDepth 100000
noncomputable def I57 : Info := { body := (Try.f57.body).getD .skip, nt := 6, results := [.cell 2 31], keep := [0, 4, 5], live := [], modes := [], ext := [], lnt := [], casts := [], fcast := [] }
theorem fk57 : FnOk Try.prog 57 Try.f57 I57 := ⟨Try.func57, by kernel_rfl, by kernel_rfl, by kernel_rfl, by kernel_rfl⟩
theorem p57_e_0 (a0 : List Val) (r1 : (List Val)) : run tt (AbsCalls Try.prog) I57 3000 false [.code I57.body] ⟨(zBi 0 (xEE a0)), [], [xA5 r1], []⟩ = some (.done (xDb (Val.mk 3 0 0 [] r1 [] [])) [AbC 70 (xBn a0) (xA5 r1)]) := by kernel_rfl
theorem c57_e {N : Nat} : ∀ a0 r, xFi N a0 = some r → Reach Try.prog Try.f57 I57 [.code I57.body] (zBi 0 (xEE a0)) (xDb r) := by
 intro a0 r h
 unfold xFi at h
 obtain ⟨r1, h0, h⟩ := bind_inv h
 obtain rfl := Option.some.inj h
 exact Reach.done ttok mix fk57 (p57_e_0 a0 r1) (obs_cons (impl_copyValues_ok h0) obs_nil)
theorem xHu {N : Nat} {a0 : List Val} {r : Val} (h : xFi N  a0 = some r) : AbC 57 (xEE a0) (xDb r) :=
 AbsCalls.of_reach fk57 rfl rfl (Nat.le_of_ble_eq_true rfl) (c57_e a0 r h)
noncomputable def I60 : Info := { body := (Try.f60.body).getD .skip, nt := 10, results := [.tmp 4], keep := [0, 2, 8, 14], live := [], modes := [], ext := [], lnt := [], casts := [], fcast := [] }
theorem fk60 : FnOk Try.prog 60 Try.f60 I60 := ⟨Try.func60, by kernel_rfl, by kernel_rfl, by kernel_rfl, by kernel_rfl⟩
theorem p60_e_0 (a0 a1 : Int) : run tt (AbsCalls Try.prog) I60 3000 false [.code I60.body] ⟨(zBi 0 (xGk a0 a1)), [true], [], []⟩ = some (.done (xFR a0) [(decide ((a0 : Int) < a1)) = true]) := by kernel_rfl
theorem p60_e_1 (a0 a1 : Int) : run tt (AbsCalls Try.prog) I60 3000 false [.code I60.body] ⟨(zBi 0 (xGk a0 a1)), [false], [], []⟩ = some (.done (xFR a1) [(decide ((a0 : Int) < a1)) = false]) := by kernel_rfl
theorem c60_e {N : Nat} : ∀ a0 a1 r, xG1 N a0 a1 = some r → Reach Try.prog Try.f60 I60 [.code I60.body] (zBi 0 (xGk a0 a1)) (xFR r) := by
 intro a0 a1 r h
 unfold xG1 at h
 rcases cond_inv h with ⟨h0, h⟩ | ⟨h0, h⟩
 ·obtain rfl := Option.some.inj h
  exact Reach.done ttok mix fk60 (p60_e_0 a0 a1) (obs_cons h0 obs_nil)
 ·obtain rfl := Option.some.inj h
  exact Reach.done ttok mix fk60 (p60_e_1 a0 a1) (obs_cons h0 obs_nil)
theorem spec_l1Min_ok {N : Nat} {a0 : Int} {a1 : Int} {r : Int} (h : xG1 N  a0 a1 = some r) : AbC 60 (xGk a0 a1) (xFR r) :=
 AbsCalls.of_reach fk60 rfl rfl (Nat.le_of_ble_eq_true rfl) (c60_e a0 a1 r h)
noncomputable def I59 : Info := { body := (Try.f59.body).getD .skip, nt := 23, results := [.cell 2 31], keep := [0, 4, 6, 8, 18, 5, 7], live := [(3, [0, 4, 6, 8, 5, 7])], modes := [(5, [(1, .take, false), (8, .take, false)]), (6, [(0, .take, false)])], ext := [], lnt := [], casts := [], fcast := [] }
theorem fk59 : FnOk Try.prog 59 Try.f59 I59 := ⟨Try.func59, by kernel_rfl, by kernel_rfl, by kernel_rfl, by kernel_rfl⟩
def S59_3 (x0 : List Val) (x4 : Int) (b2 b3 : Val) : St := [(0, .v false [.sl .ro .val x0]), (4, .v false [.ptr 2 0]), (6, .v false [.ptr 3 0]), (8, .v false [.int .i64 x4]), (5, .v true [.int .i64 (Val.kind b2), .int .i64 (Val.n b2), .int .i64 (Val.step b2), .str (Val.text b2), .sl .own .val (Val.list b2), .sl .own .str (Val.columns b2), .sl .own .row (Val.rows b2)]), (7, .v true [.int .i64 (Val.kind b3), .int .i64 (Val.n b3), .int .i64 (Val.step b3), .str (Val.text b3), .sl .own .val (Val.list b3), .sl .own .str (Val.columns b3), .sl .own .row (Val.rows b3)])]
theorem p59_3_0 (x0 : List Val) (x4 : Int) (b2 b3 r1 : Val) : run tt (AbsCalls Try.prog) I59 3000 true (stkAt 3 I59.body) ⟨(S59_3 x0 x4 b2 b3), [true], [xBt r1], []⟩ = some (.stop (stkAt 3 I59.body) (S59_3 x0 (IntKind.i64.wrap (x4 + 1)) b2 (Val.mk (Val.kind b3) (Val.n b3) (Val.step b3) (Val.text b3) ((Val.list b3) ++ [(Val.re r1)]) (Val.columns b3) (Val.rows b3))) [(decide ((x4 : Int) < (List.length x0 : Int))) = true, (0 : Int) ≤ x4 ∧ x4 < (List.length x0), AbC 28 (xCi (List.getD x0 (Int.toNat x4) Ty.val.dflt)) (xBt r1), List.length (Val.list b3) + List.length [(Val.re r1)] ≤ Lim]) := by kernel_rfl
theorem p59_3_1 (x0 : List Val) (x4 : Int) (b2 b3 : Val) : run tt (AbsCalls Try.prog) I59 3000 true (stkAt 3 I59.body) ⟨(S59_3 x0 x4 b2 b3), [false], [], []⟩ = some (.done (xD0 b3) [(decide ((x4 : Int) < (List.length x0 : Int))) = false]) := by kernel_rfl
theorem p59_e_2 (a0 : List Val) : run tt (AbsCalls Try.prog) I59 3000 false [.code I59.body] ⟨(zBi 0 (xFO a0)), [], [], []⟩ = some (.stop (stkAt 3 I59.body) (S59_3 a0 0 (Val.mk 0 0 0 [] [] [] []) (Val.mk 3 0 0 [] [] [] [])) []) := by kernel_rfl
theorem c59_3 {N : Nat} : ∀ n x0 x4 b2 b3 r, xDl N n x0 x4 b2 b3 = some r → Reach Try.prog Try.f59 I59 (stkAt 3 I59.body) (S59_3 x0 x4 b2 b3) (xD0 r) := by
 intro n
 induction n with
 | zero => intro x0 x4 b2 b3 r h; have h' : (none : Option (Val)) = some r := h; cases h'
 | succ n ih =>
  intro x0 x4 b2 b3 r h
  rw [xDl] at h
  rcases cond_inv h with ⟨h0, h⟩ | ⟨h0, h⟩
  ·obtain ⟨h1, h⟩ := ite_inv h
   obtain ⟨r1, h2, h⟩ := bind_inv h
   obtain ⟨h3, h⟩ := ite_inv h
   exact Reach.stop ttok mix fk59 (p59_3_0 x0 x4 b2 b3 r1) (obs_cons h0 (obs_cons h1 (obs_cons (xIj h2) (obs_cons h3 obs_nil)))) (ih _ _ _ _ _ h)
  ·obtain rfl := Option.some.inj h
   exact Reach.done ttok mix fk59 (p59_3_1 x0 x4 b2 b3) (obs_cons h0 obs_nil)
theorem c59_e {N : Nat} : ∀ a0 r, xF3 N a0 = some r → Reach Try.prog Try.f59 I59 [.code I59.body] (zBi 0 (xFO a0)) (xD0 r) := by
 intro a0 r h
 unfold xF3 at h
 exact Reach.stop ttok mix fk59 (p59_e_2 a0) obs_nil (c59_3   _ _ _ _ _ _ h)
theorem spec_ListValue_ok {N : Nat} {a0 : List Val} {r : Val} (h : xF3 N  a0 = some r) : AbC 59 (xFO a0) (xD0 r) :=
 AbsCalls.of_reach fk59 rfl rfl (Nat.le_of_ble_eq_true rfl) (c59_e a0 r h)
noncomputable def I61 : Info := { body := (Try.f61.body).getD .skip, nt := 8, results := [.cell 4 31], keep := [0, 2, 8, 9], live := [], modes := [], ext := [], lnt := [], casts := [], fcast := [] }
theorem fk61 : FnOk Try.prog 61 Try.f61 I61 := ⟨Try.func61, by kernel_rfl, by kernel_rfl, by kernel_rfl, by kernel_rfl⟩
theorem p61_e_0 (a0 a1 : Int) : run tt (AbsCalls Try.prog) I61 3000 false [.code I61.body] ⟨(zBi 0 (xE3 a0 a1)), [], [], []⟩ = some (.done (xEa (Val.mk 4 a0 a1 [] [] [] [])) []) := by kernel_rfl
theorem c61_e {N : Nat} : ∀ a0 a1 r, xFg N a0 a1 = some r → Reach Try.prog Try.f61 I61 [.code I61.body] (zBi 0 (xE3 a0 a1)) (xEa r) := by
 intro a0 a1 r h
 unfold xFg at h
 obtain rfl := Option.some.inj h
 exact Reach.done ttok mix fk61 (p61_e_0 a0 a1) obs_nil
theorem xIE {N : Nat} {a0 : Int} {a1 : Int} {r : Val} (h : xFg N  a0 a1 = some r) : AbC 61 (xE3 a0 a1) (xEa r) :=
 AbsCalls.of_reach fk61 rfl rfl (Nat.le_of_ble_eq_true rfl) (c61_e a0 a1 r h)
noncomputable def I19 : Info := { body := (Try.f19.body).getD .skip, nt := 45, results := [.cell 4 31], keep := [0, 2, 4, 6, 8, 10, 12, 14, 28, 36, 44, 76, 5, 7, 9, 11, 15], live := [], modes := [(1, [(3, .take, false)]), (2, [(0, .take, false)]), (3, [(0, .take, false)]), (10, [(0, .take, false)])], ext := [], lnt := [], casts := [], fcast := [] }
theorem fk19 : FnOk Try.prog 19 Try.f19 I19 := ⟨Try.func19, by kernel_rfl, by kernel_rfl, by kernel_rfl, by kernel_rfl⟩
theorem p19_e_0 (a0 a1 : Val) (r1 : Val × Bool) : run tt (AbsCalls Try.prog) I19 3000 false [.code I19.body] ⟨(zBi 0 (xAG a0 a1)), [true], [xAR r1], []⟩ = some (.done (xAp r1.1) [AbC 26 (xBu a0 a1) (xAR r1), r1.2 = true]) := by kernel_rfl
theorem p19_e_1 (a0 a1 : Val) (r1 : Val × Bool) (r2 : Val) : run tt (AbsCalls Try.prog) I19 3000 false [.code I19.body] ⟨(zBi 0 (xAG a0 a1)), [false, true], [xAR r1, xAS r2], []⟩ = some (.done (xAp r2) [AbC 26 (xBu a0 a1) (xAR r1), r1.2 = false, (decide (((Val.n a0) : Int) < 0)) = true, AbC 27 (xBI 5) (xAS r2)]) := by kernel_rfl
theorem p19_e_2 (a0 a1 : Val) (r1 : Val × Bool) (r2 : Int) (r3 : Val) : run tt (AbsCalls Try.prog) I19 3000 false [.code I19.body] ⟨(zBi 0 (xAG a0 a1)), [false, false, true], [xAR r1, xFR r2, xD0 r3], []⟩ = some (.done (xAp r3) [AbC 26 (xBu a0 a1) (xAR r1), r1.2 = false, (decide (((Val.n a0) : Int) < 0)) = false, (((Val.kind a1) : Int) == 3) = true, AbC 60 (xGk (Val.n a0) (List.length (Val.list a1) : Int)) (xFR r2), (0 : Int) ≤ r2 ∧ r2 ≤ (List.length (Val.list a1)), AbC 59 (xFO (List.drop (Int.toNat r2) (Val.list a1))) (xD0 r3)]) := by kernel_rfl
theorem p19_e_3 (a0 a1 : Val) (r1 : Val × Bool) (r2 : Val) : run tt (AbsCalls Try.prog) I19 3000 false [.code I19.body] ⟨(zBi 0 (xAG a0 a1)), [false, false, false, true], [xAR r1, xCV r2], []⟩ = some (.done (xAp r2) [AbC 26 (xBu a0 a1) (xAR r1), r1.2 = false, (decide (((Val.n a0) : Int) < 0)) = false, (((Val.kind a1) : Int) == 3) = false, AbC 9 (xDS a0 a1) (xCV r2), (((Val.kind r2) : Int) == 6) = true]) := by kernel_rfl
theorem p19_e_4 (a0 a1 : Val) (r1 : Val × Bool) (r2 r3 : Val) : run tt (AbsCalls Try.prog) I19 3000 false [.code I19.body] ⟨(zBi 0 (xAG a0 a1)), [false, false, false, false], [xAR r1, xCV r2, xEa r3], []⟩ = some (.done (xAp r3) [AbC 26 (xBu a0 a1) (xAR r1), r1.2 = false, (decide (((Val.n a0) : Int) < 0)) = false, (((Val.kind a1) : Int) == 3) = false, AbC 9 (xDS a0 a1) (xCV r2), (((Val.kind r2) : Int) == 6) = false, AbC 61 (xE3 (Val.n r2) (Val.step a1)) (xEa r3)]) := by kernel_rfl
theorem c19_e {N : Nat} : ∀ a0 a1 r, xEy N a0 a1 = some r → Reach Try.prog Try.f19 I19 [.code I19.body] (zBi 0 (xAG a0 a1)) (xAp r) := by
 intro a0 a1 r h
 unfold xEy at h
 obtain ⟨r1, h0, h⟩ := bind_inv h
 rcases cond_inv h with ⟨h1, h⟩ | ⟨h1, h⟩
 ·obtain rfl := Option.some.inj h
  exact Reach.done ttok mix fk19 (p19_e_0 a0 a1 r1) (obs_cons (xCO h0) (obs_cons h1 obs_nil))
 ·rcases cond_inv h with ⟨h2, h⟩ | ⟨h2, h⟩
  ·obtain ⟨r2, h3, h⟩ := bind_inv h
   obtain rfl := Option.some.inj h
   exact Reach.done ttok mix fk19 (p19_e_1 a0 a1 r1 r2) (obs_cons (xCO h0) (obs_cons h1 (obs_cons h2 (obs_cons (xCl h3) obs_nil))))
  ·rcases cond_inv h with ⟨h3, h⟩ | ⟨h3, h⟩
   ·obtain ⟨r2, h4, h⟩ := bind_inv h
    obtain ⟨h5, h⟩ := ite_inv h
    obtain ⟨r3, h6, h⟩ := bind_inv h
    obtain rfl := Option.some.inj h
    exact Reach.done ttok mix fk19 (p19_e_2 a0 a1 r1 r2 r3) (obs_cons (xCO h0) (obs_cons h1 (obs_cons h2 (obs_cons h3 (obs_cons (spec_l1Min_ok h4) (obs_cons h5 (obs_cons (spec_ListValue_ok h6) obs_nil)))))))
   ·obtain ⟨r2, h4, h⟩ := bind_inv h
    rcases cond_inv h with ⟨h5, h⟩ | ⟨h5, h⟩
    ·obtain rfl := Option.some.inj h
     exact Reach.done ttok mix fk19 (p19_e_3 a0 a1 r1 r2) (obs_cons (xCO h0) (obs_cons h1 (obs_cons h2 (obs_cons h3 (obs_cons (spec_NthOf_ok h4) (obs_cons h5 obs_nil))))))
    ·obtain ⟨r3, h6, h⟩ := bind_inv h
     obtain rfl := Option.some.inj h
     exact Reach.done ttok mix fk19 (p19_e_4 a0 a1 r1 r2 r3) (obs_cons (xCO h0) (obs_cons h1 (obs_cons h2 (obs_cons h3 (obs_cons (spec_NthOf_ok h4) (obs_cons h5 (obs_cons (xIE h6) obs_nil)))))))
theorem xAN {N : Nat} {a0 : Val} {a1 : Val} {r : Val} (h : xEy N  a0 a1 = some r) : AbC 19 (xAG a0 a1) (xAp r) :=
 AbsCalls.of_reach fk19 rfl rfl (Nat.le_of_ble_eq_true rfl) (c19_e a0 a1 r h)
noncomputable def I62 : Info := { body := (Try.f62.body).getD .skip, nt := 8, results := [.cell 4 31], keep := [0, 2, 8, 9], live := [], modes := [], ext := [], lnt := [], casts := [], fcast := [] }
theorem fk62 : FnOk Try.prog 62 Try.f62 I62 := ⟨Try.func62, by kernel_rfl, by kernel_rfl, by kernel_rfl, by kernel_rfl⟩
theorem p62_e_0 (a0 a1 : Int) : run tt (AbsCalls Try.prog) I62 3000 false [.code I62.body] ⟨(zBi 0 (xCv a0 a1)), [], [], []⟩ = some (.done (xBA (Val.mk 4 a0 a1 [] [] [] [])) []) := by kernel_rfl
theorem c62_e {N : Nat} : ∀ a0 a1 r, xC1 N a0 a1 = some r → Reach Try.prog Try.f62 I62 [.code I62.body] (zBi 0 (xCv a0 a1)) (xBA r) := by
 intro a0 a1 r h
 unfold xC1 at h
 obtain rfl := Option.some.inj h
 exact Reach.done ttok mix fk62 (p62_e_0 a0 a1) obs_nil
theorem xEU {N : Nat} {a0 : Int} {a1 : Int} {r : Val} (h : xC1 N  a0 a1 = some r) : AbC 62 (xCv a0 a1) (xBA r) :=
 AbsCalls.of_reach fk62 rfl rfl (Nat.le_of_ble_eq_true rfl) (c62_e a0 a1 r h)
theorem impl_SkipOf_toR {P : Program} {f : FuncId} {ags : List Arg} {r : Val × Bool} (h : AbsCalls P f ags (xBb r)) (ht : r.2 = true) : AbsCalls P f ags (xG5 r) := by
 unfold xBb at h; rw [ht] at h; exact h
theorem xAU {P : Program} {f : FuncId} {ags : List Arg} {r : Val × Bool} (h : AbsCalls P f ags (xBb r)) (ht : r.2 = false) : AbsCalls P f ags (xAw r) := by
 unfold xBb at h; rw [ht] at h; exact h
theorem xAT {P : Program} {f : FuncId} {ags : List Arg} {r : Val × Bool} (h : AbsCalls P f ags (xBb r)) (ht : r.2 = true) (e0 : List.isEmpty (Val.list r.1) = true) (e1 : List.isEmpty (Val.columns r.1) = true) (e2 : List.isEmpty (Val.rows r.1) = true) : AbsCalls P f ags (xAx r) := by
 have h := impl_SkipOf_toR h ht
 unfold xG5 at h; rw [List.isEmpty_iff.1 e0, List.isEmpty_iff.1 e1, List.isEmpty_iff.1 e2] at h; exact h
noncomputable def I20 : Info := { body := (Try.f20.body).getD .skip, nt := 45, results := [.cell 4 31], keep := [0, 2, 4, 6, 8, 10, 12, 14, 28, 36, 44, 76, 5, 7, 9, 11, 15], live := [], modes := [(1, [(3, .take, false)]), (2, [(0, .take, false)]), (3, [(0, .take, false)]), (10, [(0, .take, false)])], ext := [], lnt := [], casts := [], fcast := [] }
theorem fk20 : FnOk Try.prog 20 Try.f20 I20 := ⟨Try.func20, by kernel_rfl, by kernel_rfl, by kernel_rfl, by kernel_rfl⟩
theorem p20_e_0 (a0 a1 : Val) (r1 : Val × Bool × Bool) : run tt (AbsCalls Try.prog) I20 3000 false [.code I20.body] ⟨(zBi 0 (xAr a0 a1)), [true], [xAB r1], []⟩ = some (.done (xBb (r1.1, true)) [AbC 33 (xAs a0 a1) (xAB r1), r1.2.1 = true]) := by kernel_rfl
theorem p20_e_1 (a0 a1 : Val) (r1 : Val × Bool × Bool) (r2 : Val) : run tt (AbsCalls Try.prog) I20 3000 false [.code I20.body] ⟨(zBi 0 (xAr a0 a1)), [false, true], [xAB r1, xAD r2], []⟩ = some (.done (xBb (r2, false)) [AbC 33 (xAs a0 a1) (xAB r1), r1.2.1 = false, (decide (((Val.n a0) : Int) < 0)) = true, AbC 34 (xAZ 5) (xAD r2)]) := by kernel_rfl
theorem p20_e_2 (a0 a1 : Val) (r1 : Val × Bool × Bool) (r2 : Val) : run tt (AbsCalls Try.prog) I20 3000 false [.code I20.body] ⟨(zBi 0 (xAr a0 a1)), [false, false, true], [xAB r1, xDb r2], []⟩ = some (.done (xBb (r2, false)) [AbC 33 (xAs a0 a1) (xAB r1), r1.2.1 = false, (decide (((Val.n a0) : Int) < 0)) = false, (((Val.kind a1) : Int) == 3) = true, (0 : Int) ≤ (if ((List.length (Val.list a1) : Int) : Int) < (Val.n a0) then (List.length (Val.list a1) : Int) else (Val.n a0)) ∧ (if ((List.length (Val.list a1) : Int) : Int) < (Val.n a0) then (List.length (Val.list a1) : Int) else (Val.n a0)) ≤ (List.length (Val.list a1)), AbC 57 (xEE (List.drop (Int.toNat (if ((List.length (Val.list a1) : Int) : Int) < (Val.n a0) then (List.length (Val.list a1) : Int) else (Val.n a0))) (Val.list a1))) (xDb r2)]) := by kernel_rfl
theorem p20_e_3 (a0 a1 : Val) (r1 : Val × Bool × Bool) (r2 : Val × Bool) : run tt (AbsCalls Try.prog) I20 3000 false [.code I20.body] ⟨(zBi 0 (xAr a0 a1)), [false, false, false, true], [xAB r1, xCI r2], []⟩ = some (.done (xBb (r2.1, true)) [AbC 33 (xAs a0 a1) (xAB r1), r1.2.1 = false, (decide (((Val.n a0) : Int) < 0)) = false, (((Val.kind a1) : Int) == 3) = false, AbC 11 (xBl a0 a1) (xCI r2), (((Val.kind r2.1) : Int) == 6) = true]) := by kernel_rfl
theorem p20_e_4 (a0 a1 : Val) (r1 : Val × Bool × Bool) (r2 : Val × Bool) (r3 : Val) : run tt (AbsCalls Try.prog) I20 3000 false [.code I20.body] ⟨(zBi 0 (xAr a0 a1)), [false, false, false, false], [xAB r1, xCI r2, xBA r3], []⟩ = some (.done (xBb (r3, false)) [AbC 33 (xAs a0 a1) (xAB r1), r1.2.1 = false, (decide (((Val.n a0) : Int) < 0)) = false, (((Val.kind a1) : Int) == 3) = false, AbC 11 (xBl a0 a1) (xCI r2), (((Val.kind r2.1) : Int) == 6) = false, AbC 62 (xCv (Val.n r2.1) (Val.step a1)) (xBA r3)]) := by kernel_rfl
theorem p20_e_5 (a0 a1 : Val) (r1 : Val × Bool × Bool) (r2 : Val × Bool) : run tt (AbsCalls Try.prog) I20 3000 false [.code I20.body] ⟨(zBi 0 (xAr a0 a1)), [false, false, false, true], [xAB r1, xCH r2], []⟩ = some (.done (xBb (r2.1, false)) [AbC 33 (xAs a0 a1) (xAB r1), r1.2.1 = false, (decide (((Val.n a0) : Int) < 0)) = false, (((Val.kind a1) : Int) == 3) = false, AbC 11 (xBl a0 a1) (xCH r2), (((Val.kind r2.1) : Int) == 6) = true]) := by kernel_rfl
theorem p20_e_6 (a0 a1 : Val) (r1 : Val × Bool × Bool) (r2 : Val × Bool) (r3 : Val) : run tt (AbsCalls Try.prog) I20 3000 false [.code I20.body] ⟨(zBi 0 (xAr a0 a1)), [false, false, false, false], [xAB r1, xCH r2, xBA r3], []⟩ = some (.done (xBb (r3, false)) [AbC 33 (xAs a0 a1) (xAB r1), r1.2.1 = false, (decide (((Val.n a0) : Int) < 0)) = false, (((Val.kind a1) : Int) == 3) = false, AbC 11 (xBl a0 a1) (xCH r2), (((Val.kind r2.1) : Int) == 6) = false, AbC 62 (xCv (Val.n r2.1) (Val.step a1)) (xBA r3)]) := by kernel_rfl
theorem p20_e_7 (a0 a1 : Val) (r1 : Val × Bool × Bool) : run tt (AbsCalls Try.prog) I20 3000 false [.code I20.body] ⟨(zBi 0 (xAr a0 a1)), [true], [xAA r1], []⟩ = some (.done (xBb (r1.1, false)) [AbC 33 (xAs a0 a1) (xAA r1), r1.2.1 = true]) := by kernel_rfl
theorem p20_e_8 (a0 a1 : Val) (r1 : Val × Bool × Bool) (r2 : Val) : run tt (AbsCalls Try.prog) I20 3000 false [.code I20.body] ⟨(zBi 0 (xAr a0 a1)), [false, true], [xAA r1, xAD r2], []⟩ = some (.done (xBb (r2, false)) [AbC 33 (xAs a0 a1) (xAA r1), r1.2.1 = false, (decide (((Val.n a0) : Int) < 0)) = true, AbC 34 (xAZ 5) (xAD r2)]) := by kernel_rfl
theorem p20_e_9 (a0 a1 : Val) (r1 : Val × Bool × Bool) (r2 : Val) : run tt (AbsCalls Try.prog) I20 3000 false [.code I20.body] ⟨(zBi 0 (xAr a0 a1)), [false, false, true], [xAA r1, xDb r2], []⟩ = some (.done (xBb (r2, false)) [AbC 33 (xAs a0 a1) (xAA r1), r1.2.1 = false, (decide (((Val.n a0) : Int) < 0)) = false, (((Val.kind a1) : Int) == 3) = true, (0 : Int) ≤ (if ((List.length (Val.list a1) : Int) : Int) < (Val.n a0) then (List.length (Val.list a1) : Int) else (Val.n a0)) ∧ (if ((List.length (Val.list a1) : Int) : Int) < (Val.n a0) then (List.length (Val.list a1) : Int) else (Val.n a0)) ≤ (List.length (Val.list a1)), AbC 57 (xEE (List.drop (Int.toNat (if ((List.length (Val.list a1) : Int) : Int) < (Val.n a0) then (List.length (Val.list a1) : Int) else (Val.n a0))) (Val.list a1))) (xDb r2)]) := by kernel_rfl
theorem p20_e_10 (a0 a1 : Val) (r1 : Val × Bool × Bool) (r2 : Val × Bool) : run tt (AbsCalls Try.prog) I20 3000 false [.code I20.body] ⟨(zBi 0 (xAr a0 a1)), [false, false, false, true], [xAA r1, xCI r2], []⟩ = some (.done (xBb (r2.1, true)) [AbC 33 (xAs a0 a1) (xAA r1), r1.2.1 = false, (decide (((Val.n a0) : Int) < 0)) = false, (((Val.kind a1) : Int) == 3) = false, AbC 11 (xBl a0 a1) (xCI r2), (((Val.kind r2.1) : Int) == 6) = true]) := by kernel_rfl
theorem p20_e_11 (a0 a1 : Val) (r1 : Val × Bool × Bool) (r2 : Val × Bool) (r3 : Val) : run tt (AbsCalls Try.prog) I20 3000 false [.code I20.body] ⟨(zBi 0 (xAr a0 a1)), [false, false, false, false], [xAA r1, xCI r2, xBA r3], []⟩ = some (.done (xBb (r3, false)) [AbC 33 (xAs a0 a1) (xAA r1), r1.2.1 = false, (decide (((Val.n a0) : Int) < 0)) = false, (((Val.kind a1) : Int) == 3) = false, AbC 11 (xBl a0 a1) (xCI r2), (((Val.kind r2.1) : Int) == 6) = false, AbC 62 (xCv (Val.n r2.1) (Val.step a1)) (xBA r3)]) := by kernel_rfl
theorem p20_e_12 (a0 a1 : Val) (r1 : Val × Bool × Bool) (r2 : Val × Bool) : run tt (AbsCalls Try.prog) I20 3000 false [.code I20.body] ⟨(zBi 0 (xAr a0 a1)), [false, false, false, true], [xAA r1, xCH r2], []⟩ = some (.done (xBb (r2.1, false)) [AbC 33 (xAs a0 a1) (xAA r1), r1.2.1 = false, (decide (((Val.n a0) : Int) < 0)) = false, (((Val.kind a1) : Int) == 3) = false, AbC 11 (xBl a0 a1) (xCH r2), (((Val.kind r2.1) : Int) == 6) = true]) := by kernel_rfl
theorem p20_e_13 (a0 a1 : Val) (r1 : Val × Bool × Bool) (r2 : Val × Bool) (r3 : Val) : run tt (AbsCalls Try.prog) I20 3000 false [.code I20.body] ⟨(zBi 0 (xAr a0 a1)), [false, false, false, false], [xAA r1, xCH r2, xBA r3], []⟩ = some (.done (xBb (r3, false)) [AbC 33 (xAs a0 a1) (xAA r1), r1.2.1 = false, (decide (((Val.n a0) : Int) < 0)) = false, (((Val.kind a1) : Int) == 3) = false, AbC 11 (xBl a0 a1) (xCH r2), (((Val.kind r2.1) : Int) == 6) = false, AbC 62 (xCv (Val.n r2.1) (Val.step a1)) (xBA r3)]) := by kernel_rfl
theorem c20_e {N : Nat} : ∀ a0 a1 r, xDE N a0 a1 = some r → Reach Try.prog Try.f20 I20 [.code I20.body] (zBi 0 (xAr a0 a1)) (xBb r) := by
 intro a0 a1 r h
 unfold xDE at h
 obtain ⟨r1, h0, h⟩ := bind_inv h
 rcases cond_inv h with ⟨h1, h⟩ | ⟨h1, h⟩
 ·rcases cond_inv h with ⟨h2, h⟩ | ⟨h2, h⟩
  ·obtain rfl := Option.some.inj h
   exact Reach.done ttok mix fk20 (p20_e_0 a0 a1 r1) (obs_cons (xBa (xAF h0) h1) (obs_cons h2 obs_nil))
  ·rcases cond_inv h with ⟨h3, h⟩ | ⟨h3, h⟩
   ·obtain ⟨r2, h4, h⟩ := bind_inv h
    obtain rfl := Option.some.inj h
    exact Reach.done ttok mix fk20 (p20_e_1 a0 a1 r1 r2) (obs_cons (xBa (xAF h0) h1) (obs_cons h2 (obs_cons h3 (obs_cons (xBh h4) obs_nil))))
   ·rcases cond_inv h with ⟨h4, h⟩ | ⟨h4, h⟩
    ·obtain ⟨h5, h⟩ := ite_inv h
     obtain ⟨r2, h6, h⟩ := bind_inv h
     obtain rfl := Option.some.inj h
     exact Reach.done ttok mix fk20 (p20_e_2 a0 a1 r1 r2) (obs_cons (xBa (xAF h0) h1) (obs_cons h2 (obs_cons h3 (obs_cons h4 (obs_cons h5 (obs_cons (xHu h6) obs_nil))))))
    ·obtain ⟨r2, h5, h⟩ := bind_inv h
     rcases cond_inv h with ⟨h6, h⟩ | ⟨h6, h⟩
     ·rcases cond_inv h with ⟨h7, h⟩ | ⟨h7, h⟩
      ·obtain rfl := Option.some.inj h
       exact Reach.done ttok mix fk20 (p20_e_3 a0 a1 r1 r2) (obs_cons (xBa (xAF h0) h1) (obs_cons h2 (obs_cons h3 (obs_cons h4 (obs_cons (xGD (xEl h5) h6) (obs_cons h7 obs_nil))))))
      ·obtain ⟨r3, h8, h⟩ := bind_inv h
       obtain rfl := Option.some.inj h
       exact Reach.done ttok mix fk20 (p20_e_4 a0 a1 r1 r2 r3) (obs_cons (xBa (xAF h0) h1) (obs_cons h2 (obs_cons h3 (obs_cons h4 (obs_cons (xGD (xEl h5) h6) (obs_cons h7 (obs_cons (xEU h8) obs_nil)))))))
     ·rcases cond_inv h with ⟨h7, h⟩ | ⟨h7, h⟩
      ·obtain rfl := Option.some.inj h
       exact Reach.done ttok mix fk20 (p20_e_5 a0 a1 r1 r2) (obs_cons (xBa (xAF h0) h1) (obs_cons h2 (obs_cons h3 (obs_cons h4 (obs_cons (xGC (xEl h5) h6) (obs_cons h7 obs_nil))))))
      ·obtain ⟨r3, h8, h⟩ := bind_inv h
       obtain rfl := Option.some.inj h
       exact Reach.done ttok mix fk20 (p20_e_6 a0 a1 r1 r2 r3) (obs_cons (xBa (xAF h0) h1) (obs_cons h2 (obs_cons h3 (obs_cons h4 (obs_cons (xGC (xEl h5) h6) (obs_cons h7 (obs_cons (xEU h8) obs_nil)))))))
 ·rcases cond_inv h with ⟨h2, h⟩ | ⟨h2, h⟩
  ·obtain rfl := Option.some.inj h
   exact Reach.done ttok mix fk20 (p20_e_7 a0 a1 r1) (obs_cons (xA9 (xAF h0) h1) (obs_cons h2 obs_nil))
  ·rcases cond_inv h with ⟨h3, h⟩ | ⟨h3, h⟩
   ·obtain ⟨r2, h4, h⟩ := bind_inv h
    obtain rfl := Option.some.inj h
    exact Reach.done ttok mix fk20 (p20_e_8 a0 a1 r1 r2) (obs_cons (xA9 (xAF h0) h1) (obs_cons h2 (obs_cons h3 (obs_cons (xBh h4) obs_nil))))
   ·rcases cond_inv h with ⟨h4, h⟩ | ⟨h4, h⟩
    ·obtain ⟨h5, h⟩ := ite_inv h
     obtain ⟨r2, h6, h⟩ := bind_inv h
     obtain rfl := Option.some.inj h
     exact Reach.done ttok mix fk20 (p20_e_9 a0 a1 r1 r2) (obs_cons (xA9 (xAF h0) h1) (obs_cons h2 (obs_cons h3 (obs_cons h4 (obs_cons h5 (obs_cons (xHu h6) obs_nil))))))
    ·obtain ⟨r2, h5, h⟩ := bind_inv h
     rcases cond_inv h with ⟨h6, h⟩ | ⟨h6, h⟩
     ·rcases cond_inv h with ⟨h7, h⟩ | ⟨h7, h⟩
      ·obtain rfl := Option.some.inj h
       exact Reach.done ttok mix fk20 (p20_e_10 a0 a1 r1 r2) (obs_cons (xA9 (xAF h0) h1) (obs_cons h2 (obs_cons h3 (obs_cons h4 (obs_cons (xGD (xEl h5) h6) (obs_cons h7 obs_nil))))))
      ·obtain ⟨r3, h8, h⟩ := bind_inv h
       obtain rfl := Option.some.inj h
       exact Reach.done ttok mix fk20 (p20_e_11 a0 a1 r1 r2 r3) (obs_cons (xA9 (xAF h0) h1) (obs_cons h2 (obs_cons h3 (obs_cons h4 (obs_cons (xGD (xEl h5) h6) (obs_cons h7 (obs_cons (xEU h8) obs_nil)))))))
     ·rcases cond_inv h with ⟨h7, h⟩ | ⟨h7, h⟩
      ·obtain rfl := Option.some.inj h
       exact Reach.done ttok mix fk20 (p20_e_12 a0 a1 r1 r2) (obs_cons (xA9 (xAF h0) h1) (obs_cons h2 (obs_cons h3 (obs_cons h4 (obs_cons (xGC (xEl h5) h6) (obs_cons h7 obs_nil))))))
      ·obtain ⟨r3, h8, h⟩ := bind_inv h
       obtain rfl := Option.some.inj h
       exact Reach.done ttok mix fk20 (p20_e_13 a0 a1 r1 r2 r3) (obs_cons (xA9 (xAF h0) h1) (obs_cons h2 (obs_cons h3 (obs_cons h4 (obs_cons (xGC (xEl h5) h6) (obs_cons h7 (obs_cons (xEU h8) obs_nil)))))))
theorem xAz {N : Nat} {a0 : Val} {a1 : Val} {r : Val × Bool} (h : xDE N  a0 a1 = some r) : AbC 20 (xAr a0 a1) (xBb r) :=
 AbsCalls.of_reach fk20 rfl rfl (Nat.le_of_ble_eq_true rfl) (c20_e a0 a1 r h)
end Go.Ab.T
end
section
open Go.Proofs
namespace Go.Ab.T
set_option linter.unusedVariables false
set_option maxRecDepth 100000
noncomputable def I6 : Info := { body := (Try.f6.body).getD .skip, nt := 92, results := [.tmp 4], keep := [0, 2, 4, 6, 8, 10, 12, 14, 16, 18, 20, 22, 24, 26, 36, 46, 78, 88, 98, 126, 142, 148, 166, 176, 182, 5, 7, 13, 15, 17, 19, 27], live := [], modes := [(11, [(2, .take, true)]), (19, [(0, .ref, false), (2, .ref, false)]), (20, [(0, .ref, false), (2, .ref, false)]), (21, [(2, .take, false)]), (24, [(0, .ref, false), (2, .ref, false)]), (31, [(4, .take, true)])], ext := [], lnt := [], casts := [], fcast := [] }
theorem fk6 : FnOk Try.prog 6 Try.f6 I6 := ⟨Try.func6, by kernel_rfl, by kernel_rfl, by kernel_rfl, by kernel_rfl⟩
theorem p6_e_0 (a0 a1 : Val) (r1 : Int) : run tt (AbsCalls Try.prog) I6 3000 false [.code I6.body] ⟨(zBi 0 (xAt a0 a1)), [true], [xAe r1], []⟩ = some (.done (xAu true) [AbC 8 (xAl a0 1048576) (xAe r1), (decide ((r1 : Int) < 0)) = true]) := by kernel_rfl
theorem p6_e_1 (a0 a1 : Val) (r1 r2 : Int) : run tt (AbsCalls Try.prog) I6 3000 false [.code I6.body] ⟨(zBi 0 (xAt a0 a1)), [false, true], [xAe r1, xAe r2], []⟩ = some (.done (xAu true) [AbC 8 (xAl a0 1048576) (xAe r1), (decide ((r1 : Int) < 0)) = false, AbC 8 (xAl a1 r1) (xAe r2), (decide ((r2 : Int) < 0)) = true]) := by kernel_rfl
theorem p6_e_2 (a0 a1 : Val) (r1 r2 : Int) (r3 r4 r5 r6 r7 : Val) (r8 : Val × Bool) (r9 : Bool) : run tt (AbsCalls Try.prog) I6 3000 false [.code I6.body] ⟨(zBi 0 (xAt a0 a1)), [false, false, true], [xAe r1, xAe r2, xAa r3, xAa r4, xAp r5, xAa r6, xAa r7, xAx r8, xAb r9], []⟩ = some (.done (xAu false) [AbC 8 (xAl a0 1048576) (xAe r1), (decide ((r1 : Int) < 0)) = false, AbC 8 (xAl a1 r1) (xAe r2), (decide ((r2 : Int) < 0)) = false, AbC 10 (xAc a0) (xAa r3), AbC 10 (xAc a1) (xAa r4), AbC 19 (xAG r3 r4) (xAp r5), AbC 10 (xAc a0) (xAa r6), AbC 10 (xAc a1) (xAa r7), AbC 20 (xAr r6 r7) (xAx r8), AbC 12 (xAf (Val.mk (Val.kind r8.1) (Val.n r8.1) (Val.step r8.1) (Val.text r8.1) [] [] []) r5) (xAb r9), (!r9) = true]) := by kernel_rfl
theorem p6_e_3 (a0 a1 : Val) (r1 r2 : Int) (r3 r4 r5 r6 r7 : Val) (r8 : Val × Bool) (r9 : Bool) (r10 : Val) (r11 : Bool) : run tt (AbsCalls Try.prog) I6 3000 false [.code I6.body] ⟨(zBi 0 (xAt a0 a1)), [false, false, false, true], [xAe r1, xAe r2, xAa r3, xAa r4, xAp r5, xAa r6, xAa r7, xAx r8, xAb r9, xAa r10, xAb r11], []⟩ = some (.done (xAu false) [AbC 8 (xAl a0 1048576) (xAe r1), (decide ((r1 : Int) < 0)) = false, AbC 8 (xAl a1 r1) (xAe r2), (decide ((r2 : Int) < 0)) = false, AbC 10 (xAc a0) (xAa r3), AbC 10 (xAc a1) (xAa r4), AbC 19 (xAG r3 r4) (xAp r5), AbC 10 (xAc a0) (xAa r6), AbC 10 (xAc a1) (xAa r7), AbC 20 (xAr r6 r7) (xAx r8), AbC 12 (xAf (Val.mk (Val.kind r8.1) (Val.n r8.1) (Val.step r8.1) (Val.text r8.1) [] [] []) r5) (xAb r9), (!r9) = false, AbC 10 (xAc a0) (xAa r10), AbC 12 (xAf r6 r10) (xAb r11), (!r11) = true]) := by kernel_rfl
theorem p6_e_4 (a0 a1 : Val) (r1 r2 : Int) (r3 r4 r5 r6 r7 : Val) (r8 : Val × Bool) (r9 : Bool) (r10 : Val) (r11 : Bool) (r12 : Val) (r13 : Bool) : run tt (AbsCalls Try.prog) I6 3000 false [.code I6.body] ⟨(zBi 0 (xAt a0 a1)), [false, false, false, false, true], [xAe r1, xAe r2, xAa r3, xAa r4, xAp r5, xAa r6, xAa r7, xAx r8, xAb r9, xAa r10, xAb r11, xAa r12, xAb r13], []⟩ = some (.done (xAu false) [AbC 8 (xAl a0 1048576) (xAe r1), (decide ((r1 : Int) < 0)) = false, AbC 8 (xAl a1 r1) (xAe r2), (decide ((r2 : Int) < 0)) = false, AbC 10 (xAc a0) (xAa r3), AbC 10 (xAc a1) (xAa r4), AbC 19 (xAG r3 r4) (xAp r5), AbC 10 (xAc a0) (xAa r6), AbC 10 (xAc a1) (xAa r7), AbC 20 (xAr r6 r7) (xAx r8), AbC 12 (xAf (Val.mk (Val.kind r8.1) (Val.n r8.1) (Val.step r8.1) (Val.text r8.1) [] [] []) r5) (xAb r9), (!r9) = false, AbC 10 (xAc a0) (xAa r10), AbC 12 (xAf r6 r10) (xAb r11), (!r11) = false, AbC 10 (xAc a1) (xAa r12), AbC 12 (xAf r7 r12) (xAb r13), (!r13) = true]) := by kernel_rfl
theorem p6_e_5 (a0 a1 : Val) (r1 r2 : Int) (r3 r4 r5 r6 r7 : Val) (r8 : Val × Bool) (r9 : Bool) (r10 : Val) (r11 : Bool) (r12 : Val) (r13 : Bool) (r14 : Int × (List Val) × (List Str) × (List Rowd)) (r15 : Int × (List Val) × (List Str) × (List Rowd)) : run tt (AbsCalls Try.prog) I6 3000 false [.code I6.body] ⟨(zBi 0 (xAt a0 a1)), [false, false, false, false, false, true, true], [xAe r1, xAe r2, xAa r3, xAa r4, xAp r5, xAa r6, xAa r7, xAx r8, xAb r9, xAa r10, xAb r11, xAa r12, xAb r13, xAg r14, xAg r15], []⟩ = some (.done (xAu false) [AbC 8 (xAl a0 1048576) (xAe r1), (decide ((r1 : Int) < 0)) = false, AbC 8 (xAl a1 r1) (xAe r2), (decide ((r2 : Int) < 0)) = false, AbC 10 (xAc a0) (xAa r3), AbC 10 (xAc a1) (xAa r4), AbC 19 (xAG r3 r4) (xAp r5), AbC 10 (xAc a0) (xAa r6), AbC 10 (xAc a1) (xAa r7), AbC 20 (xAr r6 r7) (xAx r8), AbC 12 (xAf (Val.mk (Val.kind r8.1) (Val.n r8.1) (Val.step r8.1) (Val.text r8.1) [] [] []) r5) (xAb r9), (!r9) = false, AbC 10 (xAc a0) (xAa r10), AbC 12 (xAf r6 r10) (xAb r11), (!r11) = false, AbC 10 (xAc a1) (xAa r12), AbC 12 (xAf r7 r12) (xAb r13), (!r13) = false, AbC 13 (xAm r6 1) (xAg r14), List.length r14.2.1 = List.length (Val.list r6), List.length r14.2.2.1 = List.length (Val.columns r6), List.length r14.2.2.2 = List.length (Val.rows r6), AbC 13 (xAm r7 r14.1) (xAg r15), List.length r15.2.1 = List.length (Val.list r7), List.length r15.2.2.1 = List.length (Val.columns r7), List.length r15.2.2.2 = List.length (Val.rows r7), (decide ((r15.1 : Int) < 0)) = true, true = true]) := by kernel_rfl
theorem p6_e_6 (a0 a1 : Val) (r1 r2 : Int) (r3 r4 r5 r6 r7 : Val) (r8 : Val × Bool) (r9 : Bool) (r10 : Val) (r11 : Bool) (r12 : Val) (r13 : Bool) (r14 : Int × (List Val) × (List Str) × (List Rowd)) (r15 : Int × (List Val) × (List Str) × (List Rowd)) (r16 : Bool) : run tt (AbsCalls Try.prog) I6 3000 false [.code I6.body] ⟨(zBi 0 (xAt a0 a1)), [false, false, false, false, false, false, true], [xAe r1, xAe r2, xAa r3, xAa r4, xAp r5, xAa r6, xAa r7, xAx r8, xAb r9, xAa r10, xAb r11, xAa r12, xAb r13, xAg r14, xAg r15, xAb r16], []⟩ = some (.done (xAu false) [AbC 8 (xAl a0 1048576) (xAe r1), (decide ((r1 : Int) < 0)) = false, AbC 8 (xAl a1 r1) (xAe r2), (decide ((r2 : Int) < 0)) = false, AbC 10 (xAc a0) (xAa r3), AbC 10 (xAc a1) (xAa r4), AbC 19 (xAG r3 r4) (xAp r5), AbC 10 (xAc a0) (xAa r6), AbC 10 (xAc a1) (xAa r7), AbC 20 (xAr r6 r7) (xAx r8), AbC 12 (xAf (Val.mk (Val.kind r8.1) (Val.n r8.1) (Val.step r8.1) (Val.text r8.1) [] [] []) r5) (xAb r9), (!r9) = false, AbC 10 (xAc a0) (xAa r10), AbC 12 (xAf r6 r10) (xAb r11), (!r11) = false, AbC 10 (xAc a1) (xAa r12), AbC 12 (xAf r7 r12) (xAb r13), (!r13) = false, AbC 13 (xAm r6 1) (xAg r14), List.length r14.2.1 = List.length (Val.list r6), List.length r14.2.2.1 = List.length (Val.columns r6), List.length r14.2.2.2 = List.length (Val.rows r6), AbC 13 (xAm r7 r14.1) (xAg r15), List.length r15.2.1 = List.length (Val.list r7), List.length r15.2.2.1 = List.length (Val.columns r7), List.length r15.2.2.2 = List.length (Val.rows r7), (decide ((r15.1 : Int) < 0)) = false, AbC 12 (xAf (Val.mk (Val.kind r8.1) (Val.n r8.1) (Val.step r8.1) (Val.text r8.1) [] [] []) r5) (xAb r16), (!r16) = true]) := by kernel_rfl
theorem p6_e_7 (a0 a1 : Val) (r1 r2 : Int) (r3 r4 r5 r6 r7 : Val) (r8 : Val × Bool) (r9 : Bool) (r10 : Val) (r11 : Bool) (r12 : Val) (r13 : Bool) (r14 : Int × (List Val) × (List Str) × (List Rowd)) (r15 : Int × (List Val) × (List Str) × (List Rowd)) (r16 : Bool) (r17 r18 : Int) : run tt (AbsCalls Try.prog) I6 3000 false [.code I6.body] ⟨(zBi 0 (xAt a0 a1)), [false, false, false, false, false, false, false, true], [xAe r1, xAe r2, xAa r3, xAa r4, xAp r5, xAa r6, xAa r7, xAx r8, xAb r9, xAa r10, xAb r11, xAa r12, xAb r13, xAg r14, xAg r15, xAb r16, xAK r17, xAk r18], []⟩ = some (.done (xAu false) [AbC 8 (xAl a0 1048576) (xAe r1), (decide ((r1 : Int) < 0)) = false, AbC 8 (xAl a1 r1) (xAe r2), (decide ((r2 : Int) < 0)) = false, AbC 10 (xAc a0) (xAa r3), AbC 10 (xAc a1) (xAa r4), AbC 19 (xAG r3 r4) (xAp r5), AbC 10 (xAc a0) (xAa r6), AbC 10 (xAc a1) (xAa r7), AbC 20 (xAr r6 r7) (xAx r8), AbC 12 (xAf (Val.mk (Val.kind r8.1) (Val.n r8.1) (Val.step r8.1) (Val.text r8.1) [] [] []) r5) (xAb r9), (!r9) = false, AbC 10 (xAc a0) (xAa r10), AbC 12 (xAf r6 r10) (xAb r11), (!r11) = false, AbC 10 (xAc a1) (xAa r12), AbC 12 (xAf r7 r12) (xAb r13), (!r13) = false, AbC 13 (xAm r6 1) (xAg r14), List.length r14.2.1 = List.length (Val.list r6), List.length r14.2.2.1 = List.length (Val.columns r6), List.length r14.2.2.2 = List.length (Val.rows r6), AbC 13 (xAm r7 r14.1) (xAg r15), List.length r15.2.1 = List.length (Val.list r7), List.length r15.2.2.1 = List.length (Val.columns r7), List.length r15.2.2.2 = List.length (Val.rows r7), (decide ((r15.1 : Int) < 0)) = false, AbC 12 (xAf (Val.mk (Val.kind r8.1) (Val.n r8.1) (Val.step r8.1) (Val.text r8.1) [] [] []) r5) (xAb r16), (!r16) = false, AbC 13 (xBi (Val.mk (Val.kind r8.1) (Val.n r8.1) (Val.step r8.1) (Val.text r8.1) [] [] []) 1) (xAK r17), AbC 14 (xAy (Val.mk (Val.kind r8.1) (Val.n r8.1) (Val.step r8.1) (Val.text r8.1) [] [] []) 1) (xAk r18), (decide ((r18 : Int) < 0)) = true]) := by kernel_rfl
theorem p6_e_8 (a0 a1 : Val) (r1 r2 : Int) (r3 r4 r5 r6 r7 : Val) (r8 : Val × Bool) (r9 : Bool) (r10 : Val) (r11 : Bool) (r12 : Val) (r13 : Bool) (r14 : Int × (List Val) × (List Str) × (List Rowd)) (r15 : Int × (List Val) × (List Str) × (List Rowd)) (r16 : Bool) (r17 r18 : Int) : run tt (AbsCalls Try.prog) I6 3000 false [.code I6.body] ⟨(zBi 0 (xAt a0 a1)), [false, false, false, false, false, false, false, false, true], [xAe r1, xAe r2, xAa r3, xAa r4, xAp r5, xAa r6, xAa r7, xAx r8, xAb r9, xAa r10, xAb r11, xAa r12, xAb r13, xAg r14, xAg r15, xAb r16, xAK r17, xAk r18], []⟩ = some (.done (xAu false) [AbC 8 (xAl a0 1048576) (xAe r1), (decide ((r1 : Int) < 0)) = false, AbC 8 (xAl a1 r1) (xAe r2), (decide ((r2 : Int) < 0)) = false, AbC 10 (xAc a0) (xAa r3), AbC 10 (xAc a1) (xAa r4), AbC 19 (xAG r3 r4) (xAp r5), AbC 10 (xAc a0) (xAa r6), AbC 10 (xAc a1) (xAa r7), AbC 20 (xAr r6 r7) (xAx r8), AbC 12 (xAf (Val.mk (Val.kind r8.1) (Val.n r8.1) (Val.step r8.1) (Val.text r8.1) [] [] []) r5) (xAb r9), (!r9) = false, AbC 10 (xAc a0) (xAa r10), AbC 12 (xAf r6 r10) (xAb r11), (!r11) = false, AbC 10 (xAc a1) (xAa r12), AbC 12 (xAf r7 r12) (xAb r13), (!r13) = false, AbC 13 (xAm r6 1) (xAg r14), List.length r14.2.1 = List.length (Val.list r6), List.length r14.2.2.1 = List.length (Val.columns r6), List.length r14.2.2.2 = List.length (Val.rows r6), AbC 13 (xAm r7 r14.1) (xAg r15), List.length r15.2.1 = List.length (Val.list r7), List.length r15.2.2.1 = List.length (Val.columns r7), List.length r15.2.2.2 = List.length (Val.rows r7), (decide ((r15.1 : Int) < 0)) = false, AbC 12 (xAf (Val.mk (Val.kind r8.1) (Val.n r8.1) (Val.step r8.1) (Val.text r8.1) [] [] []) r5) (xAb r16), (!r16) = false, AbC 13 (xBi (Val.mk (Val.kind r8.1) (Val.n r8.1) (Val.step r8.1) (Val.text r8.1) [] [] []) 1) (xAK r17), AbC 14 (xAy (Val.mk (Val.kind r8.1) (Val.n r8.1) (Val.step r8.1) (Val.text r8.1) [] [] []) 1) (xAk r18), (decide ((r18 : Int) < 0)) = false, ((r18 : Int) != r17) = true]) := by kernel_rfl
theorem p6_e_9 (a0 a1 : Val) (r1 r2 : Int) (r3 r4 r5 r6 r7 : Val) (r8 : Val × Bool) (r9 : Bool) (r10 : Val) (r11 : Bool) (r12 : Val) (r13 : Bool) (r14 : Int × (List Val) × (List Str) × (List Rowd)) (r15 : Int × (List Val) × (List Str) × (List Rowd)) (r16 : Bool) (r17 r18 : Int) (r19 r20 : Val) (r21 : Val × Bool) (r22 : Bool) : run tt (AbsCalls Try.prog) I6 3000 false [.code I6.body] ⟨(zBi 0 (xAt a0 a1)), [false, false, false, false, false, false, false, false, false, true], [xAe r1, xAe r2, xAa r3, xAa r4, xAp r5, xAa r6, xAa r7, xAx r8, xAb r9, xAa r10, xAb r11, xAa r12, xAb r13, xAg r14, xAg r15, xAb r16, xAK r17, xAk r18, xAa r19, xAa r20, xAx r21, xAb r22], []⟩ = some (.done (xAu false) [AbC 8 (xAl a0 1048576) (xAe r1), (decide ((r1 : Int) < 0)) = false, AbC 8 (xAl a1 r1) (xAe r2), (decide ((r2 : Int) < 0)) = false, AbC 10 (xAc a0) (xAa r3), AbC 10 (xAc a1) (xAa r4), AbC 19 (xAG r3 r4) (xAp r5), AbC 10 (xAc a0) (xAa r6), AbC 10 (xAc a1) (xAa r7), AbC 20 (xAr r6 r7) (xAx r8), AbC 12 (xAf (Val.mk (Val.kind r8.1) (Val.n r8.1) (Val.step r8.1) (Val.text r8.1) [] [] []) r5) (xAb r9), (!r9) = false, AbC 10 (xAc a0) (xAa r10), AbC 12 (xAf r6 r10) (xAb r11), (!r11) = false, AbC 10 (xAc a1) (xAa r12), AbC 12 (xAf r7 r12) (xAb r13), (!r13) = false, AbC 13 (xAm r6 1) (xAg r14), List.length r14.2.1 = List.length (Val.list r6), List.length r14.2.2.1 = List.length (Val.columns r6), List.length r14.2.2.2 = List.length (Val.rows r6), AbC 13 (xAm r7 r14.1) (xAg r15), List.length r15.2.1 = List.length (Val.list r7), List.length r15.2.2.1 = List.length (Val.columns r7), List.length r15.2.2.2 = List.length (Val.rows r7), (decide ((r15.1 : Int) < 0)) = false, AbC 12 (xAf (Val.mk (Val.kind r8.1) (Val.n r8.1) (Val.step r8.1) (Val.text r8.1) [] [] []) r5) (xAb r16), (!r16) = false, AbC 13 (xBi (Val.mk (Val.kind r8.1) (Val.n r8.1) (Val.step r8.1) (Val.text r8.1) [] [] []) 1) (xAK r17), AbC 14 (xAy (Val.mk (Val.kind r8.1) (Val.n r8.1) (Val.step r8.1) (Val.text r8.1) [] [] []) 1) (xAk r18), (decide ((r18 : Int) < 0)) = false, ((r18 : Int) != r17) = false, AbC 10 (xAc a0) (xAa r19), AbC 10 (xAc a1) (xAa r20), AbC 20 (xAr r19 r20) (xAx r21), AbC 12 (xAf (Val.mk (Val.kind r21.1) (Val.n r21.1) (Val.step r21.1) (Val.text r21.1) [] [] []) r5) (xAb r22), (!r22) = true]) := by kernel_rfl
theorem p6_e_10 (a0 a1 : Val) (r1 r2 : Int) (r3 r4 r5 r6 r7 : Val) (r8 : Val × Bool) (r9 : Bool) (r10 : Val) (r11 : Bool) (r12 : Val) (r13 : Bool) (r14 : Int × (List Val) × (List Str) × (List Rowd)) (r15 : Int × (List Val) × (List Str) × (List Rowd)) (r16 : Bool) (r17 r18 : Int) (r19 r20 : Val) (r21 : Val × Bool) (r22 : Bool) (r23 : Int) : run tt (AbsCalls Try.prog) I6 3000 false [.code I6.body] ⟨(zBi 0 (xAt a0 a1)), [false, false, false, false, false, false, false, false, false, false, true], [xAe r1, xAe r2, xAa r3, xAa r4, xAp r5, xAa r6, xAa r7, xAx r8, xAb r9, xAa r10, xAb r11, xAa r12, xAb r13, xAg r14, xAg r15, xAb r16, xAK r17, xAk r18, xAa r19, xAa r20, xAx r21, xAb r22, xAk r23], []⟩ = some (.done (xAu false) [AbC 8 (xAl a0 1048576) (xAe r1), (decide ((r1 : Int) < 0)) = false, AbC 8 (xAl a1 r1) (xAe r2), (decide ((r2 : Int) < 0)) = false, AbC 10 (xAc a0) (xAa r3), AbC 10 (xAc a1) (xAa r4), AbC 19 (xAG r3 r4) (xAp r5), AbC 10 (xAc a0) (xAa r6), AbC 10 (xAc a1) (xAa r7), AbC 20 (xAr r6 r7) (xAx r8), AbC 12 (xAf (Val.mk (Val.kind r8.1) (Val.n r8.1) (Val.step r8.1) (Val.text r8.1) [] [] []) r5) (xAb r9), (!r9) = false, AbC 10 (xAc a0) (xAa r10), AbC 12 (xAf r6 r10) (xAb r11), (!r11) = false, AbC 10 (xAc a1) (xAa r12), AbC 12 (xAf r7 r12) (xAb r13), (!r13) = false, AbC 13 (xAm r6 1) (xAg r14), List.length r14.2.1 = List.length (Val.list r6), List.length r14.2.2.1 = List.length (Val.columns r6), List.length r14.2.2.2 = List.length (Val.rows r6), AbC 13 (xAm r7 r14.1) (xAg r15), List.length r15.2.1 = List.length (Val.list r7), List.length r15.2.2.1 = List.length (Val.columns r7), List.length r15.2.2.2 = List.length (Val.rows r7), (decide ((r15.1 : Int) < 0)) = false, AbC 12 (xAf (Val.mk (Val.kind r8.1) (Val.n r8.1) (Val.step r8.1) (Val.text r8.1) [] [] []) r5) (xAb r16), (!r16) = false, AbC 13 (xBi (Val.mk (Val.kind r8.1) (Val.n r8.1) (Val.step r8.1) (Val.text r8.1) [] [] []) 1) (xAK r17), AbC 14 (xAy (Val.mk (Val.kind r8.1) (Val.n r8.1) (Val.step r8.1) (Val.text r8.1) [] [] []) 1) (xAk r18), (decide ((r18 : Int) < 0)) = false, ((r18 : Int) != r17) = false, AbC 10 (xAc a0) (xAa r19), AbC 10 (xAc a1) (xAa r20), AbC 20 (xAr r19 r20) (xAx r21), AbC 12 (xAf (Val.mk (Val.kind r21.1) (Val.n r21.1) (Val.step r21.1) (Val.text r21.1) [] [] []) r5) (xAb r22), (!r22) = false, AbC 14 (xAy (Val.mk (Val.kind r8.1) (Val.n r8.1) (Val.step r8.1) (Val.text r8.1) [] [] []) 1) (xAk r23), (decide ((r23 : Int) < 0)) = true]) := by kernel_rfl
theorem p6_e_11 (a0 a1 : Val) (r1 r2 : Int) (r3 r4 r5 r6 r7 : Val) (r8 : Val × Bool) (r9 : Bool) (r10 : Val) (r11 : Bool) (r12 : Val) (r13 : Bool) (r14 : Int × (List Val) × (List Str) × (List Rowd)) (r15 : Int × (List Val) × (List Str) × (List Rowd)) (r16 : Bool) (r17 r18 : Int) (r19 r20 : Val) (r21 : Val × Bool) (r22 : Bool) (r23 : Int) : run tt (AbsCalls Try.prog) I6 3000 false [.code I6.body] ⟨(zBi 0 (xAt a0 a1)), [false, false, false, false, false, false, false, false, false, false, false, true], [xAe r1, xAe r2, xAa r3, xAa r4, xAp r5, xAa r6, xAa r7, xAx r8, xAb r9, xAa r10, xAb r11, xAa r12, xAb r13, xAg r14, xAg r15, xAb r16, xAK r17, xAk r18, xAa r19, xAa r20, xAx r21, xAb r22, xAk r23], []⟩ = some (.done (xAu false) [AbC 8 (xAl a0 1048576) (xAe r1), (decide ((r1 : Int) < 0)) = false, AbC 8 (xAl a1 r1) (xAe r2), (decide ((r2 : Int) < 0)) = false, AbC 10 (xAc a0) (xAa r3), AbC 10 (xAc a1) (xAa r4), AbC 19 (xAG r3 r4) (xAp r5), AbC 10 (xAc a0) (xAa r6), AbC 10 (xAc a1) (xAa r7), AbC 20 (xAr r6 r7) (xAx r8), AbC 12 (xAf (Val.mk (Val.kind r8.1) (Val.n r8.1) (Val.step r8.1) (Val.text r8.1) [] [] []) r5) (xAb r9), (!r9) = false, AbC 10 (xAc a0) (xAa r10), AbC 12 (xAf r6 r10) (xAb r11), (!r11) = false, AbC 10 (xAc a1) (xAa r12), AbC 12 (xAf r7 r12) (xAb r13), (!r13) = false, AbC 13 (xAm r6 1) (xAg r14), List.length r14.2.1 = List.length (Val.list r6), List.length r14.2.2.1 = List.length (Val.columns r6), List.length r14.2.2.2 = List.length (Val.rows r6), AbC 13 (xAm r7 r14.1) (xAg r15), List.length r15.2.1 = List.length (Val.list r7), List.length r15.2.2.1 = List.length (Val.columns r7), List.length r15.2.2.2 = List.length (Val.rows r7), (decide ((r15.1 : Int) < 0)) = false, AbC 12 (xAf (Val.mk (Val.kind r8.1) (Val.n r8.1) (Val.step r8.1) (Val.text r8.1) [] [] []) r5) (xAb r16), (!r16) = false, AbC 13 (xBi (Val.mk (Val.kind r8.1) (Val.n r8.1) (Val.step r8.1) (Val.text r8.1) [] [] []) 1) (xAK r17), AbC 14 (xAy (Val.mk (Val.kind r8.1) (Val.n r8.1) (Val.step r8.1) (Val.text r8.1) [] [] []) 1) (xAk r18), (decide ((r18 : Int) < 0)) = false, ((r18 : Int) != r17) = false, AbC 10 (xAc a0) (xAa r19), AbC 10 (xAc a1) (xAa r20), AbC 20 (xAr r19 r20) (xAx r21), AbC 12 (xAf (Val.mk (Val.kind r21.1) (Val.n r21.1) (Val.step r21.1) (Val.text r21.1) [] [] []) r5) (xAb r22), (!r22) = false, AbC 14 (xAy (Val.mk (Val.kind r8.1) (Val.n r8.1) (Val.step r8.1) (Val.text r8.1) [] [] []) 1) (xAk r23), (decide ((r23 : Int) < 0)) = false, ((r23 : Int) != r17) = true]) := by kernel_rfl
theorem p6_e_12 (a0 a1 : Val) (r1 r2 : Int) (r3 r4 r5 r6 r7 : Val) (r8 : Val × Bool) (r9 : Bool) (r10 : Val) (r11 : Bool) (r12 : Val) (r13 : Bool) (r14 : Int × (List Val) × (List Str) × (List Rowd)) (r15 : Int × (List Val) × (List Str) × (List Rowd)) (r16 : Bool) (r17 r18 : Int) (r19 r20 : Val) (r21 : Val × Bool) (r22 : Bool) (r23 : Int) : run tt (AbsCalls Try.prog) I6 3000 false [.code I6.body] ⟨(zBi 0 (xAt a0 a1)), [false, false, false, false, false, false, false, false, false, false, false, false], [xAe r1, xAe r2, xAa r3, xAa r4, xAp r5, xAa r6, xAa r7, xAx r8, xAb r9, xAa r10, xAb r11, xAa r12, xAb r13, xAg r14, xAg r15, xAb r16, xAK r17, xAk r18, xAa r19, xAa r20, xAx r21, xAb r22, xAk r23], []⟩ = some (.done (xAu true) [AbC 8 (xAl a0 1048576) (xAe r1), (decide ((r1 : Int) < 0)) = false, AbC 8 (xAl a1 r1) (xAe r2), (decide ((r2 : Int) < 0)) = false, AbC 10 (xAc a0) (xAa r3), AbC 10 (xAc a1) (xAa r4), AbC 19 (xAG r3 r4) (xAp r5), AbC 10 (xAc a0) (xAa r6), AbC 10 (xAc a1) (xAa r7), AbC 20 (xAr r6 r7) (xAx r8), AbC 12 (xAf (Val.mk (Val.kind r8.1) (Val.n r8.1) (Val.step r8.1) (Val.text r8.1) [] [] []) r5) (xAb r9), (!r9) = false, AbC 10 (xAc a0) (xAa r10), AbC 12 (xAf r6 r10) (xAb r11), (!r11) = false, AbC 10 (xAc a1) (xAa r12), AbC 12 (xAf r7 r12) (xAb r13), (!r13) = false, AbC 13 (xAm r6 1) (xAg r14), List.length r14.2.1 = List.length (Val.list r6), List.length r14.2.2.1 = List.length (Val.columns r6), List.length r14.2.2.2 = List.length (Val.rows r6), AbC 13 (xAm r7 r14.1) (xAg r15), List.length r15.2.1 = List.length (Val.list r7), List.length r15.2.2.1 = List.length (Val.columns r7), List.length r15.2.2.2 = List.length (Val.rows r7), (decide ((r15.1 : Int) < 0)) = false, AbC 12 (xAf (Val.mk (Val.kind r8.1) (Val.n r8.1) (Val.step r8.1) (Val.text r8.1) [] [] []) r5) (xAb r16), (!r16) = false, AbC 13 (xBi (Val.mk (Val.kind r8.1) (Val.n r8.1) (Val.step r8.1) (Val.text r8.1) [] [] []) 1) (xAK r17), AbC 14 (xAy (Val.mk (Val.kind r8.1) (Val.n r8.1) (Val.step r8.1) (Val.text r8.1) [] [] []) 1) (xAk r18), (decide ((r18 : Int) < 0)) = false, ((r18 : Int) != r17) = false, AbC 10 (xAc a0) (xAa r19), AbC 10 (xAc a1) (xAa r20), AbC 20 (xAr r19 r20) (xAx r21), AbC 12 (xAf (Val.mk (Val.kind r21.1) (Val.n r21.1) (Val.step r21.1) (Val.text r21.1) [] [] []) r5) (xAb r22), (!r22) = false, AbC 14 (xAy (Val.mk (Val.kind r8.1) (Val.n r8.1) (Val.step r8.1) (Val.text r8.1) [] [] []) 1) (xAk r23), (decide ((r23 : Int) < 0)) = false, ((r23 : Int) != r17) = false]) := by kernel_rfl
theorem p6_e_13 (a0 a1 : Val) (r1 r2 : Int) (r3 r4 r5 r6 r7 : Val) (r8 : Val × Bool) (r9 : Bool) (r10 : Val) (r11 : Bool) (r12 : Val) (r13 : Bool) (r14 : Int × (List Val) × (List Str) × (List Rowd)) (r15 : Int × (List Val) × (List Str) × (List Rowd)) (r16 : Bool) (r17 r18 : Int) (r19 r20 : Val) (r21 : Val × Bool) (r22 : Bool) : run tt (AbsCalls Try.prog) I6 3000 false [.code I6.body] ⟨(zBi 0 (xAt a0 a1)), [false, false, false, false, false, false, false, false, false, true], [xAe r1, xAe r2, xAa r3, xAa r4, xAp r5, xAa r6, xAa r7, xAx r8, xAb r9, xAa r10, xAb r11, xAa r12, xAb r13, xAg r14, xAg r15, xAb r16, xAK r17, xAk r18, xAa r19, xAa r20, xAw r21, xAb r22], []⟩ = some (.done (xAu false) [AbC 8 (xAl a0 1048576) (xAe r1), (decide ((r1 : Int) < 0)) = false, AbC 8 (xAl a1 r1) (xAe r2), (decide ((r2 : Int) < 0)) = false, AbC 10 (xAc a0) (xAa r3), AbC 10 (xAc a1) (xAa r4), AbC 19 (xAG r3 r4) (xAp r5), AbC 10 (xAc a0) (xAa r6), AbC 10 (xAc a1) (xAa r7), AbC 20 (xAr r6 r7) (xAx r8), AbC 12 (xAf (Val.mk (Val.kind r8.1) (Val.n r8.1) (Val.step r8.1) (Val.text r8.1) [] [] []) r5) (xAb r9), (!r9) = false, AbC 10 (xAc a0) (xAa r10), AbC 12 (xAf r6 r10) (xAb r11), (!r11) = false, AbC 10 (xAc a1) (xAa r12), AbC 12 (xAf r7 r12) (xAb r13), (!r13) = false, AbC 13 (xAm r6 1) (xAg r14), List.length r14.2.1 = List.length (Val.list r6), List.length r14.2.2.1 = List.length (Val.columns r6), List.length r14.2.2.2 = List.length (Val.rows r6), AbC 13 (xAm r7 r14.1) (xAg r15), List.length r15.2.1 = List.length (Val.list r7), List.length r15.2.2.1 = List.length (Val.columns r7), List.length r15.2.2.2 = List.length (Val.rows r7), (decide ((r15.1 : Int) < 0)) = false, AbC 12 (xAf (Val.mk (Val.kind r8.1) (Val.n r8.1) (Val.step r8.1) (Val.text r8.1) [] [] []) r5) (xAb r16), (!r16) = false, AbC 13 (xBi (Val.mk (Val.kind r8.1) (Val.n r8.1) (Val.step r8.1) (Val.text r8.1) [] [] []) 1) (xAK r17), AbC 14 (xAy (Val.mk (Val.kind r8.1) (Val.n r8.1) (Val.step r8.1) (Val.text r8.1) [] [] []) 1) (xAk r18), (decide ((r18 : Int) < 0)) = false, ((r18 : Int) != r17) = false, AbC 10 (xAc a0) (xAa r19), AbC 10 (xAc a1) (xAa r20), AbC 20 (xAr r19 r20) (xAw r21), AbC 12 (xAf r21.1 r5) (xAb r22), (!r22) = true]) := by kernel_rfl
theorem p6_e_14 (a0 a1 : Val) (r1 r2 : Int) (r3 r4 r5 r6 r7 : Val) (r8 : Val × Bool) (r9 : Bool) (r10 : Val) (r11 : Bool) (r12 : Val) (r13 : Bool) (r14 : Int × (List Val) × (List Str) × (List Rowd)) (r15 : Int × (List Val) × (List Str) × (List Rowd)) (r16 : Bool) (r17 r18 : Int) (r19 r20 : Val) (r21 : Val × Bool) (r22 : Bool) (r23 : Int) : run tt (AbsCalls Try.prog) I6 3000 false [.code I6.body] ⟨(zBi 0 (xAt a0 a1)), [false, false, false, false, false, false, false, false, false, false, true], [xAe r1, xAe r2, xAa r3, xAa r4, xAp r5, xAa r6, xAa r7, xAx r8, xAb r9, xAa r10, xAb r11, xAa r12, xAb r13, xAg r14, xAg r15, xAb r16, xAK r17, xAk r18, xAa r19, xAa r20, xAw r21, xAb r22, xAk r23], []⟩ = some (.done (xAu false) [AbC 8 (xAl a0 1048576) (xAe r1), (decide ((r1 : Int) < 0)) = false, AbC 8 (xAl a1 r1) (xAe r2), (decide ((r2 : Int) < 0)) = false, AbC 10 (xAc a0) (xAa r3), AbC 10 (xAc a1) (xAa r4), AbC 19 (xAG r3 r4) (xAp r5), AbC 10 (xAc a0) (xAa r6), AbC 10 (xAc a1) (xAa r7), AbC 20 (xAr r6 r7) (xAx r8), AbC 12 (xAf (Val.mk (Val.kind r8.1) (Val.n r8.1) (Val.step r8.1) (Val.text r8.1) [] [] []) r5) (xAb r9), (!r9) = false, AbC 10 (xAc a0) (xAa r10), AbC 12 (xAf r6 r10) (xAb r11), (!r11) = false, AbC 10 (xAc a1) (xAa r12), AbC 12 (xAf r7 r12) (xAb r13), (!r13) = false, AbC 13 (xAm r6 1) (xAg r14), List.length r14.2.1 = List.length (Val.list r6), List.length r14.2.2.1 = List.length (Val.columns r6), List.length r14.2.2.2 = List.length (Val.rows r6), AbC 13 (xAm r7 r14.1) (xAg r15), List.length r15.2.1 = List.length (Val.list r7), List.length r15.2.2.1 = List.length (Val.columns r7), List.length r15.2.2.2 = List.length (Val.rows r7), (decide ((r15.1 : Int) < 0)) = false, AbC 12 (xAf (Val.mk (Val.kind r8.1) (Val.n r8.1) (Val.step r8.1) (Val.text r8.1) [] [] []) r5) (xAb r16), (!r16) = false, AbC 13 (xBi (Val.mk (Val.kind r8.1) (Val.n r8.1) (Val.step r8.1) (Val.text r8.1) [] [] []) 1) (xAK r17), AbC 14 (xAy (Val.mk (Val.kind r8.1) (Val.n r8.1) (Val.step r8.1) (Val.text r8.1) [] [] []) 1) (xAk r18), (decide ((r18 : Int) < 0)) = false, ((r18 : Int) != r17) = false, AbC 10 (xAc a0) (xAa r19), AbC 10 (xAc a1) (xAa r20), AbC 20 (xAr r19 r20) (xAw r21), AbC 12 (xAf r21.1 r5) (xAb r22), (!r22) = false, AbC 14 (xAy (Val.mk (Val.kind r8.1) (Val.n r8.1) (Val.step r8.1) (Val.text r8.1) [] [] []) 1) (xAk r23), (decide ((r23 : Int) < 0)) = true]) := by kernel_rfl
theorem p6_e_15 (a0 a1 : Val) (r1 r2 : Int) (r3 r4 r5 r6 r7 : Val) (r8 : Val × Bool) (r9 : Bool) (r10 : Val) (r11 : Bool) (r12 : Val) (r13 : Bool) (r14 : Int × (List Val) × (List Str) × (List Rowd)) (r15 : Int × (List Val) × (List Str) × (List Rowd)) (r16 : Bool) (r17 r18 : Int) (r19 r20 : Val) (r21 : Val × Bool) (r22 : Bool) (r23 : Int) : run tt (AbsCalls Try.prog) I6 3000 false [.code I6.body] ⟨(zBi 0 (xAt a0 a1)), [false, false, false, false, false, false, false, false, false, false, false, true], [xAe r1, xAe r2, xAa r3, xAa r4, xAp r5, xAa r6, xAa r7, xAx r8, xAb r9, xAa r10, xAb r11, xAa r12, xAb r13, xAg r14, xAg r15, xAb r16, xAK r17, xAk r18, xAa r19, xAa r20, xAw r21, xAb r22, xAk r23], []⟩ = some (.done (xAu false) [AbC 8 (xAl a0 1048576) (xAe r1), (decide ((r1 : Int) < 0)) = false, AbC 8 (xAl a1 r1) (xAe r2), (decide ((r2 : Int) < 0)) = false, AbC 10 (xAc a0) (xAa r3), AbC 10 (xAc a1) (xAa r4), AbC 19 (xAG r3 r4) (xAp r5), AbC 10 (xAc a0) (xAa r6), AbC 10 (xAc a1) (xAa r7), AbC 20 (xAr r6 r7) (xAx r8), AbC 12 (xAf (Val.mk (Val.kind r8.1) (Val.n r8.1) (Val.step r8.1) (Val.text r8.1) [] [] []) r5) (xAb r9), (!r9) = false, AbC 10 (xAc a0) (xAa r10), AbC 12 (xAf r6 r10) (xAb r11), (!r11) = false, AbC 10 (xAc a1) (xAa r12), AbC 12 (xAf r7 r12) (xAb r13), (!r13) = false, AbC 13 (xAm r6 1) (xAg r14), List.length r14.2.1 = List.length (Val.list r6), List.length r14.2.2.1 = List.length (Val.columns r6), List.length r14.2.2.2 = List.length (Val.rows r6), AbC 13 (xAm r7 r14.1) (xAg r15), List.length r15.2.1 = List.length (Val.list r7), List.length r15.2.2.1 = List.length (Val.columns r7), List.length r15.2.2.2 = List.length (Val.rows r7), (decide ((r15.1 : Int) < 0)) = false, AbC 12 (xAf (Val.mk (Val.kind r8.1) (Val.n r8.1) (Val.step r8.1) (Val.text r8.1) [] [] []) r5) (xAb r16), (!r16) = false, AbC 13 (xBi (Val.mk (Val.kind r8.1) (Val.n r8.1) (Val.step r8.1) (Val.text r8.1) [] [] []) 1) (xAK r17), AbC 14 (xAy (Val.mk (Val.kind r8.1) (Val.n r8.1) (Val.step r8.1) (Val.text r8.1) [] [] []) 1) (xAk r18), (decide ((r18 : Int) < 0)) = false, ((r18 : Int) != r17) = false, AbC 10 (xAc a0) (xAa r19), AbC 10 (xAc a1) (xAa r20), AbC 20 (xAr r19 r20) (xAw r21), AbC 12 (xAf r21.1 r5) (xAb r22), (!r22) = false, AbC 14 (xAy (Val.mk (Val.kind r8.1) (Val.n r8.1) (Val.step r8.1) (Val.text r8.1) [] [] []) 1) (xAk r23), (decide ((r23 : Int) < 0)) = false, ((r23 : Int) != r17) = true]) := by kernel_rfl
theorem p6_e_16 (a0 a1 : Val) (r1 r2 : Int) (r3 r4 r5 r6 r7 : Val) (r8 : Val × Bool) (r9 : Bool) (r10 : Val) (r11 : Bool) (r12 : Val) (r13 : Bool) (r14 : Int × (List Val) × (List Str) × (List Rowd)) (r15 : Int × (List Val) × (List Str) × (List Rowd)) (r16 : Bool) (r17 r18 : Int) (r19 r20 : Val) (r21 : Val × Bool) (r22 : Bool) (r23 : Int) : run tt (AbsCalls Try.prog) I6 3000 false [.code I6.body] ⟨(zBi 0 (xAt a0 a1)), [false, false, false, false, false, false, false, false, false, false, false, false], [xAe r1, xAe r2, xAa r3, xAa r4, xAp r5, xAa r6, xAa r7, xAx r8, xAb r9, xAa r10, xAb r11, xAa r12, xAb r13, xAg r14, xAg r15, xAb r16, xAK r17, xAk r18, xAa r19, xAa r20, xAw r21, xAb r22, xAk r23], []⟩ = some (.done (xAu true) [AbC 8 (xAl a0 1048576) (xAe r1), (decide ((r1 : Int) < 0)) = false, AbC 8 (xAl a1 r1) (xAe r2), (decide ((r2 : Int) < 0)) = false, AbC 10 (xAc a0) (xAa r3), AbC 10 (xAc a1) (xAa r4), AbC 19 (xAG r3 r4) (xAp r5), AbC 10 (xAc a0) (xAa r6), AbC 10 (xAc a1) (xAa r7), AbC 20 (xAr r6 r7) (xAx r8), AbC 12 (xAf (Val.mk (Val.kind r8.1) (Val.n r8.1) (Val.step r8.1) (Val.text r8.1) [] [] []) r5) (xAb r9), (!r9) = false, AbC 10 (xAc a0) (xAa r10), AbC 12 (xAf r6 r10) (xAb r11), (!r11) = false, AbC 10 (xAc a1) (xAa r12), AbC 12 (xAf r7 r12) (xAb r13), (!r13) = false, AbC 13 (xAm r6 1) (xAg r14), List.length r14.2.1 = List.length (Val.list r6), List.length r14.2.2.1 = List.length (Val.columns r6), List.length r14.2.2.2 = List.length (Val.rows r6), AbC 13 (xAm r7 r14.1) (xAg r15), List.length r15.2.1 = List.length (Val.list r7), List.length r15.2.2.1 = List.length (Val.columns r7), List.length r15.2.2.2 = List.length (Val.rows r7), (decide ((r15.1 : Int) < 0)) = false, AbC 12 (xAf (Val.mk (Val.kind r8.1) (Val.n r8.1) (Val.step r8.1) (Val.text r8.1) [] [] []) r5) (xAb r16), (!r16) = false, AbC 13 (xBi (Val.mk (Val.kind r8.1) (Val.n r8.1) (Val.step r8.1) (Val.text r8.1) [] [] []) 1) (xAK r17), AbC 14 (xAy (Val.mk (Val.kind r8.1) (Val.n r8.1) (Val.step r8.1) (Val.text r8.1) [] [] []) 1) (xAk r18), (decide ((r18 : Int) < 0)) = false, ((r18 : Int) != r17) = false, AbC 10 (xAc a0) (xAa r19), AbC 10 (xAc a1) (xAa r20), AbC 20 (xAr r19 r20) (xAw r21), AbC 12 (xAf r21.1 r5) (xAb r22), (!r22) = false, AbC 14 (xAy (Val.mk (Val.kind r8.1) (Val.n r8.1) (Val.step r8.1) (Val.text r8.1) [] [] []) 1) (xAk r23), (decide ((r23 : Int) < 0)) = false, ((r23 : Int) != r17) = false]) := by kernel_rfl
theorem p6_e_17 (a0 a1 : Val) (r1 r2 : Int) (r3 r4 r5 r6 r7 : Val) (r8 : Val × Bool) (r9 : Bool) : run tt (AbsCalls Try.prog) I6 3000 false [.code I6.body] ⟨(zBi 0 (xAt a0 a1)), [false, false, true], [xAe r1, xAe r2, xAa r3, xAa r4, xAp r5, xAa r6, xAa r7, xAw r8, xAb r9], []⟩ = some (.done (xAu false) [AbC 8 (xAl a0 1048576) (xAe r1), (decide ((r1 : Int) < 0)) = false, AbC 8 (xAl a1 r1) (xAe r2), (decide ((r2 : Int) < 0)) = false, AbC 10 (xAc a0) (xAa r3), AbC 10 (xAc a1) (xAa r4), AbC 19 (xAG r3 r4) (xAp r5), AbC 10 (xAc a0) (xAa r6), AbC 10 (xAc a1) (xAa r7), AbC 20 (xAr r6 r7) (xAw r8), AbC 12 (xAf r8.1 r5) (xAb r9), (!r9) = true]) := by kernel_rfl
theorem p6_e_18 (a0 a1 : Val) (r1 r2 : Int) (r3 r4 r5 r6 r7 : Val) (r8 : Val × Bool) (r9 : Bool) (r10 : Val) (r11 : Bool) : run tt (AbsCalls Try.prog) I6 3000 false [.code I6.body] ⟨(zBi 0 (xAt a0 a1)), [false, false, false, true], [xAe r1, xAe r2, xAa r3, xAa r4, xAp r5, xAa r6, xAa r7, xAw r8, xAb r9, xAa r10, xAb r11], []⟩ = some (.done (xAu false) [AbC 8 (xAl a0 1048576) (xAe r1), (decide ((r1 : Int) < 0)) = false, AbC 8 (xAl a1 r1) (xAe r2), (decide ((r2 : Int) < 0)) = false, AbC 10 (xAc a0) (xAa r3), AbC 10 (xAc a1) (xAa r4), AbC 19 (xAG r3 r4) (xAp r5), AbC 10 (xAc a0) (xAa r6), AbC 10 (xAc a1) (xAa r7), AbC 20 (xAr r6 r7) (xAw r8), AbC 12 (xAf r8.1 r5) (xAb r9), (!r9) = false, AbC 10 (xAc a0) (xAa r10), AbC 12 (xAf r6 r10) (xAb r11), (!r11) = true]) := by kernel_rfl
theorem p6_e_19 (a0 a1 : Val) (r1 r2 : Int) (r3 r4 r5 r6 r7 : Val) (r8 : Val × Bool) (r9 : Bool) (r10 : Val) (r11 : Bool) (r12 : Val) (r13 : Bool) : run tt (AbsCalls Try.prog) I6 3000 false [.code I6.body] ⟨(zBi 0 (xAt a0 a1)), [false, false, false, false, true], [xAe r1, xAe r2, xAa r3, xAa r4, xAp r5, xAa r6, xAa r7, xAw r8, xAb r9, xAa r10, xAb r11, xAa r12, xAb r13], []⟩ = some (.done (xAu false) [AbC 8 (xAl a0 1048576) (xAe r1), (decide ((r1 : Int) < 0)) = false, AbC 8 (xAl a1 r1) (xAe r2), (decide ((r2 : Int) < 0)) = false, AbC 10 (xAc a0) (xAa r3), AbC 10 (xAc a1) (xAa r4), AbC 19 (xAG r3 r4) (xAp r5), AbC 10 (xAc a0) (xAa r6), AbC 10 (xAc a1) (xAa r7), AbC 20 (xAr r6 r7) (xAw r8), AbC 12 (xAf r8.1 r5) (xAb r9), (!r9) = false, AbC 10 (xAc a0) (xAa r10), AbC 12 (xAf r6 r10) (xAb r11), (!r11) = false, AbC 10 (xAc a1) (xAa r12), AbC 12 (xAf r7 r12) (xAb r13), (!r13) = true]) := by kernel_rfl
theorem p6_e_20 (a0 a1 : Val) (r1 r2 : Int) (r3 r4 r5 r6 r7 : Val) (r8 : Val × Bool) (r9 : Bool) (r10 : Val) (r11 : Bool) (r12 : Val) (r13 : Bool) (r14 : Int × (List Val) × (List Str) × (List Rowd)) (r15 : Int × (List Val) × (List Str) × (List Rowd)) : run tt (AbsCalls Try.prog) I6 3000 false [.code I6.body] ⟨(zBi 0 (xAt a0 a1)), [false, false, false, false, false, true, true], [xAe r1, xAe r2, xAa r3, xAa r4, xAp r5, xAa r6, xAa r7, xAw r8, xAb r9, xAa r10, xAb r11, xAa r12, xAb r13, xAg r14, xAg r15], []⟩ = some (.done (xAu false) [AbC 8 (xAl a0 1048576) (xAe r1), (decide ((r1 : Int) < 0)) = false, AbC 8 (xAl a1 r1) (xAe r2), (decide ((r2 : Int) < 0)) = false, AbC 10 (xAc a0) (xAa r3), AbC 10 (xAc a1) (xAa r4), AbC 19 (xAG r3 r4) (xAp r5), AbC 10 (xAc a0) (xAa r6), AbC 10 (xAc a1) (xAa r7), AbC 20 (xAr r6 r7) (xAw r8), AbC 12 (xAf r8.1 r5) (xAb r9), (!r9) = false, AbC 10 (xAc a0) (xAa r10), AbC 12 (xAf r6 r10) (xAb r11), (!r11) = false, AbC 10 (xAc a1) (xAa r12), AbC 12 (xAf r7 r12) (xAb r13), (!r13) = false, AbC 13 (xAm r6 1) (xAg r14), List.length r14.2.1 = List.length (Val.list r6), List.length r14.2.2.1 = List.length (Val.columns r6), List.length r14.2.2.2 = List.length (Val.rows r6), AbC 13 (xAm r7 r14.1) (xAg r15), List.length r15.2.1 = List.length (Val.list r7), List.length r15.2.2.1 = List.length (Val.columns r7), List.length r15.2.2.2 = List.length (Val.rows r7), (decide ((r15.1 : Int) < 0)) = true, true = true]) := by kernel_rfl
theorem p6_e_21 (a0 a1 : Val) (r1 r2 : Int) (r3 r4 r5 r6 r7 : Val) (r8 : Val × Bool) (r9 : Bool) (r10 : Val) (r11 : Bool) (r12 : Val) (r13 : Bool) (r14 : Int × (List Val) × (List Str) × (List Rowd)) (r15 : Int × (List Val) × (List Str) × (List Rowd)) (r16 : Bool) : run tt (AbsCalls Try.prog) I6 3000 false [.code I6.body] ⟨(zBi 0 (xAt a0 a1)), [false, false, false, false, false, false, true], [xAe r1, xAe r2, xAa r3, xAa r4, xAp r5, xAa r6, xAa r7, xAw r8, xAb r9, xAa r10, xAb r11, xAa r12, xAb r13, xAg r14, xAg r15, xAb r16], []⟩ = some (.done (xAu false) [AbC 8 (xAl a0 1048576) (xAe r1), (decide ((r1 : Int) < 0)) = false, AbC 8 (xAl a1 r1) (xAe r2), (decide ((r2 : Int) < 0)) = false, AbC 10 (xAc a0) (xAa r3), AbC 10 (xAc a1) (xAa r4), AbC 19 (xAG r3 r4) (xAp r5), AbC 10 (xAc a0) (xAa r6), AbC 10 (xAc a1) (xAa r7), AbC 20 (xAr r6 r7) (xAw r8), AbC 12 (xAf r8.1 r5) (xAb r9), (!r9) = false, AbC 10 (xAc a0) (xAa r10), AbC 12 (xAf r6 r10) (xAb r11), (!r11) = false, AbC 10 (xAc a1) (xAa r12), AbC 12 (xAf r7 r12) (xAb r13), (!r13) = false, AbC 13 (xAm r6 1) (xAg r14), List.length r14.2.1 = List.length (Val.list r6), List.length r14.2.2.1 = List.length (Val.columns r6), List.length r14.2.2.2 = List.length (Val.rows r6), AbC 13 (xAm r7 r14.1) (xAg r15), List.length r15.2.1 = List.length (Val.list r7), List.length r15.2.2.1 = List.length (Val.columns r7), List.length r15.2.2.2 = List.length (Val.rows r7), (decide ((r15.1 : Int) < 0)) = false, AbC 12 (xAf r8.1 r5) (xAb r16), (!r16) = true]) := by kernel_rfl
theorem p6_e_22 (a0 a1 : Val) (r1 r2 : Int) (r3 r4 r5 r6 r7 : Val) (r8 : Val × Bool) (r9 : Bool) (r10 : Val) (r11 : Bool) (r12 : Val) (r13 : Bool) (r14 : Int × (List Val) × (List Str) × (List Rowd)) (r15 : Int × (List Val) × (List Str) × (List Rowd)) (r16 : Bool) (r17 : Int × (List Val) × (List Str) × (List Rowd)) (r18 : Int) : run tt (AbsCalls Try.prog) I6 3000 false [.code I6.body] ⟨(zBi 0 (xAt a0 a1)), [false, false, false, false, false, false, false, true], [xAe r1, xAe r2, xAa r3, xAa r4, xAp r5, xAa r6, xAa r7, xAw r8, xAb r9, xAa r10, xAb r11, xAa r12, xAb r13, xAg r14, xAg r15, xAb r16, xAg r17, xAk r18], []⟩ = some (.done (xAu false) [AbC 8 (xAl a0 1048576) (xAe r1), (decide ((r1 : Int) < 0)) = false, AbC 8 (xAl a1 r1) (xAe r2), (decide ((r2 : Int) < 0)) = false, AbC 10 (xAc a0) (xAa r3), AbC 10 (xAc a1) (xAa r4), AbC 19 (xAG r3 r4) (xAp r5), AbC 10 (xAc a0) (xAa r6), AbC 10 (xAc a1) (xAa r7), AbC 20 (xAr r6 r7) (xAw r8), AbC 12 (xAf r8.1 r5) (xAb r9), (!r9) = false, AbC 10 (xAc a0) (xAa r10), AbC 12 (xAf r6 r10) (xAb r11), (!r11) = false, AbC 10 (xAc a1) (xAa r12), AbC 12 (xAf r7 r12) (xAb r13), (!r13) = false, AbC 13 (xAm r6 1) (xAg r14), List.length r14.2.1 = List.length (Val.list r6), List.length r14.2.2.1 = List.length (Val.columns r6), List.length r14.2.2.2 = List.length (Val.rows r6), AbC 13 (xAm r7 r14.1) (xAg r15), List.length r15.2.1 = List.length (Val.list r7), List.length r15.2.2.1 = List.length (Val.columns r7), List.length r15.2.2.2 = List.length (Val.rows r7), (decide ((r15.1 : Int) < 0)) = false, AbC 12 (xAf r8.1 r5) (xAb r16), (!r16) = false, AbC 13 (xAm r8.1 1) (xAg r17), List.length r17.2.1 = List.length (Val.list r8.1), List.length r17.2.2.1 = List.length (Val.columns r8.1), List.length r17.2.2.2 = List.length (Val.rows r8.1), AbC 14 (xAy (Val.mk (Val.kind r8.1) (Val.n r8.1) (Val.step r8.1) (Val.text r8.1) r17.2.1 r17.2.2.1 r17.2.2.2) 1) (xAk r18), (decide ((r18 : Int) < 0)) = true]) := by kernel_rfl
theorem p6_e_23 (a0 a1 : Val) (r1 r2 : Int) (r3 r4 r5 r6 r7 : Val) (r8 : Val × Bool) (r9 : Bool) (r10 : Val) (r11 : Bool) (r12 : Val) (r13 : Bool) (r14 : Int × (List Val) × (List Str) × (List Rowd)) (r15 : Int × (List Val) × (List Str) × (List Rowd)) (r16 : Bool) (r17 : Int × (List Val) × (List Str) × (List Rowd)) (r18 : Int) : run tt (AbsCalls Try.prog) I6 3000 false [.code I6.body] ⟨(zBi 0 (xAt a0 a1)), [false, false, false, false, false, false, false, false, true], [xAe r1, xAe r2, xAa r3, xAa r4, xAp r5, xAa r6, xAa r7, xAw r8, xAb r9, xAa r10, xAb r11, xAa r12, xAb r13, xAg r14, xAg r15, xAb r16, xAg r17, xAk r18], []⟩ = some (.done (xAu false) [AbC 8 (xAl a0 1048576) (xAe r1), (decide ((r1 : Int) < 0)) = false, AbC 8 (xAl a1 r1) (xAe r2), (decide ((r2 : Int) < 0)) = false, AbC 10 (xAc a0) (xAa r3), AbC 10 (xAc a1) (xAa r4), AbC 19 (xAG r3 r4) (xAp r5), AbC 10 (xAc a0) (xAa r6), AbC 10 (xAc a1) (xAa r7), AbC 20 (xAr r6 r7) (xAw r8), AbC 12 (xAf r8.1 r5) (xAb r9), (!r9) = false, AbC 10 (xAc a0) (xAa r10), AbC 12 (xAf r6 r10) (xAb r11), (!r11) = false, AbC 10 (xAc a1) (xAa r12), AbC 12 (xAf r7 r12) (xAb r13), (!r13) = false, AbC 13 (xAm r6 1) (xAg r14), List.length r14.2.1 = List.length (Val.list r6), List.length r14.2.2.1 = List.length (Val.columns r6), List.length r14.2.2.2 = List.length (Val.rows r6), AbC 13 (xAm r7 r14.1) (xAg r15), List.length r15.2.1 = List.length (Val.list r7), List.length r15.2.2.1 = List.length (Val.columns r7), List.length r15.2.2.2 = List.length (Val.rows r7), (decide ((r15.1 : Int) < 0)) = false, AbC 12 (xAf r8.1 r5) (xAb r16), (!r16) = false, AbC 13 (xAm r8.1 1) (xAg r17), List.length r17.2.1 = List.length (Val.list r8.1), List.length r17.2.2.1 = List.length (Val.columns r8.1), List.length r17.2.2.2 = List.length (Val.rows r8.1), AbC 14 (xAy (Val.mk (Val.kind r8.1) (Val.n r8.1) (Val.step r8.1) (Val.text r8.1) r17.2.1 r17.2.2.1 r17.2.2.2) 1) (xAk r18), (decide ((r18 : Int) < 0)) = false, ((r18 : Int) != r17.1) = true]) := by kernel_rfl
theorem p6_e_24 (a0 a1 : Val) (r1 r2 : Int) (r3 r4 r5 r6 r7 : Val) (r8 : Val × Bool) (r9 : Bool) (r10 : Val) (r11 : Bool) (r12 : Val) (r13 : Bool) (r14 : Int × (List Val) × (List Str) × (List Rowd)) (r15 : Int × (List Val) × (List Str) × (List Rowd)) (r16 : Bool) (r17 : Int × (List Val) × (List Str) × (List Rowd)) (r18 : Int) (r19 r20 : Val) (r21 : Val × Bool) (r22 : Bool) : run tt (AbsCalls Try.prog) I6 3000 false [.code I6.body] ⟨(zBi 0 (xAt a0 a1)), [false, false, false, false, false, false, false, false, false, true], [xAe r1, xAe r2, xAa r3, xAa r4, xAp r5, xAa r6, xAa r7, xAw r8, xAb r9, xAa r10, xAb r11, xAa r12, xAb r13, xAg r14, xAg r15, xAb r16, xAg r17, xAk r18, xAa r19, xAa r20, xAx r21, xAb r22], []⟩ = some (.done (xAu false) [AbC 8 (xAl a0 1048576) (xAe r1), (decide ((r1 : Int) < 0)) = false, AbC 8 (xAl a1 r1) (xAe r2), (decide ((r2 : Int) < 0)) = false, AbC 10 (xAc a0) (xAa r3), AbC 10 (xAc a1) (xAa r4), AbC 19 (xAG r3 r4) (xAp r5), AbC 10 (xAc a0) (xAa r6), AbC 10 (xAc a1) (xAa r7), AbC 20 (xAr r6 r7) (xAw r8), AbC 12 (xAf r8.1 r5) (xAb r9), (!r9) = false, AbC 10 (xAc a0) (xAa r10), AbC 12 (xAf r6 r10) (xAb r11), (!r11) = false, AbC 10 (xAc a1) (xAa r12), AbC 12 (xAf r7 r12) (xAb r13), (!r13) = false, AbC 13 (xAm r6 1) (xAg r14), List.length r14.2.1 = List.length (Val.list r6), List.length r14.2.2.1 = List.length (Val.columns r6), List.length r14.2.2.2 = List.length (Val.rows r6), AbC 13 (xAm r7 r14.1) (xAg r15), List.length r15.2.1 = List.length (Val.list r7), List.length r15.2.2.1 = List.length (Val.columns r7), List.length r15.2.2.2 = List.length (Val.rows r7), (decide ((r15.1 : Int) < 0)) = false, AbC 12 (xAf r8.1 r5) (xAb r16), (!r16) = false, AbC 13 (xAm r8.1 1) (xAg r17), List.length r17.2.1 = List.length (Val.list r8.1), List.length r17.2.2.1 = List.length (Val.columns r8.1), List.length r17.2.2.2 = List.length (Val.rows r8.1), AbC 14 (xAy (Val.mk (Val.kind r8.1) (Val.n r8.1) (Val.step r8.1) (Val.text r8.1) r17.2.1 r17.2.2.1 r17.2.2.2) 1) (xAk r18), (decide ((r18 : Int) < 0)) = false, ((r18 : Int) != r17.1) = false, AbC 10 (xAc a0) (xAa r19), AbC 10 (xAc a1) (xAa r20), AbC 20 (xAr r19 r20) (xAx r21), AbC 12 (xAf (Val.mk (Val.kind r21.1) (Val.n r21.1) (Val.step r21.1) (Val.text r21.1) [] [] []) r5) (xAb r22), (!r22) = true]) := by kernel_rfl
theorem p6_e_25 (a0 a1 : Val) (r1 r2 : Int) (r3 r4 r5 r6 r7 : Val) (r8 : Val × Bool) (r9 : Bool) (r10 : Val) (r11 : Bool) (r12 : Val) (r13 : Bool) (r14 : Int × (List Val) × (List Str) × (List Rowd)) (r15 : Int × (List Val) × (List Str) × (List Rowd)) (r16 : Bool) (r17 : Int × (List Val) × (List Str) × (List Rowd)) (r18 : Int) (r19 r20 : Val) (r21 : Val × Bool) (r22 : Bool) (r23 : Int) : run tt (AbsCalls Try.prog) I6 3000 false [.code I6.body] ⟨(zBi 0 (xAt a0 a1)), [false, false, false, false, false, false, false, false, false, false, true], [xAe r1, xAe r2, xAa r3, xAa r4, xAp r5, xAa r6, xAa r7, xAw r8, xAb r9, xAa r10, xAb r11, xAa r12, xAb r13, xAg r14, xAg r15, xAb r16, xAg r17, xAk r18, xAa r19, xAa r20, xAx r21, xAb r22, xAk r23], []⟩ = some (.done (xAu false) [AbC 8 (xAl a0 1048576) (xAe r1), (decide ((r1 : Int) < 0)) = false, AbC 8 (xAl a1 r1) (xAe r2), (decide ((r2 : Int) < 0)) = false, AbC 10 (xAc a0) (xAa r3), AbC 10 (xAc a1) (xAa r4), AbC 19 (xAG r3 r4) (xAp r5), AbC 10 (xAc a0) (xAa r6), AbC 10 (xAc a1) (xAa r7), AbC 20 (xAr r6 r7) (xAw r8), AbC 12 (xAf r8.1 r5) (xAb r9), (!r9) = false, AbC 10 (xAc a0) (xAa r10), AbC 12 (xAf r6 r10) (xAb r11), (!r11) = false, AbC 10 (xAc a1) (xAa r12), AbC 12 (xAf r7 r12) (xAb r13), (!r13) = false, AbC 13 (xAm r6 1) (xAg r14), List.length r14.2.1 = List.length (Val.list r6), List.length r14.2.2.1 = List.length (Val.columns r6), List.length r14.2.2.2 = List.length (Val.rows r6), AbC 13 (xAm r7 r14.1) (xAg r15), List.length r15.2.1 = List.length (Val.list r7), List.length r15.2.2.1 = List.length (Val.columns r7), List.length r15.2.2.2 = List.length (Val.rows r7), (decide ((r15.1 : Int) < 0)) = false, AbC 12 (xAf r8.1 r5) (xAb r16), (!r16) = false, AbC 13 (xAm r8.1 1) (xAg r17), List.length r17.2.1 = List.length (Val.list r8.1), List.length r17.2.2.1 = List.length (Val.columns r8.1), List.length r17.2.2.2 = List.length (Val.rows r8.1), AbC 14 (xAy (Val.mk (Val.kind r8.1) (Val.n r8.1) (Val.step r8.1) (Val.text r8.1) r17.2.1 r17.2.2.1 r17.2.2.2) 1) (xAk r18), (decide ((r18 : Int) < 0)) = false, ((r18 : Int) != r17.1) = false, AbC 10 (xAc a0) (xAa r19), AbC 10 (xAc a1) (xAa r20), AbC 20 (xAr r19 r20) (xAx r21), AbC 12 (xAf (Val.mk (Val.kind r21.1) (Val.n r21.1) (Val.step r21.1) (Val.text r21.1) [] [] []) r5) (xAb r22), (!r22) = false, AbC 14 (xAy (Val.mk (Val.kind r8.1) (Val.n r8.1) (Val.step r8.1) (Val.text r8.1) r17.2.1 r17.2.2.1 r17.2.2.2) 1) (xAk r23), (decide ((r23 : Int) < 0)) = true]) := by kernel_rfl
theorem p6_e_26 (a0 a1 : Val) (r1 r2 : Int) (r3 r4 r5 r6 r7 : Val) (r8 : Val × Bool) (r9 : Bool) (r10 : Val) (r11 : Bool) (r12 : Val) (r13 : Bool) (r14 : Int × (List Val) × (List Str) × (List Rowd)) (r15 : Int × (List Val) × (List Str) × (List Rowd)) (r16 : Bool) (r17 : Int × (List Val) × (List Str) × (List Rowd)) (r18 : Int) (r19 r20 : Val) (r21 : Val × Bool) (r22 : Bool) (r23 : Int) : run tt (AbsCalls Try.prog) I6 3000 false [.code I6.body] ⟨(zBi 0 (xAt a0 a1)), [false, false, false, false, false, false, false, false, false, false, false, true], [xAe r1, xAe r2, xAa r3, xAa r4, xAp r5, xAa r6, xAa r7, xAw r8, xAb r9, xAa r10, xAb r11, xAa r12, xAb r13, xAg r14, xAg r15, xAb r16, xAg r17, xAk r18, xAa r19, xAa r20, xAx r21, xAb r22, xAk r23], []⟩ = some (.done (xAu false) [AbC 8 (xAl a0 1048576) (xAe r1), (decide ((r1 : Int) < 0)) = false, AbC 8 (xAl a1 r1) (xAe r2), (decide ((r2 : Int) < 0)) = false, AbC 10 (xAc a0) (xAa r3), AbC 10 (xAc a1) (xAa r4), AbC 19 (xAG r3 r4) (xAp r5), AbC 10 (xAc a0) (xAa r6), AbC 10 (xAc a1) (xAa r7), AbC 20 (xAr r6 r7) (xAw r8), AbC 12 (xAf r8.1 r5) (xAb r9), (!r9) = false, AbC 10 (xAc a0) (xAa r10), AbC 12 (xAf r6 r10) (xAb r11), (!r11) = false, AbC 10 (xAc a1) (xAa r12), AbC 12 (xAf r7 r12) (xAb r13), (!r13) = false, AbC 13 (xAm r6 1) (xAg r14), List.length r14.2.1 = List.length (Val.list r6), List.length r14.2.2.1 = List.length (Val.columns r6), List.length r14.2.2.2 = List.length (Val.rows r6), AbC 13 (xAm r7 r14.1) (xAg r15), List.length r15.2.1 = List.length (Val.list r7), List.length r15.2.2.1 = List.length (Val.columns r7), List.length r15.2.2.2 = List.length (Val.rows r7), (decide ((r15.1 : Int) < 0)) = false, AbC 12 (xAf r8.1 r5) (xAb r16), (!r16) = false, AbC 13 (xAm r8.1 1) (xAg r17), List.length r17.2.1 = List.length (Val.list r8.1), List.length r17.2.2.1 = List.length (Val.columns r8.1), List.length r17.2.2.2 = List.length (Val.rows r8.1), AbC 14 (xAy (Val.mk (Val.kind r8.1) (Val.n r8.1) (Val.step r8.1) (Val.text r8.1) r17.2.1 r17.2.2.1 r17.2.2.2) 1) (xAk r18), (decide ((r18 : Int) < 0)) = false, ((r18 : Int) != r17.1) = false, AbC 10 (xAc a0) (xAa r19), AbC 10 (xAc a1) (xAa r20), AbC 20 (xAr r19 r20) (xAx r21), AbC 12 (xAf (Val.mk (Val.kind r21.1) (Val.n r21.1) (Val.step r21.1) (Val.text r21.1) [] [] []) r5) (xAb r22), (!r22) = false, AbC 14 (xAy (Val.mk (Val.kind r8.1) (Val.n r8.1) (Val.step r8.1) (Val.text r8.1) r17.2.1 r17.2.2.1 r17.2.2.2) 1) (xAk r23), (decide ((r23 : Int) < 0)) = false, ((r23 : Int) != r17.1) = true]) := by kernel_rfl
theorem p6_e_27 (a0 a1 : Val) (r1 r2 : Int) (r3 r4 r5 r6 r7 : Val) (r8 : Val × Bool) (r9 : Bool) (r10 : Val) (r11 : Bool) (r12 : Val) (r13 : Bool) (r14 : Int × (List Val) × (List Str) × (List Rowd)) (r15 : Int × (List Val) × (List Str) × (List Rowd)) (r16 : Bool) (r17 : Int × (List Val) × (List Str) × (List Rowd)) (r18 : Int) (r19 r20 : Val) (r21 : Val × Bool) (r22 : Bool) (r23 : Int) : run tt (AbsCalls Try.prog) I6 3000 false [.code I6.body] ⟨(zBi 0 (xAt a0 a1)), [false, false, false, false, false, false, false, false, false, false, false, false], [xAe r1, xAe r2, xAa r3, xAa r4, xAp r5, xAa r6, xAa r7, xAw r8, xAb r9, xAa r10, xAb r11, xAa r12, xAb r13, xAg r14, xAg r15, xAb r16, xAg r17, xAk r18, xAa r19, xAa r20, xAx r21, xAb r22, xAk r23], []⟩ = some (.done (xAu true) [AbC 8 (xAl a0 1048576) (xAe r1), (decide ((r1 : Int) < 0)) = false, AbC 8 (xAl a1 r1) (xAe r2), (decide ((r2 : Int) < 0)) = false, AbC 10 (xAc a0) (xAa r3), AbC 10 (xAc a1) (xAa r4), AbC 19 (xAG r3 r4) (xAp r5), AbC 10 (xAc a0) (xAa r6), AbC 10 (xAc a1) (xAa r7), AbC 20 (xAr r6 r7) (xAw r8), AbC 12 (xAf r8.1 r5) (xAb r9), (!r9) = false, AbC 10 (xAc a0) (xAa r10), AbC 12 (xAf r6 r10) (xAb r11), (!r11) = false, AbC 10 (xAc a1) (xAa r12), AbC 12 (xAf r7 r12) (xAb r13), (!r13) = false, AbC 13 (xAm r6 1) (xAg r14), List.length r14.2.1 = List.length (Val.list r6), List.length r14.2.2.1 = List.length (Val.columns r6), List.length r14.2.2.2 = List.length (Val.rows r6), AbC 13 (xAm r7 r14.1) (xAg r15), List.length r15.2.1 = List.length (Val.list r7), List.length r15.2.2.1 = List.length (Val.columns r7), List.length r15.2.2.2 = List.length (Val.rows r7), (decide ((r15.1 : Int) < 0)) = false, AbC 12 (xAf r8.1 r5) (xAb r16), (!r16) = false, AbC 13 (xAm r8.1 1) (xAg r17), List.length r17.2.1 = List.length (Val.list r8.1), List.length r17.2.2.1 = List.length (Val.columns r8.1), List.length r17.2.2.2 = List.length (Val.rows r8.1), AbC 14 (xAy (Val.mk (Val.kind r8.1) (Val.n r8.1) (Val.step r8.1) (Val.text r8.1) r17.2.1 r17.2.2.1 r17.2.2.2) 1) (xAk r18), (decide ((r18 : Int) < 0)) = false, ((r18 : Int) != r17.1) = false, AbC 10 (xAc a0) (xAa r19), AbC 10 (xAc a1) (xAa r20), AbC 20 (xAr r19 r20) (xAx r21), AbC 12 (xAf (Val.mk (Val.kind r21.1) (Val.n r21.1) (Val.step r21.1) (Val.text r21.1) [] [] []) r5) (xAb r22), (!r22) = false, AbC 14 (xAy (Val.mk (Val.kind r8.1) (Val.n r8.1) (Val.step r8.1) (Val.text r8.1) r17.2.1 r17.2.2.1 r17.2.2.2) 1) (xAk r23), (decide ((r23 : Int) < 0)) = false, ((r23 : Int) != r17.1) = false]) := by kernel_rfl
theorem p6_e_28 (a0 a1 : Val) (r1 r2 : Int) (r3 r4 r5 r6 r7 : Val) (r8 : Val × Bool) (r9 : Bool) (r10 : Val) (r11 : Bool) (r12 : Val) (r13 : Bool) (r14 : Int × (List Val) × (List Str) × (List Rowd)) (r15 : Int × (List Val) × (List Str) × (List Rowd)) (r16 : Bool) (r17 : Int × (List Val) × (List Str) × (List Rowd)) (r18 : Int) (r19 r20 : Val) (r21 : Val × Bool) (r22 : Bool) : run tt (AbsCalls Try.prog) I6 3000 false [.code I6.body] ⟨(zBi 0 (xAt a0 a1)), [false, false, false, false, false, false, false, false, false, true], [xAe r1, xAe r2, xAa r3, xAa r4, xAp r5, xAa r6, xAa r7, xAw r8, xAb r9, xAa r10, xAb r11, xAa r12, xAb r13, xAg r14, xAg r15, xAb r16, xAg r17, xAk r18, xAa r19, xAa r20, xAw r21, xAb r22], []⟩ = some (.done (xAu false) [AbC 8 (xAl a0 1048576) (xAe r1), (decide ((r1 : Int) < 0)) = false, AbC 8 (xAl a1 r1) (xAe r2), (decide ((r2 : Int) < 0)) = false, AbC 10 (xAc a0) (xAa r3), AbC 10 (xAc a1) (xAa r4), AbC 19 (xAG r3 r4) (xAp r5), AbC 10 (xAc a0) (xAa r6), AbC 10 (xAc a1) (xAa r7), AbC 20 (xAr r6 r7) (xAw r8), AbC 12 (xAf r8.1 r5) (xAb r9), (!r9) = false, AbC 10 (xAc a0) (xAa r10), AbC 12 (xAf r6 r10) (xAb r11), (!r11) = false, AbC 10 (xAc a1) (xAa r12), AbC 12 (xAf r7 r12) (xAb r13), (!r13) = false, AbC 13 (xAm r6 1) (xAg r14), List.length r14.2.1 = List.length (Val.list r6), List.length r14.2.2.1 = List.length (Val.columns r6), List.length r14.2.2.2 = List.length (Val.rows r6), AbC 13 (xAm r7 r14.1) (xAg r15), List.length r15.2.1 = List.length (Val.list r7), List.length r15.2.2.1 = List.length (Val.columns r7), List.length r15.2.2.2 = List.length (Val.rows r7), (decide ((r15.1 : Int) < 0)) = false, AbC 12 (xAf r8.1 r5) (xAb r16), (!r16) = false, AbC 13 (xAm r8.1 1) (xAg r17), List.length r17.2.1 = List.length (Val.list r8.1), List.length r17.2.2.1 = List.length (Val.columns r8.1), List.length r17.2.2.2 = List.length (Val.rows r8.1), AbC 14 (xAy (Val.mk (Val.kind r8.1) (Val.n r8.1) (Val.step r8.1) (Val.text r8.1) r17.2.1 r17.2.2.1 r17.2.2.2) 1) (xAk r18), (decide ((r18 : Int) < 0)) = false, ((r18 : Int) != r17.1) = false, AbC 10 (xAc a0) (xAa r19), AbC 10 (xAc a1) (xAa r20), AbC 20 (xAr r19 r20) (xAw r21), AbC 12 (xAf r21.1 r5) (xAb r22), (!r22) = true]) := by kernel_rfl
theorem p6_e_29 (a0 a1 : Val) (r1 r2 : Int) (r3 r4 r5 r6 r7 : Val) (r8 : Val × Bool) (r9 : Bool) (r10 : Val) (r11 : Bool) (r12 : Val) (r13 : Bool) (r14 : Int × (List Val) × (List Str) × (List Rowd)) (r15 : Int × (List Val) × (List Str) × (List Rowd)) (r16 : Bool) (r17 : Int × (List Val) × (List Str) × (List Rowd)) (r18 : Int) (r19 r20 : Val) (r21 : Val × Bool) (r22 : Bool) (r23 : Int) : run tt (AbsCalls Try.prog) I6 3000 false [.code I6.body] ⟨(zBi 0 (xAt a0 a1)), [false, false, false, false, false, false, false, false, false, false, true], [xAe r1, xAe r2, xAa r3, xAa r4, xAp r5, xAa r6, xAa r7, xAw r8, xAb r9, xAa r10, xAb r11, xAa r12, xAb r13, xAg r14, xAg r15, xAb r16, xAg r17, xAk r18, xAa r19, xAa r20, xAw r21, xAb r22, xAk r23], []⟩ = some (.done (xAu false) [AbC 8 (xAl a0 1048576) (xAe r1), (decide ((r1 : Int) < 0)) = false, AbC 8 (xAl a1 r1) (xAe r2), (decide ((r2 : Int) < 0)) = false, AbC 10 (xAc a0) (xAa r3), AbC 10 (xAc a1) (xAa r4), AbC 19 (xAG r3 r4) (xAp r5), AbC 10 (xAc a0) (xAa r6), AbC 10 (xAc a1) (xAa r7), AbC 20 (xAr r6 r7) (xAw r8), AbC 12 (xAf r8.1 r5) (xAb r9), (!r9) = false, AbC 10 (xAc a0) (xAa r10), AbC 12 (xAf r6 r10) (xAb r11), (!r11) = false, AbC 10 (xAc a1) (xAa r12), AbC 12 (xAf r7 r12) (xAb r13), (!r13) = false, AbC 13 (xAm r6 1) (xAg r14), List.length r14.2.1 = List.length (Val.list r6), List.length r14.2.2.1 = List.length (Val.columns r6), List.length r14.2.2.2 = List.length (Val.rows r6), AbC 13 (xAm r7 r14.1) (xAg r15), List.length r15.2.1 = List.length (Val.list r7), List.length r15.2.2.1 = List.length (Val.columns r7), List.length r15.2.2.2 = List.length (Val.rows r7), (decide ((r15.1 : Int) < 0)) = false, AbC 12 (xAf r8.1 r5) (xAb r16), (!r16) = false, AbC 13 (xAm r8.1 1) (xAg r17), List.length r17.2.1 = List.length (Val.list r8.1), List.length r17.2.2.1 = List.length (Val.columns r8.1), List.length r17.2.2.2 = List.length (Val.rows r8.1), AbC 14 (xAy (Val.mk (Val.kind r8.1) (Val.n r8.1) (Val.step r8.1) (Val.text r8.1) r17.2.1 r17.2.2.1 r17.2.2.2) 1) (xAk r18), (decide ((r18 : Int) < 0)) = false, ((r18 : Int) != r17.1) = false, AbC 10 (xAc a0) (xAa r19), AbC 10 (xAc a1) (xAa r20), AbC 20 (xAr r19 r20) (xAw r21), AbC 12 (xAf r21.1 r5) (xAb r22), (!r22) = false, AbC 14 (xAy (Val.mk (Val.kind r8.1) (Val.n r8.1) (Val.step r8.1) (Val.text r8.1) r17.2.1 r17.2.2.1 r17.2.2.2) 1) (xAk r23), (decide ((r23 : Int) < 0)) = true]) := by kernel_rfl
theorem p6_e_30 (a0 a1 : Val) (r1 r2 : Int) (r3 r4 r5 r6 r7 : Val) (r8 : Val × Bool) (r9 : Bool) (r10 : Val) (r11 : Bool) (r12 : Val) (r13 : Bool) (r14 : Int × (List Val) × (List Str) × (List Rowd)) (r15 : Int × (List Val) × (List Str) × (List Rowd)) (r16 : Bool) (r17 : Int × (List Val) × (List Str) × (List Rowd)) (r18 : Int) (r19 r20 : Val) (r21 : Val × Bool) (r22 : Bool) (r23 : Int) : run tt (AbsCalls Try.prog) I6 3000 false [.code I6.body] ⟨(zBi 0 (xAt a0 a1)), [false, false, false, false, false, false, false, false, false, false, false, true], [xAe r1, xAe r2, xAa r3, xAa r4, xAp r5, xAa r6, xAa r7, xAw r8, xAb r9, xAa r10, xAb r11, xAa r12, xAb r13, xAg r14, xAg r15, xAb r16, xAg r17, xAk r18, xAa r19, xAa r20, xAw r21, xAb r22, xAk r23], []⟩ = some (.done (xAu false) [AbC 8 (xAl a0 1048576) (xAe r1), (decide ((r1 : Int) < 0)) = false, AbC 8 (xAl a1 r1) (xAe r2), (decide ((r2 : Int) < 0)) = false, AbC 10 (xAc a0) (xAa r3), AbC 10 (xAc a1) (xAa r4), AbC 19 (xAG r3 r4) (xAp r5), AbC 10 (xAc a0) (xAa r6), AbC 10 (xAc a1) (xAa r7), AbC 20 (xAr r6 r7) (xAw r8), AbC 12 (xAf r8.1 r5) (xAb r9), (!r9) = false, AbC 10 (xAc a0) (xAa r10), AbC 12 (xAf r6 r10) (xAb r11), (!r11) = false, AbC 10 (xAc a1) (xAa r12), AbC 12 (xAf r7 r12) (xAb r13), (!r13) = false, AbC 13 (xAm r6 1) (xAg r14), List.length r14.2.1 = List.length (Val.list r6), List.length r14.2.2.1 = List.length (Val.columns r6), List.length r14.2.2.2 = List.length (Val.rows r6), AbC 13 (xAm r7 r14.1) (xAg r15), List.length r15.2.1 = List.length (Val.list r7), List.length r15.2.2.1 = List.length (Val.columns r7), List.length r15.2.2.2 = List.length (Val.rows r7), (decide ((r15.1 : Int) < 0)) = false, AbC 12 (xAf r8.1 r5) (xAb r16), (!r16) = false, AbC 13 (xAm r8.1 1) (xAg r17), List.length r17.2.1 = List.length (Val.list r8.1), List.length r17.2.2.1 = List.length (Val.columns r8.1), List.length r17.2.2.2 = List.length (Val.rows r8.1), AbC 14 (xAy (Val.mk (Val.kind r8.1) (Val.n r8.1) (Val.step r8.1) (Val.text r8.1) r17.2.1 r17.2.2.1 r17.2.2.2) 1) (xAk r18), (decide ((r18 : Int) < 0)) = false, ((r18 : Int) != r17.1) = false, AbC 10 (xAc a0) (xAa r19), AbC 10 (xAc a1) (xAa r20), AbC 20 (xAr r19 r20) (xAw r21), AbC 12 (xAf r21.1 r5) (xAb r22), (!r22) = false, AbC 14 (xAy (Val.mk (Val.kind r8.1) (Val.n r8.1) (Val.step r8.1) (Val.text r8.1) r17.2.1 r17.2.2.1 r17.2.2.2) 1) (xAk r23), (decide ((r23 : Int) < 0)) = false, ((r23 : Int) != r17.1) = true]) := by kernel_rfl
theorem p6_e_31 (a0 a1 : Val) (r1 r2 : Int) (r3 r4 r5 r6 r7 : Val) (r8 : Val × Bool) (r9 : Bool) (r10 : Val) (r11 : Bool) (r12 : Val) (r13 : Bool) (r14 : Int × (List Val) × (List Str) × (List Rowd)) (r15 : Int × (List Val) × (List Str) × (List Rowd)) (r16 : Bool) (r17 : Int × (List Val) × (List Str) × (List Rowd)) (r18 : Int) (r19 r20 : Val) (r21 : Val × Bool) (r22 : Bool) (r23 : Int) : run tt (AbsCalls Try.prog) I6 3000 false [.code I6.body] ⟨(zBi 0 (xAt a0 a1)), [false, false, false, false, false, false, false, false, false, false, false, false], [xAe r1, xAe r2, xAa r3, xAa r4, xAp r5, xAa r6, xAa r7, xAw r8, xAb r9, xAa r10, xAb r11, xAa r12, xAb r13, xAg r14, xAg r15, xAb r16, xAg r17, xAk r18, xAa r19, xAa r20, xAw r21, xAb r22, xAk r23], []⟩ = some (.done (xAu true) [AbC 8 (xAl a0 1048576) (xAe r1), (decide ((r1 : Int) < 0)) = false, AbC 8 (xAl a1 r1) (xAe r2), (decide ((r2 : Int) < 0)) = false, AbC 10 (xAc a0) (xAa r3), AbC 10 (xAc a1) (xAa r4), AbC 19 (xAG r3 r4) (xAp r5), AbC 10 (xAc a0) (xAa r6), AbC 10 (xAc a1) (xAa r7), AbC 20 (xAr r6 r7) (xAw r8), AbC 12 (xAf r8.1 r5) (xAb r9), (!r9) = false, AbC 10 (xAc a0) (xAa r10), AbC 12 (xAf r6 r10) (xAb r11), (!r11) = false, AbC 10 (xAc a1) (xAa r12), AbC 12 (xAf r7 r12) (xAb r13), (!r13) = false, AbC 13 (xAm r6 1) (xAg r14), List.length r14.2.1 = List.length (Val.list r6), List.length r14.2.2.1 = List.length (Val.columns r6), List.length r14.2.2.2 = List.length (Val.rows r6), AbC 13 (xAm r7 r14.1) (xAg r15), List.length r15.2.1 = List.length (Val.list r7), List.length r15.2.2.1 = List.length (Val.columns r7), List.length r15.2.2.2 = List.length (Val.rows r7), (decide ((r15.1 : Int) < 0)) = false, AbC 12 (xAf r8.1 r5) (xAb r16), (!r16) = false, AbC 13 (xAm r8.1 1) (xAg r17), List.length r17.2.1 = List.length (Val.list r8.1), List.length r17.2.2.1 = List.length (Val.columns r8.1), List.length r17.2.2.2 = List.length (Val.rows r8.1), AbC 14 (xAy (Val.mk (Val.kind r8.1) (Val.n r8.1) (Val.step r8.1) (Val.text r8.1) r17.2.1 r17.2.2.1 r17.2.2.2) 1) (xAk r18), (decide ((r18 : Int) < 0)) = false, ((r18 : Int) != r17.1) = false, AbC 10 (xAc a0) (xAa r19), AbC 10 (xAc a1) (xAa r20), AbC 20 (xAr r19 r20) (xAw r21), AbC 12 (xAf r21.1 r5) (xAb r22), (!r22) = false, AbC 14 (xAy (Val.mk (Val.kind r8.1) (Val.n r8.1) (Val.step r8.1) (Val.text r8.1) r17.2.1 r17.2.2.1 r17.2.2.2) 1) (xAk r23), (decide ((r23 : Int) < 0)) = false, ((r23 : Int) != r17.1) = false]) := by kernel_rfl
theorem c6_e {N : Nat} : ∀ a0 a1 r, xFr N a0 a1 = some r → Reach Try.prog Try.f6 I6 [.code I6.body] (zBi 0 (xAt a0 a1)) (xAu r) := by
 intro a0 a1 r h
 unfold xFr at h
 obtain ⟨r1, h0, h⟩ := bind_inv h
 rcases cond_inv h with ⟨h1, h⟩ | ⟨h1, h⟩
 ·obtain rfl := Option.some.inj h
  exact Reach.done ttok mix fk6 (p6_e_0 a0 a1 r1) (obs_cons (xAo h0) (obs_cons h1 obs_nil))
 ·obtain ⟨r2, h2, h⟩ := bind_inv h
  rcases cond_inv h with ⟨h3, h⟩ | ⟨h3, h⟩
  ·obtain rfl := Option.some.inj h
   exact Reach.done ttok mix fk6 (p6_e_1 a0 a1 r1 r2) (obs_cons (xAo h0) (obs_cons h1 (obs_cons (xAo h2) (obs_cons h3 obs_nil))))
  ·obtain ⟨r3, h4, h⟩ := bind_inv h
   obtain ⟨r4, h5, h⟩ := bind_inv h
   obtain ⟨r5, h6, h⟩ := bind_inv h
   obtain ⟨r6, h7, h⟩ := bind_inv h
   obtain ⟨r7, h8, h⟩ := bind_inv h
   obtain ⟨r8, h9, h⟩ := bind_inv h
   rcases cond_inv h with ⟨h10, h⟩ | ⟨h10, h⟩
   ·obtain ⟨h11, h⟩ := ite_inv h
    obtain ⟨h12, h⟩ := ite_inv h
    obtain ⟨h13, h⟩ := ite_inv h
    obtain ⟨r9, h14, h⟩ := bind_inv h
    rcases cond_inv h with ⟨h15, h⟩ | ⟨h15, h⟩
    ·obtain rfl := Option.some.inj h
     exact Reach.done ttok mix fk6 (p6_e_2 a0 a1 r1 r2 r3 r4 r5 r6 r7 r8 r9) (obs_cons (xAo h0) (obs_cons h1 (obs_cons (xAo h2) (obs_cons h3 (obs_cons (xAd h4) (obs_cons (xAd h5) (obs_cons (xAN h6) (obs_cons (xAd h7) (obs_cons (xAd h8) (obs_cons (xAT (xAz h9) h10 h11 h12 h13) (obs_cons (xAh h14) (obs_cons h15 obs_nil))))))))))))
    ·obtain ⟨r10, h16, h⟩ := bind_inv h
     obtain ⟨r11, h17, h⟩ := bind_inv h
     rcases cond_inv h with ⟨h18, h⟩ | ⟨h18, h⟩
     ·obtain rfl := Option.some.inj h
      exact Reach.done ttok mix fk6 (p6_e_3 a0 a1 r1 r2 r3 r4 r5 r6 r7 r8 r9 r10 r11) (obs_cons (xAo h0) (obs_cons h1 (obs_cons (xAo h2) (obs_cons h3 (obs_cons (xAd h4) (obs_cons (xAd h5) (obs_cons (xAN h6) (obs_cons (xAd h7) (obs_cons (xAd h8) (obs_cons (xAT (xAz h9) h10 h11 h12 h13) (obs_cons (xAh h14) (obs_cons h15 (obs_cons (xAd h16) (obs_cons (xAh h17) (obs_cons h18 obs_nil)))))))))))))))
     ·obtain ⟨r12, h19, h⟩ := bind_inv h
      obtain ⟨r13, h20, h⟩ := bind_inv h
      rcases cond_inv h with ⟨h21, h⟩ | ⟨h21, h⟩
      ·obtain rfl := Option.some.inj h
       exact Reach.done ttok mix fk6 (p6_e_4 a0 a1 r1 r2 r3 r4 r5 r6 r7 r8 r9 r10 r11 r12 r13) (obs_cons (xAo h0) (obs_cons h1 (obs_cons (xAo h2) (obs_cons h3 (obs_cons (xAd h4) (obs_cons (xAd h5) (obs_cons (xAN h6) (obs_cons (xAd h7) (obs_cons (xAd h8) (obs_cons (xAT (xAz h9) h10 h11 h12 h13) (obs_cons (xAh h14) (obs_cons h15 (obs_cons (xAd h16) (obs_cons (xAh h17) (obs_cons h18 (obs_cons (xAd h19) (obs_cons (xAh h20) (obs_cons h21 obs_nil))))))))))))))))))
      ·obtain ⟨r14, h22, h⟩ := bind_inv h
       obtain ⟨h23, h⟩ := ite_inv h
       obtain ⟨h24, h⟩ := ite_inv h
       obtain ⟨h25, h⟩ := ite_inv h
       obtain ⟨r15, h26, h⟩ := bind_inv h
       obtain ⟨h27, h⟩ := ite_inv h
       obtain ⟨h28, h⟩ := ite_inv h
       obtain ⟨h29, h⟩ := ite_inv h
       rcases cond_inv h with ⟨h30, h⟩ | ⟨h30, h⟩
       ·obtain rfl := Option.some.inj h
        exact Reach.done ttok mix fk6 (p6_e_5 a0 a1 r1 r2 r3 r4 r5 r6 r7 r8 r9 r10 r11 r12 r13 r14 r15) (obs_cons (xAo h0) (obs_cons h1 (obs_cons (xAo h2) (obs_cons h3 (obs_cons (xAd h4) (obs_cons (xAd h5) (obs_cons (xAN h6) (obs_cons (xAd h7) (obs_cons (xAd h8) (obs_cons (xAT (xAz h9) h10 h11 h12 h13) (obs_cons (xAh h14) (obs_cons h15 (obs_cons (xAd h16) (obs_cons (xAh h17) (obs_cons h18 (obs_cons (xAd h19) (obs_cons (xAh h20) (obs_cons h21 (obs_cons (xAn h22) (obs_cons h23 (obs_cons h24 (obs_cons h25 (obs_cons (xAn h26) (obs_cons h27 (obs_cons h28 (obs_cons h29 (obs_cons h30 (obs_cons rfl obs_nil))))))))))))))))))))))))))))
       ·obtain ⟨r16, h31, h⟩ := bind_inv h
        rcases cond_inv h with ⟨h32, h⟩ | ⟨h32, h⟩
        ·obtain rfl := Option.some.inj h
         exact Reach.done ttok mix fk6 (p6_e_6 a0 a1 r1 r2 r3 r4 r5 r6 r7 r8 r9 r10 r11 r12 r13 r14 r15 r16) (obs_cons (xAo h0) (obs_cons h1 (obs_cons (xAo h2) (obs_cons h3 (obs_cons (xAd h4) (obs_cons (xAd h5) (obs_cons (xAN h6) (obs_cons (xAd h7) (obs_cons (xAd h8) (obs_cons (xAT (xAz h9) h10 h11 h12 h13) (obs_cons (xAh h14) (obs_cons h15 (obs_cons (xAd h16) (obs_cons (xAh h17) (obs_cons h18 (obs_cons (xAd h19) (obs_cons (xAh h20) (obs_cons h21 (obs_cons (xAn h22) (obs_cons h23 (obs_cons h24 (obs_cons h25 (obs_cons (xAn h26) (obs_cons h27 (obs_cons h28 (obs_cons h29 (obs_cons h30 (obs_cons (xAh h31) (obs_cons h32 obs_nil)))))))))))))))))))))))))))))
        ·obtain ⟨r17, h33, h⟩ := bind_inv h
         obtain ⟨r18, h34, h⟩ := bind_inv h
         rcases cond_inv h with ⟨h35, h⟩ | ⟨h35, h⟩
         ·obtain rfl := Option.some.inj h
          exact Reach.done ttok mix fk6 (p6_e_7 a0 a1 r1 r2 r3 r4 r5 r6 r7 r8 r9 r10 r11 r12 r13 r14 r15 r16 r17 r18) (obs_cons (xAo h0) (obs_cons h1 (obs_cons (xAo h2) (obs_cons h3 (obs_cons (xAd h4) (obs_cons (xAd h5) (obs_cons (xAN h6) (obs_cons (xAd h7) (obs_cons (xAd h8) (obs_cons (xAT (xAz h9) h10 h11 h12 h13) (obs_cons (xAh h14) (obs_cons h15 (obs_cons (xAd h16) (obs_cons (xAh h17) (obs_cons h18 (obs_cons (xAd h19) (obs_cons (xAh h20) (obs_cons h21 (obs_cons (xAn h22) (obs_cons h23 (obs_cons h24 (obs_cons h25 (obs_cons (xAn h26) (obs_cons h27 (obs_cons h28 (obs_cons h29 (obs_cons h30 (obs_cons (xAh h31) (obs_cons h32 (obs_cons (xBK h33) (obs_cons (xAE h34) (obs_cons h35 obs_nil))))))))))))))))))))))))))))))))
         ·rcases cond_inv h with ⟨h36, h⟩ | ⟨h36, h⟩
          ·obtain rfl := Option.some.inj h
           exact Reach.done ttok mix fk6 (p6_e_8 a0 a1 r1 r2 r3 r4 r5 r6 r7 r8 r9 r10 r11 r12 r13 r14 r15 r16 r17 r18) (obs_cons (xAo h0) (obs_cons h1 (obs_cons (xAo h2) (obs_cons h3 (obs_cons (xAd h4) (obs_cons (xAd h5) (obs_cons (xAN h6) (obs_cons (xAd h7) (obs_cons (xAd h8) (obs_cons (xAT (xAz h9) h10 h11 h12 h13) (obs_cons (xAh h14) (obs_cons h15 (obs_cons (xAd h16) (obs_cons (xAh h17) (obs_cons h18 (obs_cons (xAd h19) (obs_cons (xAh h20) (obs_cons h21 (obs_cons (xAn h22) (obs_cons h23 (obs_cons h24 (obs_cons h25 (obs_cons (xAn h26) (obs_cons h27 (obs_cons h28 (obs_cons h29 (obs_cons h30 (obs_cons (xAh h31) (obs_cons h32 (obs_cons (xBK h33) (obs_cons (xAE h34) (obs_cons h35 (obs_cons h36 obs_nil)))))))))))))))))))))))))))))))))
          ·obtain ⟨r19, h37, h⟩ := bind_inv h
           obtain ⟨r20, h38, h⟩ := bind_inv h
           obtain ⟨r21, h39, h⟩ := bind_inv h
           rcases cond_inv h with ⟨h40, h⟩ | ⟨h40, h⟩
           ·obtain ⟨h41, h⟩ := ite_inv h
            obtain ⟨h42, h⟩ := ite_inv h
            obtain ⟨h43, h⟩ := ite_inv h
            obtain ⟨r22, h44, h⟩ := bind_inv h
            rcases cond_inv h with ⟨h45, h⟩ | ⟨h45, h⟩
            ·obtain rfl := Option.some.inj h
             exact Reach.done ttok mix fk6 (p6_e_9 a0 a1 r1 r2 r3 r4 r5 r6 r7 r8 r9 r10 r11 r12 r13 r14 r15 r16 r17 r18 r19 r20 r21 r22) (obs_cons (xAo h0) (obs_cons h1 (obs_cons (xAo h2) (obs_cons h3 (obs_cons (xAd h4) (obs_cons (xAd h5) (obs_cons (xAN h6) (obs_cons (xAd h7) (obs_cons (xAd h8) (obs_cons (xAT (xAz h9) h10 h11 h12 h13) (obs_cons (xAh h14) (obs_cons h15 (obs_cons (xAd h16) (obs_cons (xAh h17) (obs_cons h18 (obs_cons (xAd h19) (obs_cons (xAh h20) (obs_cons h21 (obs_cons (xAn h22) (obs_cons h23 (obs_cons h24 (obs_cons h25 (obs_cons (xAn h26) (obs_cons h27 (obs_cons h28 (obs_cons h29 (obs_cons h30 (obs_cons (xAh h31) (obs_cons h32 (obs_cons (xBK h33) (obs_cons (xAE h34) (obs_cons h35 (obs_cons h36 (obs_cons (xAd h37) (obs_cons (xAd h38) (obs_cons (xAT (xAz h39) h40 h41 h42 h43) (obs_cons (xAh h44) (obs_cons h45 obs_nil))))))))))))))))))))))))))))))))))))))
            ·obtain ⟨r23, h46, h⟩ := bind_inv h
             rcases cond_inv h with ⟨h47, h⟩ | ⟨h47, h⟩
             ·obtain rfl := Option.some.inj h
              exact Reach.done ttok mix fk6 (p6_e_10 a0 a1 r1 r2 r3 r4 r5 r6 r7 r8 r9 r10 r11 r12 r13 r14 r15 r16 r17 r18 r19 r20 r21 r22 r23) (obs_cons (xAo h0) (obs_cons h1 (obs_cons (xAo h2) (obs_cons h3 (obs_cons (xAd h4) (obs_cons (xAd h5) (obs_cons (xAN h6) (obs_cons (xAd h7) (obs_cons (xAd h8) (obs_cons (xAT (xAz h9) h10 h11 h12 h13) (obs_cons (xAh h14) (obs_cons h15 (obs_cons (xAd h16) (obs_cons (xAh h17) (obs_cons h18 (obs_cons (xAd h19) (obs_cons (xAh h20) (obs_cons h21 (obs_cons (xAn h22) (obs_cons h23 (obs_cons h24 (obs_cons h25 (obs_cons (xAn h26) (obs_cons h27 (obs_cons h28 (obs_cons h29 (obs_cons h30 (obs_cons (xAh h31) (obs_cons h32 (obs_cons (xBK h33) (obs_cons (xAE h34) (obs_cons h35 (obs_cons h36 (obs_cons (xAd h37) (obs_cons (xAd h38) (obs_cons (xAT (xAz h39) h40 h41 h42 h43) (obs_cons (xAh h44) (obs_cons h45 (obs_cons (xAE h46) (obs_cons h47 obs_nil))))))))))))))))))))))))))))))))))))))))
             ·rcases cond_inv h with ⟨h48, h⟩ | ⟨h48, h⟩
              ·obtain rfl := Option.some.inj h
               exact Reach.done ttok mix fk6 (p6_e_11 a0 a1 r1 r2 r3 r4 r5 r6 r7 r8 r9 r10 r11 r12 r13 r14 r15 r16 r17 r18 r19 r20 r21 r22 r23) (obs_cons (xAo h0) (obs_cons h1 (obs_cons (xAo h2) (obs_cons h3 (obs_cons (xAd h4) (obs_cons (xAd h5) (obs_cons (xAN h6) (obs_cons (xAd h7) (obs_cons (xAd h8) (obs_cons (xAT (xAz h9) h10 h11 h12 h13) (obs_cons (xAh h14) (obs_cons h15 (obs_cons (xAd h16) (obs_cons (xAh h17) (obs_cons h18 (obs_cons (xAd h19) (obs_cons (xAh h20) (obs_cons h21 (obs_cons (xAn h22) (obs_cons h23 (obs_cons h24 (obs_cons h25 (obs_cons (xAn h26) (obs_cons h27 (obs_cons h28 (obs_cons h29 (obs_cons h30 (obs_cons (xAh h31) (obs_cons h32 (obs_cons (xBK h33) (obs_cons (xAE h34) (obs_cons h35 (obs_cons h36 (obs_cons (xAd h37) (obs_cons (xAd h38) (obs_cons (xAT (xAz h39) h40 h41 h42 h43) (obs_cons (xAh h44) (obs_cons h45 (obs_cons (xAE h46) (obs_cons h47 (obs_cons h48 obs_nil)))))))))))))))))))))))))))))))))))))))))
              ·obtain rfl := Option.some.inj h
               exact Reach.done ttok mix fk6 (p6_e_12 a0 a1 r1 r2 r3 r4 r5 r6 r7 r8 r9 r10 r11 r12 r13 r14 r15 r16 r17 r18 r19 r20 r21 r22 r23) (obs_cons (xAo h0) (obs_cons h1 (obs_cons (xAo h2) (obs_cons h3 (obs_cons (xAd h4) (obs_cons (xAd h5) (obs_cons (xAN h6) (obs_cons (xAd h7) (obs_cons (xAd h8) (obs_cons (xAT (xAz h9) h10 h11 h12 h13) (obs_cons (xAh h14) (obs_cons h15 (obs_cons (xAd h16) (obs_cons (xAh h17) (obs_cons h18 (obs_cons (xAd h19) (obs_cons (xAh h20) (obs_cons h21 (obs_cons (xAn h22) (obs_cons h23 (obs_cons h24 (obs_cons h25 (obs_cons (xAn h26) (obs_cons h27 (obs_cons h28 (obs_cons h29 (obs_cons h30 (obs_cons (xAh h31) (obs_cons h32 (obs_cons (xBK h33) (obs_cons (xAE h34) (obs_cons h35 (obs_cons h36 (obs_cons (xAd h37) (obs_cons (xAd h38) (obs_cons (xAT (xAz h39) h40 h41 h42 h43) (obs_cons (xAh h44) (obs_cons h45 (obs_cons (xAE h46) (obs_cons h47 (obs_cons h48 obs_nil)))))))))))))))))))))))))))))))))))))))))
           ·obtain ⟨r22, h41, h⟩ := bind_inv h
            rcases cond_inv h with ⟨h42, h⟩ | ⟨h42, h⟩
            ·obtain rfl := Option.some.inj h
             exact Reach.done ttok mix fk6 (p6_e_13 a0 a1 r1 r2 r3 r4 r5 r6 r7 r8 r9 r10 r11 r12 r13 r14 r15 r16 r17 r18 r19 r20 r21 r22) (obs_cons (xAo h0) (obs_cons h1 (obs_cons (xAo h2) (obs_cons h3 (obs_cons (xAd h4) (obs_cons (xAd h5) (obs_cons (xAN h6) (obs_cons (xAd h7) (obs_cons (xAd h8) (obs_cons (xAT (xAz h9) h10 h11 h12 h13) (obs_cons (xAh h14) (obs_cons h15 (obs_cons (xAd h16) (obs_cons (xAh h17) (obs_cons h18 (obs_cons (xAd h19) (obs_cons (xAh h20) (obs_cons h21 (obs_cons (xAn h22) (obs_cons h23 (obs_cons h24 (obs_cons h25 (obs_cons (xAn h26) (obs_cons h27 (obs_cons h28 (obs_cons h29 (obs_cons h30 (obs_cons (xAh h31) (obs_cons h32 (obs_cons (xBK h33) (obs_cons (xAE h34) (obs_cons h35 (obs_cons h36 (obs_cons (xAd h37) (obs_cons (xAd h38) (obs_cons (xAU (xAz h39) h40) (obs_cons (xAh h41) (obs_cons h42 obs_nil))))))))))))))))))))))))))))))))))))))
            ·obtain ⟨r23, h43, h⟩ := bind_inv h
             rcases cond_inv h with ⟨h44, h⟩ | ⟨h44, h⟩
             ·obtain rfl := Option.some.inj h
              exact Reach.done ttok mix fk6 (p6_e_14 a0 a1 r1 r2 r3 r4 r5 r6 r7 r8 r9 r10 r11 r12 r13 r14 r15 r16 r17 r18 r19 r20 r21 r22 r23) (obs_cons (xAo h0) (obs_cons h1 (obs_cons (xAo h2) (obs_cons h3 (obs_cons (xAd h4) (obs_cons (xAd h5) (obs_cons (xAN h6) (obs_cons (xAd h7) (obs_cons (xAd h8) (obs_cons (xAT (xAz h9) h10 h11 h12 h13) (obs_cons (xAh h14) (obs_cons h15 (obs_cons (xAd h16) (obs_cons (xAh h17) (obs_cons h18 (obs_cons (xAd h19) (obs_cons (xAh h20) (obs_cons h21 (obs_cons (xAn h22) (obs_cons h23 (obs_cons h24 (obs_cons h25 (obs_cons (xAn h26) (obs_cons h27 (obs_cons h28 (obs_cons h29 (obs_cons h30 (obs_cons (xAh h31) (obs_cons h32 (obs_cons (xBK h33) (obs_cons (xAE h34) (obs_cons h35 (obs_cons h36 (obs_cons (xAd h37) (obs_cons (xAd h38) (obs_cons (xAU (xAz h39) h40) (obs_cons (xAh h41) (obs_cons h42 (obs_cons (xAE h43) (obs_cons h44 obs_nil))))))))))))))))))))))))))))))))))))))))
             ·rcases cond_inv h with ⟨h45, h⟩ | ⟨h45, h⟩
              ·obtain rfl := Option.some.inj h
               exact Reach.done ttok mix fk6 (p6_e_15 a0 a1 r1 r2 r3 r4 r5 r6 r7 r8 r9 r10 r11 r12 r13 r14 r15 r16 r17 r18 r19 r20 r21 r22 r23) (obs_cons (xAo h0) (obs_cons h1 (obs_cons (xAo h2) (obs_cons h3 (obs_cons (xAd h4) (obs_cons (xAd h5) (obs_cons (xAN h6) (obs_cons (xAd h7) (obs_cons (xAd h8) (obs_cons (xAT (xAz h9) h10 h11 h12 h13) (obs_cons (xAh h14) (obs_cons h15 (obs_cons (xAd h16) (obs_cons (xAh h17) (obs_cons h18 (obs_cons (xAd h19) (obs_cons (xAh h20) (obs_cons h21 (obs_cons (xAn h22) (obs_cons h23 (obs_cons h24 (obs_cons h25 (obs_cons (xAn h26) (obs_cons h27 (obs_cons h28 (obs_cons h29 (obs_cons h30 (obs_cons (xAh h31) (obs_cons h32 (obs_cons (xBK h33) (obs_cons (xAE h34) (obs_cons h35 (obs_cons h36 (obs_cons (xAd h37) (obs_cons (xAd h38) (obs_cons (xAU (xAz h39) h40) (obs_cons (xAh h41) (obs_cons h42 (obs_cons (xAE h43) (obs_cons h44 (obs_cons h45 obs_nil)))))))))))))))))))))))))))))))))))))))))
              ·obtain rfl := Option.some.inj h
               exact Reach.done ttok mix fk6 (p6_e_16 a0 a1 r1 r2 r3 r4 r5 r6 r7 r8 r9 r10 r11 r12 r13 r14 r15 r16 r17 r18 r19 r20 r21 r22 r23) (obs_cons (xAo h0) (obs_cons h1 (obs_cons (xAo h2) (obs_cons h3 (obs_cons (xAd h4) (obs_cons (xAd h5) (obs_cons (xAN h6) (obs_cons (xAd h7) (obs_cons (xAd h8) (obs_cons (xAT (xAz h9) h10 h11 h12 h13) (obs_cons (xAh h14) (obs_cons h15 (obs_cons (xAd h16) (obs_cons (xAh h17) (obs_cons h18 (obs_cons (xAd h19) (obs_cons (xAh h20) (obs_cons h21 (obs_cons (xAn h22) (obs_cons h23 (obs_cons h24 (obs_cons h25 (obs_cons (xAn h26) (obs_cons h27 (obs_cons h28 (obs_cons h29 (obs_cons h30 (obs_cons (xAh h31) (obs_cons h32 (obs_cons (xBK h33) (obs_cons (xAE h34) (obs_cons h35 (obs_cons h36 (obs_cons (xAd h37) (obs_cons (xAd h38) (obs_cons (xAU (xAz h39) h40) (obs_cons (xAh h41) (obs_cons h42 (obs_cons (xAE h43) (obs_cons h44 (obs_cons h45 obs_nil)))))))))))))))))))))))))))))))))))))))))
   ·obtain ⟨r9, h11, h⟩ := bind_inv h
    rcases cond_inv h with ⟨h12, h⟩ | ⟨h12, h⟩
    ·obtain rfl := Option.some.inj h
     exact Reach.done ttok mix fk6 (p6_e_17 a0 a1 r1 r2 r3 r4 r5 r6 r7 r8 r9) (obs_cons (xAo h0) (obs_cons h1 (obs_cons (xAo h2) (obs_cons h3 (obs_cons (xAd h4) (obs_cons (xAd h5) (obs_cons (xAN h6) (obs_cons (xAd h7) (obs_cons (xAd h8) (obs_cons (xAU (xAz h9) h10) (obs_cons (xAh h11) (obs_cons h12 obs_nil))))))))))))
    ·obtain ⟨r10, h13, h⟩ := bind_inv h
     obtain ⟨r11, h14, h⟩ := bind_inv h
     rcases cond_inv h with ⟨h15, h⟩ | ⟨h15, h⟩
     ·obtain rfl := Option.some.inj h
      exact Reach.done ttok mix fk6 (p6_e_18 a0 a1 r1 r2 r3 r4 r5 r6 r7 r8 r9 r10 r11) (obs_cons (xAo h0) (obs_cons h1 (obs_cons (xAo h2) (obs_cons h3 (obs_cons (xAd h4) (obs_cons (xAd h5) (obs_cons (xAN h6) (obs_cons (xAd h7) (obs_cons (xAd h8) (obs_cons (xAU (xAz h9) h10) (obs_cons (xAh h11) (obs_cons h12 (obs_cons (xAd h13) (obs_cons (xAh h14) (obs_cons h15 obs_nil)))))))))))))))
     ·obtain ⟨r12, h16, h⟩ := bind_inv h
      obtain ⟨r13, h17, h⟩ := bind_inv h
      rcases cond_inv h with ⟨h18, h⟩ | ⟨h18, h⟩
      ·obtain rfl := Option.some.inj h
       exact Reach.done ttok mix fk6 (p6_e_19 a0 a1 r1 r2 r3 r4 r5 r6 r7 r8 r9 r10 r11 r12 r13) (obs_cons (xAo h0) (obs_cons h1 (obs_cons (xAo h2) (obs_cons h3 (obs_cons (xAd h4) (obs_cons (xAd h5) (obs_cons (xAN h6) (obs_cons (xAd h7) (obs_cons (xAd h8) (obs_cons (xAU (xAz h9) h10) (obs_cons (xAh h11) (obs_cons h12 (obs_cons (xAd h13) (obs_cons (xAh h14) (obs_cons h15 (obs_cons (xAd h16) (obs_cons (xAh h17) (obs_cons h18 obs_nil))))))))))))))))))
      ·obtain ⟨r14, h19, h⟩ := bind_inv h
       obtain ⟨h20, h⟩ := ite_inv h
       obtain ⟨h21, h⟩ := ite_inv h
       obtain ⟨h22, h⟩ := ite_inv h
       obtain ⟨r15, h23, h⟩ := bind_inv h
       obtain ⟨h24, h⟩ := ite_inv h
       obtain ⟨h25, h⟩ := ite_inv h
       obtain ⟨h26, h⟩ := ite_inv h
       rcases cond_inv h with ⟨h27, h⟩ | ⟨h27, h⟩
       ·obtain rfl := Option.some.inj h
        exact Reach.done ttok mix fk6 (p6_e_20 a0 a1 r1 r2 r3 r4 r5 r6 r7 r8 r9 r10 r11 r12 r13 r14 r15) (obs_cons (xAo h0) (obs_cons h1 (obs_cons (xAo h2) (obs_cons h3 (obs_cons (xAd h4) (obs_cons (xAd h5) (obs_cons (xAN h6) (obs_cons (xAd h7) (obs_cons (xAd h8) (obs_cons (xAU (xAz h9) h10) (obs_cons (xAh h11) (obs_cons h12 (obs_cons (xAd h13) (obs_cons (xAh h14) (obs_cons h15 (obs_cons (xAd h16) (obs_cons (xAh h17) (obs_cons h18 (obs_cons (xAn h19) (obs_cons h20 (obs_cons h21 (obs_cons h22 (obs_cons (xAn h23) (obs_cons h24 (obs_cons h25 (obs_cons h26 (obs_cons h27 (obs_cons rfl obs_nil))))))))))))))))))))))))))))
       ·obtain ⟨r16, h28, h⟩ := bind_inv h
        rcases cond_inv h with ⟨h29, h⟩ | ⟨h29, h⟩
        ·obtain rfl := Option.some.inj h
         exact Reach.done ttok mix fk6 (p6_e_21 a0 a1 r1 r2 r3 r4 r5 r6 r7 r8 r9 r10 r11 r12 r13 r14 r15 r16) (obs_cons (xAo h0) (obs_cons h1 (obs_cons (xAo h2) (obs_cons h3 (obs_cons (xAd h4) (obs_cons (xAd h5) (obs_cons (xAN h6) (obs_cons (xAd h7) (obs_cons (xAd h8) (obs_cons (xAU (xAz h9) h10) (obs_cons (xAh h11) (obs_cons h12 (obs_cons (xAd h13) (obs_cons (xAh h14) (obs_cons h15 (obs_cons (xAd h16) (obs_cons (xAh h17) (obs_cons h18 (obs_cons (xAn h19) (obs_cons h20 (obs_cons h21 (obs_cons h22 (obs_cons (xAn h23) (obs_cons h24 (obs_cons h25 (obs_cons h26 (obs_cons h27 (obs_cons (xAh h28) (obs_cons h29 obs_nil)))))))))))))))))))))))))))))
        ·obtain ⟨r17, h30, h⟩ := bind_inv h
         obtain ⟨h31, h⟩ := ite_inv h
         obtain ⟨h32, h⟩ := ite_inv h
         obtain ⟨h33, h⟩ := ite_inv h
         obtain ⟨r18, h34, h⟩ := bind_inv h
         rcases cond_inv h with ⟨h35, h⟩ | ⟨h35, h⟩
         ·obtain rfl := Option.some.inj h
          exact Reach.done ttok mix fk6 (p6_e_22 a0 a1 r1 r2 r3 r4 r5 r6 r7 r8 r9 r10 r11 r12 r13 r14 r15 r16 r17 r18) (obs_cons (xAo h0) (obs_cons h1 (obs_cons (xAo h2) (obs_cons h3 (obs_cons (xAd h4) (obs_cons (xAd h5) (obs_cons (xAN h6) (obs_cons (xAd h7) (obs_cons (xAd h8) (obs_cons (xAU (xAz h9) h10) (obs_cons (xAh h11) (obs_cons h12 (obs_cons (xAd h13) (obs_cons (xAh h14) (obs_cons h15 (obs_cons (xAd h16) (obs_cons (xAh h17) (obs_cons h18 (obs_cons (xAn h19) (obs_cons h20 (obs_cons h21 (obs_cons h22 (obs_cons (xAn h23) (obs_cons h24 (obs_cons h25 (obs_cons h26 (obs_cons h27 (obs_cons (xAh h28) (obs_cons h29 (obs_cons (xAn h30) (obs_cons h31 (obs_cons h32 (obs_cons h33 (obs_cons (xAE h34) (obs_cons h35 obs_nil)))))))))))))))))))))))))))))))))))
         ·rcases cond_inv h with ⟨h36, h⟩ | ⟨h36, h⟩
          ·obtain rfl := Option.some.inj h
           exact Reach.done ttok mix fk6 (p6_e_23 a0 a1 r1 r2 r3 r4 r5 r6 r7 r8 r9 r10 r11 r12 r13 r14 r15 r16 r17 r18) (obs_cons (xAo h0) (obs_cons h1 (obs_cons (xAo h2) (obs_cons h3 (obs_cons (xAd h4) (obs_cons (xAd h5) (obs_cons (xAN h6) (obs_cons (xAd h7) (obs_cons (xAd h8) (obs_cons (xAU (xAz h9) h10) (obs_cons (xAh h11) (obs_cons h12 (obs_cons (xAd h13) (obs_cons (xAh h14) (obs_cons h15 (obs_cons (xAd h16) (obs_cons (xAh h17) (obs_cons h18 (obs_cons (xAn h19) (obs_cons h20 (obs_cons h21 (obs_cons h22 (obs_cons (xAn h23) (obs_cons h24 (obs_cons h25 (obs_cons h26 (obs_cons h27 (obs_cons (xAh h28) (obs_cons h29 (obs_cons (xAn h30) (obs_cons h31 (obs_cons h32 (obs_cons h33 (obs_cons (xAE h34) (obs_cons h35 (obs_cons h36 obs_nil))))))))))))))))))))))))))))))))))))
          ·obtain ⟨r19, h37, h⟩ := bind_inv h
           obtain ⟨r20, h38, h⟩ := bind_inv h
           obtain ⟨r21, h39, h⟩ := bind_inv h
           rcases cond_inv h with ⟨h40, h⟩ | ⟨h40, h⟩
           ·obtain ⟨h41, h⟩ := ite_inv h
            obtain ⟨h42, h⟩ := ite_inv h
            obtain ⟨h43, h⟩ := ite_inv h
            obtain ⟨r22, h44, h⟩ := bind_inv h
            rcases cond_inv h with ⟨h45, h⟩ | ⟨h45, h⟩
            ·obtain rfl := Option.some.inj h
             exact Reach.done ttok mix fk6 (p6_e_24 a0 a1 r1 r2 r3 r4 r5 r6 r7 r8 r9 r10 r11 r12 r13 r14 r15 r16 r17 r18 r19 r20 r21 r22) (obs_cons (xAo h0) (obs_cons h1 (obs_cons (xAo h2) (obs_cons h3 (obs_cons (xAd h4) (obs_cons (xAd h5) (obs_cons (xAN h6) (obs_cons (xAd h7) (obs_cons (xAd h8) (obs_cons (xAU (xAz h9) h10) (obs_cons (xAh h11) (obs_cons h12 (obs_cons (xAd h13) (obs_cons (xAh h14) (obs_cons h15 (obs_cons (xAd h16) (obs_cons (xAh h17) (obs_cons h18 (obs_cons (xAn h19) (obs_cons h20 (obs_cons h21 (obs_cons h22 (obs_cons (xAn h23) (obs_cons h24 (obs_cons h25 (obs_cons h26 (obs_cons h27 (obs_cons (xAh h28) (obs_cons h29 (obs_cons (xAn h30) (obs_cons h31 (obs_cons h32 (obs_cons h33 (obs_cons (xAE h34) (obs_cons h35 (obs_cons h36 (obs_cons (xAd h37) (obs_cons (xAd h38) (obs_cons (xAT (xAz h39) h40 h41 h42 h43) (obs_cons (xAh h44) (obs_cons h45 obs_nil)))))))))))))))))))))))))))))))))))))))))
            ·obtain ⟨r23, h46, h⟩ := bind_inv h
             rcases cond_inv h with ⟨h47, h⟩ | ⟨h47, h⟩
             ·obtain rfl := Option.some.inj h
              exact Reach.done ttok mix fk6 (p6_e_25 a0 a1 r1 r2 r3 r4 r5 r6 r7 r8 r9 r10 r11 r12 r13 r14 r15 r16 r17 r18 r19 r20 r21 r22 r23) (obs_cons (xAo h0) (obs_cons h1 (obs_cons (xAo h2) (obs_cons h3 (obs_cons (xAd h4) (obs_cons (xAd h5) (obs_cons (xAN h6) (obs_cons (xAd h7) (obs_cons (xAd h8) (obs_cons (xAU (xAz h9) h10) (obs_cons (xAh h11) (obs_cons h12 (obs_cons (xAd h13) (obs_cons (xAh h14) (obs_cons h15 (obs_cons (xAd h16) (obs_cons (xAh h17) (obs_cons h18 (obs_cons (xAn h19) (obs_cons h20 (obs_cons h21 (obs_cons h22 (obs_cons (xAn h23) (obs_cons h24 (obs_cons h25 (obs_cons h26 (obs_cons h27 (obs_cons (xAh h28) (obs_cons h29 (obs_cons (xAn h30) (obs_cons h31 (obs_cons h32 (obs_cons h33 (obs_cons (xAE h34) (obs_cons h35 (obs_cons h36 (obs_cons (xAd h37) (obs_cons (xAd h38) (obs_cons (xAT (xAz h39) h40 h41 h42 h43) (obs_cons (xAh h44) (obs_cons h45 (obs_cons (xAE h46) (obs_cons h47 obs_nil)))))))))))))))))))))))))))))))))))))))))))
             ·rcases cond_inv h with ⟨h48, h⟩ | ⟨h48, h⟩
              ·obtain rfl := Option.some.inj h
               exact Reach.done ttok mix fk6 (p6_e_26 a0 a1 r1 r2 r3 r4 r5 r6 r7 r8 r9 r10 r11 r12 r13 r14 r15 r16 r17 r18 r19 r20 r21 r22 r23) (obs_cons (xAo h0) (obs_cons h1 (obs_cons (xAo h2) (obs_cons h3 (obs_cons (xAd h4) (obs_cons (xAd h5) (obs_cons (xAN h6) (obs_cons (xAd h7) (obs_cons (xAd h8) (obs_cons (xAU (xAz h9) h10) (obs_cons (xAh h11) (obs_cons h12 (obs_cons (xAd h13) (obs_cons (xAh h14) (obs_cons h15 (obs_cons (xAd h16) (obs_cons (xAh h17) (obs_cons h18 (obs_cons (xAn h19) (obs_cons h20 (obs_cons h21 (obs_cons h22 (obs_cons (xAn h23) (obs_cons h24 (obs_cons h25 (obs_cons h26 (obs_cons h27 (obs_cons (xAh h28) (obs_cons h29 (obs_cons (xAn h30) (obs_cons h31 (obs_cons h32 (obs_cons h33 (obs_cons (xAE h34) (obs_cons h35 (obs_cons h36 (obs_cons (xAd h37) (obs_cons (xAd h38) (obs_cons (xAT (xAz h39) h40 h41 h42 h43) (obs_cons (xAh h44) (obs_cons h45 (obs_cons (xAE h46) (obs_cons h47 (obs_cons h48 obs_nil))))))))))))))))))))))))))))))))))))))))))))
              ·obtain rfl := Option.some.inj h
               exact Reach.done ttok mix fk6 (p6_e_27 a0 a1 r1 r2 r3 r4 r5 r6 r7 r8 r9 r10 r11 r12 r13 r14 r15 r16 r17 r18 r19 r20 r21 r22 r23) (obs_cons (xAo h0) (obs_cons h1 (obs_cons (xAo h2) (obs_cons h3 (obs_cons (xAd h4) (obs_cons (xAd h5) (obs_cons (xAN h6) (obs_cons (xAd h7) (obs_cons (xAd h8) (obs_cons (xAU (xAz h9) h10) (obs_cons (xAh h11) (obs_cons h12 (obs_cons (xAd h13) (obs_cons (xAh h14) (obs_cons h15 (obs_cons (xAd h16) (obs_cons (xAh h17) (obs_cons h18 (obs_cons (xAn h19) (obs_cons h20 (obs_cons h21 (obs_cons h22 (obs_cons (xAn h23) (obs_cons h24 (obs_cons h25 (obs_cons h26 (obs_cons h27 (obs_cons (xAh h28) (obs_cons h29 (obs_cons (xAn h30) (obs_cons h31 (obs_cons h32 (obs_cons h33 (obs_cons (xAE h34) (obs_cons h35 (obs_cons h36 (obs_cons (xAd h37) (obs_cons (xAd h38) (obs_cons (xAT (xAz h39) h40 h41 h42 h43) (obs_cons (xAh h44) (obs_cons h45 (obs_cons (xAE h46) (obs_cons h47 (obs_cons h48 obs_nil))))))))))))))))))))))))))))))))))))))))))))
           ·obtain ⟨r22, h41, h⟩ := bind_inv h
            rcases cond_inv h with ⟨h42, h⟩ | ⟨h42, h⟩
            ·obtain rfl := Option.some.inj h
             exact Reach.done ttok mix fk6 (p6_e_28 a0 a1 r1 r2 r3 r4 r5 r6 r7 r8 r9 r10 r11 r12 r13 r14 r15 r16 r17 r18 r19 r20 r21 r22) (obs_cons (xAo h0) (obs_cons h1 (obs_cons (xAo h2) (obs_cons h3 (obs_cons (xAd h4) (obs_cons (xAd h5) (obs_cons (xAN h6) (obs_cons (xAd h7) (obs_cons (xAd h8) (obs_cons (xAU (xAz h9) h10) (obs_cons (xAh h11) (obs_cons h12 (obs_cons (xAd h13) (obs_cons (xAh h14) (obs_cons h15 (obs_cons (xAd h16) (obs_cons (xAh h17) (obs_cons h18 (obs_cons (xAn h19) (obs_cons h20 (obs_cons h21 (obs_cons h22 (obs_cons (xAn h23) (obs_cons h24 (obs_cons h25 (obs_cons h26 (obs_cons h27 (obs_cons (xAh h28) (obs_cons h29 (obs_cons (xAn h30) (obs_cons h31 (obs_cons h32 (obs_cons h33 (obs_cons (xAE h34) (obs_cons h35 (obs_cons h36 (obs_cons (xAd h37) (obs_cons (xAd h38) (obs_cons (xAU (xAz h39) h40) (obs_cons (xAh h41) (obs_cons h42 obs_nil)))))))))))))))))))))))))))))))))))))))))
            ·obtain ⟨r23, h43, h⟩ := bind_inv h
             rcases cond_inv h with ⟨h44, h⟩ | ⟨h44, h⟩
             ·obtain rfl := Option.some.inj h
              exact Reach.done ttok mix fk6 (p6_e_29 a0 a1 r1 r2 r3 r4 r5 r6 r7 r8 r9 r10 r11 r12 r13 r14 r15 r16 r17 r18 r19 r20 r21 r22 r23) (obs_cons (xAo h0) (obs_cons h1 (obs_cons (xAo h2) (obs_cons h3 (obs_cons (xAd h4) (obs_cons (xAd h5) (obs_cons (xAN h6) (obs_cons (xAd h7) (obs_cons (xAd h8) (obs_cons (xAU (xAz h9) h10) (obs_cons (xAh h11) (obs_cons h12 (obs_cons (xAd h13) (obs_cons (xAh h14) (obs_cons h15 (obs_cons (xAd h16) (obs_cons (xAh h17) (obs_cons h18 (obs_cons (xAn h19) (obs_cons h20 (obs_cons h21 (obs_cons h22 (obs_cons (xAn h23) (obs_cons h24 (obs_cons h25 (obs_cons h26 (obs_cons h27 (obs_cons (xAh h28) (obs_cons h29 (obs_cons (xAn h30) (obs_cons h31 (obs_cons h32 (obs_cons h33 (obs_cons (xAE h34) (obs_cons h35 (obs_cons h36 (obs_cons (xAd h37) (obs_cons (xAd h38) (obs_cons (xAU (xAz h39) h40) (obs_cons (xAh h41) (obs_cons h42 (obs_cons (xAE h43) (obs_cons h44 obs_nil)))))))))))))))))))))))))))))))))))))))))))
             ·rcases cond_inv h with ⟨h45, h⟩ | ⟨h45, h⟩
              ·obtain rfl := Option.some.inj h
               exact Reach.done ttok mix fk6 (p6_e_30 a0 a1 r1 r2 r3 r4 r5 r6 r7 r8 r9 r10 r11 r12 r13 r14 r15 r16 r17 r18 r19 r20 r21 r22 r23) (obs_cons (xAo h0) (obs_cons h1 (obs_cons (xAo h2) (obs_cons h3 (obs_cons (xAd h4) (obs_cons (xAd h5) (obs_cons (xAN h6) (obs_cons (xAd h7) (obs_cons (xAd h8) (obs_cons (xAU (xAz h9) h10) (obs_cons (xAh h11) (obs_cons h12 (obs_cons (xAd h13) (obs_cons (xAh h14) (obs_cons h15 (obs_cons (xAd h16) (obs_cons (xAh h17) (obs_cons h18 (obs_cons (xAn h19) (obs_cons h20 (obs_cons h21 (obs_cons h22 (obs_cons (xAn h23) (obs_cons h24 (obs_cons h25 (obs_cons h26 (obs_cons h27 (obs_cons (xAh h28) (obs_cons h29 (obs_cons (xAn h30) (obs_cons h31 (obs_cons h32 (obs_cons h33 (obs_cons (xAE h34) (obs_cons h35 (obs_cons h36 (obs_cons (xAd h37) (obs_cons (xAd h38) (obs_cons (xAU (xAz h39) h40) (obs_cons (xAh h41) (obs_cons h42 (obs_cons (xAE h43) (obs_cons h44 (obs_cons h45 obs_nil))))))))))))))))))))))))))))))))))))))))))))
              ·obtain rfl := Option.some.inj h
               exact Reach.done ttok mix fk6 (p6_e_31 a0 a1 r1 r2 r3 r4 r5 r6 r7 r8 r9 r10 r11 r12 r13 r14 r15 r16 r17 r18 r19 r20 r21 r22 r23) (obs_cons (xAo h0) (obs_cons h1 (obs_cons (xAo h2) (obs_cons h3 (obs_cons (xAd h4) (obs_cons (xAd h5) (obs_cons (xAN h6) (obs_cons (xAd h7) (obs_cons (xAd h8) (obs_cons (xAU (xAz h9) h10) (obs_cons (xAh h11) (obs_cons h12 (obs_cons (xAd h13) (obs_cons (xAh h14) (obs_cons h15 (obs_cons (xAd h16) (obs_cons (xAh h17) (obs_cons h18 (obs_cons (xAn h19) (obs_cons h20 (obs_cons h21 (obs_cons h22 (obs_cons (xAn h23) (obs_cons h24 (obs_cons h25 (obs_cons h26 (obs_cons h27 (obs_cons (xAh h28) (obs_cons h29 (obs_cons (xAn h30) (obs_cons h31 (obs_cons h32 (obs_cons h33 (obs_cons (xAE h34) (obs_cons h35 (obs_cons h36 (obs_cons (xAd h37) (obs_cons (xAd h38) (obs_cons (xAU (xAz h39) h40) (obs_cons (xAh h41) (obs_cons h42 (obs_cons (xAE h43) (obs_cons h44 (obs_cons h45 obs_nil))))))))))))))))))))))))))))))))))))))))))))
theorem laws_FnExactSkipOf_ok {N : Nat} {a0 : Val} {a1 : Val} {r : Bool} (h : xFr N  a0 a1 = some r) : AbC 6 (xAt a0 a1) (xAu r) :=
 AbsCalls.of_reach fk6 rfl rfl (Nat.le_of_ble_eq_true rfl) (c6_e a0 a1 r h)
noncomputable def I64 : Info := { body := (Try.f64.body).getD .skip, nt := 71, results := [.cell 4 31], keep := [0, 2, 4, 6, 8, 10, 40, 72, 88, 120, 5, 7, 9], live := [], modes := [(1, [(3, .take, false)]), (3, [(3, .take, false)]), (7, [(3, .take, false)])], ext := [], lnt := [], casts := [], fcast := [] }
end Go.Ab.T
end
section
namespace Go.Ab
set_option linter.unusedVariables false
def Big (p : Nat → Prop) : Prop := ∃ k, ∀ N, k ≤ N → p N
def Big2 (p : Nat → Nat → Prop) : Prop := ∃ k, ∀ N n, k ≤ N → k ≤ n → p N n
theorem Big.imp {p q : Nat → Prop} (h : Big p) (f : ∀ N, p N → q N) : Big q := h.elim fun k hk => ⟨k, fun N hN => f N (hk N hN)⟩
theorem Big2.imp {p q : Nat → Nat → Prop} (h : Big2 p) (f : ∀ N n, p N n → q N n) : Big2 q := h.elim fun k hk => ⟨k, fun N n h1 h2 => f N n (hk N n h1 h2)⟩
theorem Big.of {p : Nat → Prop} (h : ∀ N, p N) : Big p := ⟨0, fun N _ => h N⟩
theorem Big2.of {p : Nat → Nat → Prop} (h : ∀ N n, p N n) : Big2 p := ⟨0, fun N n _ _ => h N n⟩
theorem Big.and {p q : Nat → Prop} (h : Big p) (h' : Big q) : Big fun N => p N ∧ q N := by
  obtain ⟨a, ha⟩ := h; obtain ⟨b, hb⟩ := h'
  exact ⟨max a b, fun N hN => ⟨ha N (by omega), hb N (by omega)⟩⟩
theorem Big2.and {p q : Nat → Nat → Prop} (h : Big2 p) (h' : Big2 q) : Big2 fun N n => p N n ∧ q N n := by
  obtain ⟨a, ha⟩ := h; obtain ⟨b, hb⟩ := h'
  exact ⟨max a b, fun N n h1 h2 => ⟨ha N n (by omega) (by omega), hb N n (by omega) (by omega)⟩⟩
theorem Big.two {p : Nat → Prop} (h : Big p) : Big2 fun N _ => p N := h.elim fun k hk => ⟨k, fun N _ h _ => hk N h⟩
theorem Big2.diag {p : Nat → Nat → Prop} (h : Big2 p) : Big fun N => p N N := h.elim fun k hk => ⟨k, fun N h => hk N N h h⟩
theorem Big2.succ {p : Nat → Nat → Prop} (h : Big2 fun N n => p N (n + 1)) : Big2 p := by
  obtain ⟨k, hk⟩ := h
  refine ⟨k + 1, fun N n h1 h2 => ?_⟩
  obtain ⟨m, rfl⟩ : ∃ m, n = m + 1 := ⟨n - 1, by omega⟩
  exact hk N m (by omega) (by omega)
theorem Big.list {α : Type} {p : α → Nat → Prop} {l : List α} (h : ∀ x ∈ l, Big (p x)) : Big fun N => ∀ x ∈ l, p x N := by
  induction l with
  | nil => exact .of fun N x hx => by cases hx
  | cons a l ih =>
    refine ((h a List.mem_cons_self).and (ih fun x hx => h x (List.mem_cons_of_mem _ hx))).imp fun N ⟨h1, h2⟩ x hx => ?_
    rcases List.mem_cons.1 hx with rfl | hx
    · exact h1
    · exact h2 x hx
theorem Big2.list {α : Type} {p : α → Nat → Nat → Prop} {l : List α} (h : ∀ x ∈ l, Big2 (p x)) : Big2 fun N n => ∀ x ∈ l, p x N n := by
  induction l with
  | nil => exact .of fun N n x hx => by cases hx
  | cons a l ih =>
    refine ((h a List.mem_cons_self).and (ih fun x hx => h x (List.mem_cons_of_mem _ hx))).imp fun N n ⟨h1, h2⟩ x hx => ?_
    rcases List.mem_cons.1 hx with rfl | hx
    · exact h1
    · exact h2 x hx
theorem Big.get {p : Nat → Prop} (h : Big p) : ∃ N, p N := h.elim fun k hk => ⟨k, hk k (Nat.le_refl k)⟩
def I64 (x : Int) : Prop := -9223372036854775808 ≤ x ∧ x ≤ 9223372036854775807
theorem wrap_i64_def (x : Int) : IntKind.i64.wrap x = if x % 18446744073709551616 ≥ 9223372036854775808 then x % 18446744073709551616 - 18446744073709551616 else x % 18446744073709551616 := by
  show (if (true && decide (x % 18446744073709551616 ≥ 9223372036854775808)) = true then x % 18446744073709551616 - 18446744073709551616 else x % 18446744073709551616) = _
  simp only [Bool.true_and, decide_eq_true_eq]
theorem xCY {x : Int} (h1 : -9223372036854775808 ≤ x) (h2 : x ≤ 9223372036854775807) : IntKind.i64.wrap x = x := by
  rw [wrap_i64_def]
  split <;> omega
theorem drop_cons {α : Type} {xs : List α} {i : Nat} {x : α} {l : List α} (h : xs.drop i = x :: l) : i < xs.length ∧ xs[i]? = some x ∧ xs.drop (i + 1) = l := by
  have h1 : i < xs.length := by
    rcases Nat.lt_or_ge i xs.length with h1 | h1
    · exact h1
    · rw [List.drop_eq_nil_of_le h1] at h; cases h
  rw [List.drop_eq_getElem_cons h1] at h
  cases h
  exact ⟨h1, by simp [h1], rfl⟩
theorem drop_nil {α : Type} {xs : List α} {i : Nat} (h : xs.drop i = []) : xs.length ≤ i := by simpa using h
end Go.Ab
end
section
namespace Go.Ab
set_option linter.unusedVariables false
inductive DK (K : Nat) : D → Prop where
  | int {k n} (h : (Lit.int k n).wf = true) : DK K (.int k n)
  | bool (b) : DK K (.bool b)
  | str {s : Str} (h : s.length ≤ K) : DK K (.str s)
  | sl {sz rows} (h : rows.length ≤ K) (hr : ∀ r ∈ rows, ∀ x ∈ r, DK K x) : DK K (.sl sz rows)
theorem DFit.dk {d : D} (h : DFit d) : DK maxLen d := by
  induction h with
  | int h => exact .int h
  | bool b => exact .bool b
  | str h => exact .str h
  | sl h _ ih => exact .sl h ih
theorem wf_i64 {n : Int} : (Lit.int .i64 n).wf = true ↔ I64 n := by
  show (decide (_ ≤ n) && decide (n ≤ _)) = true ↔ _
  rw [Bool.and_eq_true, decide_eq_true_eq, decide_eq_true_eq]
  exact Iff.rfl
theorem DK.i64 {K : Nat} {n : Int} : DK K (.int .i64 n) ↔ I64 n := ⟨fun h => by cases h with | int h => exact wf_i64.1 h, fun h => .int (wf_i64.2 h)⟩
theorem DK.str_iff {K : Nat} {s : Str} : DK K (.str s) ↔ s.length ≤ K := ⟨fun h => by cases h; assumption, .str⟩
theorem DK.sl_iff {K sz : Nat} {α : Type} {f : α → List D} {xs : List α} : DK K (.sl sz (xs.map f)) ↔ xs.length ≤ K ∧ ∀ x ∈ xs, ∀ d ∈ f x, DK K d := by
  constructor
  · intro h
    cases h with
    | sl h hr => exact ⟨by simpa using h, fun x hx => hr _ (List.mem_map_of_mem hx)⟩
  · rintro ⟨h, hr⟩
    refine .sl (by simpa using h) fun r hr' => ?_
    obtain ⟨x, hx, rfl⟩ := List.mem_map.1 hr'
    exact hr x hx
def LFit {α : Type} (K : Nat) (p : α → Prop) (l : List α) : Prop := l.length ≤ K ∧ ∀ x ∈ l, p x
def Ty.Fit (K : Nat) (T : Ty) (x : T.den) : Prop := ∀ d ∈ T.toD x, DK K d
def Org.Fit (o : Org) : Prop := I64 o.cell ∧ I64 o.row
def Rowd.Fit (K : Nat) (r : Rowd) : Prop := LFit K I64 r.cells ∧ LFit K Org.Fit r.frm
def Str.Fit (K : Nat) (s : Str) : Prop := s.length ≤ K
def Val.Fit (K : Nat) (v : Val) : Prop := ∀ d ∈ Val.toD v, DK K d
def Fil.Fit (K : Nat) (v : Fil) : Prop := Str.Fit K v.name ∧ I64 v.n
theorem rowd_fit {K : Nat} {r : Rowd} : (∀ d ∈ Rowd.toD r, DK K d) ↔ r.Fit K := by
  simp only [Rowd.toD, List.mem_cons, List.not_mem_nil, or_false, forall_eq_or_imp, forall_eq, DK.sl_iff, DK.i64, Rowd.Fit, LFit, Org.Fit]
theorem fil_fit {K : Nat} {r : Fil} : Ty.Fit K .fil r ↔ r.Fit K := by
  simp only [Ty.Fit, Ty.toD, List.mem_cons, List.not_mem_nil, or_false, forall_eq_or_imp, forall_eq, DK.str_iff, DK.i64, Fil.Fit, Str.Fit]
theorem Val.fit_iff {K : Nat} {v : Val} : v.Fit K ↔ I64 v.kind ∧ I64 v.n ∧ I64 v.step ∧ Str.Fit K v.text ∧ LFit K (Val.Fit K) v.list ∧ LFit K (Str.Fit K) v.columns ∧ LFit K (Rowd.Fit K) v.rows := by
  cases v
  simp only [Val.Fit, Val.toD, Val.toDs_eq, List.mem_cons, List.not_mem_nil, or_false, forall_eq_or_imp, forall_eq, DK.sl_iff, DK.i64, DK.str_iff, Str.Fit, LFit, Val.kind, Val.n, Val.step, Val.text, Val.list, Val.columns, Val.rows, rowd_fit]
theorem sizeOf_mem_list {l : List Val} {x : Val} (h : x ∈ l) (k n s : Int) (t : Str) (c : List Str) (r : List Rowd) : SizeOf.sizeOf x < SizeOf.sizeOf (Val.mk k n s t l c r) := by
  have := List.sizeOf_lt_of_mem h
  simp only [Val.mk.sizeOf_spec]
  omega
theorem Val.ind {p : Val → Prop} (h : ∀ k n s t l c r, (∀ x ∈ l, p x) → p (.mk k n s t l c r)) : ∀ v, p v
  | .mk k n s t l c r => h k n s t l c r fun x hx => Val.ind h x
termination_by v => SizeOf.sizeOf v
decreasing_by exact sizeOf_mem_list hx k n s t c r
theorem cell_int {n : Int} (h : DK maxLen (CV.int .i64 n).toD) : I64 n := DK.i64.1 h
theorem cell_str {s : Str} (h : DK maxLen (CV.str s).toD) : Str.Fit maxLen s := DK.str_iff.1 h
theorem cell_sl {T : Ty} {f : Fl} {xs : List T.den} (h : DK maxLen (CV.sl f T xs).toD) : LFit maxLen (T.Fit maxLen) xs := DK.sl_iff.1 h
theorem LFit.imp {α : Type} {K : Nat} {p q : α → Prop} {l : List α} (h : LFit K p l) (f : ∀ x, p x → q x) : LFit K q l := ⟨h.1, fun x hx => f x (h.2 x hx)⟩
end Go.Ab
end
section
namespace Go.Ab
set_option linter.unusedVariables false
theorem whileLoop {σ ρ : Type} {L : Nat → σ → Option ρ} (m : σ → Nat) (Inv : σ → Prop) (Post : ρ → Prop)
    (hstep : ∀ s, Inv s → (∃ s', Inv s' ∧ m s' < m s ∧ ∀ n, L (n + 1) s = L n s') ∨ (∃ r, Post r ∧ ∀ n, L (n + 1) s = some r)) :
    ∀ n s, Inv s → m s < n → ∃ r, Post r ∧ L n s = some r := by
  intro n
  induction n with
  | zero => intro s _ h; omega
  | succ n ih =>
    intro s hs hn
    rcases hstep s hs with ⟨s', h1, h2, h3⟩ | ⟨r, h1, h2⟩
    · obtain ⟨r, h4, h5⟩ := ih s' h1 (by omega)
      exact ⟨r, h4, by rw [h3]; exact h5⟩
    · exact ⟨r, h1, h2 n⟩
theorem xFy {α σ ρ : Type} {L : Nat → Int → σ → Option ρ} (x0 : List α) (g : List α → σ → ρ) (Inv : Nat → σ → Prop)
    (hnil : ∀ n s, Inv x0.length s → L (n + 1) (x0.length : Nat) s = some (g [] s))
    (hcons : ∀ i x l s, x0.drop i = x :: l → i < x0.length → x0[i]? = some x → Inv i s →
      (∃ s', Inv (i + 1) s' ∧ g (x :: l) s = g l s' ∧ ∀ n, L (n + 1) (i : Nat) s = L n ((i + 1 : Nat) : Int) s') ∨ (∀ n, L (n + 1) (i : Nat) s = some (g (x :: l) s))) :
    ∀ n i s, Inv i s → i ≤ x0.length → x0.length < n + i → L n (i : Nat) s = some (g (x0.drop i) s) := by
  intro n
  induction n with
  | zero => intro i s _ h1 h2; omega
  | succ n ih =>
    intro i s hs hi hn
    cases hd : x0.drop i with
    | nil =>
      have := drop_nil hd
      obtain rfl : i = x0.length := by omega
      exact hnil n s hs
    | cons x l =>
      obtain ⟨h1, h2, h3⟩ := drop_cons hd
      rcases hcons i x l s hd h1 h2 hs with ⟨s', h4, h5, h6⟩ | h
      · rw [h6, ih (i + 1) s' h4 (by omega) (by omega), h3, h5]
      · exact h n
theorem xBk {α : Type} {xs : List α} {i : Nat} {x : α} (h : xs[i]? = some x) (d : α) : xs.getD i d = x := by simp [List.getD, h]
theorem xAW {i : Nat} {len : Nat} (h : i < len) (hl : len ≤ 9223372036854775807) : IntKind.i64.wrap ((i : Int) + 1) = ((i + 1 : Nat) : Int) := by
  rw [xCY (by omega) (by omega)]; omega
def left (s : Nat) (l : Int) : Int := if (s : Int) ≤ l then l - s else -1
theorem left_of {s : Nat} {l : Int} (h : (s : Int) ≤ l) : left s l = l - s := by unfold left; rw [if_pos h]
theorem left_not {s : Nat} {l : Int} (h : ¬ (s : Int) ≤ l) : left s l = -1 := by unfold left; rw [if_neg h]
theorem szThen {s b : Nat} {F : Option Int} {R : Int → Option Int} {l : Int} (hl : s ≤ 9223372036854775807) (h0 : 0 ≤ l) (h1 : l ≤ 1048576)
    (hF : F = bif decide (IntKind.i64.wrap (l - (s : Int)) < 0) then some (-1) else R (IntKind.i64.wrap (l - (s : Int))))
    (hR : ∀ m, 0 ≤ m → m ≤ 1048576 → R m = some (left b m)) : F = some (left (s + b) l) := by
  rw [hF, xCY (by omega) (by omega)]
  by_cases h : (s : Int) ≤ l
  · rw [decide_eq_false (by omega), cond_false, hR _ (by omega) (by omega)]
    unfold left
    split <;> split <;> first | rfl | omega | (congr 1; omega)
  · rw [decide_eq_true (by omega), cond_true, left_not (by omega)]
theorem szLast {s : Nat} {l : Int} (hl : s ≤ 9223372036854775807) (h0 : 0 ≤ l) (h1 : l ≤ 1048576) :
    (bif decide (IntKind.i64.wrap (l - (s : Int)) < 0) then some (-1) else some (IntKind.i64.wrap (l - (s : Int)))) = some (left s l) := by
  rw [xCY (by omega) (by omega)]
  unfold left
  by_cases h : (s : Int) ≤ l
  · rw [decide_eq_false (by omega), if_pos h]; rfl
  · rw [decide_eq_true (by omega), if_neg h]; rfl
theorem szBind {a b : Nat} {l : Int} {x : Option Int} {R : Int → Option Int} (h0 : 0 ≤ l) (h1 : l ≤ 1048576) (h : x = some (left a l)) (hR : ∀ m, 0 ≤ m → m ≤ 1048576 → R m = some (left b m)) :
    (x.bind fun r1 => bif decide (r1 < 0) then (some (-1) : Option Int) else R r1) = some (left (a + b) l) := by
  rw [h, Option.bind_some]
  by_cases h : (a : Int) ≤ l
  · rw [left_of h, decide_eq_false (by omega), cond_false, hR _ (by omega) (by omega)]
    unfold left
    split <;> split <;> first | rfl | omega | (congr 1; omega)
  · rw [left_not h, left_not (by omega)]; rfl
theorem left_two {a : Nat} {l : Int} {x : Option Int} (h : x = some (left a l)) : (x.bind fun r1 => bif decide (r1 < 0) then (some (-1) : Option Int) else some r1) = some (left a l) := by
  rw [h, Option.bind_some]
  unfold left
  split
  · rw [decide_eq_false (by omega)]; rfl
  · rfl
section
variable {α : Type} {d : α}
theorem szLoop {L : Nat → List α → Int → Int → Option Int} {sz : α → Int → Option Int} {size : α → Nat} {x0 : List α}
    (hL : ∀ n x1 x5, L (n + 1) x0 x1 x5 = bif decide (x5 < (x0.length : Int)) then (if (0 : Int) ≤ x5 ∧ x5 < (x0.length : Int) then Option.bind (sz (x0.getD x5.toNat d) x1) fun r1 => bif decide (r1 < 0) then some (-1) else L n x0 r1 (IntKind.i64.wrap (x5 + 1)) else none) else some x1)
    (hlen : x0.length ≤ 9223372036854775807) (hsz : ∀ x ∈ x0, ∀ l, 0 ≤ l → l ≤ 1048576 → sz x l = some (left (size x) l)) {n : Nat} (hn : x0.length < n) {l : Int} (h0 : 0 ≤ l) (h1 : l ≤ 1048576) :
    L n x0 l 0 = some (left (x0.map size).sum l) := by
  have key := xFy (L := fun n i s => L n x0 s i) x0 (fun l s => left (l.map size).sum s) (fun _ s => 0 ≤ s ∧ s ≤ 1048576) (fun n s hs => by
      have hs : 0 ≤ s ∧ s ≤ 1048576 := hs
      simp only [hL]; simp [left]; omega)
    (fun i x r s hd hi hx hs => by
      have hs : 0 ≤ s ∧ s ≤ 1048576 := hs
      have hi' : (i : Int) < (x0.length : Int) := by omega
      have hm : x ∈ x0 := List.mem_of_getElem? hx
      by_cases hle : (size x : Int) ≤ s
      · refine .inl ⟨s - size x, by omega, ?_, fun n => ?_⟩
        · simp only [List.map_cons, List.sum_cons, left]
          split <;> split <;> omega
        · simp only [hL, decide_eq_true hi', cond_true, Int.toNat_natCast, xBk hx, hsz x hm s hs.1 hs.2, left_of hle, Option.bind_some, xAW hi hlen]
          rw [if_pos (by omega), decide_eq_false (by omega), cond_false]
      · refine .inr fun n => ?_
        simp only [hL, decide_eq_true hi', cond_true, Int.toNat_natCast, xBk hx, hsz x hm s hs.1 hs.2, left_not hle, Option.bind_some]
        rw [if_pos (by omega), decide_eq_true (by omega), cond_true]
        simp only [List.map_cons, List.sum_cons, left]
        rw [if_neg (by omega)])
    n 0 l ⟨h0, h1⟩ (by omega) (by omega)
  simpa using key
theorem szLoopG {L : Nat → List α → Int → Int → Option Int} {sz : α → Int → Option Int} {size : α → Nat} {x0 : List α}
    (hL : ∀ n x1 x5, L (n + 1) x0 x1 x5 = bif decide (x5 < (x0.length : Int)) then (if (0 : Int) ≤ x5 ∧ x5 < (x0.length : Int) then Option.bind (sz (x0.getD x5.toNat d) x1) fun r1 => bif decide (r1 < 0) then some (-1) else L n x0 r1 (IntKind.i64.wrap (x5 + 1)) else none) else some x1)
    (hlen : x0.length ≤ 9223372036854775807) (hsz : ∀ x ∈ x0, ∀ l, 0 ≤ l → l ≤ 1048576 → ∃ r, sz x l = some r ∧ ((size x : Int) ≤ l → r = l - size x) ∧ (¬ (size x : Int) ≤ l → r < 0)) {n : Nat} (hn : x0.length < n) {l : Int} (h0 : 0 ≤ l) (h1 : l ≤ 1048576) :
    L n x0 l 0 = some (left (x0.map size).sum l) := by
  have key := xFy (L := fun n i s => L n x0 s i) x0 (fun l s => left (l.map size).sum s) (fun _ s => 0 ≤ s ∧ s ≤ 1048576) (fun n s hs => by
      have hs : 0 ≤ s ∧ s ≤ 1048576 := hs
      simp only [hL]; simp [left]; omega)
    (fun i x r s hd hi hx hs => by
      have hs : 0 ≤ s ∧ s ≤ 1048576 := hs
      have hi' : (i : Int) < (x0.length : Int) := by omega
      have hm : x ∈ x0 := List.mem_of_getElem? hx
      obtain ⟨q, hq, hq1, hq2⟩ := hsz x hm s hs.1 hs.2
      by_cases hle : (size x : Int) ≤ s
      · refine .inl ⟨s - size x, by omega, ?_, fun n => ?_⟩
        · simp only [List.map_cons, List.sum_cons, left]
          split <;> split <;> omega
        · simp only [hL, decide_eq_true hi', cond_true, Int.toNat_natCast, xBk hx, hq, hq1 hle, Option.bind_some, xAW hi hlen]
          rw [if_pos (by omega), decide_eq_false (by omega), cond_false]
      · refine .inr fun n => ?_
        simp only [hL, decide_eq_true hi', cond_true, Int.toNat_natCast, xBk hx, hq, Option.bind_some]
        have := hq2 hle
        rw [if_pos (by omega), decide_eq_true (by omega), cond_true]
        simp only [List.map_cons, List.sum_cons, left]
        rw [if_neg (by omega)])
    n 0 l ⟨h0, h1⟩ (by omega) (by omega)
  simpa using key
theorem toLoop {L : Nat → List α → List α → Int → Option (List α)} {to : α → Option α} {re : α → α} {x0 : List α}
    (hL : ∀ n x3 x4, L (n + 1) x0 x3 x4 = bif decide (x4 < (x0.length : Int)) then (if (0 : Int) ≤ x4 ∧ x4 < (x0.length : Int) then Option.bind (to (x0.getD x4.toNat d)) fun r1 => (if (0 : Int) ≤ x4 ∧ x4 < (x3.length : Int) then L n x0 (x3.set x4.toNat (re r1)) (IntKind.i64.wrap (x4 + 1)) else none) else none) else some x3)
    (hlen : x0.length ≤ 9223372036854775807) (hto : ∀ x ∈ x0, ∃ y, to x = some y ∧ re y = x) {n : Nat} (hn : x0.length < n) :
    L n x0 (List.replicate x0.length d) 0 = some x0 := by
  have key := xFy (L := fun n i s => L n x0 s i) x0 (fun _ _ => x0) (fun i s => s = x0.take i ++ List.replicate (x0.length - i) d) (fun n s hs => by
      have hs : s = x0.take x0.length ++ List.replicate (x0.length - x0.length) d := hs
      simp only [hL]; simp [hs])
    (fun i x r s hd hi hx hs => by
      have hs : s = x0.take i ++ List.replicate (x0.length - i) d := hs
      have hi' : (i : Int) < (x0.length : Int) := by omega
      have hm : x ∈ x0 := List.mem_of_getElem? hx
      obtain ⟨y, h1, h2⟩ := hto x hm
      have hsl : s.length = x0.length := by rw [hs]; simp; omega
      refine .inl ⟨s.set i x, ?_, rfl, fun n => ?_⟩
      · show s.set i x = x0.take (i + 1) ++ List.replicate (x0.length - (i + 1)) d
        rw [hs, List.set_append]
        have : (x0.take i).length = i := by simp; omega
        rw [this, if_neg (by omega), List.take_add_one, hx, Option.toList_some, List.append_assoc, Nat.sub_self]
        rw [show x0.length - i = (x0.length - (i + 1)) + 1 from by omega, List.replicate_succ, List.set_cons_zero]
        rfl
      · simp only [hL, decide_eq_true hi', cond_true, Int.toNat_natCast, xBk hx, h1, h2, Option.bind_some, xAW hi hlen, hsl]
        rw [if_pos (by omega), if_pos (by omega)])
    n 0 (List.replicate x0.length d) (by simp) (by omega) (by omega)
  exact key
theorem eqLoop {L : Nat → Int → Option Bool} {x0 : List α} (hend : ∀ n, L (n + 1) (x0.length : Nat) = some true)
    (hcons : ∀ (i : Nat) x n, i < x0.length → x0[i]? = some x → x ∈ x0 → L (n + 1) (i : Nat) = L n ((i + 1 : Nat) : Int)) {n : Nat} (hn : x0.length < n) : L n 0 = some true := by
  have key := xFy (σ := Unit) (L := fun n i _ => L n i) x0 (fun _ _ => true) (fun _ _ => True) (fun n _ _ => hend n)
    (fun i x r s hd hi hx _ => .inl ⟨(), trivial, rfl, fun n => hcons i x n hi hx (List.mem_of_getElem? hx)⟩) n 0 () trivial (by omega) (by omega)
  exact key
end
end Go.Ab
end
section
namespace Go.Ab
set_option linter.unusedVariables false
theorem vk (a b c : Int) (t : Str) (l : List Val) (k : List Str) (r : List Rowd) : (Val.mk a b c t l k r).kind = a := rfl
theorem vn (a b c : Int) (t : Str) (l : List Val) (k : List Str) (r : List Rowd) : (Val.mk a b c t l k r).n = b := rfl
theorem vs (a b c : Int) (t : Str) (l : List Val) (k : List Str) (r : List Rowd) : (Val.mk a b c t l k r).step = c := rfl
theorem vt (a b c : Int) (t : Str) (l : List Val) (k : List Str) (r : List Rowd) : (Val.mk a b c t l k r).text = t := rfl
theorem vl (a b c : Int) (t : Str) (l : List Val) (k : List Str) (r : List Rowd) : (Val.mk a b c t l k r).list = l := rfl
theorem vc (a b c : Int) (t : Str) (l : List Val) (k : List Str) (r : List Rowd) : (Val.mk a b c t l k r).columns = k := rfl
theorem vr (a b c : Int) (t : Str) (l : List Val) (k : List Str) (r : List Rowd) : (Val.mk a b c t l k r).rows = r := rfl
theorem ek (a b : Int) (t : Str) (l : List Exp) : (Exp.mk a b t l).kind = a := rfl
theorem ea (a b : Int) (t : Str) (l : List Exp) : (Exp.mk a b t l).args = l := rfl
def Rowd.size (r : Rowd) : Nat := r.cells.length + r.frm.length
mutual
def Val.size : Val → Nat
  | .mk _ _ _ t l c r => t.length + (l.length + Val.sizes l) + (c.length + (c.map List.length).sum) + (r.length + (r.map Rowd.size).sum)
def Val.sizes : List Val → Nat
  | [] => 0
  | x :: r => Val.size x + Val.sizes r
end
theorem Val.sizes_eq (l : List Val) : Val.sizes l = (l.map Val.size).sum := by
  induction l with
  | nil => rfl
  | cons x l ih => simp [Val.sizes, ih]
theorem size_mem {α : Type} {f : α → Nat} {l : List α} {x : α} (h : x ∈ l) : f x ≤ (l.map f).sum := by
  induction l with
  | nil => cases h
  | cons a l ih =>
    simp only [List.map_cons, List.sum_cons]
    rcases List.mem_cons.1 h with rfl | h
    · omega
    · have := ih h; omega
theorem Val.size_eq (e : Val) : e.size = e.text.length + (e.list.length + (e.list.map Val.size).sum) + (e.columns.length + (e.columns.map List.length).sum) + (e.rows.length + (e.rows.map Rowd.size).sum) := by
  cases e; simp [Val.size, Val.sizes_eq, Val.text, Val.list, Val.columns, Val.rows]
theorem lfit_size {α : Type} {K M : Nat} {p q : α → Prop} {f : α → Nat} {l : List α} (h : LFit M p l) (hs : l.length + (l.map f).sum ≤ K) (hpq : ∀ x ∈ l, p x → f x ≤ K → q x) : LFit K q l :=
  ⟨by omega, fun x hx => hpq x hx (h.2 x hx) (by have := size_mem (f := f) hx; omega)⟩
theorem Rowd.fit_size {K M : Nat} {r : Rowd} (h : r.Fit M) (hs : r.size ≤ K) : r.Fit K := by
  unfold Rowd.size at hs
  exact ⟨⟨by omega, h.1.2⟩, ⟨by omega, h.2.2⟩⟩
theorem Val.fit_size {K M : Nat} : ∀ e : Val, e.Fit M → e.size ≤ K → e.Fit K := by
  refine Val.ind fun k n s t l c r ih h hs => ?_
  rw [Val.fit_iff] at h ⊢
  obtain ⟨h1, h2, h3, h4, h5, h6, h7⟩ := h
  have hs := hs
  rw [Val.size_eq] at hs
  exact ⟨h1, h2, h3, show List.length _ ≤ K from by omega, lfit_size h5 (by omega) fun x hx => ih x hx, lfit_size (f := List.length) h6 (by omega) fun x hx _ h => h, lfit_size (f := Rowd.size) h7 (by omega) fun x hx => Rowd.fit_size⟩
theorem xG3 (n : Nat) : Big fun N => n < N := ⟨n + 1, fun N h => by omega⟩
end Go.Ab
end
section
namespace Go.Ab
set_option linter.unusedVariables false
theorem markHeld {α : Type} {Lm : Nat → List α → Int → Int → Option (Int × List α)} {Lh : Nat → List α → Int → Int → Option Int} {c : α → Nat} {x0 : List α} {k0 B : Int} {n : Nat}
    (hm : ∀ n xs k, xs.length = x0.length → Lm (n + 1) xs k (xs.length : Nat) = some (k, xs)) (hh : ∀ n ys k, ys.length = x0.length → Lh (n + 1) ys k (ys.length : Nat) = some k)
    (hx : ∀ x ∈ x0, ∀ k, k0 ≤ k → k + c x ≤ B → ∃ y, (∀ n xs (i : Nat), xs.length = x0.length → xs[i]? = some x → Lm (n + 1) xs k i = Lm n (xs.set i y) (k + c x) ((i + 1 : Nat) : Int)) ∧
      (∀ n ys (i : Nat), ys.length = x0.length → ys[i]? = some y → Lh (n + 1) ys k i = Lh n ys (k + c x) ((i + 1 : Nat) : Int)))
    (hk : k0 + (x0.map c).sum ≤ B) (hn : x0.length < n) : ∃ ys, ys.length = x0.length ∧ Lm n x0 k0 0 = some (k0 + (x0.map c).sum, ys) ∧ Lh n ys k0 0 = some (k0 + (x0.map c).sum) := by
  have key : ∀ (l pre : List α) (k : Int) (n : Nat), pre.length + l.length = x0.length → (∀ x ∈ l, x ∈ x0) → k0 ≤ k → k + (l.map c).sum ≤ B → l.length < n →
      ∃ ys, ys.length = l.length ∧ Lm n (pre ++ l) k (pre.length : Nat) = some (k + (l.map c).sum, pre ++ ys) ∧ ∀ pre' : List α, pre'.length = pre.length → Lh n (pre' ++ ys) k (pre.length : Nat) = some (k + (l.map c).sum) := by
    intro l
    induction l with
    | nil =>
      intro pre k n hl hmem h0 hB hn
      obtain ⟨n, rfl⟩ : ∃ m, n = m + 1 := ⟨n - 1, by simp at hn; omega⟩
      refine ⟨[], rfl, ?_, fun pre' hp => ?_⟩
      · have := hm n (pre ++ []) k (by simpa using hl)
        simpa using this
      · have := hh n (pre' ++ []) k (by simp [hp]; simpa using hl)
        simp only [List.append_nil, hp] at this
        simpa using this
    | cons x l ih =>
      intro pre k n hl hmem h0 hB hn
      obtain ⟨n, rfl⟩ : ∃ m, n = m + 1 := ⟨n - 1, by simp at hn; omega⟩
      simp only [List.map_cons, List.sum_cons, List.length_cons] at hB hl hn
      obtain ⟨y, h1, h2⟩ := hx x (hmem x List.mem_cons_self) k h0 (by omega)
      obtain ⟨ys, g1, g2, g3⟩ := ih (pre ++ [y]) (k + c x) n (by simp; omega) (fun z hz => hmem z (List.mem_cons_of_mem _ hz)) (by omega) (by omega) (by omega)
      refine ⟨y :: ys, by simp [g1], ?_, fun pre' hp => ?_⟩
      · rw [h1 n (pre ++ x :: l) pre.length (by simp; omega) (by simp)]
        rw [List.set_append, if_neg (by omega), Nat.sub_self, List.set_cons_zero]
        have e : ((pre.length + 1 : Nat) : Int) = ((pre ++ [y]).length : Nat) := by simp
        rw [e, show pre ++ y :: l = (pre ++ [y]) ++ l from by simp, g2]
        simp only [List.map_cons, List.sum_cons, List.append_assoc, List.cons_append, List.nil_append]
        congr 2
        omega
      · rw [h2 n (pre' ++ y :: ys) pre.length (by simp [hp, g1]; omega) (by rw [← hp]; simp)]
        have e : ((pre.length + 1 : Nat) : Int) = ((pre ++ [y]).length : Nat) := by simp
        rw [e, show pre' ++ y :: ys = (pre' ++ [y]) ++ ys from by simp, g3 (pre' ++ [y]) (by simp [hp])]
        simp only [List.map_cons, List.sum_cons]
        congr 1
        omega
  obtain ⟨ys, h1, h2, h3⟩ := key x0 [] k0 n (by simp) (fun x h => h) (Int.le_refl _) hk hn
  exact ⟨ys, h1, h2, by simpa using h3 [] rfl⟩
theorem sum_le_mul {α : Type} {f g : α → Nat} {l : List α} {a : Nat} (h : ∀ x ∈ l, f x ≤ a + a * g x) : (l.map f).sum ≤ a * (l.length + (l.map g).sum) := by
  induction l with
  | nil => simp
  | cons x l ih =>
    have h1 := h x List.mem_cons_self
    have h2 := ih fun y hy => h y (List.mem_cons_of_mem _ hy)
    simp only [List.map_cons, List.sum_cons, List.length_cons, Nat.mul_add] at h2 ⊢
    omega
theorem xHD {α : Type} {xs : List α} {i : Nat} (h : i < xs.length) (y d : α) : (xs.set i y).getD i d = y := by simp [List.getD, h]
end Go.Ab
end
section
namespace Go.Ab
set_option linter.unusedVariables false
set_option linter.unusedSimpArgs false
def xIx (c : UInt8) : Bool := decide ((c.toNat : Int) ≥ 97) && decide ((c.toNat : Int) ≤ 122)
def digitC (c : UInt8) : Bool := decide ((c.toNat : Int) ≥ 48) && decide ((c.toNat : Int) ≤ 57)
def xHk : List UInt8 → Bool → Bool
  | [], _ => true
  | x :: r, f => (xIx x || (!f && digitC x)) && xHk r false
theorem spec_l2Shape_eq {N : Nat} {s : Str} (hl : s.length ≤ 9223372036854775807) (hn : s.length < N) : xGO N s = some (xHk s true && decide ((s.length : Int) > 0)) :=
  xFy (L := fun n i _ => xCf N n s i) s (fun l f => xHk l f && decide ((s.length : Int) > 0)) (fun i f => f = (i == 0)) (fun n _ _ => by simp [xCf, xHk])
    (fun i x l f hd hi hx hf => by
      have hi' : (i : Int) < (s.length : Int) := by omega
      have hi0 : ((i : Int) == 0) = f := by rw [hf]; cases i <;> simp <;> omega
      by_cases h1 : (xIx x || (!f && digitC x)) = true
      · refine .inl ⟨false, by simp, by simp [xHk, h1], fun n => ?_⟩
        simp only [xCf, decide_eq_true hi', cond_true, Int.toNat_natCast, xBk hx, xAW hi hl, hi0]
        rw [if_pos (by omega)]
        unfold xIx digitC at h1
        by_cases c1 : (x.toNat : Int) ≥ 97 <;> by_cases c2 : (x.toNat : Int) ≤ 122 <;> by_cases c3 : (x.toNat : Int) ≥ 48 <;> by_cases c4 : (x.toNat : Int) ≤ 57 <;> cases f <;>
          simp only [c1, c2, c3, c4, decide_true, decide_false, cond_true, cond_false, Bool.not_true, Bool.not_false, Bool.and_true, Bool.and_false, Bool.or_true, Bool.or_false, Bool.false_and, Bool.true_and, Bool.false_or, Bool.false_eq_true] at h1 ⊢
      · refine .inr fun n => ?_
        have h1 := Bool.eq_false_iff.2 h1
        simp only [xCf, decide_eq_true hi', cond_true, Int.toNat_natCast, xBk hx, xAW hi hl, hi0, xHk, h1, Bool.false_and]
        rw [if_pos (by omega)]
        unfold xIx digitC at h1
        by_cases c1 : (x.toNat : Int) ≥ 97 <;> by_cases c2 : (x.toNat : Int) ≤ 122 <;> by_cases c3 : (x.toNat : Int) ≥ 48 <;> by_cases c4 : (x.toNat : Int) ≤ 57 <;> cases f <;>
          simp only [c1, c2, c3, c4, decide_true, decide_false, cond_true, cond_false, Bool.not_true, Bool.not_false, Bool.and_true, Bool.and_false, Bool.or_true, Bool.or_false, Bool.false_and, Bool.true_and, Bool.false_or, Bool.true_eq_false] at h1 ⊢) N 0 true rfl (by omega) (by omega)
theorem xGF (N : Nat) (a b c : Int) : xEV N a b c = some (decide (b ≤ a) && decide (a ≤ c)) := by
  unfold xEV
  cases h : decide (b ≤ a) <;> simp
theorem xH5 (N : Nat) (a b c : Int) : xGN N a b c = some (decide (b ≤ a) && decide (a ≤ c)) := by
  unfold xGN
  cases h : decide (b ≤ a)
  · rfl
  · rfl
theorem impl_isWord_eq {N : Nat} {s : Str} (hl : s.length ≤ 9223372036854775807) (hn : s.length < N) : xG7 N s = some (xHk s true && (decide ((1 : Int) ≤ s.length) && decide ((s.length : Int) ≤ 8))) :=
  xFy (L := fun n i _ => xCJ N n s i) s (fun l f => xHk l f && (decide ((1 : Int) ≤ s.length) && decide ((s.length : Int) ≤ 8))) (fun i f => f = (i == 0)) (fun n _ _ => by simp [xCJ, xHk, xGF])
    (fun i x l f hd hi hx hf => by
      have hi' : (i : Int) < (s.length : Int) := by omega
      have hi0 : ((i : Int) == 0) = f := by rw [hf]; cases i <;> simp <;> omega
      have e1 : decide ((x.toNat : Int) < 48) = !decide ((x.toNat : Int) ≥ 48) := by by_cases c : (x.toNat : Int) ≥ 48 <;> simp [c] <;> omega
      have e2 : decide ((x.toNat : Int) > 57) = !decide ((x.toNat : Int) ≤ 57) := by by_cases c : (x.toNat : Int) ≤ 57 <;> simp [c] <;> omega
      by_cases h1 : (xIx x || (!f && digitC x)) = true
      · refine .inl ⟨false, by simp, by simp [xHk, h1], fun n => ?_⟩
        simp only [xCJ, decide_eq_true hi', cond_true, Int.toNat_natCast, xBk hx, xAW hi hl, hi0, e1, e2]
        rw [if_pos (by omega)]
        unfold xIx digitC at h1
        by_cases c1 : (x.toNat : Int) ≥ 97 <;> by_cases c2 : (x.toNat : Int) ≤ 122 <;> by_cases c3 : (x.toNat : Int) ≥ 48 <;> by_cases c4 : (x.toNat : Int) ≤ 57 <;> cases f <;>
          simp only [c1, c2, c3, c4, decide_true, decide_false, cond_true, cond_false, Bool.not_true, Bool.not_false, Bool.and_true, Bool.and_false, Bool.or_true, Bool.or_false, Bool.false_and, Bool.true_and, Bool.false_or, Bool.false_eq_true] at h1 ⊢
      · refine .inr fun n => ?_
        have h1 := Bool.eq_false_iff.2 h1
        simp only [xCJ, decide_eq_true hi', cond_true, Int.toNat_natCast, xBk hx, xAW hi hl, hi0, e1, e2, xHk, h1, Bool.false_and]
        rw [if_pos (by omega)]
        unfold xIx digitC at h1
        by_cases c1 : (x.toNat : Int) ≥ 97 <;> by_cases c2 : (x.toNat : Int) ≤ 122 <;> by_cases c3 : (x.toNat : Int) ≥ 48 <;> by_cases c4 : (x.toNat : Int) ≤ 57 <;> cases f <;>
          simp only [c1, c2, c3, c4, decide_true, decide_false, cond_true, cond_false, Bool.not_true, Bool.not_false, Bool.and_true, Bool.and_false, Bool.or_true, Bool.or_false, Bool.false_and, Bool.true_and, Bool.false_or, Bool.true_eq_false] at h1 ⊢) N 0 true rfl (by omega) (by omega)
def xHy : List Str := [[108, 101, 116], [105, 110], [105, 102], [116, 104, 101, 110], [101, 108, 115, 101], [102, 111, 114], [100, 111], [108, 101, 110], [115, 117, 109], [116, 97, 107, 101], [115, 107, 105, 112], [114, 97, 110, 103, 101], [110, 116, 104], [119, 104, 101, 114, 101], [107, 101, 101, 112], [97, 100, 100], [103, 114, 111, 117, 112], [106, 111, 105, 110], [99, 111, 108, 117, 109, 110], [114, 111, 119, 115], [99, 108, 111, 99, 107], [99, 104, 97, 110, 99, 101], [102, 105, 108, 101], [116, 97, 98, 108, 101]]
theorem spec_l1Has_eq {N : Nat} {xs : List Str} {s : Str} (hl : xs.length ≤ 9223372036854775807) (hn : xs.length < N) : xGZ N xs s = some (xs.any (· == s)) :=
  xFy (σ := Unit) (L := fun n i _ => xEs N n xs s i) xs (fun l _ => l.any (· == s)) (fun _ _ => True) (fun n _ _ => by simp [xEs])
    (fun i x l _ hd hi hx _ => by
      have hi' : (i : Int) < (xs.length : Int) := by omega
      cases h1 : x == s
      · refine .inl ⟨(), trivial, by simp [h1], fun n => ?_⟩
        simp only [xEs, decide_eq_true hi', cond_true, Int.toNat_natCast, xBk hx, h1, cond_false, xAW hi hl]
        rw [if_pos (by omega)]
      · refine .inr fun n => ?_
        simp only [xEs, decide_eq_true hi', cond_true, Int.toNat_natCast, xBk hx, h1]
        rw [if_pos (by omega)]
        simp [h1]) N 0 () trivial (by omega) (by omega)
def xH6 (s : Str) : Bool := xHy.any (· == s)
theorem spec_IsReserved_eq {N : Nat} {s : Str} (hn : 24 < N) : xEL N s = some (xH6 s) := by
  unfold xEL xFF
  rw [Option.bind_some, show ([[108, 101, 116], [105, 110], [105, 102], [116, 104, 101, 110], [101, 108, 115, 101], [102, 111, 114], [100, 111], [108, 101, 110], [115, 117, 109], [116, 97, 107, 101], [115, 107, 105, 112], [114, 97, 110, 103, 101], [110, 116, 104], [119, 104, 101, 114, 101], [107, 101, 101, 112], [97, 100, 100], [103, 114, 111, 117, 112], [106, 111, 105, 110], [99, 111, 108, 117, 109, 110], [114, 111, 119, 115], [99, 108, 111, 99, 107], [99, 104, 97, 110, 99, 101], [102, 105, 108, 101], [116, 97, 98, 108, 101]] : List Str) = xHy from rfl, spec_l1Has_eq (by decide) hn]
  rfl
theorem impl_IsReserved_eq (N : Nat) (s : Str) : xED N s = some (xH6 s) := by
  by_cases h : s ∈ xHy
  · have h' : xH6 s = true := List.any_eq_true.2 ⟨s, h, by simp⟩
    rw [h']
    simp only [xHy, List.mem_cons, List.not_mem_nil, or_false] at h
    rcases h with h | h | h | h | h | h | h | h | h | h | h | h | h | h | h | h | h | h | h | h | h | h | h | h <;> subst h <;> rfl
  · have h' : xH6 s = false := by
      unfold xH6
      rw [List.any_eq_false]
      intro x hx hxs
      exact h (by rw [← eq_of_beq hxs]; exact hx)
    rw [h']
    have hne : ∀ x ∈ xHy, (s == x) = false := by
      intro x hx
      cases hb : s == x
      · rfl
      · exact absurd (by rw [eq_of_beq hb]; exact hx) h
    simp only [xHy, List.mem_cons, List.not_mem_nil, or_false, forall_eq_or_imp, forall_eq] at hne
    simp only [xED, xEk, hne, cond_false, Option.bind_some]
    rfl
def xHi (s : Str) : Bool := xHk s true && (decide ((1 : Int) ≤ s.length) && decide ((s.length : Int) ≤ 8)) && !xH6 s
theorem xIo {N : Nat} {s : Str} (hl : s.length ≤ 9223372036854775807) (hn : s.length < N) : xEd N s = some (xHi s) := by
  unfold xEd xHi
  rw [impl_isWord_eq hl hn, Option.bind_some]
  cases (xHk s true && (decide ((1 : Int) ≤ s.length) && decide ((s.length : Int) ≤ 8)))
  · rfl
  · rw [impl_IsReserved_eq]; rfl
theorem xIB {N : Nat} {s : Str} (hl : s.length ≤ 9223372036854775807) (hn : s.length < N) (hn2 : 24 < N) : xEh N s = some (xHi s) := by
  unfold xEh xHi
  rw [spec_l2Shape_eq hl hn, Option.bind_some, spec_IsReserved_eq hn2]
  have : decide ((s.length : Int) > 0) = decide ((1 : Int) ≤ s.length) := by by_cases c : (s.length : Int) > 0 <;> simp [c] <;> omega
  rw [this]
  cases xHk s true <;> cases decide ((1 : Int) ≤ s.length) <;> cases decide ((s.length : Int) ≤ 8) <;> rfl
end Go.Ab
end
section
namespace Go.Ab
set_option linter.unusedVariables false
set_option linter.unusedSimpArgs false
theorem left_ge {s : Nat} {l : Int} (h : ¬ left s l < 0) : (s : Int) ≤ l := by unfold left at h; split at h <;> omega
end Go.Ab
end
section
namespace Go.Ab
set_option linter.unusedVariables false
set_option linter.unusedSimpArgs false
def xGS (n : Int) : Bool := decide ((-1000000000 : Int) ≤ n) && decide (n ≤ 1000000000)
theorem xGT (N : Nat) (n : Int) : xDr N n = some (xGS n) := by simp [xDr, xH5, xGS]
theorem xGQ (N : Nat) (n : Int) : xDn N n = some (xGS n) := by simp [xDn, xGF, xGS]
theorem wrap_pred {i len : Nat} (h0 : i ≠ 0) (h : i < len) (hl : len ≤ 9223372036854775807) : IntKind.i64.wrap ((i : Int) - 1) = ((i - 1 : Nat) : Int) := by
  rw [xCY (by omega) (by omega)]; omega
theorem markText_some {N : Nat} (hN : 274877906944 < N) {k : Int} (h0 : 0 ≤ k) (h1 : k ≤ 137438953472) : ∃ t, xDp N k = some t := by
  unfold xDp
  cases decide (k ≤ 0)
  · rw [cond_false]
    obtain ⟨r, _, hr⟩ := whileLoop (L := fun n (s : Int × Str) => xDM N n s.1 s.2) (fun s => s.1.toNat) (fun s => 0 ≤ s.1 ∧ (s.2.length : Int) + s.1 ≤ 137438953472) (fun _ => True) (fun s hs => by
      obtain ⟨x, t⟩ := s
      obtain ⟨g0, g1⟩ := hs
      have g0 : 0 ≤ x := g0
      have g1 : (t.length : Int) + x ≤ 137438953472 := g1
      by_cases hx : x > 0
      · have hq : Int.tdiv x 10 = x / 10 := Int.tdiv_eq_ediv_of_nonneg g0
        refine .inl ⟨(IntKind.i64.wrap (Int.tdiv x 10), (List.map (fun n => UInt8.ofNat (Int.toNat n)) [(IntKind.u8.wrap ((IntKind.i64.wrap (48 + (Int.tmod x 10)))))]) ++ t), ?_, ?_, fun n => ?_⟩
        · show 0 ≤ IntKind.i64.wrap (Int.tdiv x 10) ∧ _
          rw [hq, xCY (by omega) (by omega)]
          simp only [List.map_cons, List.map_nil, List.cons_append, List.nil_append, List.length_cons]
          omega
        · show (IntKind.i64.wrap (Int.tdiv x 10)).toNat < x.toNat
          rw [hq, xCY (by omega) (by omega)]
          omega
        · simp only [xDM, decide_eq_true hx, cond_true]
          rw [if_pos (by simp only [List.map_cons, List.map_nil, List.length_cons, List.length_nil]; unfold Lim; omega)]
      · refine .inr ⟨[109] ++ t, trivial, fun n => ?_⟩
        simp only [xDM, decide_eq_false hx, cond_false]
        rw [if_pos (by simp only [List.length_cons, List.length_nil]; unfold Lim; omega)]) N (k, []) ⟨h0, by simpa using h1⟩ (by show k.toNat < N; omega)
    exact ⟨r, hr⟩
  · exact ⟨_, rfl⟩
end Go.Ab
end
section
namespace Go.Ab
set_option linter.unusedVariables false
set_option linter.unusedSimpArgs false
theorem szIntS_eq {N : Nat} {x0 : List Int} (h : x0.length ≤ 9223372036854775807) {l : Int} (h0 : 0 ≤ l) (h1 : l ≤ 1048576) : xHb N x0 l = some (left x0.length l) := szLast h h0 h1
theorem szOriginS_eq {N : Nat} {x0 : List Org} (h : x0.length ≤ 9223372036854775807) {l : Int} (h0 : 0 ≤ l) (h1 : l ≤ 1048576) : xFY N x0 l = some (left x0.length l) := szLast h h0 h1
theorem szRow_eq {N : Nat} {r : Rowd} (h : r.Fit maxLen) {l : Int} (h0 : 0 ≤ l) (h1 : l ≤ 1048576) : xGY N r l = some (left r.size l) :=
  szBind h0 h1 (szIntS_eq h.1.1 h0 h1) fun m m0 m1 => left_two (szOriginS_eq h.2.1 m0 m1)
theorem szRowS_eq {N : Nat} {x0 : List Rowd} (h : LFit maxLen (Rowd.Fit maxLen) x0) (hn : x0.length < N) {l : Int} (h0 : 0 ≤ l) (h1 : l ≤ 1048576) : xHc N x0 l = some (left (x0.length + (x0.map Rowd.size).sum) l) :=
  szThen h.1 h0 h1 rfl fun m hm0 hm1 => szLoop (L := fun n x0 x1 x5 => xFZ N n x0 x1 x5) (d := Ty.row.dflt) (sz := xGY N) (fun _ _ _ => rfl) h.1 (fun x hx l h0 h1 => szRow_eq (h.2 x hx) h0 h1) hn hm0 hm1
theorem szStringS_eq {N : Nat} {x0 : List Str} (h : LFit maxLen (Str.Fit maxLen) x0) (hn : x0.length < N) {l : Int} (h0 : 0 ≤ l) (h1 : l ≤ 1048576) : xF0 N x0 l = some (left (x0.length + (x0.map List.length).sum) l) :=
  szThen h.1 h0 h1 rfl fun m hm0 hm1 => szLoopG (L := fun n x0 x1 x5 => xEI N n x0 x1 x5) (d := Ty.str.dflt) (sz := fun s l => some (IntKind.i64.wrap (l - (List.length s : Int)))) (size := List.length) (fun _ _ _ => rfl) h.1
    (fun x hx l h0 h1 => by
      have hx : x.length ≤ 9223372036854775807 := h.2 x hx
      exact ⟨_, rfl, fun h => by rw [xCY (by omega) (by omega)], fun h => by rw [xCY (by omega) (by omega)]; omega⟩) hn hm0 hm1
theorem szValue_big : ∀ v : Val, v.Fit maxLen → Big2 fun N d => ∀ l, 0 ≤ l → l ≤ 1048576 → (xB6 N d).c_laws_szValue v l = some (left v.size l) := by
  refine Val.ind fun k n s t a c r ih h => ?_
  obtain ⟨h1, h2, h3, h4, h5, h6, h7⟩ := Val.fit_iff.1 h
  refine Big2.succ (Big2.succ ?_)
  refine ((Big2.list fun x hx => ih x hx (h5.2 x hx)).and ((xG3 a.length).and ((xG3 c.length).and (xG3 r.length))).two).imp fun N d ⟨hx, hn, hc, hr⟩ l h0 l1 => ?_
  have e : (Val.mk k n s t a c r).size = t.length + ((a.length + (a.map Val.size).sum) + ((c.length + (c.map List.length).sum) + (r.length + (r.map Rowd.size).sum))) := by rw [Val.size_eq]; simp only [Val.text, Val.list, Val.columns, Val.rows]; omega
  rw [e]
  exact szThen h4 h0 l1 rfl fun m m0 m1 => szBind m0 m1 (szThen h5.1 m0 m1 rfl fun m m0 m1 =>
    szLoop (L := fun n x0 x1 x5 => xFa N (xB6 N d).c_laws_szValue (xB6 N d).c_laws_szValueS n x0 x1 x5) (d := Ty.val.dflt) (sz := (xB6 N d).c_laws_szValue)
      (fun _ _ _ => rfl) h5.1 (fun x hxm l h0 h1 => hx x hxm l h0 h1) hn m0 m1) fun m m0 m1 => szBind m0 m1 (szStringS_eq h6 hc m0 m1) fun m m0 m1 => left_two (szRowS_eq h7 hr m0 m1)
theorem xHA {v : Val} (h : v.Fit maxLen) : Big fun N => ∀ l, 0 ≤ l → l ≤ 1048576 → xEP N v l = some (left v.size l) := (szValue_big v h).diag
theorem toIntS_eq {N : Nat} {x0 : List Int} (hl : x0.length ≤ 1048576) (hn : x0.length < N) : xGt N x0 = some x0 := by
  unfold xGt
  rw [if_pos ⟨by omega, rfl, by unfold Lim; omega⟩]
  exact toLoop (L := fun n x0 x3 x4 => xF1 N n x0 x3 x4) (to := some) (re := fun r => r) (fun _ _ _ => rfl) (by omega) (fun x hx => ⟨x, rfl, rfl⟩) hn
theorem toStringS_eq {N : Nat} {x0 : List Str} (hl : x0.length ≤ 1048576) (hn : x0.length < N) : xFq N x0 = some x0 := by
  unfold xFq
  rw [if_pos ⟨by omega, rfl, by unfold Lim; omega⟩]
  exact toLoop (L := fun n x0 x3 x4 => xEK N n x0 x3 x4) (to := some) (re := fun r => r) (fun _ _ _ => rfl) (by omega) (fun x hx => ⟨x, rfl, rfl⟩) hn
theorem toOriginS_eq {N : Nat} {x0 : List Org} (hl : x0.length ≤ 1048576) (hn : x0.length < N) : xFo N x0 = some x0 := by
  unfold xFo
  rw [if_pos ⟨by omega, rfl, by unfold Lim; omega⟩]
  exact toLoop (L := fun n x0 x3 x4 => xEJ N n x0 x3 x4) (to := xGh N) (re := fun r => r) (fun _ _ _ => rfl) (by omega) (fun x hx => ⟨x, rfl, rfl⟩) hn
theorem toRow_eq {N : Nat} {r : Rowd} (h : r.Fit 1048576) (hN : 1048576 < N) : xGu N r = some r := by
  have h1 : r.cells.length ≤ 1048576 := h.1.1
  have h2 : r.frm.length ≤ 1048576 := h.2.1
  unfold xGu
  rw [toIntS_eq h1 (by omega), toOriginS_eq h2 (by omega)]; rfl
theorem toRowS_eq {N : Nat} {x0 : List Rowd} (h : LFit 1048576 (Rowd.Fit 1048576) x0) (hN : 1048576 < N) : xGv N x0 = some x0 := by
  have hl : x0.length ≤ 1048576 := h.1
  unfold xGv
  rw [if_pos ⟨by omega, rfl, by unfold Lim; omega⟩]
  exact toLoop (L := fun n x0 x3 x4 => xF2 N n x0 x3 x4) (to := xGu N) (re := fun r => r) (fun _ _ _ => rfl) (by omega) (fun x hx => ⟨x, toRow_eq (h.2 x hx) hN, rfl⟩) (by omega)
theorem toValueS_step {N d : Nat} {a : List Val} (hl : a.length ≤ 1048576) (hn : a.length < N) (hx : ∀ x ∈ a, (xBf N d).c_laws_toValue x = some x) : (xBf N (d + 1)).c_laws_toValueS a = some a := by
  show xDB N (xBf N d).c_laws_toValue (xBf N d).c_laws_toValueS a = _
  unfold xDB
  rw [if_pos ⟨by omega, rfl, by unfold Lim; omega⟩]
  exact toLoop (L := fun n x0 x3 x4 => xFc N (xBf N d).c_laws_toValue (xBf N d).c_laws_toValueS n x0 x3 x4) (to := (xBf N d).c_laws_toValue) (re := Val.re) (fun _ _ _ => rfl) (by omega) (fun x hxm => ⟨x, hx x hxm, Val.re_eq x⟩) hn
theorem toValue_big : ∀ v : Val, v.Fit 1048576 → Big2 fun N d => (xBf N d).c_laws_toValue v = some v := by
  refine Val.ind fun k n s t a c r ih h => ?_
  obtain ⟨h1, h2, h3, h4, h5, h6, h7⟩ := Val.fit_iff.1 h
  refine Big2.succ (Big2.succ ?_)
  refine ((Big2.list fun x hx => ih x hx (h5.2 x hx)).and (xG3 1048576).two).imp fun N d ⟨hx, hN⟩ => ?_
  have hl : a.length ≤ 1048576 := h5.1
  have hc : c.length ≤ 1048576 := h6.1
  show xDZ N (xBf N (d + 1)).c_laws_toValue (xBf N (d + 1)).c_laws_toValueS _ = _
  unfold xDZ
  simp only [Val.list, Val.columns, Val.rows, toValueS_step (N := N) hl (by omega) hx, toStringS_eq (N := N) hc (by omega), toRowS_eq (x0 := r) h7 hN, Option.bind_some]
  rfl
theorem toValue_eq {v : Val} (h : v.Fit 1048576) : Big fun N => xAM N v = some v := (toValue_big v h).diag
theorem eqIntS_self {N : Nat} {x0 : List Int} (hl : x0.length ≤ 9223372036854775807) (hn : x0.length < N) : xGp N x0 x0 = some true := by
  unfold xGp
  rw [bne_self_eq_false, cond_false]
  exact eqLoop (L := fun n i => xEv N n x0 x0 i) (fun n => by simp [xEv]) (fun i x n hi hx hm => by
    have hi' : (i : Int) < (x0.length : Int) := by omega
    simp only [xEv, decide_eq_true hi', cond_true, Int.toNat_natCast, xBk hx, xAW hi hl, bne_self_eq_false, cond_false]
    rw [if_pos (by omega), if_pos (by omega)]) hn
theorem eqStringS_self {N : Nat} {x0 : List Str} (hl : x0.length ≤ 9223372036854775807) (hn : x0.length < N) : xFl N x0 x0 = some true := by
  unfold xFl
  rw [bne_self_eq_false, cond_false]
  exact eqLoop (L := fun n i => xDg N n x0 x0 i) (fun n => by simp [xDg]) (fun i x n hi hx hm => by
    have hi' : (i : Int) < (x0.length : Int) := by omega
    simp only [xDg, decide_eq_true hi', cond_true, Int.toNat_natCast, xBk hx, xAW hi hl, beq_self_eq_true, Bool.not_true, cond_false]
    rw [if_pos (by omega), if_pos (by omega)]) hn
theorem eqOrigin_self (N : Nat) (f : Org) : xFI N f f = some true := by simp [xFI]
theorem eqOriginS_self {N : Nat} {x0 : List Org} (hl : x0.length ≤ 9223372036854775807) (hn : x0.length < N) : xFj N x0 x0 = some true := by
  unfold xFj
  rw [bne_self_eq_false, cond_false]
  exact eqLoop (L := fun n i => xDe N n x0 x0 i) (fun n => by simp [xDe]) (fun i x n hi hx hm => by
    have hi' : (i : Int) < (x0.length : Int) := by omega
    simp only [xDe, decide_eq_true hi', cond_true, Int.toNat_natCast, xBk hx, eqOrigin_self, Option.bind_some, xAW hi hl, Bool.not_true, cond_false]
    rw [if_pos (by omega), if_pos (by omega)]) hn
theorem eqRow_self {N K : Nat} {r : Rowd} (h : r.Fit K) (hK : K ≤ 9223372036854775807) (hN : K < N) : xGX N r r = some true := by
  have h1 : r.cells.length ≤ K := h.1.1
  have h2 : r.frm.length ≤ K := h.2.1
  simp [xGX, eqIntS_self (by omega : r.cells.length ≤ _) (by omega : _ < N), eqOriginS_self (by omega : r.frm.length ≤ _) (by omega : _ < N)]
theorem eqRowS_self {N K : Nat} {x0 : List Rowd} (h : LFit K (Rowd.Fit K) x0) (hK : K ≤ 9223372036854775807) (hN : K < N) : xGq N x0 x0 = some true := by
  have hl : x0.length ≤ K := h.1
  unfold xGq
  rw [bne_self_eq_false, cond_false]
  exact eqLoop (x0 := x0) (L := fun n i => xEw N n x0 x0 i) (fun n => by simp [xEw]) (fun i x n hi hx hm => by
    have hi' : (i : Int) < (x0.length : Int) := by omega
    simp only [xEw, decide_eq_true hi', cond_true, Int.toNat_natCast, xBk hx, eqRow_self (h.2 x hm) hK hN, Option.bind_some, xAW hi (by omega : x0.length ≤ _), Bool.not_true, cond_false]
    rw [if_pos (by omega), if_pos (by omega)]) (by omega)
theorem eqValueS_step {N d : Nat} {a : List Val} (hl : a.length ≤ 9223372036854775807) (hn : a.length < N) (hx : ∀ x ∈ a, (xBj N d).c_laws_eqValue x x = some true) : (xBj N (d + 1)).c_laws_eqValueS a a = some true := by
  show xDz N (xBj N d).c_laws_eqValue (xBj N d).c_laws_eqValueS a a = _
  unfold xDz
  rw [bne_self_eq_false, cond_false]
  exact eqLoop (L := fun n i => xDG N (xBj N d).c_laws_eqValue (xBj N d).c_laws_eqValueS n a a i) (fun n => by simp [xDG]) (fun i x n hi hxi hm => by
    have hi' : (i : Int) < (a.length : Int) := by omega
    simp only [xDG, decide_eq_true hi', cond_true, Int.toNat_natCast, xBk hxi, hx x hm, Option.bind_some, xAW hi (by omega : a.length ≤ _), Bool.not_true, cond_false]
    rw [if_pos (by omega), if_pos (by omega)]) hn
theorem eqValue_big {K : Nat} (hK : K ≤ 9223372036854775807) : ∀ v : Val, v.Fit K → Big2 fun N d => (xBj N d).c_laws_eqValue v v = some true := by
  refine Val.ind fun k n s t a c r ih h => ?_
  obtain ⟨h1, h2, h3, h4, h5, h6, h7⟩ := Val.fit_iff.1 h
  refine Big2.succ (Big2.succ ?_)
  refine ((Big2.list fun x hx => ih x hx (h5.2 x hx)).and (xG3 K).two).imp fun N d ⟨hx, hN⟩ => ?_
  have hl : a.length ≤ K := h5.1
  have hc : c.length ≤ K := h6.1
  show xDV N (xBj N (d + 1)).c_laws_eqValue (xBj N (d + 1)).c_laws_eqValueS _ _ = _
  unfold xDV
  simp only [Val.list, Val.columns, Val.rows, eqValueS_step (by omega : a.length ≤ _) (by omega : _ < N) hx, eqStringS_self (by omega : c.length ≤ _) (by omega : _ < N), eqRowS_self (x0 := r) h7 hK hN, Option.bind_some, bne_self_eq_false, beq_self_eq_true, Bool.not_true, cond_false]
theorem xHU {v : Val} {K : Nat} (h : v.Fit K) (hK : K ≤ 9223372036854775807) : Big fun N => xAL N v v = some true := (eqValue_big hK v h).diag
def cOne {α : Type} (_ : α) : Nat := 1
def cOrg (_ : Org) : Nat := 2
def cRow (r : Rowd) : Nat := (r.cells.map cOne).sum + (r.frm.map cOrg).sum
theorem cOne_sum {α : Type} (xs : List α) : (xs.map cOne).sum = xs.length := by
  induction xs with
  | nil => rfl
  | cons x l ih => simp only [List.map_cons, List.sum_cons, ih, List.length_cons, cOne]; omega
theorem cOrg_sum (xs : List Org) : (xs.map cOrg).sum = 2 * xs.length := by
  induction xs with
  | nil => rfl
  | cons x l ih => simp only [List.map_cons, List.sum_cons, ih, List.length_cons, cOrg]; omega
theorem markIntS_held {N : Nat} (hN : 274877906944 < N) {xs : List Int} {k : Int} (h0 : 0 ≤ k) (h1 : k + ((xs.map cOne).sum : Nat) ≤ 137438953472) :
    ∃ ys, ys.length = xs.length ∧ xGg N xs k = some (k + ((xs.map cOne).sum : Nat), ys) ∧ xGe N ys k = some (k + ((xs.map cOne).sum : Nat)) := by
  have hs := cOne_sum xs
  refine markHeld (Lm := fun n xs k i => xDK N n xs k i) (Lh := fun n ys k i => xDH N n ys k i) (c := cOne) (fun n xs k hl => by simp [xDK]) (fun n ys k hl => by simp [xDH])
    (fun x hx k hk hB => ?_) h1 (by omega)
  have hc : cOne x = 1 := rfl
  rw [hc] at hB ⊢
  refine ⟨k, fun n xs' i hl hxi => ?_, fun n ys i hl hyi => ?_⟩
  · have hi := (List.getElem?_eq_some_iff.1 hxi).1
    have hi' : (i : Int) < (xs'.length : Int) := by omega
    simp only [xDK, decide_eq_true hi', cond_true, Int.toNat_natCast, xAW hi (by omega : xs'.length ≤ _), xCY (x := k + 1) (by omega) (by omega)]
    rw [if_pos (by omega)]; rfl
  · have hi := (List.getElem?_eq_some_iff.1 hyi).1
    have hi' : (i : Int) < (ys.length : Int) := by omega
    simp only [xDH, decide_eq_true hi', cond_true, Int.toNat_natCast, xBk hyi, xAW hi (by omega : ys.length ≤ _), xCY (x := k + 1) (by omega) (by omega), bne_self_eq_false, cond_false]
    rw [if_pos (by omega)]; rfl
theorem xHM {N : Nat} (hN : 274877906944 < N) {xs : List Str} {k : Int} (h0 : 0 ≤ k) (h1 : k + ((xs.map cOne).sum : Nat) ≤ 137438953472) :
    ∃ ys, ys.length = xs.length ∧ xEg N xs k = some (k + ((xs.map cOne).sum : Nat), ys) ∧ xDJ N ys k = some (k + ((xs.map cOne).sum : Nat)) := by
  have hs := cOne_sum xs
  refine markHeld (Lm := fun n xs k i => xCy N n xs k i) (Lh := fun n ys k i => xCc N n ys k i) (c := cOne) (fun n xs k hl => by simp [xCy]) (fun n ys k hl => by simp [xCc])
    (fun x hx k hk hB => ?_) h1 (by omega)
  have hc : cOne x = 1 := rfl
  rw [hc] at hB ⊢
  obtain ⟨t, ht⟩ := markText_some hN (k := k) (by omega) (by omega)
  refine ⟨t, fun n xs' i hl hxi => ?_, fun n ys i hl hyi => ?_⟩
  · have hi := (List.getElem?_eq_some_iff.1 hxi).1
    have hi' : (i : Int) < (xs'.length : Int) := by omega
    simp only [xCy, decide_eq_true hi', cond_true, Int.toNat_natCast, ht, Option.bind_some, xAW hi (by omega : xs'.length ≤ _), xCY (x := k + 1) (by omega) (by omega)]
    rw [if_pos (by omega)]; rfl
  · have hi := (List.getElem?_eq_some_iff.1 hyi).1
    have hi' : (i : Int) < (ys.length : Int) := by omega
    simp only [xCc, decide_eq_true hi', cond_true, Int.toNat_natCast, xBk hyi, ht, Option.bind_some, xAW hi (by omega : ys.length ≤ _), xCY (x := k + 1) (by omega) (by omega), beq_self_eq_true, Bool.not_true, cond_false]
    rw [if_pos (by omega)]; rfl
theorem markOriginS_held {N : Nat} (hN : 274877906944 < N) {xs : List Org} {k : Int} (h0 : 0 ≤ k) (h1 : k + ((xs.map cOrg).sum : Nat) ≤ 137438953472) :
    ∃ ys, ys.length = xs.length ∧ xE8 N xs k = some (k + ((xs.map cOrg).sum : Nat), ys) ∧ xE7 N ys k = some (k + ((xs.map cOrg).sum : Nat)) := by
  have hs := cOrg_sum xs
  refine markHeld (Lm := fun n xs k i => xCx N n xs k i) (Lh := fun n ys k i => xCw N n ys k i) (c := cOrg) (fun n xs k hl => by simp [xCx]) (fun n ys k hl => by simp [xCw])
    (fun x hx k hk hB => ?_) h1 (by omega)
  have hc : cOrg x = 2 := rfl
  rw [hc] at hB ⊢
  refine ⟨⟨k, k + 1⟩, fun n xs' i hl hxi => ?_, fun n ys i hl hyi => ?_⟩
  · have hi := (List.getElem?_eq_some_iff.1 hxi).1
    have hi' : (i : Int) < (xs'.length : Int) := by omega
    simp only [xCx, decide_eq_true hi', cond_true, Int.toNat_natCast, xBk hxi, List.length_set, xHD hi, List.set_set, xAW hi (by omega : xs'.length ≤ _)]
    rw [if_pos (by omega), if_pos (by omega), xCY (x := k + 1) (by omega) (by omega), xCY (x := k + 1 + 1) (by omega) (by omega)]
    congr 1
    omega
  · have hi := (List.getElem?_eq_some_iff.1 hyi).1
    have hi' : (i : Int) < (ys.length : Int) := by omega
    simp only [xCw, decide_eq_true hi', cond_true, Int.toNat_natCast, xBk hyi, xAW hi (by omega : ys.length ≤ _), xCY (x := k + 1) (by omega) (by omega), xCY (x := k + 1 + 1) (by omega) (by omega), bne_self_eq_false, cond_false]
    rw [if_pos (by omega)]
    congr 1
    omega
theorem markRowS_held {N : Nat} (hN : 274877906944 < N) {xs : List Rowd} {k : Int} (hlen : xs.length ≤ 137438953472) (h0 : 0 ≤ k) (h1 : k + ((xs.map cRow).sum : Nat) ≤ 137438953472) :
    ∃ ys, ys.length = xs.length ∧ xFJ N xs k = some (k + ((xs.map cRow).sum : Nat), ys) ∧ xEX N ys k = some (k + ((xs.map cRow).sum : Nat)) := by
  refine markHeld (Lm := fun n xs k i => xDL N n xs k i) (Lh := fun n ys k i => xC3 N n ys k i) (c := cRow) (fun n xs k hl => by simp [xDL]) (fun n ys k hl => by simp [xC3])
    (fun x hx k hk hB => ?_) h1 (by omega)
  have hc : cRow x = (x.cells.map cOne).sum + (x.frm.map cOrg).sum := rfl
  rw [hc] at hB ⊢
  obtain ⟨ya, a1, a2, a3⟩ := markIntS_held hN (xs := x.cells) (k := k) (by omega) (by omega)
  obtain ⟨yb, b1, b2, b3⟩ := markOriginS_held hN (xs := x.frm) (k := k + ((x.cells.map cOne).sum : Nat)) (by omega) (by omega)
  refine ⟨⟨ya, yb⟩, fun n xs' i hl hxi => ?_, fun n ys i hl hyi => ?_⟩
  · have hi := (List.getElem?_eq_some_iff.1 hxi).1
    have hi' : (i : Int) < (xs'.length : Int) := by omega
    have hcd : (0 : Int) ≤ (i : Int) ∧ (i : Int) < (xs'.length : Int) := by omega
    simp only [xDL, decide_eq_true hi', cond_true, Int.toNat_natCast, xBk hxi, List.length_set, xHD hi, List.set_set, xAW hi (by omega : xs'.length ≤ _), if_pos hcd, a2, b2, if_pos a1, if_pos b1, Option.bind_some]
    congr 1
    omega
  · have hi := (List.getElem?_eq_some_iff.1 hyi).1
    have hi' : (i : Int) < (ys.length : Int) := by omega
    have hcd : (0 : Int) ≤ (i : Int) ∧ (i : Int) < (ys.length : Int) := by omega
    simp only [xC3, decide_eq_true hi', cond_true, Int.toNat_natCast, xBk hyi, xAW hi (by omega : ys.length ≤ _), if_pos hcd, a3, b3, Option.bind_some]
    rw [decide_eq_false (by omega), cond_false, decide_eq_false (by omega), cond_false]
    congr 1
    omega
mutual
def Val.cnt : Val → Nat
  | .mk _ _ _ _ l c r => 4 + Val.cnts l + (c.map cOne).sum + (r.map cRow).sum
def Val.cnts : List Val → Nat
  | [] => 0
  | x :: r => Val.cnt x + Val.cnts r
end
theorem Val.cnts_eq (l : List Val) : Val.cnts l = (l.map Val.cnt).sum := by
  induction l with
  | nil => rfl
  | cons x l ih => simp [Val.cnts, ih]
theorem cRow_le (l : List Rowd) : (l.map cRow).sum ≤ 2 * (l.length + (l.map Rowd.size).sum) :=
  sum_le_mul fun x _ => by simp only [cRow, cOne_sum, cOrg_sum, Rowd.size]; omega
theorem Val.cnt_le : ∀ v : Val, v.cnt ≤ 4 + 4 * v.size := by
  refine Val.ind fun k n s t l c r ih => ?_
  have h1 := sum_le_mul (f := Val.cnt) (g := Val.size) (l := l) (a := 4) fun x hx => ih x hx
  have h2 := cRow_le r
  have h3 := cOne_sum c
  rw [Val.size_eq]
  simp only [Val.cnt, Val.cnts_eq, Val.text, Val.list, Val.columns, Val.rows, h3] at h1 h2 ⊢
  omega
theorem cnts_len (l : List Val) : l.length ≤ (l.map Val.cnt).sum := by
  induction l with
  | nil => simp
  | cons x l ih =>
    have : 4 ≤ x.cnt := by cases x; simp only [Val.cnt]; omega
    simp only [List.length_cons, List.map_cons, List.sum_cons]; omega
def MarkV (N d : Nat) (l : List Val) : Prop := ∀ k : Int, 0 ≤ k → k + ((l.map Val.cnt).sum : Nat) ≤ 137438953472 →
    ∃ ys, ys.length = l.length ∧ xD7 N d l k = some (k + ((l.map Val.cnt).sum : Nat), ys) ∧ xDi N d ys k = some (k + ((l.map Val.cnt).sum : Nat))
theorem markV_step {N d : Nat} (hN : 274877906944 < N) {l : List Val} (hr : ∀ x ∈ l, x.rows.length ≤ 137438953472) (hx : ∀ x ∈ l, MarkV N d x.list) : MarkV N (d + 1) l := by
  intro k h0 h1
  have hlen := cnts_len l
  refine markHeld (Lm := fun n xs k i => xCU N (xD7 N d) n xs k i) (Lh := fun n ys k i => xCk N (xDi N d) n ys k i) (c := Val.cnt) (fun n xs k hl => by simp [xCU]) (fun n ys k hl => by simp [xCk])
    (fun x hxm k hk hB => ?_) h1 (by omega)
  have hc : x.cnt = 4 + (x.list.map Val.cnt).sum + (x.columns.map cOne).sum + (x.rows.map cRow).sum := by cases x; simp only [Val.cnt, Val.cnts_eq, Val.list, Val.columns, Val.rows]
  rw [hc] at hB ⊢
  obtain ⟨t, ht⟩ := markText_some hN (k := k + 1 + 1 + 1) (by omega) (by omega)
  obtain ⟨ya, a1, a2, a3⟩ := hx x hxm (k + 1 + 1 + 1 + 1) (by omega) (by omega)
  obtain ⟨yb, b1, b2, b3⟩ := xHM hN (xs := x.columns) (k := k + 1 + 1 + 1 + 1 + ((x.list.map Val.cnt).sum : Nat)) (by omega) (by omega)
  obtain ⟨yc, c1, c2, c3⟩ := markRowS_held hN (xs := x.rows) (k := k + 1 + 1 + 1 + 1 + ((x.list.map Val.cnt).sum : Nat) + ((x.columns.map cOne).sum : Nat)) (hr x hxm) (by omega) (by omega)
  have w1 : IntKind.i64.wrap (k + 1) = k + 1 := xCY (by omega) (by omega)
  have w2 : IntKind.i64.wrap (k + 1 + 1) = k + 1 + 1 := xCY (by omega) (by omega)
  have w3 : IntKind.i64.wrap (k + 1 + 1 + 1) = k + 1 + 1 + 1 := xCY (by omega) (by omega)
  have w4 : IntKind.i64.wrap (k + 1 + 1 + 1 + 1) = k + 1 + 1 + 1 + 1 := xCY (by omega) (by omega)
  refine ⟨.mk k (k + 1) (k + 1 + 1) t ya yb yc, fun n xs' i hl hxi => ?_, fun n ys i hl hyi => ?_⟩
  · have hi := (List.getElem?_eq_some_iff.1 hxi).1
    have hi' : (i : Int) < (xs'.length : Int) := by omega
    have hcd : (0 : Int) ≤ (i : Int) ∧ (i : Int) < (xs'.length : Int) := by omega
    simp only [xCU, decide_eq_true hi', cond_true, Int.toNat_natCast, xBk hxi, List.length_set, xHD hi, List.set_set, xAW hi (by omega : xs'.length ≤ _), if_pos hcd, w1, w2, w3, w4, ht, Option.bind_some,
      vk, vn, vs, vt, vl, vc, vr, a2, b2, c2, if_pos a1, if_pos b1, if_pos c1]
    congr 1
    omega
  · have hi := (List.getElem?_eq_some_iff.1 hyi).1
    have hi' : (i : Int) < (ys.length : Int) := by omega
    have hcd : (0 : Int) ≤ (i : Int) ∧ (i : Int) < (ys.length : Int) := by omega
    simp only [xCk, decide_eq_true hi', cond_true, Int.toNat_natCast, xBk hyi, xAW hi (by omega : ys.length ≤ _), if_pos hcd, w1, w2, w3, w4, ht, Option.bind_some, vk, vn, vs, vt, vl, vc, vr, a3, b3, c3, bne_self_eq_false, beq_self_eq_true, Bool.not_true, cond_false]
    rw [decide_eq_false (by omega), cond_false, decide_eq_false (by omega), cond_false, decide_eq_false (by omega), cond_false]
    congr 1
    omega
theorem markV_big {K : Nat} (hK : K ≤ 137438953472) : ∀ v : Val, v.Fit K → Big2 fun N d => MarkV N d v.list := by
  refine Val.ind fun k n s t a c r ih h => ?_
  obtain ⟨h1, h2, h3, h4, h5, h6, h7⟩ := Val.fit_iff.1 h
  refine Big2.succ ?_
  refine ((Big2.list fun x hx => ih x hx (h5.2 x hx)).and (xG3 274877906944).two).imp fun N d ⟨hx, hN⟩ => ?_
  exact markV_step hN (fun x hxm => by have := (Val.fit_iff.1 (h5.2 x hxm)).2.2.2.2.2.2.1; omega) hx
theorem xH3 {K : Nat} (hK : K ≤ 137438953472) {v : Val} (h : v.Fit K) :
    Big fun N => ∀ k : Int, 0 ≤ k → k + (v.cnt : Nat) ≤ 137438953472 → ∃ k' xa xb xc, 0 ≤ k' ∧ k' ≤ k + (v.cnt : Nat) ∧ xa.length = v.list.length ∧ xb.length = v.columns.length ∧ xc.length = v.rows.length ∧ xBc N v k = some (k', xa, xb, xc) ∧ xAQ N (Val.mk v.kind v.n v.step v.text xa xb xc) k = some k' := by
  have hb := (markV_big hK v h).diag
  refine (hb.and (xG3 274877906944)).imp fun N ⟨hm, hN⟩ k k0 kB => ?_
  have hc' : v.cnt = 4 + (v.list.map Val.cnt).sum + (v.columns.map cOne).sum + (v.rows.map cRow).sum := by cases v; simp only [Val.cnt, Val.cnts_eq, Val.list, Val.columns, Val.rows]
  obtain ⟨ya, a1, a2, a3⟩ := hm k (by omega) (by omega)
  obtain ⟨yb, b1, b2, b3⟩ := xHM hN (xs := v.columns) (k := k + ((v.list.map Val.cnt).sum : Nat)) (by omega) (by omega)
  obtain ⟨yc, c1, c2, c3⟩ := markRowS_held hN (xs := v.rows) (k := k + ((v.list.map Val.cnt).sum : Nat) + ((v.columns.map cOne).sum : Nat)) (by have := (Val.fit_iff.1 h).2.2.2.2.2.2.1; omega) (by omega) (by omega)
  have a2' : xHa N v.list k = _ := a2
  have a3' : xGf N ya k = _ := a3
  refine ⟨k + ((v.list.map Val.cnt).sum : Nat) + ((v.columns.map cOne).sum : Nat) + ((v.rows.map cRow).sum : Nat), ya, yb, yc, by omega, by omega, a1, b1, c1, ?_, ?_⟩
  · simp only [xBc, a2', Option.bind_some, if_pos a1, b2, if_pos b1, c2, if_pos c1]
  · simp only [xAQ, vl, vc, vr, a3', b3, c3, Option.bind_some]
    rw [decide_eq_false (by omega), cond_false, decide_eq_false (by omega), cond_false, decide_eq_false (by omega), cond_false]
theorem markValue_held {K : Nat} (hK : K ≤ 137438953472) {v : Val} (h : v.Fit K) (hc : v.cnt ≤ 100000000000) :
    Big fun N => ∃ k xa xb xc, 0 ≤ k ∧ xa.length = v.list.length ∧ xb.length = v.columns.length ∧ xc.length = v.rows.length ∧ xBc N v 1 = some (k, xa, xb, xc) ∧ xAQ N (Val.mk v.kind v.n v.step v.text xa xb xc) 1 = some k :=
  (xH3 hK h).imp fun N h => by
    obtain ⟨k', xa, xb, xc, h0, _, h2⟩ := h 1 (by omega) (by omega)
    exact ⟨k', xa, xb, xc, h0, h2⟩
theorem val_of_cells {a0 : Val} (f0 : ∀ z ∈ [CV.int .i64 (Val.kind a0), .int .i64 (Val.n a0), .int .i64 (Val.step a0), .str (Val.text a0), .sl .ro .val (Val.list a0), .sl .ro .str (Val.columns a0), .sl .ro .row (Val.rows a0)], DFit z.toD) : a0.Fit maxLen := by
  have f := fun z hz => (f0 z hz).dk
  simp only [List.mem_cons, List.not_mem_nil, or_false, forall_eq_or_imp, forall_eq] at f
  obtain ⟨h1, h2, h3, h4, h5, h6, h7⟩ := f
  refine Val.fit_iff.2 ⟨cell_int h1, cell_int h2, cell_int h3, cell_str h4, cell_sl h5, (cell_sl h6).imp fun x hx => ?_, (cell_sl h7).imp fun x hx => rowd_fit.1 hx⟩
  exact DK.str_iff.1 (hx _ List.mem_cons_self)
end Go.Ab
end
section
namespace Go.Ab
set_option linter.unusedVariables false
set_option linter.unusedSimpArgs false
theorem spec_l3Row_eq {N K : Nat} {r : Rowd} (h : r.Fit K) (hK : K ≤ 137438953472) : xG2 N r = some r := by
  have h1 : r.cells.length ≤ K := h.1.1
  have h2 : r.frm.length ≤ K := h.2.1
  unfold xG2
  rw [if_pos (by unfold Lim; omega), if_pos (by unfold Lim; omega)]; rfl
theorem impl_copyRow_eq {N K : Nat} {r : Rowd} (h : r.Fit K) (hK : K ≤ 137438953472) : xGL N r = some r := spec_l3Row_eq (N := N) h hK
theorem spec_copy_b7_eq {N K : Nat} {rc : Val → Option Val} {v z : Val} {k n s : Int} {t : Str} {l : List Val} {c : List Str} (h : LFit K (Rowd.Fit K) v.rows) (hK : K ≤ 137438953472) (hN : K < N) :
    xDT N rc N 0 v z (Val.mk k n s t l c []) = some (Val.mk k n s t l c v.rows) := by
  have hl : v.rows.length ≤ K := h.1
  exact xFy (L := fun m i q => xDT N rc m i v z (Val.mk k n s t l c q)) v.rows (fun r q => Val.mk k n s t l c (q ++ r)) (fun i q => q.length = i) (fun m q hq => by simp [xDT])
    (fun i x r q hd hi hx hq => by
      have hq : q.length = i := hq
      have hi' : (i : Int) < (v.rows.length : Int) := by omega
      refine .inl ⟨q ++ [x], by simp [hq], by simp, fun m => ?_⟩
      simp only [xDT, decide_eq_true hi', cond_true, Int.toNat_natCast, xBk hx, spec_l3Row_eq (h.2 x (List.mem_of_getElem? hx)) hK, Option.bind_some, xAW hi (by omega : v.rows.length ≤ _), vk, vn, vs, vt, vl, vc, vr]
      rw [if_pos (by omega), if_pos (by simp only [List.length_cons, List.length_nil]; unfold Lim; omega)]) N 0 [] rfl (by omega) (by omega)
theorem spec_copy_step {N d K : Nat} {v : Val} (h : v.Fit K) (hK : K ≤ 137438953472) (hN : K < N) (hx : ∀ x ∈ v.list, xEc N d x = some x) : xEj N (xEc N d) v = some v := by
  obtain ⟨h1, h2, h3, h4, h5, h6, h7⟩ := Val.fit_iff.1 h
  have hl : v.list.length ≤ K := h5.1
  have hc : v.columns.length ≤ K := h6.1
  unfold xEj
  rw [if_pos (by unfold Lim; omega)]
  have key := xFy (L := fun m i q => xEz N (xEc N d) m i v (Val.mk 0 0 0 [] [] [] []) (Val.mk v.kind v.n v.step v.text q ([] ++ v.columns) [])) v.list (fun l q => Val.mk v.kind v.n v.step v.text (q ++ l) v.columns v.rows) (fun i q => q.length = i)
    (fun m q hq => by
      simp only [xEz, Int.lt_irrefl, decide_false, cond_false, List.append_nil, List.nil_append]
      exact spec_copy_b7_eq h7 hK hN)
    (fun i x l q hd hi hxi hq => by
      have hq : q.length = i := hq
      have hi' : (i : Int) < (v.list.length : Int) := by omega
      refine .inl ⟨q ++ [x], by simp [hq], by simp, fun m => ?_⟩
      simp only [xEz, decide_eq_true hi', cond_true, Int.toNat_natCast, xBk hxi, hx x (List.mem_of_getElem? hxi), Option.bind_some, Val.re_eq, xAW hi (by omega : v.list.length ≤ _), vk, vn, vs, vt, vl, vc, vr]
      rw [if_pos (by omega), if_pos (by simp only [List.length_cons, List.length_nil]; unfold Lim; omega)]) N 0 [] rfl (by omega) (by omega)
  rw [List.drop_zero, List.nil_append, List.nil_append, Val.eta] at key
  exact key
theorem spec_copy_big {K : Nat} (hK : K ≤ 137438953472) : ∀ v : Val, v.Fit K → Big2 fun N d => xEc N d v = some v := by
  refine Val.ind fun k n s t a c r ih h => ?_
  have h5 := (Val.fit_iff.1 h).2.2.2.2.1
  refine Big2.succ ?_
  exact ((Big2.list fun x hx => ih x hx (h5.2 x hx)).and (xG3 K).two).imp fun N d ⟨hx, hN⟩ => spec_copy_step h hK hN hx
theorem spec_copy_eq' {K : Nat} {v : Val} (h : v.Fit K) (hK : K ≤ 137438953472) : Big fun N => xHh N v = some v := (spec_copy_big hK v h).diag
theorem impl_copy_b6_eq {N K : Nat} {rc : Val → Option Val} {rd : List Val → Option (List Val)} {z : Val} {k n s : Int} {t : Str} {l : List Val} {c : List Str} {rs : List Rowd} (h : LFit K (Rowd.Fit K) rs) (hK : K ≤ 137438953472) (hN : K < N) :
    xCC N rc rd N rs rs.length 0 z (Val.mk k n s t l c []) = some (Val.mk k n s t l c rs) := by
  have hl : rs.length ≤ K := h.1
  exact xFy (L := fun m i q => xCC N rc rd m rs rs.length i z (Val.mk k n s t l c q)) rs (fun r q => Val.mk k n s t l c (q ++ r)) (fun i q => q.length = i) (fun m q hq => by simp [xCC])
    (fun i x r q hd hi hx hq => by
      have hq : q.length = i := hq
      have hi' : (i : Int) < (rs.length : Int) := by omega
      refine .inl ⟨q ++ [x], by simp [hq], by simp, fun m => ?_⟩
      simp only [xCC, decide_eq_true hi', cond_true, Int.toNat_natCast, xBk hx, impl_copyRow_eq (h.2 x (List.mem_of_getElem? hx)) hK, Option.bind_some, xAW hi (by omega : rs.length ≤ _), vk, vn, vs, vt, vl, vc, vr]
      rw [if_pos (by omega), if_pos (by simp only [List.length_cons, List.length_nil]; unfold Lim; omega)]) N 0 [] rfl (by omega) (by omega)
theorem xHJ {N d : Nat} {a : List Val} (hl : a.length ≤ 137438953472) (hn : a.length < N) (hx : ∀ x ∈ a, (xAO N d).c_impl_copyValue x = some x) : (xAO N (d + 1)).c_impl_copyValues a = some a := by
  show xCZ N (xAO N d).c_impl_copyValue (xAO N d).c_impl_copyValues a = _
  unfold xCZ
  exact xFy (L := fun m i q => xCS N (xAO N d).c_impl_copyValue (xAO N d).c_impl_copyValues m q a a.length i) a (fun l q => q ++ l) (fun i q => q.length = i) (fun m q hq => by simp [xCS])
    (fun i x l q hd hi hxi hq => by
      have hq : q.length = i := hq
      have hi' : (i : Int) < (a.length : Int) := by omega
      refine .inl ⟨q ++ [x], by simp [hq], by simp, fun m => ?_⟩
      simp only [xCS, decide_eq_true hi', cond_true, Int.toNat_natCast, xBk hxi, hx x (List.mem_of_getElem? hxi), Option.bind_some, Val.re_eq, xAW hi (by omega : a.length ≤ _)]
      rw [if_pos (by omega), if_pos (by simp only [List.length_cons, List.length_nil]; unfold Lim; omega)]) N 0 [] rfl (by omega) (by omega)
theorem impl_copy_step {N d K : Nat} {v : Val} (h : v.Fit K) (hK : K ≤ 137438953472) (hN : K < N) (hx : (xAO N d).c_impl_copyValues v.list = some v.list) : (xAO N (d + 1)).c_impl_copyValue v = some v := by
  obtain ⟨h1, h2, h3, h4, h5, h6, h7⟩ := Val.fit_iff.1 h
  have hc : v.columns.length ≤ K := h6.1
  show xDd N (xAO N d).c_impl_copyValue (xAO N d).c_impl_copyValues v = _
  unfold xDd
  rw [hx, Option.bind_some, if_pos (by unfold Lim; omega), impl_copy_b6_eq h7 hK hN, List.nil_append, Val.eta]
theorem impl_copy_big {K : Nat} (hK : K ≤ 137438953472) : ∀ v : Val, v.Fit K → Big2 fun N d => (xAO N d).c_impl_copyValue v = some v := by
  refine Val.ind fun k n s t a c r ih h => ?_
  have h5 := (Val.fit_iff.1 h).2.2.2.2.1
  have hl : a.length ≤ K := h5.1
  refine Big2.succ (Big2.succ ?_)
  exact ((Big2.list fun x hx => ih x hx (h5.2 x hx)).and (xG3 K).two).imp fun N d ⟨hx, hN⟩ => impl_copy_step h hK hN (xHJ (a := a) (by omega) (by omega) hx)
theorem impl_copy_eq' {K : Nat} {v : Val} (h : v.Fit K) (hK : K ≤ 137438953472) : Big fun N => xGE N v = some v := (impl_copy_big hK v h).diag
theorem impl_copies_eq {K : Nat} {a : List Val} (h : LFit K (Val.Fit K) a) (hK : K ≤ 137438953472) : Big fun N => xG6 N a = some a := by
  have hl : a.length ≤ K := h.1
  have key : Big2 fun N d => (xAO N d).c_impl_copyValues a = some a :=
    Big2.succ (((Big2.list fun x hx => impl_copy_big hK x (h.2 x hx)).and (xG3 K).two).imp fun N d ⟨hx, hN⟩ => xHJ (by omega) (by omega) hx)
  exact key.diag
theorem valCnt (v : Val) : v.cnt = 4 + ((v.list.map Val.cnt).sum + (v.columns.map cOne).sum + (v.rows.map cRow).sum) := by
  cases v; simp only [Val.cnt, Val.cnts_eq, vl, vc, vr]; omega
theorem xGm {x : Int} (h1 : -1000000 ≤ x) (h2 : x ≤ 1000000) : I64 x := ⟨by omega, by omega⟩
theorem lfit_nil {α : Type} {K : Nat} {p : α → Prop} : LFit K p [] := ⟨Nat.zero_le _, fun x hx => by cases hx⟩
end Go.Ab
end
section
namespace Go.Ab
set_option linter.unusedVariables false
set_option linter.unusedSimpArgs false
def allI {α : Type} (p : Nat → α → Bool) : List α → Nat → Bool
  | [], _ => true
  | x :: r, i => p i x && allI p r (i + 1)
theorem allI_true {α : Type} {p : Nat → α → Bool} : ∀ {l : List α} {i : Nat}, allI p l i = true → ∀ (j : Nat) (x : α), l[j]? = some x → p (i + j) x = true
  | [], i, _, j, x, hj => by simp at hj
  | y :: r, i, h, j, x, hj => by
    simp only [allI, Bool.and_eq_true] at h
    cases j with
    | zero => simp at hj; subst hj; exact h.1
    | succ j =>
      have := allI_true h.2 j x (by simpa using hj)
      rw [show i + (j + 1) = i + 1 + j from by omega]; exact this
theorem xGn {α : Type} {L : Nat → Int → Option Bool} {x0 : List α} {p : Nat → α → Bool} {e : Option Bool} (hend : ∀ n, L (n + 1) (x0.length : Nat) = e)
    (hcons : ∀ (i : Nat) x n, i < x0.length → x0[i]? = some x → x ∈ x0 → L (n + 1) (i : Nat) = bif p i x then L n ((i + 1 : Nat) : Int) else some false) {n : Nat} (hn : x0.length < n) :
    L n 0 = bif allI p x0 0 then e else some false := by
  have key : ∀ (m i : Nat), i ≤ x0.length → x0.length < m + i → L m (i : Nat) = bif allI p (x0.drop i) i then e else some false := by
    intro m
    induction m with
    | zero => intro i h1 h2; omega
    | succ m ih =>
      intro i h1 h2
      cases hd : x0.drop i with
      | nil =>
        have := drop_nil hd
        obtain rfl : i = x0.length := by omega
        rw [hend]; rfl
      | cons x l =>
        obtain ⟨g1, g2, g3⟩ := drop_cons hd
        rw [hcons i x m g1 g2 (List.mem_of_getElem? g2), ih (i + 1) (by omega) (by omega), g3]
        simp only [allI]
        cases p i x <;> rfl
  exact key n 0 (by omega) (by omega)
def textC (c : UInt8) : Bool := !(decide ((c.toNat : Int) < 32)) && (!(decide ((c.toNat : Int) > 126)) && !((c.toNat : Int) == 34))
def textOk (s : Str) : Bool := allI (fun _ => textC) s 0 && decide ((s.length : Int) ≤ 20)
theorem xHo {a b : Bool} : (bif a then some b else some false) = some (a && b) := by cases a <;> rfl
theorem xHe {N : Nat} {s : Str} (hl : s.length ≤ 9223372036854775807) (hn : s.length < N) : xFe N s = some (textOk s) := by
  rw [textOk, ← xHo]
  exact xGn (L := fun n i => xB1 N n s i) (fun n => by simp [xB1]) (fun i x n hi hx hm => by
    have hi' : (i : Int) < (s.length : Int) := by omega
    simp only [xB1, decide_eq_true hi', cond_true, Int.toNat_natCast, xBk hx, xAW hi hl, textC]
    rw [if_pos (by omega)]
    cases decide ((x.toNat : Int) < 32) <;> cases decide ((x.toNat : Int) > 126) <;> cases ((x.toNat : Int) == 34) <;> rfl) hn
theorem xHP (N n : Nat) (s : Str) (i : Int) : xDa N n s i = xB1 N n s i := by
  induction n generalizing i with
  | zero => rfl
  | succ n ih => simp only [xDa, xB1, ih]
theorem xIp {N : Nat} {s : Str} (hl : s.length ≤ 9223372036854775807) (hn : s.length < N) : xE5 N s = some (textOk s) := (xHP N N s 0).trans (xHe hl hn)
def idxS : List Str → Str → Nat → Int
  | [], _, _ => -1
  | x :: r, s, i => bif x == s then (i : Int) else idxS r s (i + 1)
theorem impl_IndexOf_eq {N : Nat} {xs : List Str} {s : Str} (hl : xs.length ≤ 9223372036854775807) (hn : xs.length < N) : xGK N xs s = some (idxS xs s 0) :=
  xFy (L := fun n i _ => xDs N n s xs xs.length i) xs (fun l q => idxS l s q) (fun i q => q = i) (fun n q _ => by simp [xDs, idxS])
    (fun i x l q hd hi hx hq => by
      have hi' : (i : Int) < (xs.length : Int) := by omega
      have hq : q = i := hq
      subst hq
      cases h1 : x == s
      · refine .inl ⟨q + 1, rfl, by simp only [idxS, h1, cond_false], fun n => ?_⟩
        simp only [xDs, decide_eq_true hi', cond_true, Int.toNat_natCast, xBk hx, h1, cond_false, xAW hi hl]
        rw [if_pos (by omega)]
      · refine .inr fun n => ?_
        simp only [xDs, decide_eq_true hi', cond_true, Int.toNat_natCast, xBk hx, h1]
        rw [if_pos (by omega)]
        simp only [idxS, h1, cond_true]) N 0 0 rfl (by omega) (by omega)
theorem idxS_eq {s : Str} : ∀ {xs : List Str} {j i : Nat}, xs[i]? = some s → (idxS xs s j == ((j + i : Nat) : Int)) = !(xs.take i).any (· == s)
  | [], j, i, h => by simp at h
  | x :: r, j, 0, h => by
    simp at h; subst h
    simp [idxS]
  | x :: r, j, i + 1, h => by
    have h' : r[i]? = some s := by simpa using h
    have ih := idxS_eq (j := j + 1) h'
    simp only [idxS, List.take_succ_cons, List.any_cons]
    cases hx : x == s
    · simp only [cond_false, Bool.false_or]
      rw [← ih, show j + (i + 1) = j + 1 + i from by omega]
    · simp only [cond_true, Bool.true_or, Bool.not_true]
      simp; omega
def xHT (xs : List Str) (i : Nat) (x : Str) : Bool := !(xs.take i).any (· == x)
def distinct (xs : List Str) : Bool := allI (xHT xs) xs 0
theorem xIy {N : Nat} {xs : List Str} (hl : xs.length ≤ 9223372036854775807) (hn : xs.length < N) : xFd N xs = some (distinct xs) := by
  have := xGn (L := fun n i => xCe N n xs i) (x0 := xs) (p := xHT xs) (e := some true) (fun n => by simp [xCe]) (fun i x n hi hx hm => by
    have hi' : (i : Int) < (xs.length : Int) := by omega
    simp only [xCe, decide_eq_true hi', cond_true, Int.toNat_natCast, xBk hx, xAW hi hl, spec_l1Has_eq (N := N) (xs := xs.take i) (by simp; omega) (by simp; omega), Option.bind_some, xHT]
    rw [if_pos (by omega), if_pos (by omega)]
    cases (List.take i xs).any (· == x) <;> rfl) hn
  show xCe N N xs 0 = _
  rw [this, xHo, Bool.and_true]; rfl
theorem xIl {N : Nat} {xs : List Str} (hl : xs.length ≤ 9223372036854775807) (hn : xs.length < N) : xE4 N xs = some (distinct xs) := by
  have := xGn (L := fun n i => xCa N n xs xs xs.length i) (x0 := xs) (p := xHT xs) (e := some true) (fun n => by simp [xCa]) (fun i x n hi hx hm => by
    have hi' : (i : Int) < (xs.length : Int) := by omega
    have e := idxS_eq (j := 0) hx
    rw [Nat.zero_add] at e
    simp only [xCa, decide_eq_true hi', cond_true, Int.toNat_natCast, xBk hx, xAW hi hl, impl_IndexOf_eq (N := N) (xs := xs) hl hn, Option.bind_some, bne, e, xHT]
    rw [if_pos (by omega)]
    cases (List.take i xs).any (· == x) <;> rfl) hn
  show xCa N N xs xs xs.length 0 = _
  rw [this, xHo, Bool.and_true]; rfl
def colsOk (c : List Str) : Bool := allI (fun _ => xHi) c 0 && ((decide ((1 : Int) ≤ c.length) && decide ((c.length : Int) ≤ 4)) && distinct c)
theorem spec_l3Columns_eq {N K : Nat} {c : List Str} (h : LFit K (Str.Fit K) c) (hK : 24 ≤ K ∧ K ≤ 4611686018427387904) (hN : K < N) : xF4 N c = some (colsOk c) := by
  have hl : c.length ≤ K := h.1
  rw [colsOk, ← xHo]
  exact xGn (L := fun n i => xDm N n c i) (fun n => by
      simp only [xDm, Int.lt_irrefl, decide_false, cond_false, xH5, Option.bind_some, xIy (N := N) (xs := c) (by omega) (by omega)]
      rw [← xHo]) (fun i x n hi hx hm => by
    have hi' : (i : Int) < (c.length : Int) := by omega
    have hxl : x.length ≤ K := h.2 x hm
    simp only [xDm, decide_eq_true hi', cond_true, Int.toNat_natCast, xBk hx, xAW hi (by omega : c.length ≤ _), xIB (N := N) (s := x) (by omega) (by omega) (by omega), Option.bind_some]
    rw [if_pos (by omega)]
    cases xHi x <;> rfl) (by omega)
theorem impl_areColumns_eq {N K : Nat} {c : List Str} (h : LFit K (Str.Fit K) c) (hK : 24 ≤ K ∧ K ≤ 4611686018427387904) (hN : K < N) : xFA N c = some (colsOk c) := by
  have hl : c.length ≤ K := h.1
  rw [colsOk, ← xHo]
  exact xGn (L := fun n i => xCR N n c c c.length i) (fun n => by
      simp only [xCR, Int.lt_irrefl, decide_false, cond_false, xGF, Option.bind_some, xIl (N := N) (xs := c) (by omega) (by omega)]
      rw [← xHo]) (fun i x n hi hx hm => by
    have hi' : (i : Int) < (c.length : Int) := by omega
    have hxl : x.length ≤ K := h.2 x hm
    simp only [xCR, decide_eq_true hi', cond_true, Int.toNat_natCast, xBk hx, xAW hi (by omega : c.length ≤ _), xIo (N := N) (s := x) (by omega) (by omega), Option.bind_some]
    rw [if_pos (by omega)]
    cases xHi x <;> rfl) (by omega)
def befO (a b : Org) : Bool := decide (a.cell < b.cell) || ((a.cell == b.cell) && decide (a.row < b.row))
theorem xHN (N : Nat) (a b : Org) : xFS N a b = some (befO a b) := by
  unfold xFS befO
  cases decide (a.cell < b.cell) <;> cases (a.cell == b.cell) <;> rfl
theorem xH9 (N : Nat) (a b : Org) : xEG N a b = some (befO a b) := xHN N a b
def ascP (xs : List Org) (i : Nat) (x : Org) : Bool := !(decide (x.cell < 0)) && (!(decide (x.row < 0)) && (decide (i = 0) || befO (xs.getD (i - 1) Ty.org.dflt) x))
def ascOk (xs : List Org) : Bool := allI (ascP xs) xs 0
theorem asc_step {xs : List Org} {i : Nat} {x : Org} {hi : i < xs.length} (hl : xs.length ≤ 9223372036854775807) {F : Option Bool} :
    (bif decide (x.cell < 0) then some false else bif decide (x.row < 0) then some false else bif decide ((i : Int) > 0) then
      (if (0 : Int) ≤ IntKind.i64.wrap ((i : Int) - 1) ∧ IntKind.i64.wrap ((i : Int) - 1) < (xs.length : Int) then (bif !(befO (xs.getD (Int.toNat (IntKind.i64.wrap ((i : Int) - 1))) Ty.org.dflt) x) then some false else F) else none) else F) =
    bif ascP xs i x then F else some false := by
  unfold ascP
  cases decide (x.cell < 0)
  · cases decide (x.row < 0)
    · by_cases h0 : i = 0
      · subst h0; rfl
      · rw [wrap_pred h0 hi hl, Int.toNat_natCast, decide_eq_true (show (i : Int) > 0 by omega), decide_eq_false h0]
        simp only [cond_true, cond_false, Bool.not_false, Bool.true_and, Bool.false_or]
        rw [if_pos (by omega)]
        cases befO (xs.getD (i - 1) Ty.org.dflt) x <;> rfl
    · rfl
  · rfl
theorem xIF {N : Nat} {xs : List Org} (hl : xs.length ≤ 9223372036854775807) (hn : xs.length < N) : xFh N xs = some (ascOk xs) := by
  have := xGn (L := fun n i => xB3 N n xs i) (x0 := xs) (p := ascP xs) (e := some true) (fun n => by simp [xB3]) (fun i x n hi hx hm => by
    have hi' : (i : Int) < (xs.length : Int) := by omega
    rw [← asc_step (hi := hi) hl]
    simp only [xB3, decide_eq_true hi', cond_true, Int.toNat_natCast, xBk hx, xAW hi hl, xHN, Option.bind_some]
    rw [if_pos (by omega)]) hn
  show xB3 N N xs 0 = _
  rw [this, xHo, Bool.and_true]; rfl
def rowP (n : Nat) (_ : Nat) (r : Rowd) : Bool := (r.cells.length == n) && (allI (fun _ => xGS) r.cells 0 && ascOk r.frm)
def tableOk (c : List Str) (rs : List Rowd) : Bool := colsOk c && (decide (rs.length ≤ 12) && allI (rowP c.length) rs 0)
theorem lenEq (a b : Nat) : (((a : Nat) : Int) != ((b : Nat) : Int)) = !(a == b) := by
  by_cases h : a = b
  · subst h; simp
  · have : ¬ ((a : Int) = (b : Int)) := by omega
    rw [bne, show ((a : Int) == (b : Int)) = false from beq_eq_false_iff_ne.2 this, show (a == b) = false from beq_eq_false_iff_ne.2 h]
theorem xII {N : Nat} {k4 : Int → Val → Option Bool} {x3 : Int} {v : Val} {r : Rowd} (hl : r.cells.length ≤ 9223372036854775807) (hn : r.cells.length < N) :
    xC8 N k4 N x3 0 v r = bif allI (fun _ => xGS) r.cells 0 then k4 (IntKind.i64.wrap (x3 + 1)) v else some false :=
  xGn (L := fun n i => xC8 N k4 n x3 i v r) (fun n => by simp [xC8]) (fun i x n hi hx hm => by
    have hi' : (i : Int) < (r.cells.length : Int) := by omega
    simp only [xC8, decide_eq_true hi', cond_true, Int.toNat_natCast, xBk hx, xAW hi hl, xGT, Option.bind_some]
    rw [if_pos (by omega)]
    cases xGS x <;> rfl) hn
theorem spec_l3Table_eq {N K : Nat} {v : Val} (h : v.Fit K) (hK : 24 ≤ K ∧ K ≤ 4611686018427387904) (hN : K < N) : xGb N v = some (tableOk v.columns v.rows) := by
  obtain ⟨_, _, _, _, _, h6, h7⟩ := Val.fit_iff.1 h
  have hl : v.rows.length ≤ K := h7.1
  unfold xGb
  rw [spec_l3Columns_eq h6 hK hN, Option.bind_some, tableOk]
  cases hc : colsOk v.columns
  · rfl
  · by_cases hr : v.rows.length ≤ 12
    · rw [decide_eq_false (by omega), decide_eq_true hr]
      simp only [Bool.not_true, cond_false, Bool.true_and]
      have := xGn (L := fun n i => xDw N n i v) (x0 := v.rows) (p := rowP v.columns.length) (e := some true) (n := N) (fun n => by simp [xDw]) (fun i x n hi hx hm => by
        have hi' : (i : Int) < (v.rows.length : Int) := by omega
        obtain ⟨⟨g1, _⟩, ⟨g2, _⟩⟩ := h7.2 x hm
        simp only [xDw, decide_eq_true hi', cond_true, Int.toNat_natCast, xBk hx, lenEq, xIF (N := N) (xs := x.frm) (by omega) (by omega), Option.bind_some, xII (N := N) (r := x) (by omega) (by omega), xAW hi (by omega : v.rows.length ≤ _), rowP]
        rw [if_pos (by omega)]
        cases (x.cells.length == v.columns.length) <;> cases ascOk x.frm <;> cases allI (fun _ => xGS) x.cells 0 <;> rfl) (by omega)
      have this : xDw N N 0 v = _ := this
      rw [this, xHo, Bool.and_true]
    · rw [decide_eq_true (by omega), decide_eq_false hr]; rfl
theorem xIs {N : Nat} {k4 : List Rowd → Int → Int → Val → Option Bool} {x20 : List Rowd} {x21 x22 : Int} {v : Val} {r : Rowd} (hl : r.frm.length ≤ 9223372036854775807) (hn : r.frm.length < N) :
    xCq N k4 N x20 x21 x22 r.frm r.frm.length 0 v r = bif ascOk r.frm then k4 x20 x21 (IntKind.i64.wrap (x22 + 1)) v else some false :=
  xGn (L := fun n i => xCq N k4 n x20 x21 x22 r.frm r.frm.length i v r) (fun n => by simp [xCq]) (fun i x n hi hx hm => by
    have hi' : (i : Int) < (r.frm.length : Int) := by omega
    rw [← asc_step (hi := hi) hl]
    simp only [xCq, decide_eq_true hi', cond_true, Int.toNat_natCast, xBk hx, xAW hi hl, xH9, Option.bind_some]
    rw [if_pos (by omega)]) hn
theorem impl_isTable_b9_eq {N : Nat} {k4 : List Rowd → Int → Int → Val → Option Bool} {x20 : List Rowd} {x21 x22 : Int} {v : Val} {r : Rowd} (hl : r.cells.length ≤ 9223372036854775807) (hn : r.cells.length < N) (hl2 : r.frm.length ≤ 9223372036854775807) (hn2 : r.frm.length < N) :
    xDu N k4 N x20 x21 x22 r.cells r.cells.length 0 v r = bif allI (fun _ => xGS) r.cells 0 then (bif ascOk r.frm then k4 x20 x21 (IntKind.i64.wrap (x22 + 1)) v else some false) else some false :=
  xGn (L := fun n i => xDu N k4 n x20 x21 x22 r.cells r.cells.length i v r) (fun n => by simp only [xDu, Int.lt_irrefl, decide_false, cond_false]; exact xIs hl2 hn2) (fun i x n hi hx hm => by
    have hi' : (i : Int) < (r.cells.length : Int) := by omega
    simp only [xDu, decide_eq_true hi', cond_true, Int.toNat_natCast, xBk hx, xAW hi hl, xGQ, Option.bind_some]
    rw [if_pos (by omega)]
    cases xGS x <;> rfl) hn
theorem impl_isTable_eq {N K : Nat} {v : Val} (h : v.Fit K) (hK : 24 ≤ K ∧ K ≤ 4611686018427387904) (hN : K < N) : xFC N v = some (tableOk v.columns v.rows) := by
  obtain ⟨_, _, _, _, _, h6, h7⟩ := Val.fit_iff.1 h
  have hl : v.rows.length ≤ K := h7.1
  unfold xFC
  rw [impl_areColumns_eq h6 hK hN, Option.bind_some, tableOk]
  cases hc : colsOk v.columns
  · rfl
  · by_cases hr : v.rows.length ≤ 12
    · rw [decide_eq_false (by omega), decide_eq_true hr]
      simp only [Bool.not_true, cond_false, Bool.true_and]
      have := xGn (L := fun n i => xDt N n v.rows v.rows.length i v) (x0 := v.rows) (p := rowP v.columns.length) (e := some true) (n := N) (fun n => by simp [xDt]) (fun i x n hi hx hm => by
        have hi' : (i : Int) < (v.rows.length : Int) := by omega
        obtain ⟨⟨g1, _⟩, ⟨g2, _⟩⟩ := h7.2 x hm
        simp only [xDt, decide_eq_true hi', cond_true, Int.toNat_natCast, xBk hx, lenEq, impl_isTable_b9_eq (N := N) (r := x) (by omega) (by omega) (by omega) (by omega), xAW hi (by omega : v.rows.length ≤ _), rowP]
        rw [if_pos (by omega)]
        cases (x.cells.length == v.columns.length) <;> cases ascOk x.frm <;> cases allI (fun _ => xGS) x.cells 0 <;> rfl) (by omega)
      have this : xDt N N v.rows v.rows.length 0 v = _ := this
      rw [this, xHo, Bool.and_true]
    · rw [decide_eq_true (by omega), decide_eq_false hr]; rfl
end Go.Ab
end
