/- The statement FnExactTakeOf holds: plain functions, certificates, laws. Conditions: none. -/
import Derived.Test.YtnfikhfcblcmpaaL2
import Derived.Test.YtnfikhfcblcmpaaFnExactTakeOfP1
set_option linter.all false
section
open Go.Proofs
namespace Go.Ab.T
set_option linter.unusedVariables false
set_option maxRecDepth 100000
noncomputable def I80 : Info := { body := (Try.f80.body).getD .skip, nt := 27, results := [.tmp 4], keep := [0, 2, 8, 10, 18], live := [(2, [0, 2, 10])], modes := [(4, [(0, .ref, false)]), (6, [(0, .ref, false)])], ext := [], lnt := [(0, 0)], casts := [], fcast := [] }
theorem fk80 : FnOk Try.prog 80 Try.f80 I80 := ⟨Try.func80, by kernel_rfl, by kernel_rfl, by kernel_rfl, by kernel_rfl⟩
def S80_2 (x0 : List Org) (x1 x5 : Int) : St := [(0, .v false [.sl (.lnt 0) .org x0]), (2, .v false [.int .i64 x1]), (10, .v false [.int .i64 x5])]
theorem p80_2_0 (x0 : List Org) (x1 x5 : Int) : run tt (AbsCalls Try.prog) I80 3000 true (stkAt 2 I80.body) ⟨(S80_2 x0 x1 x5), [true], [], []⟩ = some (.stop (stkAt 2 I80.body) (S80_2 ((fun (z1 : List Org) => List.set z1 (Int.toNat x5) (Org.mk (Org.cell (List.getD z1 (Int.toNat x5) Ty.org.dflt)) (IntKind.i64.wrap (x1 + 1)))) (List.set x0 (Int.toNat x5) (Org.mk x1 (Org.row (List.getD x0 (Int.toNat x5) Ty.org.dflt))))) (IntKind.i64.wrap ((IntKind.i64.wrap (x1 + 1)) + 1)) (IntKind.i64.wrap (x5 + 1))) [(decide ((x5 : Int) < (List.length x0 : Int))) = true, (0 : Int) ≤ x5 ∧ x5 < (List.length x0), (0 : Int) ≤ x5 ∧ x5 < (List.length (List.set x0 (Int.toNat x5) (Org.mk x1 (Org.row (List.getD x0 (Int.toNat x5) Ty.org.dflt)))))]) := by kernel_rfl
theorem p80_2_1 (x0 : List Org) (x1 x5 : Int) : run tt (AbsCalls Try.prog) I80 3000 true (stkAt 2 I80.body) ⟨(S80_2 x0 x1 x5), [false], [], []⟩ = some (.done (xDk (x1, x0)) [(decide ((x5 : Int) < (List.length x0 : Int))) = false]) := by kernel_rfl
theorem p80_e_2 (a0 : List Org) (a1 : Int) : run tt (AbsCalls Try.prog) I80 3000 false [.code I80.body] ⟨(zBi 0 (xEW a0 a1)), [], [], []⟩ = some (.stop (stkAt 2 I80.body) (S80_2 a0 a1 0) []) := by kernel_rfl
theorem c80_2 {N : Nat} : ∀ n x0 x1 x5 r, xCF N n x0 x1 x5 = some r → Reach Try.prog Try.f80 I80 (stkAt 2 I80.body) (S80_2 x0 x1 x5) (xDk r) := by
 intro n
 induction n with
 | zero => intro x0 x1 x5 r h; have h' : (none : Option (Int × (List Org))) = some r := h; cases h'
 | succ n ih =>
  intro x0 x1 x5 r h
  rw [xCF] at h
  rcases cond_inv h with ⟨h0, h⟩ | ⟨h0, h⟩
  ·obtain ⟨h1, h⟩ := ite_inv h
   obtain ⟨h2, h⟩ := ite_inv h
   exact Reach.stop ttok mix fk80 (p80_2_0 x0 x1 x5) (obs_cons h0 (obs_cons h1 (obs_cons h2 obs_nil))) (ih _ _ _ _ h)
  ·obtain rfl := Option.some.inj h
   exact Reach.done ttok mix fk80 (p80_2_1 x0 x1 x5) (obs_cons h0 obs_nil)
theorem c80_e {N : Nat} : ∀ a0 a1 r, xE3 N a0 a1 = some r → Reach Try.prog Try.f80 I80 [.code I80.body] (zBi 0 (xEW a0 a1)) (xDk r) := by
 intro a0 a1 r h
 unfold xE3 at h
 exact Reach.stop ttok mix fk80 (p80_e_2 a0 a1) obs_nil (c80_2   _ _ _ _ _ h)
theorem xIi {N : Nat} {a0 : List Org} {a1 : Int} {r : Int × (List Org)} (h : xE3 N  a0 a1 = some r) : AbC 80 (xEW a0 a1) (xDk r) :=
 AbsCalls.of_reach fk80 rfl rfl (Nat.le_of_ble_eq_true rfl) (c80_e a0 a1 r h)
noncomputable def I42 : Info := { body := (Try.f42.body).getD .skip, nt := 27, results := [.tmp 4], keep := [0, 2, 8, 10, 18], live := [(2, [0, 2, 10])], modes := [(4, [(0, .ref, false), (4, .ref, false), (6, .ref, false)]), (5, [(0, .ref, false), (4, .ref, false), (6, .ref, false)])], ext := [], lnt := [(0, 0)], casts := [], fcast := [] }
theorem fk42 : FnOk Try.prog 42 Try.f42 I42 := ⟨Try.func42, by kernel_rfl, by kernel_rfl, by kernel_rfl, by kernel_rfl⟩
def S42_2 (x0 : List Rowd) (x1 x5 : Int) : St := [(0, .v false [.sl (.lnt 0) .row x0]), (2, .v false [.int .i64 x1]), (10, .v false [.int .i64 x5])]
theorem p42_2_0 (x0 : List Rowd) (x1 x5 : Int) (r1 : Int × (List Int)) (r2 : Int × (List Org)) : run tt (AbsCalls Try.prog) I42 3000 true (stkAt 2 I42.body) ⟨(S42_2 x0 x1 x5), [true], [xEi r1, xDk r2], []⟩ = some (.stop (stkAt 2 I42.body) (S42_2 ((fun (z1 : List Rowd) => List.set z1 (Int.toNat x5) (Rowd.mk (Rowd.cells (List.getD z1 (Int.toNat x5) Ty.row.dflt)) r2.2)) (List.set x0 (Int.toNat x5) (Rowd.mk r1.2 (Rowd.frm (List.getD x0 (Int.toNat x5) Ty.row.dflt))))) r2.1 (IntKind.i64.wrap (x5 + 1))) [(decide ((x5 : Int) < (List.length x0 : Int))) = true, (0 : Int) ≤ x5 ∧ x5 < (List.length x0), AbC 79 (xFX (Rowd.cells (List.getD x0 (Int.toNat x5) Ty.row.dflt)) x1) (xEi r1), (Int.toNat x5) = (Int.toNat x5), List.length r1.2 = List.length (Rowd.cells (List.getD x0 (Int.toNat x5) Ty.row.dflt)), (0 : Int) ≤ x5 ∧ x5 < (List.length (List.set x0 (Int.toNat x5) (Rowd.mk r1.2 (Rowd.frm (List.getD x0 (Int.toNat x5) Ty.row.dflt))))), AbC 80 (xEW (Rowd.frm (List.getD (List.set x0 (Int.toNat x5) (Rowd.mk r1.2 (Rowd.frm (List.getD x0 (Int.toNat x5) Ty.row.dflt)))) (Int.toNat x5) Ty.row.dflt)) r1.1) (xDk r2), (Int.toNat x5) = (Int.toNat x5), List.length r2.2 = List.length (Rowd.frm (List.getD (List.set x0 (Int.toNat x5) (Rowd.mk r1.2 (Rowd.frm (List.getD x0 (Int.toNat x5) Ty.row.dflt)))) (Int.toNat x5) Ty.row.dflt))]) := by kernel_rfl
theorem p42_2_1 (x0 : List Rowd) (x1 x5 : Int) : run tt (AbsCalls Try.prog) I42 3000 true (stkAt 2 I42.body) ⟨(S42_2 x0 x1 x5), [false], [], []⟩ = some (.done (xC8 (x1, x0)) [(decide ((x5 : Int) < (List.length x0 : Int))) = false]) := by kernel_rfl
theorem p42_e_2 (a0 : List Rowd) (a1 : Int) : run tt (AbsCalls Try.prog) I42 3000 false [.code I42.body] ⟨(zBi 0 (xE4 a0 a1)), [], [], []⟩ = some (.stop (stkAt 2 I42.body) (S42_2 a0 a1 0) []) := by kernel_rfl
theorem c42_2 {N : Nat} : ∀ n x0 x1 x5 r, xDM N n x0 x1 x5 = some r → Reach Try.prog Try.f42 I42 (stkAt 2 I42.body) (S42_2 x0 x1 x5) (xC8 r) := by
 intro n
 induction n with
 | zero => intro x0 x1 x5 r h; have h' : (none : Option (Int × (List Rowd))) = some r := h; cases h'
 | succ n ih =>
  intro x0 x1 x5 r h
  rw [xDM] at h
  rcases cond_inv h with ⟨h0, h⟩ | ⟨h0, h⟩
  ·obtain ⟨h1, h⟩ := ite_inv h
   obtain ⟨r1, h2, h⟩ := bind_inv h
   obtain ⟨h4, h⟩ := ite_inv h
   obtain ⟨h5, h⟩ := ite_inv h
   obtain ⟨r2, h6, h⟩ := bind_inv h
   obtain ⟨h8, h⟩ := ite_inv h
   exact Reach.stop ttok mix fk42 (p42_2_0 x0 x1 x5 r1 r2) (obs_cons h0 (obs_cons h1 (obs_cons (laws_markIntS_ok h2) (obs_cons rfl (obs_cons h4 (obs_cons h5 (obs_cons (xIi h6) (obs_cons rfl (obs_cons h8 obs_nil))))))))) (ih _ _ _ _ h)
  ·obtain rfl := Option.some.inj h
   exact Reach.done ttok mix fk42 (p42_2_1 x0 x1 x5) (obs_cons h0 obs_nil)
theorem c42_e {N : Nat} : ∀ a0 a1 r, xFC N a0 a1 = some r → Reach Try.prog Try.f42 I42 [.code I42.body] (zBi 0 (xE4 a0 a1)) (xC8 r) := by
 intro a0 a1 r h
 unfold xFC at h
 exact Reach.stop ttok mix fk42 (p42_e_2 a0 a1) obs_nil (c42_2   _ _ _ _ _ h)
theorem xHB {N : Nat} {a0 : List Rowd} {a1 : Int} {r : Int × (List Rowd)} (h : xFC N  a0 a1 = some r) : AbC 42 (xE4 a0 a1) (xC8 r) :=
 AbsCalls.of_reach fk42 rfl rfl (Nat.le_of_ble_eq_true rfl) (c42_e a0 a1 r h)
noncomputable def I40 : Info := { body := (Try.f40.body).getD .skip, nt := 63, results := [.tmp 4], keep := [0, 2, 8, 10, 18], live := [(2, [0, 2, 10])], modes := [(4, [(0, .ref, false)]), (6, [(0, .ref, false)]), (8, [(0, .ref, false)]), (10, [(0, .ref, false)]), (12, [(0, .ref, false), (4, .ref, false), (6, .ref, false)]), (13, [(0, .ref, false), (4, .ref, false), (6, .ref, false)]), (14, [(0, .ref, false), (4, .ref, false), (6, .ref, false)])], ext := [], lnt := [(0, 0)], casts := [], fcast := [] }
theorem fk40 : FnOk Try.prog 40 Try.f40 I40 := ⟨Try.func40, by kernel_rfl, by kernel_rfl, by kernel_rfl, by kernel_rfl⟩
def S40_2 (x0 : List Val) (x1 x5 : Int) : St := [(0, .v false [.sl (.lnt 0) .val x0]), (2, .v false [.int .i64 x1]), (10, .v false [.int .i64 x5])]
theorem p40_2_0 (x0 : List Val) (x1 x5 : Int) (r1 : Str) (r2 : Int × (List Val)) (r3 : Int × (List Str)) (r4 : Int × (List Rowd)) : run tt (AbsCalls Try.prog) I40 3000 true (stkAt 2 I40.body) ⟨(S40_2 x0 x1 x5), [true], [xAN r1, xBk r2, xCh r3, xC8 r4], []⟩ = some (.stop (stkAt 2 I40.body) (S40_2 ((fun (z45 : List Val) => List.set z45 (Int.toNat x5) (Val.mk (Val.kind (List.getD z45 (Int.toNat x5) Ty.val.dflt)) (Val.n (List.getD z45 (Int.toNat x5) Ty.val.dflt)) (Val.step (List.getD z45 (Int.toNat x5) Ty.val.dflt)) (Val.text (List.getD z45 (Int.toNat x5) Ty.val.dflt)) (Val.list (List.getD z45 (Int.toNat x5) Ty.val.dflt)) (Val.columns (List.getD z45 (Int.toNat x5) Ty.val.dflt)) r4.2)) ((fun (z44 : List Val) => List.set z44 (Int.toNat x5) (Val.mk (Val.kind (List.getD z44 (Int.toNat x5) Ty.val.dflt)) (Val.n (List.getD z44 (Int.toNat x5) Ty.val.dflt)) (Val.step (List.getD z44 (Int.toNat x5) Ty.val.dflt)) (Val.text (List.getD z44 (Int.toNat x5) Ty.val.dflt)) (Val.list (List.getD z44 (Int.toNat x5) Ty.val.dflt)) r3.2 (Val.rows (List.getD z44 (Int.toNat x5) Ty.val.dflt)))) ((fun (z43 : List Val) => List.set z43 (Int.toNat x5) (Val.mk (Val.kind (List.getD z43 (Int.toNat x5) Ty.val.dflt)) (Val.n (List.getD z43 (Int.toNat x5) Ty.val.dflt)) (Val.step (List.getD z43 (Int.toNat x5) Ty.val.dflt)) (Val.text (List.getD z43 (Int.toNat x5) Ty.val.dflt)) r2.2 (Val.columns (List.getD z43 (Int.toNat x5) Ty.val.dflt)) (Val.rows (List.getD z43 (Int.toNat x5) Ty.val.dflt)))) ((fun (z42 : List Val) => List.set z42 (Int.toNat x5) (Val.mk (Val.kind (List.getD z42 (Int.toNat x5) Ty.val.dflt)) (Val.n (List.getD z42 (Int.toNat x5) Ty.val.dflt)) (Val.step (List.getD z42 (Int.toNat x5) Ty.val.dflt)) r1 (Val.list (List.getD z42 (Int.toNat x5) Ty.val.dflt)) (Val.columns (List.getD z42 (Int.toNat x5) Ty.val.dflt)) (Val.rows (List.getD z42 (Int.toNat x5) Ty.val.dflt)))) ((fun (z41 : List Val) => List.set z41 (Int.toNat x5) (Val.mk (Val.kind (List.getD z41 (Int.toNat x5) Ty.val.dflt)) (Val.n (List.getD z41 (Int.toNat x5) Ty.val.dflt)) (IntKind.i64.wrap ((IntKind.i64.wrap (x1 + 1)) + 1)) (Val.text (List.getD z41 (Int.toNat x5) Ty.val.dflt)) (Val.list (List.getD z41 (Int.toNat x5) Ty.val.dflt)) (Val.columns (List.getD z41 (Int.toNat x5) Ty.val.dflt)) (Val.rows (List.getD z41 (Int.toNat x5) Ty.val.dflt)))) ((fun (z40 : List Val) => List.set z40 (Int.toNat x5) (Val.mk (Val.kind (List.getD z40 (Int.toNat x5) Ty.val.dflt)) (IntKind.i64.wrap (x1 + 1)) (Val.step (List.getD z40 (Int.toNat x5) Ty.val.dflt)) (Val.text (List.getD z40 (Int.toNat x5) Ty.val.dflt)) (Val.list (List.getD z40 (Int.toNat x5) Ty.val.dflt)) (Val.columns (List.getD z40 (Int.toNat x5) Ty.val.dflt)) (Val.rows (List.getD z40 (Int.toNat x5) Ty.val.dflt)))) (List.set x0 (Int.toNat x5) (Val.mk x1 (Val.n (List.getD x0 (Int.toNat x5) Ty.val.dflt)) (Val.step (List.getD x0 (Int.toNat x5) Ty.val.dflt)) (Val.text (List.getD x0 (Int.toNat x5) Ty.val.dflt)) (Val.list (List.getD x0 (Int.toNat x5) Ty.val.dflt)) (Val.columns (List.getD x0 (Int.toNat x5) Ty.val.dflt)) (Val.rows (List.getD x0 (Int.toNat x5) Ty.val.dflt)))))))))) r4.1 (IntKind.i64.wrap (x5 + 1))) [(decide ((x5 : Int) < (List.length x0 : Int))) = true, (0 : Int) ≤ x5 ∧ x5 < (List.length x0), (0 : Int) ≤ x5 ∧ x5 < (List.length (List.set x0 (Int.toNat x5) (Val.mk x1 (Val.n (List.getD x0 (Int.toNat x5) Ty.val.dflt)) (Val.step (List.getD x0 (Int.toNat x5) Ty.val.dflt)) (Val.text (List.getD x0 (Int.toNat x5) Ty.val.dflt)) (Val.list (List.getD x0 (Int.toNat x5) Ty.val.dflt)) (Val.columns (List.getD x0 (Int.toNat x5) Ty.val.dflt)) (Val.rows (List.getD x0 (Int.toNat x5) Ty.val.dflt))))), (0 : Int) ≤ x5 ∧ x5 < (List.length ((fun (z40 : List Val) => List.set z40 (Int.toNat x5) (Val.mk (Val.kind (List.getD z40 (Int.toNat x5) Ty.val.dflt)) (IntKind.i64.wrap (x1 + 1)) (Val.step (List.getD z40 (Int.toNat x5) Ty.val.dflt)) (Val.text (List.getD z40 (Int.toNat x5) Ty.val.dflt)) (Val.list (List.getD z40 (Int.toNat x5) Ty.val.dflt)) (Val.columns (List.getD z40 (Int.toNat x5) Ty.val.dflt)) (Val.rows (List.getD z40 (Int.toNat x5) Ty.val.dflt)))) (List.set x0 (Int.toNat x5) (Val.mk x1 (Val.n (List.getD x0 (Int.toNat x5) Ty.val.dflt)) (Val.step (List.getD x0 (Int.toNat x5) Ty.val.dflt)) (Val.text (List.getD x0 (Int.toNat x5) Ty.val.dflt)) (Val.list (List.getD x0 (Int.toNat x5) Ty.val.dflt)) (Val.columns (List.getD x0 (Int.toNat x5) Ty.val.dflt)) (Val.rows (List.getD x0 (Int.toNat x5) Ty.val.dflt)))))), AbC 78 (xBB (IntKind.i64.wrap ((IntKind.i64.wrap ((IntKind.i64.wrap (x1 + 1)) + 1)) + 1))) (xAN r1), (0 : Int) ≤ x5 ∧ x5 < (List.length ((fun (z41 : List Val) => List.set z41 (Int.toNat x5) (Val.mk (Val.kind (List.getD z41 (Int.toNat x5) Ty.val.dflt)) (Val.n (List.getD z41 (Int.toNat x5) Ty.val.dflt)) (IntKind.i64.wrap ((IntKind.i64.wrap (x1 + 1)) + 1)) (Val.text (List.getD z41 (Int.toNat x5) Ty.val.dflt)) (Val.list (List.getD z41 (Int.toNat x5) Ty.val.dflt)) (Val.columns (List.getD z41 (Int.toNat x5) Ty.val.dflt)) (Val.rows (List.getD z41 (Int.toNat x5) Ty.val.dflt)))) ((fun (z40 : List Val) => List.set z40 (Int.toNat x5) (Val.mk (Val.kind (List.getD z40 (Int.toNat x5) Ty.val.dflt)) (IntKind.i64.wrap (x1 + 1)) (Val.step (List.getD z40 (Int.toNat x5) Ty.val.dflt)) (Val.text (List.getD z40 (Int.toNat x5) Ty.val.dflt)) (Val.list (List.getD z40 (Int.toNat x5) Ty.val.dflt)) (Val.columns (List.getD z40 (Int.toNat x5) Ty.val.dflt)) (Val.rows (List.getD z40 (Int.toNat x5) Ty.val.dflt)))) (List.set x0 (Int.toNat x5) (Val.mk x1 (Val.n (List.getD x0 (Int.toNat x5) Ty.val.dflt)) (Val.step (List.getD x0 (Int.toNat x5) Ty.val.dflt)) (Val.text (List.getD x0 (Int.toNat x5) Ty.val.dflt)) (Val.list (List.getD x0 (Int.toNat x5) Ty.val.dflt)) (Val.columns (List.getD x0 (Int.toNat x5) Ty.val.dflt)) (Val.rows (List.getD x0 (Int.toNat x5) Ty.val.dflt))))))), (0 : Int) ≤ x5 ∧ x5 < (List.length ((fun (z42 : List Val) => List.set z42 (Int.toNat x5) (Val.mk (Val.kind (List.getD z42 (Int.toNat x5) Ty.val.dflt)) (Val.n (List.getD z42 (Int.toNat x5) Ty.val.dflt)) (Val.step (List.getD z42 (Int.toNat x5) Ty.val.dflt)) r1 (Val.list (List.getD z42 (Int.toNat x5) Ty.val.dflt)) (Val.columns (List.getD z42 (Int.toNat x5) Ty.val.dflt)) (Val.rows (List.getD z42 (Int.toNat x5) Ty.val.dflt)))) ((fun (z41 : List Val) => List.set z41 (Int.toNat x5) (Val.mk (Val.kind (List.getD z41 (Int.toNat x5) Ty.val.dflt)) (Val.n (List.getD z41 (Int.toNat x5) Ty.val.dflt)) (IntKind.i64.wrap ((IntKind.i64.wrap (x1 + 1)) + 1)) (Val.text (List.getD z41 (Int.toNat x5) Ty.val.dflt)) (Val.list (List.getD z41 (Int.toNat x5) Ty.val.dflt)) (Val.columns (List.getD z41 (Int.toNat x5) Ty.val.dflt)) (Val.rows (List.getD z41 (Int.toNat x5) Ty.val.dflt)))) ((fun (z40 : List Val) => List.set z40 (Int.toNat x5) (Val.mk (Val.kind (List.getD z40 (Int.toNat x5) Ty.val.dflt)) (IntKind.i64.wrap (x1 + 1)) (Val.step (List.getD z40 (Int.toNat x5) Ty.val.dflt)) (Val.text (List.getD z40 (Int.toNat x5) Ty.val.dflt)) (Val.list (List.getD z40 (Int.toNat x5) Ty.val.dflt)) (Val.columns (List.getD z40 (Int.toNat x5) Ty.val.dflt)) (Val.rows (List.getD z40 (Int.toNat x5) Ty.val.dflt)))) (List.set x0 (Int.toNat x5) (Val.mk x1 (Val.n (List.getD x0 (Int.toNat x5) Ty.val.dflt)) (Val.step (List.getD x0 (Int.toNat x5) Ty.val.dflt)) (Val.text (List.getD x0 (Int.toNat x5) Ty.val.dflt)) (Val.list (List.getD x0 (Int.toNat x5) Ty.val.dflt)) (Val.columns (List.getD x0 (Int.toNat x5) Ty.val.dflt)) (Val.rows (List.getD x0 (Int.toNat x5) Ty.val.dflt)))))))), AbC 40 (xBX (Val.list (List.getD ((fun (z42 : List Val) => List.set z42 (Int.toNat x5) (Val.mk (Val.kind (List.getD z42 (Int.toNat x5) Ty.val.dflt)) (Val.n (List.getD z42 (Int.toNat x5) Ty.val.dflt)) (Val.step (List.getD z42 (Int.toNat x5) Ty.val.dflt)) r1 (Val.list (List.getD z42 (Int.toNat x5) Ty.val.dflt)) (Val.columns (List.getD z42 (Int.toNat x5) Ty.val.dflt)) (Val.rows (List.getD z42 (Int.toNat x5) Ty.val.dflt)))) ((fun (z41 : List Val) => List.set z41 (Int.toNat x5) (Val.mk (Val.kind (List.getD z41 (Int.toNat x5) Ty.val.dflt)) (Val.n (List.getD z41 (Int.toNat x5) Ty.val.dflt)) (IntKind.i64.wrap ((IntKind.i64.wrap (x1 + 1)) + 1)) (Val.text (List.getD z41 (Int.toNat x5) Ty.val.dflt)) (Val.list (List.getD z41 (Int.toNat x5) Ty.val.dflt)) (Val.columns (List.getD z41 (Int.toNat x5) Ty.val.dflt)) (Val.rows (List.getD z41 (Int.toNat x5) Ty.val.dflt)))) ((fun (z40 : List Val) => List.set z40 (Int.toNat x5) (Val.mk (Val.kind (List.getD z40 (Int.toNat x5) Ty.val.dflt)) (IntKind.i64.wrap (x1 + 1)) (Val.step (List.getD z40 (Int.toNat x5) Ty.val.dflt)) (Val.text (List.getD z40 (Int.toNat x5) Ty.val.dflt)) (Val.list (List.getD z40 (Int.toNat x5) Ty.val.dflt)) (Val.columns (List.getD z40 (Int.toNat x5) Ty.val.dflt)) (Val.rows (List.getD z40 (Int.toNat x5) Ty.val.dflt)))) (List.set x0 (Int.toNat x5) (Val.mk x1 (Val.n (List.getD x0 (Int.toNat x5) Ty.val.dflt)) (Val.step (List.getD x0 (Int.toNat x5) Ty.val.dflt)) (Val.text (List.getD x0 (Int.toNat x5) Ty.val.dflt)) (Val.list (List.getD x0 (Int.toNat x5) Ty.val.dflt)) (Val.columns (List.getD x0 (Int.toNat x5) Ty.val.dflt)) (Val.rows (List.getD x0 (Int.toNat x5) Ty.val.dflt))))))) (Int.toNat x5) Ty.val.dflt)) (IntKind.i64.wrap ((IntKind.i64.wrap ((IntKind.i64.wrap ((IntKind.i64.wrap (x1 + 1)) + 1)) + 1)) + 1))) (xBk r2), (Int.toNat x5) = (Int.toNat x5), List.length r2.2 = List.length (Val.list (List.getD ((fun (z42 : List Val) => List.set z42 (Int.toNat x5) (Val.mk (Val.kind (List.getD z42 (Int.toNat x5) Ty.val.dflt)) (Val.n (List.getD z42 (Int.toNat x5) Ty.val.dflt)) (Val.step (List.getD z42 (Int.toNat x5) Ty.val.dflt)) r1 (Val.list (List.getD z42 (Int.toNat x5) Ty.val.dflt)) (Val.columns (List.getD z42 (Int.toNat x5) Ty.val.dflt)) (Val.rows (List.getD z42 (Int.toNat x5) Ty.val.dflt)))) ((fun (z41 : List Val) => List.set z41 (Int.toNat x5) (Val.mk (Val.kind (List.getD z41 (Int.toNat x5) Ty.val.dflt)) (Val.n (List.getD z41 (Int.toNat x5) Ty.val.dflt)) (IntKind.i64.wrap ((IntKind.i64.wrap (x1 + 1)) + 1)) (Val.text (List.getD z41 (Int.toNat x5) Ty.val.dflt)) (Val.list (List.getD z41 (Int.toNat x5) Ty.val.dflt)) (Val.columns (List.getD z41 (Int.toNat x5) Ty.val.dflt)) (Val.rows (List.getD z41 (Int.toNat x5) Ty.val.dflt)))) ((fun (z40 : List Val) => List.set z40 (Int.toNat x5) (Val.mk (Val.kind (List.getD z40 (Int.toNat x5) Ty.val.dflt)) (IntKind.i64.wrap (x1 + 1)) (Val.step (List.getD z40 (Int.toNat x5) Ty.val.dflt)) (Val.text (List.getD z40 (Int.toNat x5) Ty.val.dflt)) (Val.list (List.getD z40 (Int.toNat x5) Ty.val.dflt)) (Val.columns (List.getD z40 (Int.toNat x5) Ty.val.dflt)) (Val.rows (List.getD z40 (Int.toNat x5) Ty.val.dflt)))) (List.set x0 (Int.toNat x5) (Val.mk x1 (Val.n (List.getD x0 (Int.toNat x5) Ty.val.dflt)) (Val.step (List.getD x0 (Int.toNat x5) Ty.val.dflt)) (Val.text (List.getD x0 (Int.toNat x5) Ty.val.dflt)) (Val.list (List.getD x0 (Int.toNat x5) Ty.val.dflt)) (Val.columns (List.getD x0 (Int.toNat x5) Ty.val.dflt)) (Val.rows (List.getD x0 (Int.toNat x5) Ty.val.dflt))))))) (Int.toNat x5) Ty.val.dflt)), (0 : Int) ≤ x5 ∧ x5 < (List.length ((fun (z43 : List Val) => List.set z43 (Int.toNat x5) (Val.mk (Val.kind (List.getD z43 (Int.toNat x5) Ty.val.dflt)) (Val.n (List.getD z43 (Int.toNat x5) Ty.val.dflt)) (Val.step (List.getD z43 (Int.toNat x5) Ty.val.dflt)) (Val.text (List.getD z43 (Int.toNat x5) Ty.val.dflt)) r2.2 (Val.columns (List.getD z43 (Int.toNat x5) Ty.val.dflt)) (Val.rows (List.getD z43 (Int.toNat x5) Ty.val.dflt)))) ((fun (z42 : List Val) => List.set z42 (Int.toNat x5) (Val.mk (Val.kind (List.getD z42 (Int.toNat x5) Ty.val.dflt)) (Val.n (List.getD z42 (Int.toNat x5) Ty.val.dflt)) (Val.step (List.getD z42 (Int.toNat x5) Ty.val.dflt)) r1 (Val.list (List.getD z42 (Int.toNat x5) Ty.val.dflt)) (Val.columns (List.getD z42 (Int.toNat x5) Ty.val.dflt)) (Val.rows (List.getD z42 (Int.toNat x5) Ty.val.dflt)))) ((fun (z41 : List Val) => List.set z41 (Int.toNat x5) (Val.mk (Val.kind (List.getD z41 (Int.toNat x5) Ty.val.dflt)) (Val.n (List.getD z41 (Int.toNat x5) Ty.val.dflt)) (IntKind.i64.wrap ((IntKind.i64.wrap (x1 + 1)) + 1)) (Val.text (List.getD z41 (Int.toNat x5) Ty.val.dflt)) (Val.list (List.getD z41 (Int.toNat x5) Ty.val.dflt)) (Val.columns (List.getD z41 (Int.toNat x5) Ty.val.dflt)) (Val.rows (List.getD z41 (Int.toNat x5) Ty.val.dflt)))) ((fun (z40 : List Val) => List.set z40 (Int.toNat x5) (Val.mk (Val.kind (List.getD z40 (Int.toNat x5) Ty.val.dflt)) (IntKind.i64.wrap (x1 + 1)) (Val.step (List.getD z40 (Int.toNat x5) Ty.val.dflt)) (Val.text (List.getD z40 (Int.toNat x5) Ty.val.dflt)) (Val.list (List.getD z40 (Int.toNat x5) Ty.val.dflt)) (Val.columns (List.getD z40 (Int.toNat x5) Ty.val.dflt)) (Val.rows (List.getD z40 (Int.toNat x5) Ty.val.dflt)))) (List.set x0 (Int.toNat x5) (Val.mk x1 (Val.n (List.getD x0 (Int.toNat x5) Ty.val.dflt)) (Val.step (List.getD x0 (Int.toNat x5) Ty.val.dflt)) (Val.text (List.getD x0 (Int.toNat x5) Ty.val.dflt)) (Val.list (List.getD x0 (Int.toNat x5) Ty.val.dflt)) (Val.columns (List.getD x0 (Int.toNat x5) Ty.val.dflt)) (Val.rows (List.getD x0 (Int.toNat x5) Ty.val.dflt))))))))), AbC 41 (xEa (Val.columns (List.getD ((fun (z43 : List Val) => List.set z43 (Int.toNat x5) (Val.mk (Val.kind (List.getD z43 (Int.toNat x5) Ty.val.dflt)) (Val.n (List.getD z43 (Int.toNat x5) Ty.val.dflt)) (Val.step (List.getD z43 (Int.toNat x5) Ty.val.dflt)) (Val.text (List.getD z43 (Int.toNat x5) Ty.val.dflt)) r2.2 (Val.columns (List.getD z43 (Int.toNat x5) Ty.val.dflt)) (Val.rows (List.getD z43 (Int.toNat x5) Ty.val.dflt)))) ((fun (z42 : List Val) => List.set z42 (Int.toNat x5) (Val.mk (Val.kind (List.getD z42 (Int.toNat x5) Ty.val.dflt)) (Val.n (List.getD z42 (Int.toNat x5) Ty.val.dflt)) (Val.step (List.getD z42 (Int.toNat x5) Ty.val.dflt)) r1 (Val.list (List.getD z42 (Int.toNat x5) Ty.val.dflt)) (Val.columns (List.getD z42 (Int.toNat x5) Ty.val.dflt)) (Val.rows (List.getD z42 (Int.toNat x5) Ty.val.dflt)))) ((fun (z41 : List Val) => List.set z41 (Int.toNat x5) (Val.mk (Val.kind (List.getD z41 (Int.toNat x5) Ty.val.dflt)) (Val.n (List.getD z41 (Int.toNat x5) Ty.val.dflt)) (IntKind.i64.wrap ((IntKind.i64.wrap (x1 + 1)) + 1)) (Val.text (List.getD z41 (Int.toNat x5) Ty.val.dflt)) (Val.list (List.getD z41 (Int.toNat x5) Ty.val.dflt)) (Val.columns (List.getD z41 (Int.toNat x5) Ty.val.dflt)) (Val.rows (List.getD z41 (Int.toNat x5) Ty.val.dflt)))) ((fun (z40 : List Val) => List.set z40 (Int.toNat x5) (Val.mk (Val.kind (List.getD z40 (Int.toNat x5) Ty.val.dflt)) (IntKind.i64.wrap (x1 + 1)) (Val.step (List.getD z40 (Int.toNat x5) Ty.val.dflt)) (Val.text (List.getD z40 (Int.toNat x5) Ty.val.dflt)) (Val.list (List.getD z40 (Int.toNat x5) Ty.val.dflt)) (Val.columns (List.getD z40 (Int.toNat x5) Ty.val.dflt)) (Val.rows (List.getD z40 (Int.toNat x5) Ty.val.dflt)))) (List.set x0 (Int.toNat x5) (Val.mk x1 (Val.n (List.getD x0 (Int.toNat x5) Ty.val.dflt)) (Val.step (List.getD x0 (Int.toNat x5) Ty.val.dflt)) (Val.text (List.getD x0 (Int.toNat x5) Ty.val.dflt)) (Val.list (List.getD x0 (Int.toNat x5) Ty.val.dflt)) (Val.columns (List.getD x0 (Int.toNat x5) Ty.val.dflt)) (Val.rows (List.getD x0 (Int.toNat x5) Ty.val.dflt)))))))) (Int.toNat x5) Ty.val.dflt)) r2.1) (xCh r3), (Int.toNat x5) = (Int.toNat x5), List.length r3.2 = List.length (Val.columns (List.getD ((fun (z43 : List Val) => List.set z43 (Int.toNat x5) (Val.mk (Val.kind (List.getD z43 (Int.toNat x5) Ty.val.dflt)) (Val.n (List.getD z43 (Int.toNat x5) Ty.val.dflt)) (Val.step (List.getD z43 (Int.toNat x5) Ty.val.dflt)) (Val.text (List.getD z43 (Int.toNat x5) Ty.val.dflt)) r2.2 (Val.columns (List.getD z43 (Int.toNat x5) Ty.val.dflt)) (Val.rows (List.getD z43 (Int.toNat x5) Ty.val.dflt)))) ((fun (z42 : List Val) => List.set z42 (Int.toNat x5) (Val.mk (Val.kind (List.getD z42 (Int.toNat x5) Ty.val.dflt)) (Val.n (List.getD z42 (Int.toNat x5) Ty.val.dflt)) (Val.step (List.getD z42 (Int.toNat x5) Ty.val.dflt)) r1 (Val.list (List.getD z42 (Int.toNat x5) Ty.val.dflt)) (Val.columns (List.getD z42 (Int.toNat x5) Ty.val.dflt)) (Val.rows (List.getD z42 (Int.toNat x5) Ty.val.dflt)))) ((fun (z41 : List Val) => List.set z41 (Int.toNat x5) (Val.mk (Val.kind (List.getD z41 (Int.toNat x5) Ty.val.dflt)) (Val.n (List.getD z41 (Int.toNat x5) Ty.val.dflt)) (IntKind.i64.wrap ((IntKind.i64.wrap (x1 + 1)) + 1)) (Val.text (List.getD z41 (Int.toNat x5) Ty.val.dflt)) (Val.list (List.getD z41 (Int.toNat x5) Ty.val.dflt)) (Val.columns (List.getD z41 (Int.toNat x5) Ty.val.dflt)) (Val.rows (List.getD z41 (Int.toNat x5) Ty.val.dflt)))) ((fun (z40 : List Val) => List.set z40 (Int.toNat x5) (Val.mk (Val.kind (List.getD z40 (Int.toNat x5) Ty.val.dflt)) (IntKind.i64.wrap (x1 + 1)) (Val.step (List.getD z40 (Int.toNat x5) Ty.val.dflt)) (Val.text (List.getD z40 (Int.toNat x5) Ty.val.dflt)) (Val.list (List.getD z40 (Int.toNat x5) Ty.val.dflt)) (Val.columns (List.getD z40 (Int.toNat x5) Ty.val.dflt)) (Val.rows (List.getD z40 (Int.toNat x5) Ty.val.dflt)))) (List.set x0 (Int.toNat x5) (Val.mk x1 (Val.n (List.getD x0 (Int.toNat x5) Ty.val.dflt)) (Val.step (List.getD x0 (Int.toNat x5) Ty.val.dflt)) (Val.text (List.getD x0 (Int.toNat x5) Ty.val.dflt)) (Val.list (List.getD x0 (Int.toNat x5) Ty.val.dflt)) (Val.columns (List.getD x0 (Int.toNat x5) Ty.val.dflt)) (Val.rows (List.getD x0 (Int.toNat x5) Ty.val.dflt)))))))) (Int.toNat x5) Ty.val.dflt)), (0 : Int) ≤ x5 ∧ x5 < (List.length ((fun (z44 : List Val) => List.set z44 (Int.toNat x5) (Val.mk (Val.kind (List.getD z44 (Int.toNat x5) Ty.val.dflt)) (Val.n (List.getD z44 (Int.toNat x5) Ty.val.dflt)) (Val.step (List.getD z44 (Int.toNat x5) Ty.val.dflt)) (Val.text (List.getD z44 (Int.toNat x5) Ty.val.dflt)) (Val.list (List.getD z44 (Int.toNat x5) Ty.val.dflt)) r3.2 (Val.rows (List.getD z44 (Int.toNat x5) Ty.val.dflt)))) ((fun (z43 : List Val) => List.set z43 (Int.toNat x5) (Val.mk (Val.kind (List.getD z43 (Int.toNat x5) Ty.val.dflt)) (Val.n (List.getD z43 (Int.toNat x5) Ty.val.dflt)) (Val.step (List.getD z43 (Int.toNat x5) Ty.val.dflt)) (Val.text (List.getD z43 (Int.toNat x5) Ty.val.dflt)) r2.2 (Val.columns (List.getD z43 (Int.toNat x5) Ty.val.dflt)) (Val.rows (List.getD z43 (Int.toNat x5) Ty.val.dflt)))) ((fun (z42 : List Val) => List.set z42 (Int.toNat x5) (Val.mk (Val.kind (List.getD z42 (Int.toNat x5) Ty.val.dflt)) (Val.n (List.getD z42 (Int.toNat x5) Ty.val.dflt)) (Val.step (List.getD z42 (Int.toNat x5) Ty.val.dflt)) r1 (Val.list (List.getD z42 (Int.toNat x5) Ty.val.dflt)) (Val.columns (List.getD z42 (Int.toNat x5) Ty.val.dflt)) (Val.rows (List.getD z42 (Int.toNat x5) Ty.val.dflt)))) ((fun (z41 : List Val) => List.set z41 (Int.toNat x5) (Val.mk (Val.kind (List.getD z41 (Int.toNat x5) Ty.val.dflt)) (Val.n (List.getD z41 (Int.toNat x5) Ty.val.dflt)) (IntKind.i64.wrap ((IntKind.i64.wrap (x1 + 1)) + 1)) (Val.text (List.getD z41 (Int.toNat x5) Ty.val.dflt)) (Val.list (List.getD z41 (Int.toNat x5) Ty.val.dflt)) (Val.columns (List.getD z41 (Int.toNat x5) Ty.val.dflt)) (Val.rows (List.getD z41 (Int.toNat x5) Ty.val.dflt)))) ((fun (z40 : List Val) => List.set z40 (Int.toNat x5) (Val.mk (Val.kind (List.getD z40 (Int.toNat x5) Ty.val.dflt)) (IntKind.i64.wrap (x1 + 1)) (Val.step (List.getD z40 (Int.toNat x5) Ty.val.dflt)) (Val.text (List.getD z40 (Int.toNat x5) Ty.val.dflt)) (Val.list (List.getD z40 (Int.toNat x5) Ty.val.dflt)) (Val.columns (List.getD z40 (Int.toNat x5) Ty.val.dflt)) (Val.rows (List.getD z40 (Int.toNat x5) Ty.val.dflt)))) (List.set x0 (Int.toNat x5) (Val.mk x1 (Val.n (List.getD x0 (Int.toNat x5) Ty.val.dflt)) (Val.step (List.getD x0 (Int.toNat x5) Ty.val.dflt)) (Val.text (List.getD x0 (Int.toNat x5) Ty.val.dflt)) (Val.list (List.getD x0 (Int.toNat x5) Ty.val.dflt)) (Val.columns (List.getD x0 (Int.toNat x5) Ty.val.dflt)) (Val.rows (List.getD x0 (Int.toNat x5) Ty.val.dflt)))))))))), AbC 42 (xE4 (Val.rows (List.getD ((fun (z44 : List Val) => List.set z44 (Int.toNat x5) (Val.mk (Val.kind (List.getD z44 (Int.toNat x5) Ty.val.dflt)) (Val.n (List.getD z44 (Int.toNat x5) Ty.val.dflt)) (Val.step (List.getD z44 (Int.toNat x5) Ty.val.dflt)) (Val.text (List.getD z44 (Int.toNat x5) Ty.val.dflt)) (Val.list (List.getD z44 (Int.toNat x5) Ty.val.dflt)) r3.2 (Val.rows (List.getD z44 (Int.toNat x5) Ty.val.dflt)))) ((fun (z43 : List Val) => List.set z43 (Int.toNat x5) (Val.mk (Val.kind (List.getD z43 (Int.toNat x5) Ty.val.dflt)) (Val.n (List.getD z43 (Int.toNat x5) Ty.val.dflt)) (Val.step (List.getD z43 (Int.toNat x5) Ty.val.dflt)) (Val.text (List.getD z43 (Int.toNat x5) Ty.val.dflt)) r2.2 (Val.columns (List.getD z43 (Int.toNat x5) Ty.val.dflt)) (Val.rows (List.getD z43 (Int.toNat x5) Ty.val.dflt)))) ((fun (z42 : List Val) => List.set z42 (Int.toNat x5) (Val.mk (Val.kind (List.getD z42 (Int.toNat x5) Ty.val.dflt)) (Val.n (List.getD z42 (Int.toNat x5) Ty.val.dflt)) (Val.step (List.getD z42 (Int.toNat x5) Ty.val.dflt)) r1 (Val.list (List.getD z42 (Int.toNat x5) Ty.val.dflt)) (Val.columns (List.getD z42 (Int.toNat x5) Ty.val.dflt)) (Val.rows (List.getD z42 (Int.toNat x5) Ty.val.dflt)))) ((fun (z41 : List Val) => List.set z41 (Int.toNat x5) (Val.mk (Val.kind (List.getD z41 (Int.toNat x5) Ty.val.dflt)) (Val.n (List.getD z41 (Int.toNat x5) Ty.val.dflt)) (IntKind.i64.wrap ((IntKind.i64.wrap (x1 + 1)) + 1)) (Val.text (List.getD z41 (Int.toNat x5) Ty.val.dflt)) (Val.list (List.getD z41 (Int.toNat x5) Ty.val.dflt)) (Val.columns (List.getD z41 (Int.toNat x5) Ty.val.dflt)) (Val.rows (List.getD z41 (Int.toNat x5) Ty.val.dflt)))) ((fun (z40 : List Val) => List.set z40 (Int.toNat x5) (Val.mk (Val.kind (List.getD z40 (Int.toNat x5) Ty.val.dflt)) (IntKind.i64.wrap (x1 + 1)) (Val.step (List.getD z40 (Int.toNat x5) Ty.val.dflt)) (Val.text (List.getD z40 (Int.toNat x5) Ty.val.dflt)) (Val.list (List.getD z40 (Int.toNat x5) Ty.val.dflt)) (Val.columns (List.getD z40 (Int.toNat x5) Ty.val.dflt)) (Val.rows (List.getD z40 (Int.toNat x5) Ty.val.dflt)))) (List.set x0 (Int.toNat x5) (Val.mk x1 (Val.n (List.getD x0 (Int.toNat x5) Ty.val.dflt)) (Val.step (List.getD x0 (Int.toNat x5) Ty.val.dflt)) (Val.text (List.getD x0 (Int.toNat x5) Ty.val.dflt)) (Val.list (List.getD x0 (Int.toNat x5) Ty.val.dflt)) (Val.columns (List.getD x0 (Int.toNat x5) Ty.val.dflt)) (Val.rows (List.getD x0 (Int.toNat x5) Ty.val.dflt))))))))) (Int.toNat x5) Ty.val.dflt)) r3.1) (xC8 r4), (Int.toNat x5) = (Int.toNat x5), List.length r4.2 = List.length (Val.rows (List.getD ((fun (z44 : List Val) => List.set z44 (Int.toNat x5) (Val.mk (Val.kind (List.getD z44 (Int.toNat x5) Ty.val.dflt)) (Val.n (List.getD z44 (Int.toNat x5) Ty.val.dflt)) (Val.step (List.getD z44 (Int.toNat x5) Ty.val.dflt)) (Val.text (List.getD z44 (Int.toNat x5) Ty.val.dflt)) (Val.list (List.getD z44 (Int.toNat x5) Ty.val.dflt)) r3.2 (Val.rows (List.getD z44 (Int.toNat x5) Ty.val.dflt)))) ((fun (z43 : List Val) => List.set z43 (Int.toNat x5) (Val.mk (Val.kind (List.getD z43 (Int.toNat x5) Ty.val.dflt)) (Val.n (List.getD z43 (Int.toNat x5) Ty.val.dflt)) (Val.step (List.getD z43 (Int.toNat x5) Ty.val.dflt)) (Val.text (List.getD z43 (Int.toNat x5) Ty.val.dflt)) r2.2 (Val.columns (List.getD z43 (Int.toNat x5) Ty.val.dflt)) (Val.rows (List.getD z43 (Int.toNat x5) Ty.val.dflt)))) ((fun (z42 : List Val) => List.set z42 (Int.toNat x5) (Val.mk (Val.kind (List.getD z42 (Int.toNat x5) Ty.val.dflt)) (Val.n (List.getD z42 (Int.toNat x5) Ty.val.dflt)) (Val.step (List.getD z42 (Int.toNat x5) Ty.val.dflt)) r1 (Val.list (List.getD z42 (Int.toNat x5) Ty.val.dflt)) (Val.columns (List.getD z42 (Int.toNat x5) Ty.val.dflt)) (Val.rows (List.getD z42 (Int.toNat x5) Ty.val.dflt)))) ((fun (z41 : List Val) => List.set z41 (Int.toNat x5) (Val.mk (Val.kind (List.getD z41 (Int.toNat x5) Ty.val.dflt)) (Val.n (List.getD z41 (Int.toNat x5) Ty.val.dflt)) (IntKind.i64.wrap ((IntKind.i64.wrap (x1 + 1)) + 1)) (Val.text (List.getD z41 (Int.toNat x5) Ty.val.dflt)) (Val.list (List.getD z41 (Int.toNat x5) Ty.val.dflt)) (Val.columns (List.getD z41 (Int.toNat x5) Ty.val.dflt)) (Val.rows (List.getD z41 (Int.toNat x5) Ty.val.dflt)))) ((fun (z40 : List Val) => List.set z40 (Int.toNat x5) (Val.mk (Val.kind (List.getD z40 (Int.toNat x5) Ty.val.dflt)) (IntKind.i64.wrap (x1 + 1)) (Val.step (List.getD z40 (Int.toNat x5) Ty.val.dflt)) (Val.text (List.getD z40 (Int.toNat x5) Ty.val.dflt)) (Val.list (List.getD z40 (Int.toNat x5) Ty.val.dflt)) (Val.columns (List.getD z40 (Int.toNat x5) Ty.val.dflt)) (Val.rows (List.getD z40 (Int.toNat x5) Ty.val.dflt)))) (List.set x0 (Int.toNat x5) (Val.mk x1 (Val.n (List.getD x0 (Int.toNat x5) Ty.val.dflt)) (Val.step (List.getD x0 (Int.toNat x5) Ty.val.dflt)) (Val.text (List.getD x0 (Int.toNat x5) Ty.val.dflt)) (Val.list (List.getD x0 (Int.toNat x5) Ty.val.dflt)) (Val.columns (List.getD x0 (Int.toNat x5) Ty.val.dflt)) (Val.rows (List.getD x0 (Int.toNat x5) Ty.val.dflt))))))))) (Int.toNat x5) Ty.val.dflt))]) := by kernel_rfl
theorem p40_2_1 (x0 : List Val) (x1 x5 : Int) : run tt (AbsCalls Try.prog) I40 3000 true (stkAt 2 I40.body) ⟨(S40_2 x0 x1 x5), [false], [], []⟩ = some (.done (xBk (x1, x0)) [(decide ((x5 : Int) < (List.length x0 : Int))) = false]) := by kernel_rfl
theorem p40_e_2 (a0 : List Val) (a1 : Int) : run tt (AbsCalls Try.prog) I40 3000 false [.code I40.body] ⟨(zBi 0 (xBX a0 a1)), [], [], []⟩ = some (.stop (stkAt 2 I40.body) (S40_2 a0 a1 0) []) := by kernel_rfl
theorem c40_2 {N : Nat} {rc_laws_markValueS : (List Val) → Int → Option (Int × (List Val))} (hrc_laws_markValueS : ∀ a0 a1 r, rc_laws_markValueS a0 a1 = some r → AbC 40 (xBX a0 a1) (xBk r)) : ∀ n x0 x1 x5 r, xC0 N rc_laws_markValueS n x0 x1 x5 = some r → Reach Try.prog Try.f40 I40 (stkAt 2 I40.body) (S40_2 x0 x1 x5) (xBk r) := by
 intro n
 induction n with
 | zero => intro x0 x1 x5 r h; have h' : (none : Option (Int × (List Val))) = some r := h; cases h'
 | succ n ih =>
  intro x0 x1 x5 r h
  rw [xC0] at h
  rcases cond_inv h with ⟨h0, h⟩ | ⟨h0, h⟩
  ·obtain ⟨h1, h⟩ := ite_inv h
   obtain ⟨h2, h⟩ := ite_inv h
   obtain ⟨h3, h⟩ := ite_inv h
   obtain ⟨r1, h4, h⟩ := bind_inv h
   obtain ⟨h5, h⟩ := ite_inv h
   obtain ⟨h6, h⟩ := ite_inv h
   obtain ⟨r2, h7, h⟩ := bind_inv h
   obtain ⟨h9, h⟩ := ite_inv h
   obtain ⟨h10, h⟩ := ite_inv h
   obtain ⟨r3, h11, h⟩ := bind_inv h
   obtain ⟨h13, h⟩ := ite_inv h
   obtain ⟨h14, h⟩ := ite_inv h
   obtain ⟨r4, h15, h⟩ := bind_inv h
   obtain ⟨h17, h⟩ := ite_inv h
   exact Reach.stop ttok mix fk40 (p40_2_0 x0 x1 x5 r1 r2 r3 r4) (obs_cons h0 (obs_cons h1 (obs_cons h2 (obs_cons h3 (obs_cons (xCz h4) (obs_cons h5 (obs_cons h6 (obs_cons (hrc_laws_markValueS _ _ _ h7) (obs_cons rfl (obs_cons h9 (obs_cons h10 (obs_cons (xGY h11) (obs_cons rfl (obs_cons h13 (obs_cons h14 (obs_cons (xHB h15) (obs_cons rfl (obs_cons h17 obs_nil)))))))))))))))))) (ih _ _ _ _ h)
  ·obtain rfl := Option.some.inj h
   exact Reach.done ttok mix fk40 (p40_2_1 x0 x1 x5) (obs_cons h0 obs_nil)
theorem c40_e {N : Nat} {rc_laws_markValueS : (List Val) → Int → Option (Int × (List Val))} (hrc_laws_markValueS : ∀ a0 a1 r, rc_laws_markValueS a0 a1 = some r → AbC 40 (xBX a0 a1) (xBk r)) : ∀ a0 a1 r, xEF N rc_laws_markValueS a0 a1 = some r → Reach Try.prog Try.f40 I40 [.code I40.body] (zBi 0 (xBX a0 a1)) (xBk r) := by
 intro a0 a1 r h
 unfold xEF at h
 exact Reach.stop ttok mix fk40 (p40_e_2 a0 a1) obs_nil (c40_2 hrc_laws_markValueS  _ _ _ _ _ h)
theorem xHx {N : Nat} {rc_laws_markValueS : (List Val) → Int → Option (Int × (List Val))} (hrc_laws_markValueS : ∀ a0 a1 r, rc_laws_markValueS a0 a1 = some r → AbC 40 (xBX a0 a1) (xBk r)) {a0 : List Val} {a1 : Int} {r : Int × (List Val)} (h : xEF N rc_laws_markValueS a0 a1 = some r) : AbC 40 (xBX a0 a1) (xBk r) :=
 AbsCalls.of_reach fk40 rfl rfl (Nat.le_of_ble_eq_true rfl) (c40_e hrc_laws_markValueS a0 a1 r h)
theorem xHI {N : Nat} : ∀ d, (∀ a0 a1 r, xEb N d a0 a1 = some r → AbC 40 (xBX a0 a1) (xBk r)) := by
 intro d
 induction d with
 | zero => intro _ _ r h; have h' : (none : Option (Int × (List Val))) = some r := h; cases h'
 | succ d ih => intro _ _ r h; exact xHx (N := N) ih h
theorem laws_markValueS_ok {N : Nat} {a0 : List Val} {a1 : Int} {r : Int × (List Val)} (h : xGZ N a0 a1 = some r) : AbC 40 (xBX a0 a1) (xBk r) := xHI N _ _ r h
noncomputable def I13 : Info := { body := (Try.f13.body).getD .skip, nt := 18, results := [.tmp 4], keep := [0, 2, 4, 8, 5], live := [], modes := [(1, [(1, .ref, false), (3, .ref, false)]), (2, [(1, .ref, false), (3, .ref, false)]), (3, [(1, .ref, false), (3, .ref, false)])], ext := [], lnt := [(5, 4), (5, 5), (5, 6)], casts := [], fcast := [] }
theorem fk13 : FnOk Try.prog 13 Try.f13 I13 := ⟨Try.func13, by kernel_rfl, by kernel_rfl, by kernel_rfl, by kernel_rfl⟩
theorem p13_e_0 (a0 : Val) (a1 : Int) (r1 : Int × (List Val)) (r2 : Int × (List Str)) (r3 : Int × (List Rowd)) : run tt (AbsCalls Try.prog) I13 3000 false [.code I13.body] ⟨(zBi 0 (xAm a0 a1)), [], [xBk r1, xCh r2, xC8 r3], []⟩ = some (.done (xAg (r3.1, r1.2, r2.2, r3.2)) [AbC 40 (xBX (Val.list a0) a1) (xBk r1), List.length r1.2 = List.length (Val.list a0), AbC 41 (xEa (Val.columns a0) r1.1) (xCh r2), List.length r2.2 = List.length (Val.columns a0), AbC 42 (xE4 (Val.rows a0) r2.1) (xC8 r3), List.length r3.2 = List.length (Val.rows a0)]) := by kernel_rfl
theorem c13_e {N : Nat} : ∀ a0 a1 r, xBz N a0 a1 = some r → Reach Try.prog Try.f13 I13 [.code I13.body] (zBi 0 (xAm a0 a1)) (xAg r) := by
 intro a0 a1 r h
 unfold xBz at h
 obtain ⟨r1, h0, h⟩ := bind_inv h
 obtain ⟨h1, h⟩ := ite_inv h
 obtain ⟨r2, h2, h⟩ := bind_inv h
 obtain ⟨h3, h⟩ := ite_inv h
 obtain ⟨r3, h4, h⟩ := bind_inv h
 obtain ⟨h5, h⟩ := ite_inv h
 obtain rfl := Option.some.inj h
 exact Reach.done ttok mix fk13 (p13_e_0 a0 a1 r1 r2 r3) (obs_cons (laws_markValueS_ok h0) (obs_cons h1 (obs_cons (xGY h2) (obs_cons h3 (obs_cons (xHB h4) (obs_cons h5 obs_nil))))))
theorem xAn {N : Nat} {a0 : Val} {a1 : Int} {r : Int × (List Val) × (List Str) × (List Rowd)} (h : xBz N  a0 a1 = some r) : AbC 13 (xAm a0 a1) (xAg r) :=
 AbsCalls.of_reach fk13 rfl rfl (Nat.le_of_ble_eq_true rfl) (c13_e a0 a1 r h)
noncomputable def I44 : Info := { body := (Try.f44.body).getD .skip, nt := 22, results := [.tmp 4], keep := [0, 2, 8, 10, 18, 36], live := [(2, [0, 2, 10])], modes := [], ext := [], lnt := [], casts := [], fcast := [] }
theorem fk44 : FnOk Try.prog 44 Try.f44 I44 := ⟨Try.func44, by kernel_rfl, by kernel_rfl, by kernel_rfl, by kernel_rfl⟩
def S44_2 (x0 : List Str) (x1 x5 : Int) : St := [(0, .v false [.sl .ro .str x0]), (2, .v false [.int .i64 x1]), (10, .v false [.int .i64 x5])]
theorem p44_2_0 (x0 : List Str) (x1 x5 : Int) (r1 : Str) : run tt (AbsCalls Try.prog) I44 3000 true (stkAt 2 I44.body) ⟨(S44_2 x0 x1 x5), [true, true], [xAN r1], []⟩ = some (.done (xAR (-1)) [(decide ((x5 : Int) < (List.length x0 : Int))) = true, (0 : Int) ≤ x5 ∧ x5 < (List.length x0), AbC 78 (xBB x1) (xAN r1), (!(((List.getD x0 (Int.toNat x5) Ty.str.dflt) : Str) == r1)) = true]) := by kernel_rfl
theorem p44_2_1 (x0 : List Str) (x1 x5 : Int) (r1 : Str) : run tt (AbsCalls Try.prog) I44 3000 true (stkAt 2 I44.body) ⟨(S44_2 x0 x1 x5), [true, false], [xAN r1], []⟩ = some (.stop (stkAt 2 I44.body) (S44_2 x0 (IntKind.i64.wrap (x1 + 1)) (IntKind.i64.wrap (x5 + 1))) [(decide ((x5 : Int) < (List.length x0 : Int))) = true, (0 : Int) ≤ x5 ∧ x5 < (List.length x0), AbC 78 (xBB x1) (xAN r1), (!(((List.getD x0 (Int.toNat x5) Ty.str.dflt) : Str) == r1)) = false]) := by kernel_rfl
theorem p44_2_2 (x0 : List Str) (x1 x5 : Int) : run tt (AbsCalls Try.prog) I44 3000 true (stkAt 2 I44.body) ⟨(S44_2 x0 x1 x5), [false], [], []⟩ = some (.done (xAR x1) [(decide ((x5 : Int) < (List.length x0 : Int))) = false]) := by kernel_rfl
theorem p44_e_3 (a0 : List Str) (a1 : Int) : run tt (AbsCalls Try.prog) I44 3000 false [.code I44.body] ⟨(zBi 0 (xB1 a0 a1)), [], [], []⟩ = some (.stop (stkAt 2 I44.body) (S44_2 a0 a1 0) []) := by kernel_rfl
theorem c44_2 {N : Nat} : ∀ n x0 x1 x5 r, xCg N n x0 x1 x5 = some r → Reach Try.prog Try.f44 I44 (stkAt 2 I44.body) (S44_2 x0 x1 x5) (xAR r) := by
 intro n
 induction n with
 | zero => intro x0 x1 x5 r h; have h' : (none : Option (Int)) = some r := h; cases h'
 | succ n ih =>
  intro x0 x1 x5 r h
  rw [xCg] at h
  rcases cond_inv h with ⟨h0, h⟩ | ⟨h0, h⟩
  ·obtain ⟨h1, h⟩ := ite_inv h
   obtain ⟨r1, h2, h⟩ := bind_inv h
   rcases cond_inv h with ⟨h3, h⟩ | ⟨h3, h⟩
   ·obtain rfl := Option.some.inj h
    exact Reach.done ttok mix fk44 (p44_2_0 x0 x1 x5 r1) (obs_cons h0 (obs_cons h1 (obs_cons (xCz h2) (obs_cons h3 obs_nil))))
   ·exact Reach.stop ttok mix fk44 (p44_2_1 x0 x1 x5 r1) (obs_cons h0 (obs_cons h1 (obs_cons (xCz h2) (obs_cons h3 obs_nil)))) (ih _ _ _ _ h)
  ·obtain rfl := Option.some.inj h
   exact Reach.done ttok mix fk44 (p44_2_2 x0 x1 x5) (obs_cons h0 obs_nil)
theorem c44_e {N : Nat} : ∀ a0 a1 r, xDK N a0 a1 = some r → Reach Try.prog Try.f44 I44 [.code I44.body] (zBi 0 (xB1 a0 a1)) (xAR r) := by
 intro a0 a1 r h
 unfold xDK at h
 exact Reach.stop ttok mix fk44 (p44_e_3 a0 a1) obs_nil (c44_2   _ _ _ _ _ h)
theorem xDi {N : Nat} {a0 : List Str} {a1 : Int} {r : Int} (h : xDK N  a0 a1 = some r) : AbC 44 (xB1 a0 a1) (xAR r) :=
 AbsCalls.of_reach fk44 rfl rfl (Nat.le_of_ble_eq_true rfl) (c44_e a0 a1 r h)
noncomputable def I81 : Info := { body := (Try.f81.body).getD .skip, nt := 21, results := [.tmp 4], keep := [0, 2, 8, 10, 18, 34], live := [(2, [0, 2, 10])], modes := [], ext := [], lnt := [], casts := [], fcast := [] }
theorem fk81 : FnOk Try.prog 81 Try.f81 I81 := ⟨Try.func81, by kernel_rfl, by kernel_rfl, by kernel_rfl, by kernel_rfl⟩
def S81_2 (x0 : List Int) (x1 x5 : Int) : St := [(0, .v false [.sl .ro .int x0]), (2, .v false [.int .i64 x1]), (10, .v false [.int .i64 x5])]
theorem p81_2_0 (x0 : List Int) (x1 x5 : Int) : run tt (AbsCalls Try.prog) I81 3000 true (stkAt 2 I81.body) ⟨(S81_2 x0 x1 x5), [true, true], [], []⟩ = some (.done (xB8 (-1)) [(decide ((x5 : Int) < (List.length x0 : Int))) = true, (0 : Int) ≤ x5 ∧ x5 < (List.length x0), (((List.getD x0 (Int.toNat x5) Ty.int.dflt) : Int) != x1) = true]) := by kernel_rfl
theorem p81_2_1 (x0 : List Int) (x1 x5 : Int) : run tt (AbsCalls Try.prog) I81 3000 true (stkAt 2 I81.body) ⟨(S81_2 x0 x1 x5), [true, false], [], []⟩ = some (.stop (stkAt 2 I81.body) (S81_2 x0 (IntKind.i64.wrap (x1 + 1)) (IntKind.i64.wrap (x5 + 1))) [(decide ((x5 : Int) < (List.length x0 : Int))) = true, (0 : Int) ≤ x5 ∧ x5 < (List.length x0), (((List.getD x0 (Int.toNat x5) Ty.int.dflt) : Int) != x1) = false]) := by kernel_rfl
theorem p81_2_2 (x0 : List Int) (x1 x5 : Int) : run tt (AbsCalls Try.prog) I81 3000 true (stkAt 2 I81.body) ⟨(S81_2 x0 x1 x5), [false], [], []⟩ = some (.done (xB8 x1) [(decide ((x5 : Int) < (List.length x0 : Int))) = false]) := by kernel_rfl
theorem p81_e_3 (a0 : List Int) (a1 : Int) : run tt (AbsCalls Try.prog) I81 3000 false [.code I81.body] ⟨(zBi 0 (xEh a0 a1)), [], [], []⟩ = some (.stop (stkAt 2 I81.body) (S81_2 a0 a1 0) []) := by kernel_rfl
theorem c81_2 {N : Nat} : ∀ n x0 x1 x5 r, xDI N n x0 x1 x5 = some r → Reach Try.prog Try.f81 I81 (stkAt 2 I81.body) (S81_2 x0 x1 x5) (xB8 r) := by
 intro n
 induction n with
 | zero => intro x0 x1 x5 r h; have h' : (none : Option (Int)) = some r := h; cases h'
 | succ n ih =>
  intro x0 x1 x5 r h
  rw [xDI] at h
  rcases cond_inv h with ⟨h0, h⟩ | ⟨h0, h⟩
  ·obtain ⟨h1, h⟩ := ite_inv h
   rcases cond_inv h with ⟨h2, h⟩ | ⟨h2, h⟩
   ·obtain rfl := Option.some.inj h
    exact Reach.done ttok mix fk81 (p81_2_0 x0 x1 x5) (obs_cons h0 (obs_cons h1 (obs_cons h2 obs_nil)))
   ·exact Reach.stop ttok mix fk81 (p81_2_1 x0 x1 x5) (obs_cons h0 (obs_cons h1 (obs_cons h2 obs_nil))) (ih _ _ _ _ h)
  ·obtain rfl := Option.some.inj h
   exact Reach.done ttok mix fk81 (p81_2_2 x0 x1 x5) (obs_cons h0 obs_nil)
theorem c81_e {N : Nat} : ∀ a0 a1 r, xF7 N a0 a1 = some r → Reach Try.prog Try.f81 I81 [.code I81.body] (zBi 0 (xEh a0 a1)) (xB8 r) := by
 intro a0 a1 r h
 unfold xF7 at h
 exact Reach.stop ttok mix fk81 (p81_e_3 a0 a1) obs_nil (c81_2   _ _ _ _ _ h)
theorem xGH {N : Nat} {a0 : List Int} {a1 : Int} {r : Int} (h : xF7 N  a0 a1 = some r) : AbC 81 (xEh a0 a1) (xB8 r) :=
 AbsCalls.of_reach fk81 rfl rfl (Nat.le_of_ble_eq_true rfl) (c81_e a0 a1 r h)
noncomputable def I82 : Info := { body := (Try.f82.body).getD .skip, nt := 31, results := [.tmp 4], keep := [0, 2, 8, 10, 18, 36, 54], live := [(2, [0, 2, 10])], modes := [], ext := [], lnt := [], casts := [], fcast := [] }
theorem fk82 : FnOk Try.prog 82 Try.f82 I82 := ⟨Try.func82, by kernel_rfl, by kernel_rfl, by kernel_rfl, by kernel_rfl⟩
def S82_2 (x0 : List Org) (x1 x5 : Int) : St := [(0, .v false [.sl .ro .org x0]), (2, .v false [.int .i64 x1]), (10, .v false [.int .i64 x5])]
theorem p82_2_0 (x0 : List Org) (x1 x5 : Int) : run tt (AbsCalls Try.prog) I82 3000 true (stkAt 2 I82.body) ⟨(S82_2 x0 x1 x5), [true, true], [], []⟩ = some (.done (xBI (-1)) [(decide ((x5 : Int) < (List.length x0 : Int))) = true, (0 : Int) ≤ x5 ∧ x5 < (List.length x0), (((Org.cell (List.getD x0 (Int.toNat x5) Ty.org.dflt)) : Int) != x1) = true]) := by kernel_rfl
theorem p82_2_1 (x0 : List Org) (x1 x5 : Int) : run tt (AbsCalls Try.prog) I82 3000 true (stkAt 2 I82.body) ⟨(S82_2 x0 x1 x5), [true, false, true], [], []⟩ = some (.done (xBI (-1)) [(decide ((x5 : Int) < (List.length x0 : Int))) = true, (0 : Int) ≤ x5 ∧ x5 < (List.length x0), (((Org.cell (List.getD x0 (Int.toNat x5) Ty.org.dflt)) : Int) != x1) = false, (0 : Int) ≤ x5 ∧ x5 < (List.length x0), (((Org.row (List.getD x0 (Int.toNat x5) Ty.org.dflt)) : Int) != (IntKind.i64.wrap (x1 + 1))) = true]) := by kernel_rfl
theorem p82_2_2 (x0 : List Org) (x1 x5 : Int) : run tt (AbsCalls Try.prog) I82 3000 true (stkAt 2 I82.body) ⟨(S82_2 x0 x1 x5), [true, false, false], [], []⟩ = some (.stop (stkAt 2 I82.body) (S82_2 x0 (IntKind.i64.wrap ((IntKind.i64.wrap (x1 + 1)) + 1)) (IntKind.i64.wrap (x5 + 1))) [(decide ((x5 : Int) < (List.length x0 : Int))) = true, (0 : Int) ≤ x5 ∧ x5 < (List.length x0), (((Org.cell (List.getD x0 (Int.toNat x5) Ty.org.dflt)) : Int) != x1) = false, (0 : Int) ≤ x5 ∧ x5 < (List.length x0), (((Org.row (List.getD x0 (Int.toNat x5) Ty.org.dflt)) : Int) != (IntKind.i64.wrap (x1 + 1))) = false]) := by kernel_rfl
theorem p82_2_3 (x0 : List Org) (x1 x5 : Int) : run tt (AbsCalls Try.prog) I82 3000 true (stkAt 2 I82.body) ⟨(S82_2 x0 x1 x5), [false], [], []⟩ = some (.done (xBI x1) [(decide ((x5 : Int) < (List.length x0 : Int))) = false]) := by kernel_rfl
theorem p82_e_4 (a0 : List Org) (a1 : Int) : run tt (AbsCalls Try.prog) I82 3000 false [.code I82.body] ⟨(zBi 0 (xD9 a0 a1)), [], [], []⟩ = some (.stop (stkAt 2 I82.body) (S82_2 a0 a1 0) []) := by kernel_rfl
theorem c82_2 {N : Nat} : ∀ n x0 x1 x5 r, xCE N n x0 x1 x5 = some r → Reach Try.prog Try.f82 I82 (stkAt 2 I82.body) (S82_2 x0 x1 x5) (xBI r) := by
 intro n
 induction n with
 | zero => intro x0 x1 x5 r h; have h' : (none : Option (Int)) = some r := h; cases h'
 | succ n ih =>
  intro x0 x1 x5 r h
  rw [xCE] at h
  rcases cond_inv h with ⟨h0, h⟩ | ⟨h0, h⟩
  ·obtain ⟨h1, h⟩ := ite_inv h
   rcases cond_inv h with ⟨h2, h⟩ | ⟨h2, h⟩
   ·obtain rfl := Option.some.inj h
    exact Reach.done ttok mix fk82 (p82_2_0 x0 x1 x5) (obs_cons h0 (obs_cons h1 (obs_cons h2 obs_nil)))
   ·rcases cond_inv h with ⟨h4, h⟩ | ⟨h4, h⟩
    ·obtain rfl := Option.some.inj h
     exact Reach.done ttok mix fk82 (p82_2_1 x0 x1 x5) (obs_cons h0 (obs_cons h1 (obs_cons h2 (obs_cons h1 (obs_cons h4 obs_nil)))))
    ·exact Reach.stop ttok mix fk82 (p82_2_2 x0 x1 x5) (obs_cons h0 (obs_cons h1 (obs_cons h2 (obs_cons h1 (obs_cons h4 obs_nil))))) (ih _ _ _ _ h)
  ·obtain rfl := Option.some.inj h
   exact Reach.done ttok mix fk82 (p82_2_3 x0 x1 x5) (obs_cons h0 obs_nil)
theorem c82_e {N : Nat} : ∀ a0 a1 r, xE2 N a0 a1 = some r → Reach Try.prog Try.f82 I82 [.code I82.body] (zBi 0 (xD9 a0 a1)) (xBI r) := by
 intro a0 a1 r h
 unfold xE2 at h
 exact Reach.stop ttok mix fk82 (p82_e_4 a0 a1) obs_nil (c82_2   _ _ _ _ _ h)
theorem xGX {N : Nat} {a0 : List Org} {a1 : Int} {r : Int} (h : xE2 N  a0 a1 = some r) : AbC 82 (xD9 a0 a1) (xBI r) :=
 AbsCalls.of_reach fk82 rfl rfl (Nat.le_of_ble_eq_true rfl) (c82_e a0 a1 r h)
noncomputable def I45 : Info := { body := (Try.f45.body).getD .skip, nt := 31, results := [.tmp 4], keep := [0, 2, 8, 10, 18, 40, 58], live := [(2, [0, 2, 10])], modes := [], ext := [], lnt := [], casts := [], fcast := [] }
theorem fk45 : FnOk Try.prog 45 Try.f45 I45 := ⟨Try.func45, by kernel_rfl, by kernel_rfl, by kernel_rfl, by kernel_rfl⟩
def S45_2 (x0 : List Rowd) (x1 x5 : Int) : St := [(0, .v false [.sl .ro .row x0]), (2, .v false [.int .i64 x1]), (10, .v false [.int .i64 x5])]
theorem p45_2_0 (x0 : List Rowd) (x1 x5 r1 : Int) : run tt (AbsCalls Try.prog) I45 3000 true (stkAt 2 I45.body) ⟨(S45_2 x0 x1 x5), [true, true], [xB8 r1], []⟩ = some (.done (xBu (-1)) [(decide ((x5 : Int) < (List.length x0 : Int))) = true, (0 : Int) ≤ x5 ∧ x5 < (List.length x0), AbC 81 (xEh (Rowd.cells (List.getD x0 (Int.toNat x5) Ty.row.dflt)) x1) (xB8 r1), (decide ((r1 : Int) < 0)) = true]) := by kernel_rfl
theorem p45_2_1 (x0 : List Rowd) (x1 x5 r1 r2 : Int) : run tt (AbsCalls Try.prog) I45 3000 true (stkAt 2 I45.body) ⟨(S45_2 x0 x1 x5), [true, false, true], [xB8 r1, xBI r2], []⟩ = some (.done (xBu (-1)) [(decide ((x5 : Int) < (List.length x0 : Int))) = true, (0 : Int) ≤ x5 ∧ x5 < (List.length x0), AbC 81 (xEh (Rowd.cells (List.getD x0 (Int.toNat x5) Ty.row.dflt)) x1) (xB8 r1), (decide ((r1 : Int) < 0)) = false, (0 : Int) ≤ x5 ∧ x5 < (List.length x0), AbC 82 (xD9 (Rowd.frm (List.getD x0 (Int.toNat x5) Ty.row.dflt)) r1) (xBI r2), (decide ((r2 : Int) < 0)) = true]) := by kernel_rfl
theorem p45_2_2 (x0 : List Rowd) (x1 x5 r1 r2 : Int) : run tt (AbsCalls Try.prog) I45 3000 true (stkAt 2 I45.body) ⟨(S45_2 x0 x1 x5), [true, false, false], [xB8 r1, xBI r2], []⟩ = some (.stop (stkAt 2 I45.body) (S45_2 x0 r2 (IntKind.i64.wrap (x5 + 1))) [(decide ((x5 : Int) < (List.length x0 : Int))) = true, (0 : Int) ≤ x5 ∧ x5 < (List.length x0), AbC 81 (xEh (Rowd.cells (List.getD x0 (Int.toNat x5) Ty.row.dflt)) x1) (xB8 r1), (decide ((r1 : Int) < 0)) = false, (0 : Int) ≤ x5 ∧ x5 < (List.length x0), AbC 82 (xD9 (Rowd.frm (List.getD x0 (Int.toNat x5) Ty.row.dflt)) r1) (xBI r2), (decide ((r2 : Int) < 0)) = false]) := by kernel_rfl
theorem p45_2_3 (x0 : List Rowd) (x1 x5 : Int) : run tt (AbsCalls Try.prog) I45 3000 true (stkAt 2 I45.body) ⟨(S45_2 x0 x1 x5), [false], [], []⟩ = some (.done (xBu x1) [(decide ((x5 : Int) < (List.length x0 : Int))) = false]) := by kernel_rfl
theorem p45_e_4 (a0 : List Rowd) (a1 : Int) : run tt (AbsCalls Try.prog) I45 3000 false [.code I45.body] ⟨(zBi 0 (xDJ a0 a1)), [], [], []⟩ = some (.stop (stkAt 2 I45.body) (S45_2 a0 a1 0) []) := by kernel_rfl
theorem c45_2 {N : Nat} : ∀ n x0 x1 x5 r, xC7 N n x0 x1 x5 = some r → Reach Try.prog Try.f45 I45 (stkAt 2 I45.body) (S45_2 x0 x1 x5) (xBu r) := by
 intro n
 induction n with
 | zero => intro x0 x1 x5 r h; have h' : (none : Option (Int)) = some r := h; cases h'
 | succ n ih =>
  intro x0 x1 x5 r h
  rw [xC7] at h
  rcases cond_inv h with ⟨h0, h⟩ | ⟨h0, h⟩
  ·obtain ⟨h1, h⟩ := ite_inv h
   obtain ⟨r1, h2, h⟩ := bind_inv h
   rcases cond_inv h with ⟨h3, h⟩ | ⟨h3, h⟩
   ·obtain rfl := Option.some.inj h
    exact Reach.done ttok mix fk45 (p45_2_0 x0 x1 x5 r1) (obs_cons h0 (obs_cons h1 (obs_cons (xGH h2) (obs_cons h3 obs_nil))))
   ·obtain ⟨r2, h5, h⟩ := bind_inv h
    rcases cond_inv h with ⟨h6, h⟩ | ⟨h6, h⟩
    ·obtain rfl := Option.some.inj h
     exact Reach.done ttok mix fk45 (p45_2_1 x0 x1 x5 r1 r2) (obs_cons h0 (obs_cons h1 (obs_cons (xGH h2) (obs_cons h3 (obs_cons h1 (obs_cons (xGX h5) (obs_cons h6 obs_nil)))))))
    ·exact Reach.stop ttok mix fk45 (p45_2_2 x0 x1 x5 r1 r2) (obs_cons h0 (obs_cons h1 (obs_cons (xGH h2) (obs_cons h3 (obs_cons h1 (obs_cons (xGX h5) (obs_cons h6 obs_nil))))))) (ih _ _ _ _ h)
  ·obtain rfl := Option.some.inj h
   exact Reach.done ttok mix fk45 (p45_2_3 x0 x1 x5) (obs_cons h0 obs_nil)
theorem c45_e {N : Nat} : ∀ a0 a1 r, xEV N a0 a1 = some r → Reach Try.prog Try.f45 I45 [.code I45.body] (zBi 0 (xDJ a0 a1)) (xBu r) := by
 intro a0 a1 r h
 unfold xEV at h
 exact Reach.stop ttok mix fk45 (p45_e_4 a0 a1) obs_nil (c45_2   _ _ _ _ _ h)
theorem xFW {N : Nat} {a0 : List Rowd} {a1 : Int} {r : Int} (h : xEV N  a0 a1 = some r) : AbC 45 (xDJ a0 a1) (xBu r) :=
 AbsCalls.of_reach fk45 rfl rfl (Nat.le_of_ble_eq_true rfl) (c45_e a0 a1 r h)
noncomputable def I43 : Info := { body := (Try.f43.body).getD .skip, nt := 77, results := [.tmp 4], keep := [0, 2, 8, 10, 18, 36, 54, 72, 92, 114, 132, 150], live := [(2, [0, 2, 10])], modes := [], ext := [], lnt := [], casts := [], fcast := [] }
theorem fk43 : FnOk Try.prog 43 Try.f43 I43 := ⟨Try.func43, by kernel_rfl, by kernel_rfl, by kernel_rfl, by kernel_rfl⟩
def S43_2 (x0 : List Val) (x1 x5 : Int) : St := [(0, .v false [.sl .ro .val x0]), (2, .v false [.int .i64 x1]), (10, .v false [.int .i64 x5])]
theorem p43_2_0 (x0 : List Val) (x1 x5 : Int) : run tt (AbsCalls Try.prog) I43 3000 true (stkAt 2 I43.body) ⟨(S43_2 x0 x1 x5), [true, true], [], []⟩ = some (.done (xAA (-1)) [(decide ((x5 : Int) < (List.length x0 : Int))) = true, (0 : Int) ≤ x5 ∧ x5 < (List.length x0), (((Val.kind (List.getD x0 (Int.toNat x5) Ty.val.dflt)) : Int) != x1) = true]) := by kernel_rfl
theorem p43_2_1 (x0 : List Val) (x1 x5 : Int) : run tt (AbsCalls Try.prog) I43 3000 true (stkAt 2 I43.body) ⟨(S43_2 x0 x1 x5), [true, false, true], [], []⟩ = some (.done (xAA (-1)) [(decide ((x5 : Int) < (List.length x0 : Int))) = true, (0 : Int) ≤ x5 ∧ x5 < (List.length x0), (((Val.kind (List.getD x0 (Int.toNat x5) Ty.val.dflt)) : Int) != x1) = false, (0 : Int) ≤ x5 ∧ x5 < (List.length x0), (((Val.n (List.getD x0 (Int.toNat x5) Ty.val.dflt)) : Int) != (IntKind.i64.wrap (x1 + 1))) = true]) := by kernel_rfl
theorem p43_2_2 (x0 : List Val) (x1 x5 : Int) : run tt (AbsCalls Try.prog) I43 3000 true (stkAt 2 I43.body) ⟨(S43_2 x0 x1 x5), [true, false, false, true], [], []⟩ = some (.done (xAA (-1)) [(decide ((x5 : Int) < (List.length x0 : Int))) = true, (0 : Int) ≤ x5 ∧ x5 < (List.length x0), (((Val.kind (List.getD x0 (Int.toNat x5) Ty.val.dflt)) : Int) != x1) = false, (0 : Int) ≤ x5 ∧ x5 < (List.length x0), (((Val.n (List.getD x0 (Int.toNat x5) Ty.val.dflt)) : Int) != (IntKind.i64.wrap (x1 + 1))) = false, (0 : Int) ≤ x5 ∧ x5 < (List.length x0), (((Val.step (List.getD x0 (Int.toNat x5) Ty.val.dflt)) : Int) != (IntKind.i64.wrap ((IntKind.i64.wrap (x1 + 1)) + 1))) = true]) := by kernel_rfl
theorem p43_2_3 (x0 : List Val) (x1 x5 : Int) (r1 : Str) : run tt (AbsCalls Try.prog) I43 3000 true (stkAt 2 I43.body) ⟨(S43_2 x0 x1 x5), [true, false, false, false, true], [xAN r1], []⟩ = some (.done (xAA (-1)) [(decide ((x5 : Int) < (List.length x0 : Int))) = true, (0 : Int) ≤ x5 ∧ x5 < (List.length x0), (((Val.kind (List.getD x0 (Int.toNat x5) Ty.val.dflt)) : Int) != x1) = false, (0 : Int) ≤ x5 ∧ x5 < (List.length x0), (((Val.n (List.getD x0 (Int.toNat x5) Ty.val.dflt)) : Int) != (IntKind.i64.wrap (x1 + 1))) = false, (0 : Int) ≤ x5 ∧ x5 < (List.length x0), (((Val.step (List.getD x0 (Int.toNat x5) Ty.val.dflt)) : Int) != (IntKind.i64.wrap ((IntKind.i64.wrap (x1 + 1)) + 1))) = false, (0 : Int) ≤ x5 ∧ x5 < (List.length x0), AbC 78 (xBB (IntKind.i64.wrap ((IntKind.i64.wrap ((IntKind.i64.wrap (x1 + 1)) + 1)) + 1))) (xAN r1), (!(((Val.text (List.getD x0 (Int.toNat x5) Ty.val.dflt)) : Str) == r1)) = true]) := by kernel_rfl
theorem p43_2_4 (x0 : List Val) (x1 x5 : Int) (r1 : Str) (r2 : Int) : run tt (AbsCalls Try.prog) I43 3000 true (stkAt 2 I43.body) ⟨(S43_2 x0 x1 x5), [true, false, false, false, false, true], [xAN r1, xAA r2], []⟩ = some (.done (xAA (-1)) [(decide ((x5 : Int) < (List.length x0 : Int))) = true, (0 : Int) ≤ x5 ∧ x5 < (List.length x0), (((Val.kind (List.getD x0 (Int.toNat x5) Ty.val.dflt)) : Int) != x1) = false, (0 : Int) ≤ x5 ∧ x5 < (List.length x0), (((Val.n (List.getD x0 (Int.toNat x5) Ty.val.dflt)) : Int) != (IntKind.i64.wrap (x1 + 1))) = false, (0 : Int) ≤ x5 ∧ x5 < (List.length x0), (((Val.step (List.getD x0 (Int.toNat x5) Ty.val.dflt)) : Int) != (IntKind.i64.wrap ((IntKind.i64.wrap (x1 + 1)) + 1))) = false, (0 : Int) ≤ x5 ∧ x5 < (List.length x0), AbC 78 (xBB (IntKind.i64.wrap ((IntKind.i64.wrap ((IntKind.i64.wrap (x1 + 1)) + 1)) + 1))) (xAN r1), (!(((Val.text (List.getD x0 (Int.toNat x5) Ty.val.dflt)) : Str) == r1)) = false, (0 : Int) ≤ x5 ∧ x5 < (List.length x0), AbC 43 (xA4 (Val.list (List.getD x0 (Int.toNat x5) Ty.val.dflt)) (IntKind.i64.wrap ((IntKind.i64.wrap ((IntKind.i64.wrap ((IntKind.i64.wrap (x1 + 1)) + 1)) + 1)) + 1))) (xAA r2), (decide ((r2 : Int) < 0)) = true]) := by kernel_rfl
theorem p43_2_5 (x0 : List Val) (x1 x5 : Int) (r1 : Str) (r2 r3 : Int) : run tt (AbsCalls Try.prog) I43 3000 true (stkAt 2 I43.body) ⟨(S43_2 x0 x1 x5), [true, false, false, false, false, false, true], [xAN r1, xAA r2, xAR r3], []⟩ = some (.done (xAA (-1)) [(decide ((x5 : Int) < (List.length x0 : Int))) = true, (0 : Int) ≤ x5 ∧ x5 < (List.length x0), (((Val.kind (List.getD x0 (Int.toNat x5) Ty.val.dflt)) : Int) != x1) = false, (0 : Int) ≤ x5 ∧ x5 < (List.length x0), (((Val.n (List.getD x0 (Int.toNat x5) Ty.val.dflt)) : Int) != (IntKind.i64.wrap (x1 + 1))) = false, (0 : Int) ≤ x5 ∧ x5 < (List.length x0), (((Val.step (List.getD x0 (Int.toNat x5) Ty.val.dflt)) : Int) != (IntKind.i64.wrap ((IntKind.i64.wrap (x1 + 1)) + 1))) = false, (0 : Int) ≤ x5 ∧ x5 < (List.length x0), AbC 78 (xBB (IntKind.i64.wrap ((IntKind.i64.wrap ((IntKind.i64.wrap (x1 + 1)) + 1)) + 1))) (xAN r1), (!(((Val.text (List.getD x0 (Int.toNat x5) Ty.val.dflt)) : Str) == r1)) = false, (0 : Int) ≤ x5 ∧ x5 < (List.length x0), AbC 43 (xA4 (Val.list (List.getD x0 (Int.toNat x5) Ty.val.dflt)) (IntKind.i64.wrap ((IntKind.i64.wrap ((IntKind.i64.wrap ((IntKind.i64.wrap (x1 + 1)) + 1)) + 1)) + 1))) (xAA r2), (decide ((r2 : Int) < 0)) = false, (0 : Int) ≤ x5 ∧ x5 < (List.length x0), AbC 44 (xB1 (Val.columns (List.getD x0 (Int.toNat x5) Ty.val.dflt)) r2) (xAR r3), (decide ((r3 : Int) < 0)) = true]) := by kernel_rfl
theorem p43_2_6 (x0 : List Val) (x1 x5 : Int) (r1 : Str) (r2 r3 r4 : Int) : run tt (AbsCalls Try.prog) I43 3000 true (stkAt 2 I43.body) ⟨(S43_2 x0 x1 x5), [true, false, false, false, false, false, false, true], [xAN r1, xAA r2, xAR r3, xBu r4], []⟩ = some (.done (xAA (-1)) [(decide ((x5 : Int) < (List.length x0 : Int))) = true, (0 : Int) ≤ x5 ∧ x5 < (List.length x0), (((Val.kind (List.getD x0 (Int.toNat x5) Ty.val.dflt)) : Int) != x1) = false, (0 : Int) ≤ x5 ∧ x5 < (List.length x0), (((Val.n (List.getD x0 (Int.toNat x5) Ty.val.dflt)) : Int) != (IntKind.i64.wrap (x1 + 1))) = false, (0 : Int) ≤ x5 ∧ x5 < (List.length x0), (((Val.step (List.getD x0 (Int.toNat x5) Ty.val.dflt)) : Int) != (IntKind.i64.wrap ((IntKind.i64.wrap (x1 + 1)) + 1))) = false, (0 : Int) ≤ x5 ∧ x5 < (List.length x0), AbC 78 (xBB (IntKind.i64.wrap ((IntKind.i64.wrap ((IntKind.i64.wrap (x1 + 1)) + 1)) + 1))) (xAN r1), (!(((Val.text (List.getD x0 (Int.toNat x5) Ty.val.dflt)) : Str) == r1)) = false, (0 : Int) ≤ x5 ∧ x5 < (List.length x0), AbC 43 (xA4 (Val.list (List.getD x0 (Int.toNat x5) Ty.val.dflt)) (IntKind.i64.wrap ((IntKind.i64.wrap ((IntKind.i64.wrap ((IntKind.i64.wrap (x1 + 1)) + 1)) + 1)) + 1))) (xAA r2), (decide ((r2 : Int) < 0)) = false, (0 : Int) ≤ x5 ∧ x5 < (List.length x0), AbC 44 (xB1 (Val.columns (List.getD x0 (Int.toNat x5) Ty.val.dflt)) r2) (xAR r3), (decide ((r3 : Int) < 0)) = false, (0 : Int) ≤ x5 ∧ x5 < (List.length x0), AbC 45 (xDJ (Val.rows (List.getD x0 (Int.toNat x5) Ty.val.dflt)) r3) (xBu r4), (decide ((r4 : Int) < 0)) = true]) := by kernel_rfl
theorem p43_2_7 (x0 : List Val) (x1 x5 : Int) (r1 : Str) (r2 r3 r4 : Int) : run tt (AbsCalls Try.prog) I43 3000 true (stkAt 2 I43.body) ⟨(S43_2 x0 x1 x5), [true, false, false, false, false, false, false, false], [xAN r1, xAA r2, xAR r3, xBu r4], []⟩ = some (.stop (stkAt 2 I43.body) (S43_2 x0 r4 (IntKind.i64.wrap (x5 + 1))) [(decide ((x5 : Int) < (List.length x0 : Int))) = true, (0 : Int) ≤ x5 ∧ x5 < (List.length x0), (((Val.kind (List.getD x0 (Int.toNat x5) Ty.val.dflt)) : Int) != x1) = false, (0 : Int) ≤ x5 ∧ x5 < (List.length x0), (((Val.n (List.getD x0 (Int.toNat x5) Ty.val.dflt)) : Int) != (IntKind.i64.wrap (x1 + 1))) = false, (0 : Int) ≤ x5 ∧ x5 < (List.length x0), (((Val.step (List.getD x0 (Int.toNat x5) Ty.val.dflt)) : Int) != (IntKind.i64.wrap ((IntKind.i64.wrap (x1 + 1)) + 1))) = false, (0 : Int) ≤ x5 ∧ x5 < (List.length x0), AbC 78 (xBB (IntKind.i64.wrap ((IntKind.i64.wrap ((IntKind.i64.wrap (x1 + 1)) + 1)) + 1))) (xAN r1), (!(((Val.text (List.getD x0 (Int.toNat x5) Ty.val.dflt)) : Str) == r1)) = false, (0 : Int) ≤ x5 ∧ x5 < (List.length x0), AbC 43 (xA4 (Val.list (List.getD x0 (Int.toNat x5) Ty.val.dflt)) (IntKind.i64.wrap ((IntKind.i64.wrap ((IntKind.i64.wrap ((IntKind.i64.wrap (x1 + 1)) + 1)) + 1)) + 1))) (xAA r2), (decide ((r2 : Int) < 0)) = false, (0 : Int) ≤ x5 ∧ x5 < (List.length x0), AbC 44 (xB1 (Val.columns (List.getD x0 (Int.toNat x5) Ty.val.dflt)) r2) (xAR r3), (decide ((r3 : Int) < 0)) = false, (0 : Int) ≤ x5 ∧ x5 < (List.length x0), AbC 45 (xDJ (Val.rows (List.getD x0 (Int.toNat x5) Ty.val.dflt)) r3) (xBu r4), (decide ((r4 : Int) < 0)) = false]) := by kernel_rfl
theorem p43_2_8 (x0 : List Val) (x1 x5 : Int) : run tt (AbsCalls Try.prog) I43 3000 true (stkAt 2 I43.body) ⟨(S43_2 x0 x1 x5), [false], [], []⟩ = some (.done (xAA x1) [(decide ((x5 : Int) < (List.length x0 : Int))) = false]) := by kernel_rfl
theorem p43_e_9 (a0 : List Val) (a1 : Int) : run tt (AbsCalls Try.prog) I43 3000 false [.code I43.body] ⟨(zBi 0 (xA4 a0 a1)), [], [], []⟩ = some (.stop (stkAt 2 I43.body) (S43_2 a0 a1 0) []) := by kernel_rfl
theorem c43_2 {N : Nat} {rc_laws_heldValueS : (List Val) → Int → Option (Int)} (hrc_laws_heldValueS : ∀ a0 a1 r, rc_laws_heldValueS a0 a1 = some r → AbC 43 (xA4 a0 a1) (xAA r)) : ∀ n x0 x1 x5 r, xCp N rc_laws_heldValueS n x0 x1 x5 = some r → Reach Try.prog Try.f43 I43 (stkAt 2 I43.body) (S43_2 x0 x1 x5) (xAA r) := by
 intro n
 induction n with
 | zero => intro x0 x1 x5 r h; have h' : (none : Option (Int)) = some r := h; cases h'
 | succ n ih =>
  intro x0 x1 x5 r h
  rw [xCp] at h
  rcases cond_inv h with ⟨h0, h⟩ | ⟨h0, h⟩
  ·obtain ⟨h1, h⟩ := ite_inv h
   rcases cond_inv h with ⟨h2, h⟩ | ⟨h2, h⟩
   ·obtain rfl := Option.some.inj h
    exact Reach.done ttok mix fk43 (p43_2_0 x0 x1 x5) (obs_cons h0 (obs_cons h1 (obs_cons h2 obs_nil)))
   ·rcases cond_inv h with ⟨h4, h⟩ | ⟨h4, h⟩
    ·obtain rfl := Option.some.inj h
     exact Reach.done ttok mix fk43 (p43_2_1 x0 x1 x5) (obs_cons h0 (obs_cons h1 (obs_cons h2 (obs_cons h1 (obs_cons h4 obs_nil)))))
    ·rcases cond_inv h with ⟨h6, h⟩ | ⟨h6, h⟩
     ·obtain rfl := Option.some.inj h
      exact Reach.done ttok mix fk43 (p43_2_2 x0 x1 x5) (obs_cons h0 (obs_cons h1 (obs_cons h2 (obs_cons h1 (obs_cons h4 (obs_cons h1 (obs_cons h6 obs_nil)))))))
     ·obtain ⟨r1, h8, h⟩ := bind_inv h
      rcases cond_inv h with ⟨h9, h⟩ | ⟨h9, h⟩
      ·obtain rfl := Option.some.inj h
       exact Reach.done ttok mix fk43 (p43_2_3 x0 x1 x5 r1) (obs_cons h0 (obs_cons h1 (obs_cons h2 (obs_cons h1 (obs_cons h4 (obs_cons h1 (obs_cons h6 (obs_cons h1 (obs_cons (xCz h8) (obs_cons h9 obs_nil))))))))))
      ·obtain ⟨r2, h11, h⟩ := bind_inv h
       rcases cond_inv h with ⟨h12, h⟩ | ⟨h12, h⟩
       ·obtain rfl := Option.some.inj h
        exact Reach.done ttok mix fk43 (p43_2_4 x0 x1 x5 r1 r2) (obs_cons h0 (obs_cons h1 (obs_cons h2 (obs_cons h1 (obs_cons h4 (obs_cons h1 (obs_cons h6 (obs_cons h1 (obs_cons (xCz h8) (obs_cons h9 (obs_cons h1 (obs_cons (hrc_laws_heldValueS _ _ _ h11) (obs_cons h12 obs_nil)))))))))))))
       ·obtain ⟨r3, h14, h⟩ := bind_inv h
        rcases cond_inv h with ⟨h15, h⟩ | ⟨h15, h⟩
        ·obtain rfl := Option.some.inj h
         exact Reach.done ttok mix fk43 (p43_2_5 x0 x1 x5 r1 r2 r3) (obs_cons h0 (obs_cons h1 (obs_cons h2 (obs_cons h1 (obs_cons h4 (obs_cons h1 (obs_cons h6 (obs_cons h1 (obs_cons (xCz h8) (obs_cons h9 (obs_cons h1 (obs_cons (hrc_laws_heldValueS _ _ _ h11) (obs_cons h12 (obs_cons h1 (obs_cons (xDi h14) (obs_cons h15 obs_nil))))))))))))))))
        ·obtain ⟨r4, h17, h⟩ := bind_inv h
         rcases cond_inv h with ⟨h18, h⟩ | ⟨h18, h⟩
         ·obtain rfl := Option.some.inj h
          exact Reach.done ttok mix fk43 (p43_2_6 x0 x1 x5 r1 r2 r3 r4) (obs_cons h0 (obs_cons h1 (obs_cons h2 (obs_cons h1 (obs_cons h4 (obs_cons h1 (obs_cons h6 (obs_cons h1 (obs_cons (xCz h8) (obs_cons h9 (obs_cons h1 (obs_cons (hrc_laws_heldValueS _ _ _ h11) (obs_cons h12 (obs_cons h1 (obs_cons (xDi h14) (obs_cons h15 (obs_cons h1 (obs_cons (xFW h17) (obs_cons h18 obs_nil)))))))))))))))))))
         ·exact Reach.stop ttok mix fk43 (p43_2_7 x0 x1 x5 r1 r2 r3 r4) (obs_cons h0 (obs_cons h1 (obs_cons h2 (obs_cons h1 (obs_cons h4 (obs_cons h1 (obs_cons h6 (obs_cons h1 (obs_cons (xCz h8) (obs_cons h9 (obs_cons h1 (obs_cons (hrc_laws_heldValueS _ _ _ h11) (obs_cons h12 (obs_cons h1 (obs_cons (xDi h14) (obs_cons h15 (obs_cons h1 (obs_cons (xFW h17) (obs_cons h18 obs_nil))))))))))))))))))) (ih _ _ _ _ h)
  ·obtain rfl := Option.some.inj h
   exact Reach.done ttok mix fk43 (p43_2_8 x0 x1 x5) (obs_cons h0 obs_nil)
theorem c43_e {N : Nat} {rc_laws_heldValueS : (List Val) → Int → Option (Int)} (hrc_laws_heldValueS : ∀ a0 a1 r, rc_laws_heldValueS a0 a1 = some r → AbC 43 (xA4 a0 a1) (xAA r)) : ∀ a0 a1 r, xDR N rc_laws_heldValueS a0 a1 = some r → Reach Try.prog Try.f43 I43 [.code I43.body] (zBi 0 (xA4 a0 a1)) (xAA r) := by
 intro a0 a1 r h
 unfold xDR at h
 exact Reach.stop ttok mix fk43 (p43_e_9 a0 a1) obs_nil (c43_2 hrc_laws_heldValueS  _ _ _ _ _ h)
theorem xHw {N : Nat} {rc_laws_heldValueS : (List Val) → Int → Option (Int)} (hrc_laws_heldValueS : ∀ a0 a1 r, rc_laws_heldValueS a0 a1 = some r → AbC 43 (xA4 a0 a1) (xAA r)) {a0 : List Val} {a1 : Int} {r : Int} (h : xDR N rc_laws_heldValueS a0 a1 = some r) : AbC 43 (xA4 a0 a1) (xAA r) :=
 AbsCalls.of_reach fk43 rfl rfl (Nat.le_of_ble_eq_true rfl) (c43_e hrc_laws_heldValueS a0 a1 r h)
theorem xHH {N : Nat} : ∀ d, (∀ a0 a1 r, xDj N d a0 a1 = some r → AbC 43 (xA4 a0 a1) (xAA r)) := by
 intro d
 induction d with
 | zero => intro _ _ r h; have h' : (none : Option (Int)) = some r := h; cases h'
 | succ d ih => intro _ _ r h; exact xHw (N := N) ih h
theorem xFm {N : Nat} {a0 : List Val} {a1 : Int} {r : Int} (h : xF8 N a0 a1 = some r) : AbC 43 (xA4 a0 a1) (xAA r) := xHH N _ _ r h
noncomputable def I14 : Info := { body := (Try.f14.body).getD .skip, nt := 24, results := [.tmp 4], keep := [0, 2, 4, 8, 20, 32, 44, 5], live := [], modes := [], ext := [], lnt := [], casts := [], fcast := [] }
theorem fk14 : FnOk Try.prog 14 Try.f14 I14 := ⟨Try.func14, by kernel_rfl, by kernel_rfl, by kernel_rfl, by kernel_rfl⟩
theorem p14_e_0 (a0 : Val) (a1 r1 : Int) : run tt (AbsCalls Try.prog) I14 3000 false [.code I14.body] ⟨(zBi 0 (xAx a0 a1)), [true], [xAA r1], []⟩ = some (.done (xAk (-1)) [AbC 43 (xA4 (Val.list a0) a1) (xAA r1), (decide ((r1 : Int) < 0)) = true]) := by kernel_rfl
theorem p14_e_1 (a0 : Val) (a1 r1 r2 : Int) : run tt (AbsCalls Try.prog) I14 3000 false [.code I14.body] ⟨(zBi 0 (xAx a0 a1)), [false, true], [xAA r1, xAR r2], []⟩ = some (.done (xAk (-1)) [AbC 43 (xA4 (Val.list a0) a1) (xAA r1), (decide ((r1 : Int) < 0)) = false, AbC 44 (xB1 (Val.columns a0) r1) (xAR r2), (decide ((r2 : Int) < 0)) = true]) := by kernel_rfl
theorem p14_e_2 (a0 : Val) (a1 r1 r2 r3 : Int) : run tt (AbsCalls Try.prog) I14 3000 false [.code I14.body] ⟨(zBi 0 (xAx a0 a1)), [false, false, true], [xAA r1, xAR r2, xBu r3], []⟩ = some (.done (xAk (-1)) [AbC 43 (xA4 (Val.list a0) a1) (xAA r1), (decide ((r1 : Int) < 0)) = false, AbC 44 (xB1 (Val.columns a0) r1) (xAR r2), (decide ((r2 : Int) < 0)) = false, AbC 45 (xDJ (Val.rows a0) r2) (xBu r3), (decide ((r3 : Int) < 0)) = true]) := by kernel_rfl
theorem p14_e_3 (a0 : Val) (a1 r1 r2 r3 : Int) : run tt (AbsCalls Try.prog) I14 3000 false [.code I14.body] ⟨(zBi 0 (xAx a0 a1)), [false, false, false], [xAA r1, xAR r2, xBu r3], []⟩ = some (.done (xAk r3) [AbC 43 (xA4 (Val.list a0) a1) (xAA r1), (decide ((r1 : Int) < 0)) = false, AbC 44 (xB1 (Val.columns a0) r1) (xAR r2), (decide ((r2 : Int) < 0)) = false, AbC 45 (xDJ (Val.rows a0) r2) (xBu r3), (decide ((r3 : Int) < 0)) = false]) := by kernel_rfl
theorem c14_e {N : Nat} : ∀ a0 a1 r, xA9 N a0 a1 = some r → Reach Try.prog Try.f14 I14 [.code I14.body] (zBi 0 (xAx a0 a1)) (xAk r) := by
 intro a0 a1 r h
 unfold xA9 at h
 obtain ⟨r1, h0, h⟩ := bind_inv h
 rcases cond_inv h with ⟨h1, h⟩ | ⟨h1, h⟩
 ·obtain rfl := Option.some.inj h
  exact Reach.done ttok mix fk14 (p14_e_0 a0 a1 r1) (obs_cons (xFm h0) (obs_cons h1 obs_nil))
 ·obtain ⟨r2, h2, h⟩ := bind_inv h
  rcases cond_inv h with ⟨h3, h⟩ | ⟨h3, h⟩
  ·obtain rfl := Option.some.inj h
   exact Reach.done ttok mix fk14 (p14_e_1 a0 a1 r1 r2) (obs_cons (xFm h0) (obs_cons h1 (obs_cons (xDi h2) (obs_cons h3 obs_nil))))
  ·obtain ⟨r3, h4, h⟩ := bind_inv h
   rcases cond_inv h with ⟨h5, h⟩ | ⟨h5, h⟩
   ·obtain rfl := Option.some.inj h
    exact Reach.done ttok mix fk14 (p14_e_2 a0 a1 r1 r2 r3) (obs_cons (xFm h0) (obs_cons h1 (obs_cons (xDi h2) (obs_cons h3 (obs_cons (xFW h4) (obs_cons h5 obs_nil))))))
   ·obtain rfl := Option.some.inj h
    exact Reach.done ttok mix fk14 (p14_e_3 a0 a1 r1 r2 r3) (obs_cons (xFm h0) (obs_cons h1 (obs_cons (xDi h2) (obs_cons h3 (obs_cons (xFW h4) (obs_cons h5 obs_nil))))))
theorem xAC {N : Nat} {a0 : Val} {a1 : Int} {r : Int} (h : xA9 N  a0 a1 = some r) : AbC 14 (xAx a0 a1) (xAk r) :=
 AbsCalls.of_reach fk14 rfl rfl (Nat.le_of_ble_eq_true rfl) (c14_e a0 a1 r h)
end Go.Ab.T
end
section
open Go.Proofs
namespace Go.Ab.T
set_option linter.unusedVariables false
set_option maxRecDepth 100000
noncomputable def I17 : Info := { body := (Try.f17.body).getD .skip, nt := 56, results := [.cell 4 31], keep := [0, 2, 4, 6, 8, 10, 12, 14, 16, 18, 32, 42, 54, 78, 94, 5, 7, 9, 11, 15, 19], live := [(8, [4, 6, 8, 14, 16, 5, 7, 9, 15])], modes := [(1, [(3, .take, false)]), (2, [(0, .take, false)]), (3, [(0, .take, false)]), (10, [(3, .take, false)]), (11, [(0, .take, false)]), (14, [(0, .take, false)]), (15, [(1, .take, false), (2, .take, false), (4, .take, false)]), (16, [(0, .take, false)])], ext := [], lnt := [], casts := [], fcast := [] }
theorem fk17 : FnOk Try.prog 17 Try.f17 I17 := ⟨Try.func17, by kernel_rfl, by kernel_rfl, by kernel_rfl, by kernel_rfl⟩
def S17_8 (x8 : Int) (b2 b3 b4 b7 : Val) : St := [(4, .v false [.ptr 2 0]), (6, .v false [.ptr 3 0]), (8, .v false [.ptr 4 0]), (14, .v false [.ptr 7 0]), (16, .v false [.int .i64 x8]), (5, .v true [.int .i64 (Val.kind b2), .int .i64 (Val.n b2), .int .i64 (Val.step b2), .str (Val.text b2), .sl .ro .val (Val.list b2), .sl .ro .str (Val.columns b2), .sl .ro .row (Val.rows b2)]), (7, .v true [.int .i64 (Val.kind b3), .int .i64 (Val.n b3), .int .i64 (Val.step b3), .str (Val.text b3), .sl .ro .val (Val.list b3), .sl .ro .str (Val.columns b3), .sl .ro .row (Val.rows b3)]), (9, .v true [.int .i64 (Val.kind b4), .int .i64 (Val.n b4), .int .i64 (Val.step b4), .str (Val.text b4), .sl .own .val (Val.list b4), .sl .own .str (Val.columns b4), .sl .own .row (Val.rows b4)]), (15, .v true [.int .i64 (Val.kind b7), .int .i64 (Val.n b7), .int .i64 (Val.step b7), .str (Val.text b7), .sl .own .val (Val.list b7), .sl .own .str (Val.columns b7), .sl .own .row (Val.rows b7)])]
theorem p17_8_0 (x8 : Int) (b2 b3 b4 b7 : Val) : run tt (AbsCalls Try.prog) I17 3000 true (stkAt 8 I17.body) ⟨(S17_8 x8 b2 b3 b4 b7), [true, true, true], [], []⟩ = some (.done (xAo b7) [(decide ((x8 : Int) < (Val.n b2))) = true, (((Val.kind b3) : Int) == 3) = true, ((x8 : Int) == (List.length (Val.list b3) : Int)) = true]) := by kernel_rfl
theorem p17_8_1 (x8 : Int) (b2 b3 b4 b7 r1 r2 : Val) : run tt (AbsCalls Try.prog) I17 3000 true (stkAt 8 I17.body) ⟨(S17_8 x8 b2 b3 b4 b7), [true, true, false, true], [xBg r1, xB5 r2], []⟩ = some (.done (xAo r2) [(decide ((x8 : Int) < (Val.n b2))) = true, (((Val.kind b3) : Int) == 3) = true, ((x8 : Int) == (List.length (Val.list b3) : Int)) = false, AbC 55 (xCj x8) (xBg r1), AbC 9 (xC1 r1 b3) (xB5 r2), (((Val.kind r2) : Int) == 6) = true]) := by kernel_rfl
theorem p17_8_2 (x8 : Int) (b2 b3 b4 b7 r1 r2 : Val) : run tt (AbsCalls Try.prog) I17 3000 true (stkAt 8 I17.body) ⟨(S17_8 x8 b2 b3 b4 b7), [true, true, false, false], [xBg r1, xB5 r2], []⟩ = some (.stop (stkAt 8 I17.body) (S17_8 (IntKind.i64.wrap (x8 + 1)) b2 b3 b4 (Val.mk (Val.kind b7) (Val.n b7) (Val.step b7) (Val.text b7) ((Val.list b7) ++ [(Val.re r2)]) (Val.columns b7) (Val.rows b7))) [(decide ((x8 : Int) < (Val.n b2))) = true, (((Val.kind b3) : Int) == 3) = true, ((x8 : Int) == (List.length (Val.list b3) : Int)) = false, AbC 55 (xCj x8) (xBg r1), AbC 9 (xC1 r1 b3) (xB5 r2), (((Val.kind r2) : Int) == 6) = false, List.length (Val.list b7) + List.length [(Val.re r2)] ≤ Lim]) := by kernel_rfl
theorem p17_8_3 (x8 : Int) (b2 b3 b4 b7 r1 r2 : Val) : run tt (AbsCalls Try.prog) I17 3000 true (stkAt 8 I17.body) ⟨(S17_8 x8 b2 b3 b4 b7), [true, false, false, true], [xBg r1, xB5 r2], []⟩ = some (.done (xAo r2) [(decide ((x8 : Int) < (Val.n b2))) = true, (((Val.kind b3) : Int) == 3) = false, false = false, AbC 55 (xCj x8) (xBg r1), AbC 9 (xC1 r1 b3) (xB5 r2), (((Val.kind r2) : Int) == 6) = true]) := by kernel_rfl
theorem p17_8_4 (x8 : Int) (b2 b3 b4 b7 r1 r2 : Val) : run tt (AbsCalls Try.prog) I17 3000 true (stkAt 8 I17.body) ⟨(S17_8 x8 b2 b3 b4 b7), [true, false, false, false], [xBg r1, xB5 r2], []⟩ = some (.stop (stkAt 8 I17.body) (S17_8 (IntKind.i64.wrap (x8 + 1)) b2 b3 b4 (Val.mk (Val.kind b7) (Val.n b7) (Val.step b7) (Val.text b7) ((Val.list b7) ++ [(Val.re r2)]) (Val.columns b7) (Val.rows b7))) [(decide ((x8 : Int) < (Val.n b2))) = true, (((Val.kind b3) : Int) == 3) = false, false = false, AbC 55 (xCj x8) (xBg r1), AbC 9 (xC1 r1 b3) (xB5 r2), (((Val.kind r2) : Int) == 6) = false, List.length (Val.list b7) + List.length [(Val.re r2)] ≤ Lim]) := by kernel_rfl
theorem p17_8_5 (x8 : Int) (b2 b3 b4 b7 : Val) : run tt (AbsCalls Try.prog) I17 3000 true (stkAt 8 I17.body) ⟨(S17_8 x8 b2 b3 b4 b7), [false], [], []⟩ = some (.done (xAo b7) [(decide ((x8 : Int) < (Val.n b2))) = false]) := by kernel_rfl
theorem p17_e_6 (a0 a1 : Val) (r1 : Val × Bool) : run tt (AbsCalls Try.prog) I17 3000 false [.code I17.body] ⟨(zBi 0 (xAH a0 a1)), [true], [xA0 r1], []⟩ = some (.done (xAo r1.1) [AbC 26 (xBM a0 a1) (xA0 r1), r1.2 = true]) := by kernel_rfl
theorem p17_e_7 (a0 a1 : Val) (r1 : Val × Bool) (r2 : Bool) (r3 : Val) : run tt (AbsCalls Try.prog) I17 3000 false [.code I17.body] ⟨(zBi 0 (xAH a0 a1)), [false, true], [xA0 r1, xCd r2, xAO r3], []⟩ = some (.done (xAo r3) [AbC 26 (xBM a0 a1) (xA0 r1), r1.2 = false, AbC 54 (xDU (Val.n a0) 0 8) (xCd r2), (!r2) = true, AbC 27 (xBH 5) (xAO r3)]) := by kernel_rfl
theorem p17_e_8 (a0 a1 : Val) (r1 : Val × Bool) (r2 : Bool) : run tt (AbsCalls Try.prog) I17 3000 false [.code I17.body] ⟨(zBi 0 (xAH a0 a1)), [false, false], [xA0 r1, xCd r2], []⟩ = some (.stop (stkAt 8 I17.body) (S17_8 0 a0 a1 (Val.mk 0 0 0 [] [] [] []) (Val.mk 3 0 0 [] [] [] [])) [AbC 26 (xBM a0 a1) (xA0 r1), r1.2 = false, AbC 54 (xDU (Val.n a0) 0 8) (xCd r2), (!r2) = false]) := by kernel_rfl
theorem c17_8 {N : Nat} : ∀ n x8 b2 b3 b4 b7 r, xCn N n x8 b2 b3 b4 b7 = some r → Reach Try.prog Try.f17 I17 (stkAt 8 I17.body) (S17_8 x8 b2 b3 b4 b7) (xAo r) := by
 intro n
 induction n with
 | zero => intro x8 b2 b3 b4 b7 r h; have h' : (none : Option (Val)) = some r := h; cases h'
 | succ n ih =>
  intro x8 b2 b3 b4 b7 r h
  rw [xCn] at h
  rcases cond_inv h with ⟨h0, h⟩ | ⟨h0, h⟩
  ·rcases cond_inv h with ⟨h1, h⟩ | ⟨h1, h⟩
   ·rcases cond_inv h with ⟨h2, h⟩ | ⟨h2, h⟩
    ·obtain rfl := Option.some.inj h
     exact Reach.done ttok mix fk17 (p17_8_0 x8 b2 b3 b4 b7) (obs_cons h0 (obs_cons h1 (obs_cons h2 obs_nil)))
    ·obtain ⟨r1, h3, h⟩ := bind_inv h
     obtain ⟨r2, h4, h⟩ := bind_inv h
     rcases cond_inv h with ⟨h5, h⟩ | ⟨h5, h⟩
     ·obtain rfl := Option.some.inj h
      exact Reach.done ttok mix fk17 (p17_8_1 x8 b2 b3 b4 b7 r1 r2) (obs_cons h0 (obs_cons h1 (obs_cons h2 (obs_cons (xEd h3) (obs_cons (xGL h4) (obs_cons h5 obs_nil))))))
     ·obtain ⟨h6, h⟩ := ite_inv h
      exact Reach.stop ttok mix fk17 (p17_8_2 x8 b2 b3 b4 b7 r1 r2) (obs_cons h0 (obs_cons h1 (obs_cons h2 (obs_cons (xEd h3) (obs_cons (xGL h4) (obs_cons h5 (obs_cons h6 obs_nil))))))) (ih _ _ _ _ _ _ h)
   ·obtain ⟨r1, h3, h⟩ := bind_inv h
    obtain ⟨r2, h4, h⟩ := bind_inv h
    rcases cond_inv h with ⟨h5, h⟩ | ⟨h5, h⟩
    ·obtain rfl := Option.some.inj h
     exact Reach.done ttok mix fk17 (p17_8_3 x8 b2 b3 b4 b7 r1 r2) (obs_cons h0 (obs_cons h1 (obs_cons rfl (obs_cons (xEd h3) (obs_cons (xGL h4) (obs_cons h5 obs_nil))))))
    ·obtain ⟨h6, h⟩ := ite_inv h
     exact Reach.stop ttok mix fk17 (p17_8_4 x8 b2 b3 b4 b7 r1 r2) (obs_cons h0 (obs_cons h1 (obs_cons rfl (obs_cons (xEd h3) (obs_cons (xGL h4) (obs_cons h5 (obs_cons h6 obs_nil))))))) (ih _ _ _ _ _ _ h)
  ·obtain rfl := Option.some.inj h
   exact Reach.done ttok mix fk17 (p17_8_5 x8 b2 b3 b4 b7) (obs_cons h0 obs_nil)
theorem c17_e {N : Nat} : ∀ a0 a1 r, xEA N a0 a1 = some r → Reach Try.prog Try.f17 I17 [.code I17.body] (zBi 0 (xAH a0 a1)) (xAo r) := by
 intro a0 a1 r h
 unfold xEA at h
 obtain ⟨r1, h0, h⟩ := bind_inv h
 rcases cond_inv h with ⟨h1, h⟩ | ⟨h1, h⟩
 ·obtain rfl := Option.some.inj h
  exact Reach.done ttok mix fk17 (p17_e_6 a0 a1 r1) (obs_cons (xDW h0) (obs_cons h1 obs_nil))
 ·obtain ⟨r2, h2, h⟩ := bind_inv h
  rcases cond_inv h with ⟨h3, h⟩ | ⟨h3, h⟩
  ·obtain ⟨r3, h4, h⟩ := bind_inv h
   obtain rfl := Option.some.inj h
   exact Reach.done ttok mix fk17 (p17_e_7 a0 a1 r1 r2 r3) (obs_cons (xDW h0) (obs_cons h1 (obs_cons (xF3 h2) (obs_cons h3 (obs_cons (xCq h4) obs_nil)))))
  ·exact Reach.stop ttok mix fk17 (p17_e_8 a0 a1 r1 r2) (obs_cons (xDW h0) (obs_cons h1 (obs_cons (xF3 h2) (obs_cons h3 obs_nil)))) (c17_8   _ _ _ _ _ _ _ h)
theorem xAK {N : Nat} {a0 : Val} {a1 : Val} {r : Val} (h : xEA N  a0 a1 = some r) : AbC 17 (xAH a0 a1) (xAo r) :=
 AbsCalls.of_reach fk17 rfl rfl (Nat.le_of_ble_eq_true rfl) (c17_e a0 a1 r h)
noncomputable def I57 : Info := { body := (Try.f57.body).getD .skip, nt := 6, results := [.cell 2 31], keep := [0, 4, 5], live := [], modes := [], ext := [], lnt := [], casts := [], fcast := [] }
theorem fk57 : FnOk Try.prog 57 Try.f57 I57 := ⟨Try.func57, by kernel_rfl, by kernel_rfl, by kernel_rfl, by kernel_rfl⟩
theorem p57_e_0 (a0 : List Val) (r1 : (List Val)) : run tt (AbsCalls Try.prog) I57 3000 false [.code I57.body] ⟨(zBi 0 (xEH a0)), [], [xA3 r1], []⟩ = some (.done (xDd (Val.mk 3 0 0 [] r1 [] [])) [AbC 70 (xBj a0) (xA3 r1)]) := by kernel_rfl
theorem c57_e {N : Nat} : ∀ a0 r, xFb N a0 = some r → Reach Try.prog Try.f57 I57 [.code I57.body] (zBi 0 (xEH a0)) (xDd r) := by
 intro a0 r h
 unfold xFb at h
 obtain ⟨r1, h0, h⟩ := bind_inv h
 obtain rfl := Option.some.inj h
 exact Reach.done ttok mix fk57 (p57_e_0 a0 r1) (obs_cons (impl_copyValues_ok h0) obs_nil)
theorem xHj {N : Nat} {a0 : List Val} {r : Val} (h : xFb N  a0 = some r) : AbC 57 (xEH a0) (xDd r) :=
 AbsCalls.of_reach fk57 rfl rfl (Nat.le_of_ble_eq_true rfl) (c57_e a0 r h)
end Go.Ab.T
end
section
open Go.Proofs
namespace Go.Ab.T
set_option linter.unusedVariables false
set_option maxRecDepth 100000
theorem impl_TakeOf_toR {P : Program} {f : FuncId} {ags : List Arg} {r : Val × Bool} (h : AbsCalls P f ags (xBp r)) (ht : r.2 = true) : AbsCalls P f ags (xGU r) := by
 unfold xBp at h; rw [ht] at h; exact h
theorem xAQ {P : Program} {f : FuncId} {ags : List Arg} {r : Val × Bool} (h : AbsCalls P f ags (xBp r)) (ht : r.2 = false) : AbsCalls P f ags (xAv r) := by
 unfold xBp at h; rw [ht] at h; exact h
theorem xAP {P : Program} {f : FuncId} {ags : List Arg} {r : Val × Bool} (h : AbsCalls P f ags (xBp r)) (ht : r.2 = true) (e0 : List.isEmpty (Val.list r.1) = true) (e1 : List.isEmpty (Val.columns r.1) = true) (e2 : List.isEmpty (Val.rows r.1) = true) : AbsCalls P f ags (xAw r) := by
 have h := impl_TakeOf_toR h ht
 unfold xGU at h; rw [List.isEmpty_iff.1 e0, List.isEmpty_iff.1 e1, List.isEmpty_iff.1 e2] at h; exact h
noncomputable def I18 : Info := { body := (Try.f18.body).getD .skip, nt := 58, results := [.cell 4 31], keep := [0, 2, 4, 6, 8, 10, 12, 14, 16, 18, 32, 42, 50, 80, 98, 5, 7, 9, 11, 15, 19], live := [(10, [4, 6, 8, 14, 16, 5, 7, 9, 15])], modes := [(1, [(3, .take, false)]), (2, [(0, .take, false)]), (3, [(0, .take, false)]), (12, [(3, .take, true)]), (14, [(0, .take, false)]), (15, [(1, .take, false), (2, .take, false), (4, .take, false)]), (16, [(0, .take, false)])], ext := [], lnt := [], casts := [], fcast := [] }
theorem fk18 : FnOk Try.prog 18 Try.f18 I18 := ⟨Try.func18, by kernel_rfl, by kernel_rfl, by kernel_rfl, by kernel_rfl⟩
def S18_10 (x8 : Int) (b2 b3 b4 b7 : Val) : St := [(4, .v false [.ptr 2 0]), (6, .v false [.ptr 3 0]), (8, .v false [.ptr 4 0]), (14, .v false [.ptr 7 0]), (16, .v false [.int .i64 x8]), (5, .v true [.int .i64 (Val.kind b2), .int .i64 (Val.n b2), .int .i64 (Val.step b2), .str (Val.text b2), .sl .ro .val (Val.list b2), .sl .ro .str (Val.columns b2), .sl .ro .row (Val.rows b2)]), (7, .v true [.int .i64 (Val.kind b3), .int .i64 (Val.n b3), .int .i64 (Val.step b3), .str (Val.text b3), .sl .ro .val (Val.list b3), .sl .ro .str (Val.columns b3), .sl .ro .row (Val.rows b3)]), (9, .v true [.int .i64 (Val.kind b4), .int .i64 (Val.n b4), .int .i64 (Val.step b4), .str (Val.text b4), .sl .own .val (Val.list b4), .sl .own .str (Val.columns b4), .sl .own .row (Val.rows b4)]), (15, .v true [.int .i64 (Val.kind b7), .int .i64 (Val.n b7), .int .i64 (Val.step b7), .str (Val.text b7), .sl .own .val (Val.list b7), .sl .own .str (Val.columns b7), .sl .own .row (Val.rows b7)])]
theorem p18_10_0 (x8 : Int) (b2 b3 b4 b7 r1 : Val) (r2 : Val × Bool) : run tt (AbsCalls Try.prog) I18 3000 true (stkAt 10 I18.body) ⟨(S18_10 x8 b2 b3 b4 b7), [true, true], [xBw r1, xHd r2], []⟩ = some (.done (xBp ((Val.mk (Val.kind r2.1) (Val.n r2.1) (Val.step r2.1) (Val.text r2.1) [] [] []), true)) [(decide ((x8 : Int) < (Val.n b2))) = true, AbC 58 (xCD x8) (xBw r1), AbC 11 (xB0 r1 b3) (xHd r2), (((Val.kind r2.1) : Int) == 6) = true]) := by kernel_rfl
theorem p18_10_1 (x8 : Int) (b2 b3 b4 b7 r1 : Val) (r2 : Val × Bool) : run tt (AbsCalls Try.prog) I18 3000 true (stkAt 10 I18.body) ⟨(S18_10 x8 b2 b3 b4 b7), [true, true], [xBw r1, xFc r2], []⟩ = some (.done (xBp (r2.1, false)) [(decide ((x8 : Int) < (Val.n b2))) = true, AbC 58 (xCD x8) (xBw r1), AbC 11 (xB0 r1 b3) (xFc r2), (((Val.kind r2.1) : Int) == 6) = true]) := by kernel_rfl
theorem p18_10_2 (x8 : Int) (b2 b3 b4 b7 r1 : Val) (r2 : Val × Bool) : run tt (AbsCalls Try.prog) I18 3000 true (stkAt 10 I18.body) ⟨(S18_10 x8 b2 b3 b4 b7), [true, false], [xBw r1, xFc r2], []⟩ = some (.stop (stkAt 10 I18.body) (S18_10 (IntKind.i64.wrap (x8 + 1)) b2 b3 b4 (Val.mk (Val.kind b7) (Val.n b7) (Val.step b7) (Val.text b7) ((Val.list b7) ++ [(Val.re r2.1)]) (Val.columns b7) (Val.rows b7))) [(decide ((x8 : Int) < (Val.n b2))) = true, AbC 58 (xCD x8) (xBw r1), AbC 11 (xB0 r1 b3) (xFc r2), (((Val.kind r2.1) : Int) == 6) = false, List.length (Val.list b7) + List.length [(Val.re r2.1)] ≤ Lim]) := by kernel_rfl
theorem p18_10_3 (x8 : Int) (b2 b3 b4 b7 : Val) : run tt (AbsCalls Try.prog) I18 3000 true (stkAt 10 I18.body) ⟨(S18_10 x8 b2 b3 b4 b7), [false], [], []⟩ = some (.done (xBp (b7, false)) [(decide ((x8 : Int) < (Val.n b2))) = false]) := by kernel_rfl
theorem p18_e_4 (a0 a1 : Val) (r1 : Val × Bool × Bool) : run tt (AbsCalls Try.prog) I18 3000 false [.code I18.body] ⟨(zBi 0 (xAt a0 a1)), [true], [xAJ r1], []⟩ = some (.done (xBp (r1.1, true)) [AbC 33 (xAz a0 a1) (xAJ r1), r1.2.1 = true]) := by kernel_rfl
theorem p18_e_5 (a0 a1 : Val) (r1 : Val × Bool × Bool) (r2 : Bool) (r3 : Val) : run tt (AbsCalls Try.prog) I18 3000 false [.code I18.body] ⟨(zBi 0 (xAt a0 a1)), [false, true], [xAJ r1, xAT r2, xAB r3], []⟩ = some (.done (xBp (r3, false)) [AbC 33 (xAz a0 a1) (xAJ r1), r1.2.1 = false, AbC 56 (xBW (Val.n a0) 0 8) (xAT r2), (!r2) = true, AbC 34 (xAW 5) (xAB r3)]) := by kernel_rfl
theorem p18_e_6 (a0 a1 : Val) (r1 : Val × Bool × Bool) (r2 : Bool) (r3 : Val) : run tt (AbsCalls Try.prog) I18 3000 false [.code I18.body] ⟨(zBi 0 (xAt a0 a1)), [false, false, true], [xAJ r1, xAT r2, xDd r3], []⟩ = some (.done (xBp (r3, false)) [AbC 33 (xAz a0 a1) (xAJ r1), r1.2.1 = false, AbC 56 (xBW (Val.n a0) 0 8) (xAT r2), (!r2) = false, (((Val.kind a1) : Int) == 3) = true, (0 : Int) ≤ (if ((List.length (Val.list a1) : Int) : Int) < (Val.n a0) then (List.length (Val.list a1) : Int) else (Val.n a0)) ∧ (if ((List.length (Val.list a1) : Int) : Int) < (Val.n a0) then (List.length (Val.list a1) : Int) else (Val.n a0)) ≤ (List.length (Val.list a1)), AbC 57 (xEH (List.take (Int.toNat (if ((List.length (Val.list a1) : Int) : Int) < (Val.n a0) then (List.length (Val.list a1) : Int) else (Val.n a0))) (Val.list a1))) (xDd r3)]) := by kernel_rfl
theorem p18_e_7 (a0 a1 : Val) (r1 : Val × Bool × Bool) : run tt (AbsCalls Try.prog) I18 3000 false [.code I18.body] ⟨(zBi 0 (xAt a0 a1)), [true], [xAE r1], []⟩ = some (.done (xBp (r1.1, false)) [AbC 33 (xAz a0 a1) (xAE r1), r1.2.1 = true]) := by kernel_rfl
theorem p18_e_8 (a0 a1 : Val) (r1 : Val × Bool × Bool) (r2 : Bool) (r3 : Val) : run tt (AbsCalls Try.prog) I18 3000 false [.code I18.body] ⟨(zBi 0 (xAt a0 a1)), [false, true], [xAE r1, xAT r2, xAB r3], []⟩ = some (.done (xBp (r3, false)) [AbC 33 (xAz a0 a1) (xAE r1), r1.2.1 = false, AbC 56 (xBW (Val.n a0) 0 8) (xAT r2), (!r2) = true, AbC 34 (xAW 5) (xAB r3)]) := by kernel_rfl
theorem p18_e_9 (a0 a1 : Val) (r1 : Val × Bool × Bool) (r2 : Bool) (r3 : Val) : run tt (AbsCalls Try.prog) I18 3000 false [.code I18.body] ⟨(zBi 0 (xAt a0 a1)), [false, false, true], [xAE r1, xAT r2, xDd r3], []⟩ = some (.done (xBp (r3, false)) [AbC 33 (xAz a0 a1) (xAE r1), r1.2.1 = false, AbC 56 (xBW (Val.n a0) 0 8) (xAT r2), (!r2) = false, (((Val.kind a1) : Int) == 3) = true, (0 : Int) ≤ (if ((List.length (Val.list a1) : Int) : Int) < (Val.n a0) then (List.length (Val.list a1) : Int) else (Val.n a0)) ∧ (if ((List.length (Val.list a1) : Int) : Int) < (Val.n a0) then (List.length (Val.list a1) : Int) else (Val.n a0)) ≤ (List.length (Val.list a1)), AbC 57 (xEH (List.take (Int.toNat (if ((List.length (Val.list a1) : Int) : Int) < (Val.n a0) then (List.length (Val.list a1) : Int) else (Val.n a0))) (Val.list a1))) (xDd r3)]) := by kernel_rfl
theorem p18_e_10 (a0 a1 : Val) (r1 : Val × Bool × Bool) (r2 : Bool) : run tt (AbsCalls Try.prog) I18 3000 false [.code I18.body] ⟨(zBi 0 (xAt a0 a1)), [false, false, false], [xAE r1, xAT r2], []⟩ = some (.stop (stkAt 10 I18.body) (S18_10 0 a0 a1 (Val.mk 0 0 0 [] [] [] []) (Val.mk 3 0 0 [] [] [] [])) [AbC 33 (xAz a0 a1) (xAE r1), r1.2.1 = false, AbC 56 (xBW (Val.n a0) 0 8) (xAT r2), (!r2) = false, (((Val.kind a1) : Int) == 3) = false]) := by kernel_rfl
theorem c18_10 {N : Nat} : ∀ n x8 b2 b3 b4 b7 r, xD6 N n x8 b2 b3 b4 b7 = some r → Reach Try.prog Try.f18 I18 (stkAt 10 I18.body) (S18_10 x8 b2 b3 b4 b7) (xBp r) := by
 intro n
 induction n with
 | zero => intro x8 b2 b3 b4 b7 r h; have h' : (none : Option (Val × Bool)) = some r := h; cases h'
 | succ n ih =>
  intro x8 b2 b3 b4 b7 r h
  rw [xD6] at h
  rcases cond_inv h with ⟨h0, h⟩ | ⟨h0, h⟩
  ·obtain ⟨r1, h1, h⟩ := bind_inv h
   obtain ⟨r2, h2, h⟩ := bind_inv h
   rcases cond_inv h with ⟨h3, h⟩ | ⟨h3, h⟩
   ·obtain ⟨h4, h⟩ := ite_inv h
    obtain ⟨h5, h⟩ := ite_inv h
    obtain ⟨h6, h⟩ := ite_inv h
    rcases cond_inv h with ⟨h7, h⟩ | ⟨h7, h⟩
    ·obtain rfl := Option.some.inj h
     exact Reach.done ttok mix fk18 (p18_10_0 x8 b2 b3 b4 b7 r1 r2) (obs_cons h0 (obs_cons (xET h1) (obs_cons (impl_NthOf_toE (xHt h2) h3 h4 h5 h6) (obs_cons h7 obs_nil))))
    ·obtain ⟨h8, h⟩ := ite_inv h
     cases h
   ·rcases cond_inv h with ⟨h4, h⟩ | ⟨h4, h⟩
    ·obtain rfl := Option.some.inj h
     exact Reach.done ttok mix fk18 (p18_10_1 x8 b2 b3 b4 b7 r1 r2) (obs_cons h0 (obs_cons (xET h1) (obs_cons (xH5 (xHt h2) h3) (obs_cons h4 obs_nil))))
    ·obtain ⟨h5, h⟩ := ite_inv h
     exact Reach.stop ttok mix fk18 (p18_10_2 x8 b2 b3 b4 b7 r1 r2) (obs_cons h0 (obs_cons (xET h1) (obs_cons (xH5 (xHt h2) h3) (obs_cons h4 (obs_cons h5 obs_nil))))) (ih _ _ _ _ _ _ h)
  ·obtain rfl := Option.some.inj h
   exact Reach.done ttok mix fk18 (p18_10_3 x8 b2 b3 b4 b7) (obs_cons h0 obs_nil)
theorem c18_e {N : Nat} : ∀ a0 a1 r, xDF N a0 a1 = some r → Reach Try.prog Try.f18 I18 [.code I18.body] (zBi 0 (xAt a0 a1)) (xBp r) := by
 intro a0 a1 r h
 unfold xDF at h
 obtain ⟨r1, h0, h⟩ := bind_inv h
 rcases cond_inv h with ⟨h1, h⟩ | ⟨h1, h⟩
 ·rcases cond_inv h with ⟨h2, h⟩ | ⟨h2, h⟩
  ·obtain rfl := Option.some.inj h
   exact Reach.done ttok mix fk18 (p18_e_4 a0 a1 r1) (obs_cons (xBN (xAL h0) h1) (obs_cons h2 obs_nil))
  ·obtain ⟨r2, h3, h⟩ := bind_inv h
   rcases cond_inv h with ⟨h4, h⟩ | ⟨h4, h⟩
   ·obtain ⟨r3, h5, h⟩ := bind_inv h
    obtain rfl := Option.some.inj h
    exact Reach.done ttok mix fk18 (p18_e_5 a0 a1 r1 r2 r3) (obs_cons (xBN (xAL h0) h1) (obs_cons h2 (obs_cons (xCQ h3) (obs_cons h4 (obs_cons (xBe h5) obs_nil)))))
   ·rcases cond_inv h with ⟨h5, h⟩ | ⟨h5, h⟩
    ·obtain ⟨h6, h⟩ := ite_inv h
     obtain ⟨r3, h7, h⟩ := bind_inv h
     obtain rfl := Option.some.inj h
     exact Reach.done ttok mix fk18 (p18_e_6 a0 a1 r1 r2 r3) (obs_cons (xBN (xAL h0) h1) (obs_cons h2 (obs_cons (xCQ h3) (obs_cons h4 (obs_cons h5 (obs_cons h6 (obs_cons (xHj h7) obs_nil)))))))
    ·cases h
 ·rcases cond_inv h with ⟨h2, h⟩ | ⟨h2, h⟩
  ·obtain rfl := Option.some.inj h
   exact Reach.done ttok mix fk18 (p18_e_7 a0 a1 r1) (obs_cons (xBy (xAL h0) h1) (obs_cons h2 obs_nil))
  ·obtain ⟨r2, h3, h⟩ := bind_inv h
   rcases cond_inv h with ⟨h4, h⟩ | ⟨h4, h⟩
   ·obtain ⟨r3, h5, h⟩ := bind_inv h
    obtain rfl := Option.some.inj h
    exact Reach.done ttok mix fk18 (p18_e_8 a0 a1 r1 r2 r3) (obs_cons (xBy (xAL h0) h1) (obs_cons h2 (obs_cons (xCQ h3) (obs_cons h4 (obs_cons (xBe h5) obs_nil)))))
   ·rcases cond_inv h with ⟨h5, h⟩ | ⟨h5, h⟩
    ·obtain ⟨h6, h⟩ := ite_inv h
     obtain ⟨r3, h7, h⟩ := bind_inv h
     obtain rfl := Option.some.inj h
     exact Reach.done ttok mix fk18 (p18_e_9 a0 a1 r1 r2 r3) (obs_cons (xBy (xAL h0) h1) (obs_cons h2 (obs_cons (xCQ h3) (obs_cons h4 (obs_cons h5 (obs_cons h6 (obs_cons (xHj h7) obs_nil)))))))
    ·exact Reach.stop ttok mix fk18 (p18_e_10 a0 a1 r1 r2) (obs_cons (xBy (xAL h0) h1) (obs_cons h2 (obs_cons (xCQ h3) (obs_cons h4 (obs_cons h5 obs_nil))))) (c18_10   _ _ _ _ _ _ _ h)
theorem xAy {N : Nat} {a0 : Val} {a1 : Val} {r : Val × Bool} (h : xDF N  a0 a1 = some r) : AbC 18 (xAt a0 a1) (xBp r) :=
 AbsCalls.of_reach fk18 rfl rfl (Nat.le_of_ble_eq_true rfl) (c18_e a0 a1 r h)
noncomputable def I5 : Info := { body := (Try.f5.body).getD .skip, nt := 92, results := [.tmp 4], keep := [0, 2, 4, 6, 8, 10, 12, 14, 16, 18, 20, 22, 24, 26, 36, 46, 78, 88, 98, 126, 142, 148, 166, 176, 182, 5, 7, 13, 15, 17, 19, 27], live := [], modes := [(11, [(2, .take, true)]), (19, [(0, .ref, false), (2, .ref, false)]), (20, [(0, .ref, false), (2, .ref, false)]), (21, [(2, .take, false)]), (24, [(0, .ref, false), (2, .ref, false)]), (31, [(4, .take, true)])], ext := [], lnt := [], casts := [], fcast := [] }
theorem fk5 : FnOk Try.prog 5 Try.f5 I5 := ⟨Try.func5, by kernel_rfl, by kernel_rfl, by kernel_rfl, by kernel_rfl⟩
theorem p5_e_0 (a0 a1 : Val) (r1 : Int) : run tt (AbsCalls Try.prog) I5 3000 false [.code I5.body] ⟨(zBi 0 (xAr a0 a1)), [true], [xAe r1], []⟩ = some (.done (xAs true) [AbC 8 (xAl a0 1048576) (xAe r1), (decide ((r1 : Int) < 0)) = true]) := by kernel_rfl
theorem p5_e_1 (a0 a1 : Val) (r1 r2 : Int) : run tt (AbsCalls Try.prog) I5 3000 false [.code I5.body] ⟨(zBi 0 (xAr a0 a1)), [false, true], [xAe r1, xAe r2], []⟩ = some (.done (xAs true) [AbC 8 (xAl a0 1048576) (xAe r1), (decide ((r1 : Int) < 0)) = false, AbC 8 (xAl a1 r1) (xAe r2), (decide ((r2 : Int) < 0)) = true]) := by kernel_rfl
theorem p5_e_2 (a0 a1 : Val) (r1 r2 : Int) (r3 r4 r5 r6 r7 : Val) (r8 : Val × Bool) (r9 : Bool) : run tt (AbsCalls Try.prog) I5 3000 false [.code I5.body] ⟨(zBi 0 (xAr a0 a1)), [false, false, true], [xAe r1, xAe r2, xAa r3, xAa r4, xAo r5, xAa r6, xAa r7, xAw r8, xAb r9], []⟩ = some (.done (xAs false) [AbC 8 (xAl a0 1048576) (xAe r1), (decide ((r1 : Int) < 0)) = false, AbC 8 (xAl a1 r1) (xAe r2), (decide ((r2 : Int) < 0)) = false, AbC 10 (xAc a0) (xAa r3), AbC 10 (xAc a1) (xAa r4), AbC 17 (xAH r3 r4) (xAo r5), AbC 10 (xAc a0) (xAa r6), AbC 10 (xAc a1) (xAa r7), AbC 18 (xAt r6 r7) (xAw r8), AbC 12 (xAf (Val.mk (Val.kind r8.1) (Val.n r8.1) (Val.step r8.1) (Val.text r8.1) [] [] []) r5) (xAb r9), (!r9) = true]) := by kernel_rfl
theorem p5_e_3 (a0 a1 : Val) (r1 r2 : Int) (r3 r4 r5 r6 r7 : Val) (r8 : Val × Bool) (r9 : Bool) (r10 : Val) (r11 : Bool) : run tt (AbsCalls Try.prog) I5 3000 false [.code I5.body] ⟨(zBi 0 (xAr a0 a1)), [false, false, false, true], [xAe r1, xAe r2, xAa r3, xAa r4, xAo r5, xAa r6, xAa r7, xAw r8, xAb r9, xAa r10, xAb r11], []⟩ = some (.done (xAs false) [AbC 8 (xAl a0 1048576) (xAe r1), (decide ((r1 : Int) < 0)) = false, AbC 8 (xAl a1 r1) (xAe r2), (decide ((r2 : Int) < 0)) = false, AbC 10 (xAc a0) (xAa r3), AbC 10 (xAc a1) (xAa r4), AbC 17 (xAH r3 r4) (xAo r5), AbC 10 (xAc a0) (xAa r6), AbC 10 (xAc a1) (xAa r7), AbC 18 (xAt r6 r7) (xAw r8), AbC 12 (xAf (Val.mk (Val.kind r8.1) (Val.n r8.1) (Val.step r8.1) (Val.text r8.1) [] [] []) r5) (xAb r9), (!r9) = false, AbC 10 (xAc a0) (xAa r10), AbC 12 (xAf r6 r10) (xAb r11), (!r11) = true]) := by kernel_rfl
theorem p5_e_4 (a0 a1 : Val) (r1 r2 : Int) (r3 r4 r5 r6 r7 : Val) (r8 : Val × Bool) (r9 : Bool) (r10 : Val) (r11 : Bool) (r12 : Val) (r13 : Bool) : run tt (AbsCalls Try.prog) I5 3000 false [.code I5.body] ⟨(zBi 0 (xAr a0 a1)), [false, false, false, false, true], [xAe r1, xAe r2, xAa r3, xAa r4, xAo r5, xAa r6, xAa r7, xAw r8, xAb r9, xAa r10, xAb r11, xAa r12, xAb r13], []⟩ = some (.done (xAs false) [AbC 8 (xAl a0 1048576) (xAe r1), (decide ((r1 : Int) < 0)) = false, AbC 8 (xAl a1 r1) (xAe r2), (decide ((r2 : Int) < 0)) = false, AbC 10 (xAc a0) (xAa r3), AbC 10 (xAc a1) (xAa r4), AbC 17 (xAH r3 r4) (xAo r5), AbC 10 (xAc a0) (xAa r6), AbC 10 (xAc a1) (xAa r7), AbC 18 (xAt r6 r7) (xAw r8), AbC 12 (xAf (Val.mk (Val.kind r8.1) (Val.n r8.1) (Val.step r8.1) (Val.text r8.1) [] [] []) r5) (xAb r9), (!r9) = false, AbC 10 (xAc a0) (xAa r10), AbC 12 (xAf r6 r10) (xAb r11), (!r11) = false, AbC 10 (xAc a1) (xAa r12), AbC 12 (xAf r7 r12) (xAb r13), (!r13) = true]) := by kernel_rfl
theorem p5_e_5 (a0 a1 : Val) (r1 r2 : Int) (r3 r4 r5 r6 r7 : Val) (r8 : Val × Bool) (r9 : Bool) (r10 : Val) (r11 : Bool) (r12 : Val) (r13 : Bool) (r14 : Int × (List Val) × (List Str) × (List Rowd)) (r15 : Int × (List Val) × (List Str) × (List Rowd)) : run tt (AbsCalls Try.prog) I5 3000 false [.code I5.body] ⟨(zBi 0 (xAr a0 a1)), [false, false, false, false, false, true, true], [xAe r1, xAe r2, xAa r3, xAa r4, xAo r5, xAa r6, xAa r7, xAw r8, xAb r9, xAa r10, xAb r11, xAa r12, xAb r13, xAg r14, xAg r15], []⟩ = some (.done (xAs false) [AbC 8 (xAl a0 1048576) (xAe r1), (decide ((r1 : Int) < 0)) = false, AbC 8 (xAl a1 r1) (xAe r2), (decide ((r2 : Int) < 0)) = false, AbC 10 (xAc a0) (xAa r3), AbC 10 (xAc a1) (xAa r4), AbC 17 (xAH r3 r4) (xAo r5), AbC 10 (xAc a0) (xAa r6), AbC 10 (xAc a1) (xAa r7), AbC 18 (xAt r6 r7) (xAw r8), AbC 12 (xAf (Val.mk (Val.kind r8.1) (Val.n r8.1) (Val.step r8.1) (Val.text r8.1) [] [] []) r5) (xAb r9), (!r9) = false, AbC 10 (xAc a0) (xAa r10), AbC 12 (xAf r6 r10) (xAb r11), (!r11) = false, AbC 10 (xAc a1) (xAa r12), AbC 12 (xAf r7 r12) (xAb r13), (!r13) = false, AbC 13 (xAm r6 1) (xAg r14), List.length r14.2.1 = List.length (Val.list r6), List.length r14.2.2.1 = List.length (Val.columns r6), List.length r14.2.2.2 = List.length (Val.rows r6), AbC 13 (xAm r7 r14.1) (xAg r15), List.length r15.2.1 = List.length (Val.list r7), List.length r15.2.2.1 = List.length (Val.columns r7), List.length r15.2.2.2 = List.length (Val.rows r7), (decide ((r15.1 : Int) < 0)) = true, true = true]) := by kernel_rfl
theorem p5_e_6 (a0 a1 : Val) (r1 r2 : Int) (r3 r4 r5 r6 r7 : Val) (r8 : Val × Bool) (r9 : Bool) (r10 : Val) (r11 : Bool) (r12 : Val) (r13 : Bool) (r14 : Int × (List Val) × (List Str) × (List Rowd)) (r15 : Int × (List Val) × (List Str) × (List Rowd)) (r16 : Bool) : run tt (AbsCalls Try.prog) I5 3000 false [.code I5.body] ⟨(zBi 0 (xAr a0 a1)), [false, false, false, false, false, false, true], [xAe r1, xAe r2, xAa r3, xAa r4, xAo r5, xAa r6, xAa r7, xAw r8, xAb r9, xAa r10, xAb r11, xAa r12, xAb r13, xAg r14, xAg r15, xAb r16], []⟩ = some (.done (xAs false) [AbC 8 (xAl a0 1048576) (xAe r1), (decide ((r1 : Int) < 0)) = false, AbC 8 (xAl a1 r1) (xAe r2), (decide ((r2 : Int) < 0)) = false, AbC 10 (xAc a0) (xAa r3), AbC 10 (xAc a1) (xAa r4), AbC 17 (xAH r3 r4) (xAo r5), AbC 10 (xAc a0) (xAa r6), AbC 10 (xAc a1) (xAa r7), AbC 18 (xAt r6 r7) (xAw r8), AbC 12 (xAf (Val.mk (Val.kind r8.1) (Val.n r8.1) (Val.step r8.1) (Val.text r8.1) [] [] []) r5) (xAb r9), (!r9) = false, AbC 10 (xAc a0) (xAa r10), AbC 12 (xAf r6 r10) (xAb r11), (!r11) = false, AbC 10 (xAc a1) (xAa r12), AbC 12 (xAf r7 r12) (xAb r13), (!r13) = false, AbC 13 (xAm r6 1) (xAg r14), List.length r14.2.1 = List.length (Val.list r6), List.length r14.2.2.1 = List.length (Val.columns r6), List.length r14.2.2.2 = List.length (Val.rows r6), AbC 13 (xAm r7 r14.1) (xAg r15), List.length r15.2.1 = List.length (Val.list r7), List.length r15.2.2.1 = List.length (Val.columns r7), List.length r15.2.2.2 = List.length (Val.rows r7), (decide ((r15.1 : Int) < 0)) = false, AbC 12 (xAf (Val.mk (Val.kind r8.1) (Val.n r8.1) (Val.step r8.1) (Val.text r8.1) [] [] []) r5) (xAb r16), (!r16) = true]) := by kernel_rfl
theorem p5_e_7 (a0 a1 : Val) (r1 r2 : Int) (r3 r4 r5 r6 r7 : Val) (r8 : Val × Bool) (r9 : Bool) (r10 : Val) (r11 : Bool) (r12 : Val) (r13 : Bool) (r14 : Int × (List Val) × (List Str) × (List Rowd)) (r15 : Int × (List Val) × (List Str) × (List Rowd)) (r16 : Bool) (r17 r18 : Int) : run tt (AbsCalls Try.prog) I5 3000 false [.code I5.body] ⟨(zBi 0 (xAr a0 a1)), [false, false, false, false, false, false, false, true], [xAe r1, xAe r2, xAa r3, xAa r4, xAo r5, xAa r6, xAa r7, xAw r8, xAb r9, xAa r10, xAb r11, xAa r12, xAb r13, xAg r14, xAg r15, xAb r16, xAI r17, xAk r18], []⟩ = some (.done (xAs false) [AbC 8 (xAl a0 1048576) (xAe r1), (decide ((r1 : Int) < 0)) = false, AbC 8 (xAl a1 r1) (xAe r2), (decide ((r2 : Int) < 0)) = false, AbC 10 (xAc a0) (xAa r3), AbC 10 (xAc a1) (xAa r4), AbC 17 (xAH r3 r4) (xAo r5), AbC 10 (xAc a0) (xAa r6), AbC 10 (xAc a1) (xAa r7), AbC 18 (xAt r6 r7) (xAw r8), AbC 12 (xAf (Val.mk (Val.kind r8.1) (Val.n r8.1) (Val.step r8.1) (Val.text r8.1) [] [] []) r5) (xAb r9), (!r9) = false, AbC 10 (xAc a0) (xAa r10), AbC 12 (xAf r6 r10) (xAb r11), (!r11) = false, AbC 10 (xAc a1) (xAa r12), AbC 12 (xAf r7 r12) (xAb r13), (!r13) = false, AbC 13 (xAm r6 1) (xAg r14), List.length r14.2.1 = List.length (Val.list r6), List.length r14.2.2.1 = List.length (Val.columns r6), List.length r14.2.2.2 = List.length (Val.rows r6), AbC 13 (xAm r7 r14.1) (xAg r15), List.length r15.2.1 = List.length (Val.list r7), List.length r15.2.2.1 = List.length (Val.columns r7), List.length r15.2.2.2 = List.length (Val.rows r7), (decide ((r15.1 : Int) < 0)) = false, AbC 12 (xAf (Val.mk (Val.kind r8.1) (Val.n r8.1) (Val.step r8.1) (Val.text r8.1) [] [] []) r5) (xAb r16), (!r16) = false, AbC 13 (xBf (Val.mk (Val.kind r8.1) (Val.n r8.1) (Val.step r8.1) (Val.text r8.1) [] [] []) 1) (xAI r17), AbC 14 (xAx (Val.mk (Val.kind r8.1) (Val.n r8.1) (Val.step r8.1) (Val.text r8.1) [] [] []) 1) (xAk r18), (decide ((r18 : Int) < 0)) = true]) := by kernel_rfl
theorem p5_e_8 (a0 a1 : Val) (r1 r2 : Int) (r3 r4 r5 r6 r7 : Val) (r8 : Val × Bool) (r9 : Bool) (r10 : Val) (r11 : Bool) (r12 : Val) (r13 : Bool) (r14 : Int × (List Val) × (List Str) × (List Rowd)) (r15 : Int × (List Val) × (List Str) × (List Rowd)) (r16 : Bool) (r17 r18 : Int) : run tt (AbsCalls Try.prog) I5 3000 false [.code I5.body] ⟨(zBi 0 (xAr a0 a1)), [false, false, false, false, false, false, false, false, true], [xAe r1, xAe r2, xAa r3, xAa r4, xAo r5, xAa r6, xAa r7, xAw r8, xAb r9, xAa r10, xAb r11, xAa r12, xAb r13, xAg r14, xAg r15, xAb r16, xAI r17, xAk r18], []⟩ = some (.done (xAs false) [AbC 8 (xAl a0 1048576) (xAe r1), (decide ((r1 : Int) < 0)) = false, AbC 8 (xAl a1 r1) (xAe r2), (decide ((r2 : Int) < 0)) = false, AbC 10 (xAc a0) (xAa r3), AbC 10 (xAc a1) (xAa r4), AbC 17 (xAH r3 r4) (xAo r5), AbC 10 (xAc a0) (xAa r6), AbC 10 (xAc a1) (xAa r7), AbC 18 (xAt r6 r7) (xAw r8), AbC 12 (xAf (Val.mk (Val.kind r8.1) (Val.n r8.1) (Val.step r8.1) (Val.text r8.1) [] [] []) r5) (xAb r9), (!r9) = false, AbC 10 (xAc a0) (xAa r10), AbC 12 (xAf r6 r10) (xAb r11), (!r11) = false, AbC 10 (xAc a1) (xAa r12), AbC 12 (xAf r7 r12) (xAb r13), (!r13) = false, AbC 13 (xAm r6 1) (xAg r14), List.length r14.2.1 = List.length (Val.list r6), List.length r14.2.2.1 = List.length (Val.columns r6), List.length r14.2.2.2 = List.length (Val.rows r6), AbC 13 (xAm r7 r14.1) (xAg r15), List.length r15.2.1 = List.length (Val.list r7), List.length r15.2.2.1 = List.length (Val.columns r7), List.length r15.2.2.2 = List.length (Val.rows r7), (decide ((r15.1 : Int) < 0)) = false, AbC 12 (xAf (Val.mk (Val.kind r8.1) (Val.n r8.1) (Val.step r8.1) (Val.text r8.1) [] [] []) r5) (xAb r16), (!r16) = false, AbC 13 (xBf (Val.mk (Val.kind r8.1) (Val.n r8.1) (Val.step r8.1) (Val.text r8.1) [] [] []) 1) (xAI r17), AbC 14 (xAx (Val.mk (Val.kind r8.1) (Val.n r8.1) (Val.step r8.1) (Val.text r8.1) [] [] []) 1) (xAk r18), (decide ((r18 : Int) < 0)) = false, ((r18 : Int) != r17) = true]) := by kernel_rfl
theorem p5_e_9 (a0 a1 : Val) (r1 r2 : Int) (r3 r4 r5 r6 r7 : Val) (r8 : Val × Bool) (r9 : Bool) (r10 : Val) (r11 : Bool) (r12 : Val) (r13 : Bool) (r14 : Int × (List Val) × (List Str) × (List Rowd)) (r15 : Int × (List Val) × (List Str) × (List Rowd)) (r16 : Bool) (r17 r18 : Int) (r19 r20 : Val) (r21 : Val × Bool) (r22 : Bool) : run tt (AbsCalls Try.prog) I5 3000 false [.code I5.body] ⟨(zBi 0 (xAr a0 a1)), [false, false, false, false, false, false, false, false, false, true], [xAe r1, xAe r2, xAa r3, xAa r4, xAo r5, xAa r6, xAa r7, xAw r8, xAb r9, xAa r10, xAb r11, xAa r12, xAb r13, xAg r14, xAg r15, xAb r16, xAI r17, xAk r18, xAa r19, xAa r20, xAw r21, xAb r22], []⟩ = some (.done (xAs false) [AbC 8 (xAl a0 1048576) (xAe r1), (decide ((r1 : Int) < 0)) = false, AbC 8 (xAl a1 r1) (xAe r2), (decide ((r2 : Int) < 0)) = false, AbC 10 (xAc a0) (xAa r3), AbC 10 (xAc a1) (xAa r4), AbC 17 (xAH r3 r4) (xAo r5), AbC 10 (xAc a0) (xAa r6), AbC 10 (xAc a1) (xAa r7), AbC 18 (xAt r6 r7) (xAw r8), AbC 12 (xAf (Val.mk (Val.kind r8.1) (Val.n r8.1) (Val.step r8.1) (Val.text r8.1) [] [] []) r5) (xAb r9), (!r9) = false, AbC 10 (xAc a0) (xAa r10), AbC 12 (xAf r6 r10) (xAb r11), (!r11) = false, AbC 10 (xAc a1) (xAa r12), AbC 12 (xAf r7 r12) (xAb r13), (!r13) = false, AbC 13 (xAm r6 1) (xAg r14), List.length r14.2.1 = List.length (Val.list r6), List.length r14.2.2.1 = List.length (Val.columns r6), List.length r14.2.2.2 = List.length (Val.rows r6), AbC 13 (xAm r7 r14.1) (xAg r15), List.length r15.2.1 = List.length (Val.list r7), List.length r15.2.2.1 = List.length (Val.columns r7), List.length r15.2.2.2 = List.length (Val.rows r7), (decide ((r15.1 : Int) < 0)) = false, AbC 12 (xAf (Val.mk (Val.kind r8.1) (Val.n r8.1) (Val.step r8.1) (Val.text r8.1) [] [] []) r5) (xAb r16), (!r16) = false, AbC 13 (xBf (Val.mk (Val.kind r8.1) (Val.n r8.1) (Val.step r8.1) (Val.text r8.1) [] [] []) 1) (xAI r17), AbC 14 (xAx (Val.mk (Val.kind r8.1) (Val.n r8.1) (Val.step r8.1) (Val.text r8.1) [] [] []) 1) (xAk r18), (decide ((r18 : Int) < 0)) = false, ((r18 : Int) != r17) = false, AbC 10 (xAc a0) (xAa r19), AbC 10 (xAc a1) (xAa r20), AbC 18 (xAt r19 r20) (xAw r21), AbC 12 (xAf (Val.mk (Val.kind r21.1) (Val.n r21.1) (Val.step r21.1) (Val.text r21.1) [] [] []) r5) (xAb r22), (!r22) = true]) := by kernel_rfl
theorem p5_e_10 (a0 a1 : Val) (r1 r2 : Int) (r3 r4 r5 r6 r7 : Val) (r8 : Val × Bool) (r9 : Bool) (r10 : Val) (r11 : Bool) (r12 : Val) (r13 : Bool) (r14 : Int × (List Val) × (List Str) × (List Rowd)) (r15 : Int × (List Val) × (List Str) × (List Rowd)) (r16 : Bool) (r17 r18 : Int) (r19 r20 : Val) (r21 : Val × Bool) (r22 : Bool) (r23 : Int) : run tt (AbsCalls Try.prog) I5 3000 false [.code I5.body] ⟨(zBi 0 (xAr a0 a1)), [false, false, false, false, false, false, false, false, false, false, true], [xAe r1, xAe r2, xAa r3, xAa r4, xAo r5, xAa r6, xAa r7, xAw r8, xAb r9, xAa r10, xAb r11, xAa r12, xAb r13, xAg r14, xAg r15, xAb r16, xAI r17, xAk r18, xAa r19, xAa r20, xAw r21, xAb r22, xAk r23], []⟩ = some (.done (xAs false) [AbC 8 (xAl a0 1048576) (xAe r1), (decide ((r1 : Int) < 0)) = false, AbC 8 (xAl a1 r1) (xAe r2), (decide ((r2 : Int) < 0)) = false, AbC 10 (xAc a0) (xAa r3), AbC 10 (xAc a1) (xAa r4), AbC 17 (xAH r3 r4) (xAo r5), AbC 10 (xAc a0) (xAa r6), AbC 10 (xAc a1) (xAa r7), AbC 18 (xAt r6 r7) (xAw r8), AbC 12 (xAf (Val.mk (Val.kind r8.1) (Val.n r8.1) (Val.step r8.1) (Val.text r8.1) [] [] []) r5) (xAb r9), (!r9) = false, AbC 10 (xAc a0) (xAa r10), AbC 12 (xAf r6 r10) (xAb r11), (!r11) = false, AbC 10 (xAc a1) (xAa r12), AbC 12 (xAf r7 r12) (xAb r13), (!r13) = false, AbC 13 (xAm r6 1) (xAg r14), List.length r14.2.1 = List.length (Val.list r6), List.length r14.2.2.1 = List.length (Val.columns r6), List.length r14.2.2.2 = List.length (Val.rows r6), AbC 13 (xAm r7 r14.1) (xAg r15), List.length r15.2.1 = List.length (Val.list r7), List.length r15.2.2.1 = List.length (Val.columns r7), List.length r15.2.2.2 = List.length (Val.rows r7), (decide ((r15.1 : Int) < 0)) = false, AbC 12 (xAf (Val.mk (Val.kind r8.1) (Val.n r8.1) (Val.step r8.1) (Val.text r8.1) [] [] []) r5) (xAb r16), (!r16) = false, AbC 13 (xBf (Val.mk (Val.kind r8.1) (Val.n r8.1) (Val.step r8.1) (Val.text r8.1) [] [] []) 1) (xAI r17), AbC 14 (xAx (Val.mk (Val.kind r8.1) (Val.n r8.1) (Val.step r8.1) (Val.text r8.1) [] [] []) 1) (xAk r18), (decide ((r18 : Int) < 0)) = false, ((r18 : Int) != r17) = false, AbC 10 (xAc a0) (xAa r19), AbC 10 (xAc a1) (xAa r20), AbC 18 (xAt r19 r20) (xAw r21), AbC 12 (xAf (Val.mk (Val.kind r21.1) (Val.n r21.1) (Val.step r21.1) (Val.text r21.1) [] [] []) r5) (xAb r22), (!r22) = false, AbC 14 (xAx (Val.mk (Val.kind r8.1) (Val.n r8.1) (Val.step r8.1) (Val.text r8.1) [] [] []) 1) (xAk r23), (decide ((r23 : Int) < 0)) = true]) := by kernel_rfl
theorem p5_e_11 (a0 a1 : Val) (r1 r2 : Int) (r3 r4 r5 r6 r7 : Val) (r8 : Val × Bool) (r9 : Bool) (r10 : Val) (r11 : Bool) (r12 : Val) (r13 : Bool) (r14 : Int × (List Val) × (List Str) × (List Rowd)) (r15 : Int × (List Val) × (List Str) × (List Rowd)) (r16 : Bool) (r17 r18 : Int) (r19 r20 : Val) (r21 : Val × Bool) (r22 : Bool) (r23 : Int) : run tt (AbsCalls Try.prog) I5 3000 false [.code I5.body] ⟨(zBi 0 (xAr a0 a1)), [false, false, false, false, false, false, false, false, false, false, false, true], [xAe r1, xAe r2, xAa r3, xAa r4, xAo r5, xAa r6, xAa r7, xAw r8, xAb r9, xAa r10, xAb r11, xAa r12, xAb r13, xAg r14, xAg r15, xAb r16, xAI r17, xAk r18, xAa r19, xAa r20, xAw r21, xAb r22, xAk r23], []⟩ = some (.done (xAs false) [AbC 8 (xAl a0 1048576) (xAe r1), (decide ((r1 : Int) < 0)) = false, AbC 8 (xAl a1 r1) (xAe r2), (decide ((r2 : Int) < 0)) = false, AbC 10 (xAc a0) (xAa r3), AbC 10 (xAc a1) (xAa r4), AbC 17 (xAH r3 r4) (xAo r5), AbC 10 (xAc a0) (xAa r6), AbC 10 (xAc a1) (xAa r7), AbC 18 (xAt r6 r7) (xAw r8), AbC 12 (xAf (Val.mk (Val.kind r8.1) (Val.n r8.1) (Val.step r8.1) (Val.text r8.1) [] [] []) r5) (xAb r9), (!r9) = false, AbC 10 (xAc a0) (xAa r10), AbC 12 (xAf r6 r10) (xAb r11), (!r11) = false, AbC 10 (xAc a1) (xAa r12), AbC 12 (xAf r7 r12) (xAb r13), (!r13) = false, AbC 13 (xAm r6 1) (xAg r14), List.length r14.2.1 = List.length (Val.list r6), List.length r14.2.2.1 = List.length (Val.columns r6), List.length r14.2.2.2 = List.length (Val.rows r6), AbC 13 (xAm r7 r14.1) (xAg r15), List.length r15.2.1 = List.length (Val.list r7), List.length r15.2.2.1 = List.length (Val.columns r7), List.length r15.2.2.2 = List.length (Val.rows r7), (decide ((r15.1 : Int) < 0)) = false, AbC 12 (xAf (Val.mk (Val.kind r8.1) (Val.n r8.1) (Val.step r8.1) (Val.text r8.1) [] [] []) r5) (xAb r16), (!r16) = false, AbC 13 (xBf (Val.mk (Val.kind r8.1) (Val.n r8.1) (Val.step r8.1) (Val.text r8.1) [] [] []) 1) (xAI r17), AbC 14 (xAx (Val.mk (Val.kind r8.1) (Val.n r8.1) (Val.step r8.1) (Val.text r8.1) [] [] []) 1) (xAk r18), (decide ((r18 : Int) < 0)) = false, ((r18 : Int) != r17) = false, AbC 10 (xAc a0) (xAa r19), AbC 10 (xAc a1) (xAa r20), AbC 18 (xAt r19 r20) (xAw r21), AbC 12 (xAf (Val.mk (Val.kind r21.1) (Val.n r21.1) (Val.step r21.1) (Val.text r21.1) [] [] []) r5) (xAb r22), (!r22) = false, AbC 14 (xAx (Val.mk (Val.kind r8.1) (Val.n r8.1) (Val.step r8.1) (Val.text r8.1) [] [] []) 1) (xAk r23), (decide ((r23 : Int) < 0)) = false, ((r23 : Int) != r17) = true]) := by kernel_rfl
theorem p5_e_12 (a0 a1 : Val) (r1 r2 : Int) (r3 r4 r5 r6 r7 : Val) (r8 : Val × Bool) (r9 : Bool) (r10 : Val) (r11 : Bool) (r12 : Val) (r13 : Bool) (r14 : Int × (List Val) × (List Str) × (List Rowd)) (r15 : Int × (List Val) × (List Str) × (List Rowd)) (r16 : Bool) (r17 r18 : Int) (r19 r20 : Val) (r21 : Val × Bool) (r22 : Bool) (r23 : Int) : run tt (AbsCalls Try.prog) I5 3000 false [.code I5.body] ⟨(zBi 0 (xAr a0 a1)), [false, false, false, false, false, false, false, false, false, false, false, false], [xAe r1, xAe r2, xAa r3, xAa r4, xAo r5, xAa r6, xAa r7, xAw r8, xAb r9, xAa r10, xAb r11, xAa r12, xAb r13, xAg r14, xAg r15, xAb r16, xAI r17, xAk r18, xAa r19, xAa r20, xAw r21, xAb r22, xAk r23], []⟩ = some (.done (xAs true) [AbC 8 (xAl a0 1048576) (xAe r1), (decide ((r1 : Int) < 0)) = false, AbC 8 (xAl a1 r1) (xAe r2), (decide ((r2 : Int) < 0)) = false, AbC 10 (xAc a0) (xAa r3), AbC 10 (xAc a1) (xAa r4), AbC 17 (xAH r3 r4) (xAo r5), AbC 10 (xAc a0) (xAa r6), AbC 10 (xAc a1) (xAa r7), AbC 18 (xAt r6 r7) (xAw r8), AbC 12 (xAf (Val.mk (Val.kind r8.1) (Val.n r8.1) (Val.step r8.1) (Val.text r8.1) [] [] []) r5) (xAb r9), (!r9) = false, AbC 10 (xAc a0) (xAa r10), AbC 12 (xAf r6 r10) (xAb r11), (!r11) = false, AbC 10 (xAc a1) (xAa r12), AbC 12 (xAf r7 r12) (xAb r13), (!r13) = false, AbC 13 (xAm r6 1) (xAg r14), List.length r14.2.1 = List.length (Val.list r6), List.length r14.2.2.1 = List.length (Val.columns r6), List.length r14.2.2.2 = List.length (Val.rows r6), AbC 13 (xAm r7 r14.1) (xAg r15), List.length r15.2.1 = List.length (Val.list r7), List.length r15.2.2.1 = List.length (Val.columns r7), List.length r15.2.2.2 = List.length (Val.rows r7), (decide ((r15.1 : Int) < 0)) = false, AbC 12 (xAf (Val.mk (Val.kind r8.1) (Val.n r8.1) (Val.step r8.1) (Val.text r8.1) [] [] []) r5) (xAb r16), (!r16) = false, AbC 13 (xBf (Val.mk (Val.kind r8.1) (Val.n r8.1) (Val.step r8.1) (Val.text r8.1) [] [] []) 1) (xAI r17), AbC 14 (xAx (Val.mk (Val.kind r8.1) (Val.n r8.1) (Val.step r8.1) (Val.text r8.1) [] [] []) 1) (xAk r18), (decide ((r18 : Int) < 0)) = false, ((r18 : Int) != r17) = false, AbC 10 (xAc a0) (xAa r19), AbC 10 (xAc a1) (xAa r20), AbC 18 (xAt r19 r20) (xAw r21), AbC 12 (xAf (Val.mk (Val.kind r21.1) (Val.n r21.1) (Val.step r21.1) (Val.text r21.1) [] [] []) r5) (xAb r22), (!r22) = false, AbC 14 (xAx (Val.mk (Val.kind r8.1) (Val.n r8.1) (Val.step r8.1) (Val.text r8.1) [] [] []) 1) (xAk r23), (decide ((r23 : Int) < 0)) = false, ((r23 : Int) != r17) = false]) := by kernel_rfl
theorem p5_e_13 (a0 a1 : Val) (r1 r2 : Int) (r3 r4 r5 r6 r7 : Val) (r8 : Val × Bool) (r9 : Bool) (r10 : Val) (r11 : Bool) (r12 : Val) (r13 : Bool) (r14 : Int × (List Val) × (List Str) × (List Rowd)) (r15 : Int × (List Val) × (List Str) × (List Rowd)) (r16 : Bool) (r17 r18 : Int) (r19 r20 : Val) (r21 : Val × Bool) (r22 : Bool) : run tt (AbsCalls Try.prog) I5 3000 false [.code I5.body] ⟨(zBi 0 (xAr a0 a1)), [false, false, false, false, false, false, false, false, false, true], [xAe r1, xAe r2, xAa r3, xAa r4, xAo r5, xAa r6, xAa r7, xAw r8, xAb r9, xAa r10, xAb r11, xAa r12, xAb r13, xAg r14, xAg r15, xAb r16, xAI r17, xAk r18, xAa r19, xAa r20, xAv r21, xAb r22], []⟩ = some (.done (xAs false) [AbC 8 (xAl a0 1048576) (xAe r1), (decide ((r1 : Int) < 0)) = false, AbC 8 (xAl a1 r1) (xAe r2), (decide ((r2 : Int) < 0)) = false, AbC 10 (xAc a0) (xAa r3), AbC 10 (xAc a1) (xAa r4), AbC 17 (xAH r3 r4) (xAo r5), AbC 10 (xAc a0) (xAa r6), AbC 10 (xAc a1) (xAa r7), AbC 18 (xAt r6 r7) (xAw r8), AbC 12 (xAf (Val.mk (Val.kind r8.1) (Val.n r8.1) (Val.step r8.1) (Val.text r8.1) [] [] []) r5) (xAb r9), (!r9) = false, AbC 10 (xAc a0) (xAa r10), AbC 12 (xAf r6 r10) (xAb r11), (!r11) = false, AbC 10 (xAc a1) (xAa r12), AbC 12 (xAf r7 r12) (xAb r13), (!r13) = false, AbC 13 (xAm r6 1) (xAg r14), List.length r14.2.1 = List.length (Val.list r6), List.length r14.2.2.1 = List.length (Val.columns r6), List.length r14.2.2.2 = List.length (Val.rows r6), AbC 13 (xAm r7 r14.1) (xAg r15), List.length r15.2.1 = List.length (Val.list r7), List.length r15.2.2.1 = List.length (Val.columns r7), List.length r15.2.2.2 = List.length (Val.rows r7), (decide ((r15.1 : Int) < 0)) = false, AbC 12 (xAf (Val.mk (Val.kind r8.1) (Val.n r8.1) (Val.step r8.1) (Val.text r8.1) [] [] []) r5) (xAb r16), (!r16) = false, AbC 13 (xBf (Val.mk (Val.kind r8.1) (Val.n r8.1) (Val.step r8.1) (Val.text r8.1) [] [] []) 1) (xAI r17), AbC 14 (xAx (Val.mk (Val.kind r8.1) (Val.n r8.1) (Val.step r8.1) (Val.text r8.1) [] [] []) 1) (xAk r18), (decide ((r18 : Int) < 0)) = false, ((r18 : Int) != r17) = false, AbC 10 (xAc a0) (xAa r19), AbC 10 (xAc a1) (xAa r20), AbC 18 (xAt r19 r20) (xAv r21), AbC 12 (xAf r21.1 r5) (xAb r22), (!r22) = true]) := by kernel_rfl
theorem p5_e_14 (a0 a1 : Val) (r1 r2 : Int) (r3 r4 r5 r6 r7 : Val) (r8 : Val × Bool) (r9 : Bool) (r10 : Val) (r11 : Bool) (r12 : Val) (r13 : Bool) (r14 : Int × (List Val) × (List Str) × (List Rowd)) (r15 : Int × (List Val) × (List Str) × (List Rowd)) (r16 : Bool) (r17 r18 : Int) (r19 r20 : Val) (r21 : Val × Bool) (r22 : Bool) (r23 : Int) : run tt (AbsCalls Try.prog) I5 3000 false [.code I5.body] ⟨(zBi 0 (xAr a0 a1)), [false, false, false, false, false, false, false, false, false, false, true], [xAe r1, xAe r2, xAa r3, xAa r4, xAo r5, xAa r6, xAa r7, xAw r8, xAb r9, xAa r10, xAb r11, xAa r12, xAb r13, xAg r14, xAg r15, xAb r16, xAI r17, xAk r18, xAa r19, xAa r20, xAv r21, xAb r22, xAk r23], []⟩ = some (.done (xAs false) [AbC 8 (xAl a0 1048576) (xAe r1), (decide ((r1 : Int) < 0)) = false, AbC 8 (xAl a1 r1) (xAe r2), (decide ((r2 : Int) < 0)) = false, AbC 10 (xAc a0) (xAa r3), AbC 10 (xAc a1) (xAa r4), AbC 17 (xAH r3 r4) (xAo r5), AbC 10 (xAc a0) (xAa r6), AbC 10 (xAc a1) (xAa r7), AbC 18 (xAt r6 r7) (xAw r8), AbC 12 (xAf (Val.mk (Val.kind r8.1) (Val.n r8.1) (Val.step r8.1) (Val.text r8.1) [] [] []) r5) (xAb r9), (!r9) = false, AbC 10 (xAc a0) (xAa r10), AbC 12 (xAf r6 r10) (xAb r11), (!r11) = false, AbC 10 (xAc a1) (xAa r12), AbC 12 (xAf r7 r12) (xAb r13), (!r13) = false, AbC 13 (xAm r6 1) (xAg r14), List.length r14.2.1 = List.length (Val.list r6), List.length r14.2.2.1 = List.length (Val.columns r6), List.length r14.2.2.2 = List.length (Val.rows r6), AbC 13 (xAm r7 r14.1) (xAg r15), List.length r15.2.1 = List.length (Val.list r7), List.length r15.2.2.1 = List.length (Val.columns r7), List.length r15.2.2.2 = List.length (Val.rows r7), (decide ((r15.1 : Int) < 0)) = false, AbC 12 (xAf (Val.mk (Val.kind r8.1) (Val.n r8.1) (Val.step r8.1) (Val.text r8.1) [] [] []) r5) (xAb r16), (!r16) = false, AbC 13 (xBf (Val.mk (Val.kind r8.1) (Val.n r8.1) (Val.step r8.1) (Val.text r8.1) [] [] []) 1) (xAI r17), AbC 14 (xAx (Val.mk (Val.kind r8.1) (Val.n r8.1) (Val.step r8.1) (Val.text r8.1) [] [] []) 1) (xAk r18), (decide ((r18 : Int) < 0)) = false, ((r18 : Int) != r17) = false, AbC 10 (xAc a0) (xAa r19), AbC 10 (xAc a1) (xAa r20), AbC 18 (xAt r19 r20) (xAv r21), AbC 12 (xAf r21.1 r5) (xAb r22), (!r22) = false, AbC 14 (xAx (Val.mk (Val.kind r8.1) (Val.n r8.1) (Val.step r8.1) (Val.text r8.1) [] [] []) 1) (xAk r23), (decide ((r23 : Int) < 0)) = true]) := by kernel_rfl
theorem p5_e_15 (a0 a1 : Val) (r1 r2 : Int) (r3 r4 r5 r6 r7 : Val) (r8 : Val × Bool) (r9 : Bool) (r10 : Val) (r11 : Bool) (r12 : Val) (r13 : Bool) (r14 : Int × (List Val) × (List Str) × (List Rowd)) (r15 : Int × (List Val) × (List Str) × (List Rowd)) (r16 : Bool) (r17 r18 : Int) (r19 r20 : Val) (r21 : Val × Bool) (r22 : Bool) (r23 : Int) : run tt (AbsCalls Try.prog) I5 3000 false [.code I5.body] ⟨(zBi 0 (xAr a0 a1)), [false, false, false, false, false, false, false, false, false, false, false, true], [xAe r1, xAe r2, xAa r3, xAa r4, xAo r5, xAa r6, xAa r7, xAw r8, xAb r9, xAa r10, xAb r11, xAa r12, xAb r13, xAg r14, xAg r15, xAb r16, xAI r17, xAk r18, xAa r19, xAa r20, xAv r21, xAb r22, xAk r23], []⟩ = some (.done (xAs false) [AbC 8 (xAl a0 1048576) (xAe r1), (decide ((r1 : Int) < 0)) = false, AbC 8 (xAl a1 r1) (xAe r2), (decide ((r2 : Int) < 0)) = false, AbC 10 (xAc a0) (xAa r3), AbC 10 (xAc a1) (xAa r4), AbC 17 (xAH r3 r4) (xAo r5), AbC 10 (xAc a0) (xAa r6), AbC 10 (xAc a1) (xAa r7), AbC 18 (xAt r6 r7) (xAw r8), AbC 12 (xAf (Val.mk (Val.kind r8.1) (Val.n r8.1) (Val.step r8.1) (Val.text r8.1) [] [] []) r5) (xAb r9), (!r9) = false, AbC 10 (xAc a0) (xAa r10), AbC 12 (xAf r6 r10) (xAb r11), (!r11) = false, AbC 10 (xAc a1) (xAa r12), AbC 12 (xAf r7 r12) (xAb r13), (!r13) = false, AbC 13 (xAm r6 1) (xAg r14), List.length r14.2.1 = List.length (Val.list r6), List.length r14.2.2.1 = List.length (Val.columns r6), List.length r14.2.2.2 = List.length (Val.rows r6), AbC 13 (xAm r7 r14.1) (xAg r15), List.length r15.2.1 = List.length (Val.list r7), List.length r15.2.2.1 = List.length (Val.columns r7), List.length r15.2.2.2 = List.length (Val.rows r7), (decide ((r15.1 : Int) < 0)) = false, AbC 12 (xAf (Val.mk (Val.kind r8.1) (Val.n r8.1) (Val.step r8.1) (Val.text r8.1) [] [] []) r5) (xAb r16), (!r16) = false, AbC 13 (xBf (Val.mk (Val.kind r8.1) (Val.n r8.1) (Val.step r8.1) (Val.text r8.1) [] [] []) 1) (xAI r17), AbC 14 (xAx (Val.mk (Val.kind r8.1) (Val.n r8.1) (Val.step r8.1) (Val.text r8.1) [] [] []) 1) (xAk r18), (decide ((r18 : Int) < 0)) = false, ((r18 : Int) != r17) = false, AbC 10 (xAc a0) (xAa r19), AbC 10 (xAc a1) (xAa r20), AbC 18 (xAt r19 r20) (xAv r21), AbC 12 (xAf r21.1 r5) (xAb r22), (!r22) = false, AbC 14 (xAx (Val.mk (Val.kind r8.1) (Val.n r8.1) (Val.step r8.1) (Val.text r8.1) [] [] []) 1) (xAk r23), (decide ((r23 : Int) < 0)) = false, ((r23 : Int) != r17) = true]) := by kernel_rfl
theorem p5_e_16 (a0 a1 : Val) (r1 r2 : Int) (r3 r4 r5 r6 r7 : Val) (r8 : Val × Bool) (r9 : Bool) (r10 : Val) (r11 : Bool) (r12 : Val) (r13 : Bool) (r14 : Int × (List Val) × (List Str) × (List Rowd)) (r15 : Int × (List Val) × (List Str) × (List Rowd)) (r16 : Bool) (r17 r18 : Int) (r19 r20 : Val) (r21 : Val × Bool) (r22 : Bool) (r23 : Int) : run tt (AbsCalls Try.prog) I5 3000 false [.code I5.body] ⟨(zBi 0 (xAr a0 a1)), [false, false, false, false, false, false, false, false, false, false, false, false], [xAe r1, xAe r2, xAa r3, xAa r4, xAo r5, xAa r6, xAa r7, xAw r8, xAb r9, xAa r10, xAb r11, xAa r12, xAb r13, xAg r14, xAg r15, xAb r16, xAI r17, xAk r18, xAa r19, xAa r20, xAv r21, xAb r22, xAk r23], []⟩ = some (.done (xAs true) [AbC 8 (xAl a0 1048576) (xAe r1), (decide ((r1 : Int) < 0)) = false, AbC 8 (xAl a1 r1) (xAe r2), (decide ((r2 : Int) < 0)) = false, AbC 10 (xAc a0) (xAa r3), AbC 10 (xAc a1) (xAa r4), AbC 17 (xAH r3 r4) (xAo r5), AbC 10 (xAc a0) (xAa r6), AbC 10 (xAc a1) (xAa r7), AbC 18 (xAt r6 r7) (xAw r8), AbC 12 (xAf (Val.mk (Val.kind r8.1) (Val.n r8.1) (Val.step r8.1) (Val.text r8.1) [] [] []) r5) (xAb r9), (!r9) = false, AbC 10 (xAc a0) (xAa r10), AbC 12 (xAf r6 r10) (xAb r11), (!r11) = false, AbC 10 (xAc a1) (xAa r12), AbC 12 (xAf r7 r12) (xAb r13), (!r13) = false, AbC 13 (xAm r6 1) (xAg r14), List.length r14.2.1 = List.length (Val.list r6), List.length r14.2.2.1 = List.length (Val.columns r6), List.length r14.2.2.2 = List.length (Val.rows r6), AbC 13 (xAm r7 r14.1) (xAg r15), List.length r15.2.1 = List.length (Val.list r7), List.length r15.2.2.1 = List.length (Val.columns r7), List.length r15.2.2.2 = List.length (Val.rows r7), (decide ((r15.1 : Int) < 0)) = false, AbC 12 (xAf (Val.mk (Val.kind r8.1) (Val.n r8.1) (Val.step r8.1) (Val.text r8.1) [] [] []) r5) (xAb r16), (!r16) = false, AbC 13 (xBf (Val.mk (Val.kind r8.1) (Val.n r8.1) (Val.step r8.1) (Val.text r8.1) [] [] []) 1) (xAI r17), AbC 14 (xAx (Val.mk (Val.kind r8.1) (Val.n r8.1) (Val.step r8.1) (Val.text r8.1) [] [] []) 1) (xAk r18), (decide ((r18 : Int) < 0)) = false, ((r18 : Int) != r17) = false, AbC 10 (xAc a0) (xAa r19), AbC 10 (xAc a1) (xAa r20), AbC 18 (xAt r19 r20) (xAv r21), AbC 12 (xAf r21.1 r5) (xAb r22), (!r22) = false, AbC 14 (xAx (Val.mk (Val.kind r8.1) (Val.n r8.1) (Val.step r8.1) (Val.text r8.1) [] [] []) 1) (xAk r23), (decide ((r23 : Int) < 0)) = false, ((r23 : Int) != r17) = false]) := by kernel_rfl
theorem p5_e_17 (a0 a1 : Val) (r1 r2 : Int) (r3 r4 r5 r6 r7 : Val) (r8 : Val × Bool) (r9 : Bool) : run tt (AbsCalls Try.prog) I5 3000 false [.code I5.body] ⟨(zBi 0 (xAr a0 a1)), [false, false, true], [xAe r1, xAe r2, xAa r3, xAa r4, xAo r5, xAa r6, xAa r7, xAv r8, xAb r9], []⟩ = some (.done (xAs false) [AbC 8 (xAl a0 1048576) (xAe r1), (decide ((r1 : Int) < 0)) = false, AbC 8 (xAl a1 r1) (xAe r2), (decide ((r2 : Int) < 0)) = false, AbC 10 (xAc a0) (xAa r3), AbC 10 (xAc a1) (xAa r4), AbC 17 (xAH r3 r4) (xAo r5), AbC 10 (xAc a0) (xAa r6), AbC 10 (xAc a1) (xAa r7), AbC 18 (xAt r6 r7) (xAv r8), AbC 12 (xAf r8.1 r5) (xAb r9), (!r9) = true]) := by kernel_rfl
theorem p5_e_18 (a0 a1 : Val) (r1 r2 : Int) (r3 r4 r5 r6 r7 : Val) (r8 : Val × Bool) (r9 : Bool) (r10 : Val) (r11 : Bool) : run tt (AbsCalls Try.prog) I5 3000 false [.code I5.body] ⟨(zBi 0 (xAr a0 a1)), [false, false, false, true], [xAe r1, xAe r2, xAa r3, xAa r4, xAo r5, xAa r6, xAa r7, xAv r8, xAb r9, xAa r10, xAb r11], []⟩ = some (.done (xAs false) [AbC 8 (xAl a0 1048576) (xAe r1), (decide ((r1 : Int) < 0)) = false, AbC 8 (xAl a1 r1) (xAe r2), (decide ((r2 : Int) < 0)) = false, AbC 10 (xAc a0) (xAa r3), AbC 10 (xAc a1) (xAa r4), AbC 17 (xAH r3 r4) (xAo r5), AbC 10 (xAc a0) (xAa r6), AbC 10 (xAc a1) (xAa r7), AbC 18 (xAt r6 r7) (xAv r8), AbC 12 (xAf r8.1 r5) (xAb r9), (!r9) = false, AbC 10 (xAc a0) (xAa r10), AbC 12 (xAf r6 r10) (xAb r11), (!r11) = true]) := by kernel_rfl
theorem p5_e_19 (a0 a1 : Val) (r1 r2 : Int) (r3 r4 r5 r6 r7 : Val) (r8 : Val × Bool) (r9 : Bool) (r10 : Val) (r11 : Bool) (r12 : Val) (r13 : Bool) : run tt (AbsCalls Try.prog) I5 3000 false [.code I5.body] ⟨(zBi 0 (xAr a0 a1)), [false, false, false, false, true], [xAe r1, xAe r2, xAa r3, xAa r4, xAo r5, xAa r6, xAa r7, xAv r8, xAb r9, xAa r10, xAb r11, xAa r12, xAb r13], []⟩ = some (.done (xAs false) [AbC 8 (xAl a0 1048576) (xAe r1), (decide ((r1 : Int) < 0)) = false, AbC 8 (xAl a1 r1) (xAe r2), (decide ((r2 : Int) < 0)) = false, AbC 10 (xAc a0) (xAa r3), AbC 10 (xAc a1) (xAa r4), AbC 17 (xAH r3 r4) (xAo r5), AbC 10 (xAc a0) (xAa r6), AbC 10 (xAc a1) (xAa r7), AbC 18 (xAt r6 r7) (xAv r8), AbC 12 (xAf r8.1 r5) (xAb r9), (!r9) = false, AbC 10 (xAc a0) (xAa r10), AbC 12 (xAf r6 r10) (xAb r11), (!r11) = false, AbC 10 (xAc a1) (xAa r12), AbC 12 (xAf r7 r12) (xAb r13), (!r13) = true]) := by kernel_rfl
theorem p5_e_20 (a0 a1 : Val) (r1 r2 : Int) (r3 r4 r5 r6 r7 : Val) (r8 : Val × Bool) (r9 : Bool) (r10 : Val) (r11 : Bool) (r12 : Val) (r13 : Bool) (r14 : Int × (List Val) × (List Str) × (List Rowd)) (r15 : Int × (List Val) × (List Str) × (List Rowd)) : run tt (AbsCalls Try.prog) I5 3000 false [.code I5.body] ⟨(zBi 0 (xAr a0 a1)), [false, false, false, false, false, true, true], [xAe r1, xAe r2, xAa r3, xAa r4, xAo r5, xAa r6, xAa r7, xAv r8, xAb r9, xAa r10, xAb r11, xAa r12, xAb r13, xAg r14, xAg r15], []⟩ = some (.done (xAs false) [AbC 8 (xAl a0 1048576) (xAe r1), (decide ((r1 : Int) < 0)) = false, AbC 8 (xAl a1 r1) (xAe r2), (decide ((r2 : Int) < 0)) = false, AbC 10 (xAc a0) (xAa r3), AbC 10 (xAc a1) (xAa r4), AbC 17 (xAH r3 r4) (xAo r5), AbC 10 (xAc a0) (xAa r6), AbC 10 (xAc a1) (xAa r7), AbC 18 (xAt r6 r7) (xAv r8), AbC 12 (xAf r8.1 r5) (xAb r9), (!r9) = false, AbC 10 (xAc a0) (xAa r10), AbC 12 (xAf r6 r10) (xAb r11), (!r11) = false, AbC 10 (xAc a1) (xAa r12), AbC 12 (xAf r7 r12) (xAb r13), (!r13) = false, AbC 13 (xAm r6 1) (xAg r14), List.length r14.2.1 = List.length (Val.list r6), List.length r14.2.2.1 = List.length (Val.columns r6), List.length r14.2.2.2 = List.length (Val.rows r6), AbC 13 (xAm r7 r14.1) (xAg r15), List.length r15.2.1 = List.length (Val.list r7), List.length r15.2.2.1 = List.length (Val.columns r7), List.length r15.2.2.2 = List.length (Val.rows r7), (decide ((r15.1 : Int) < 0)) = true, true = true]) := by kernel_rfl
theorem p5_e_21 (a0 a1 : Val) (r1 r2 : Int) (r3 r4 r5 r6 r7 : Val) (r8 : Val × Bool) (r9 : Bool) (r10 : Val) (r11 : Bool) (r12 : Val) (r13 : Bool) (r14 : Int × (List Val) × (List Str) × (List Rowd)) (r15 : Int × (List Val) × (List Str) × (List Rowd)) (r16 : Bool) : run tt (AbsCalls Try.prog) I5 3000 false [.code I5.body] ⟨(zBi 0 (xAr a0 a1)), [false, false, false, false, false, false, true], [xAe r1, xAe r2, xAa r3, xAa r4, xAo r5, xAa r6, xAa r7, xAv r8, xAb r9, xAa r10, xAb r11, xAa r12, xAb r13, xAg r14, xAg r15, xAb r16], []⟩ = some (.done (xAs false) [AbC 8 (xAl a0 1048576) (xAe r1), (decide ((r1 : Int) < 0)) = false, AbC 8 (xAl a1 r1) (xAe r2), (decide ((r2 : Int) < 0)) = false, AbC 10 (xAc a0) (xAa r3), AbC 10 (xAc a1) (xAa r4), AbC 17 (xAH r3 r4) (xAo r5), AbC 10 (xAc a0) (xAa r6), AbC 10 (xAc a1) (xAa r7), AbC 18 (xAt r6 r7) (xAv r8), AbC 12 (xAf r8.1 r5) (xAb r9), (!r9) = false, AbC 10 (xAc a0) (xAa r10), AbC 12 (xAf r6 r10) (xAb r11), (!r11) = false, AbC 10 (xAc a1) (xAa r12), AbC 12 (xAf r7 r12) (xAb r13), (!r13) = false, AbC 13 (xAm r6 1) (xAg r14), List.length r14.2.1 = List.length (Val.list r6), List.length r14.2.2.1 = List.length (Val.columns r6), List.length r14.2.2.2 = List.length (Val.rows r6), AbC 13 (xAm r7 r14.1) (xAg r15), List.length r15.2.1 = List.length (Val.list r7), List.length r15.2.2.1 = List.length (Val.columns r7), List.length r15.2.2.2 = List.length (Val.rows r7), (decide ((r15.1 : Int) < 0)) = false, AbC 12 (xAf r8.1 r5) (xAb r16), (!r16) = true]) := by kernel_rfl
theorem p5_e_22 (a0 a1 : Val) (r1 r2 : Int) (r3 r4 r5 r6 r7 : Val) (r8 : Val × Bool) (r9 : Bool) (r10 : Val) (r11 : Bool) (r12 : Val) (r13 : Bool) (r14 : Int × (List Val) × (List Str) × (List Rowd)) (r15 : Int × (List Val) × (List Str) × (List Rowd)) (r16 : Bool) (r17 : Int × (List Val) × (List Str) × (List Rowd)) (r18 : Int) : run tt (AbsCalls Try.prog) I5 3000 false [.code I5.body] ⟨(zBi 0 (xAr a0 a1)), [false, false, false, false, false, false, false, true], [xAe r1, xAe r2, xAa r3, xAa r4, xAo r5, xAa r6, xAa r7, xAv r8, xAb r9, xAa r10, xAb r11, xAa r12, xAb r13, xAg r14, xAg r15, xAb r16, xAg r17, xAk r18], []⟩ = some (.done (xAs false) [AbC 8 (xAl a0 1048576) (xAe r1), (decide ((r1 : Int) < 0)) = false, AbC 8 (xAl a1 r1) (xAe r2), (decide ((r2 : Int) < 0)) = false, AbC 10 (xAc a0) (xAa r3), AbC 10 (xAc a1) (xAa r4), AbC 17 (xAH r3 r4) (xAo r5), AbC 10 (xAc a0) (xAa r6), AbC 10 (xAc a1) (xAa r7), AbC 18 (xAt r6 r7) (xAv r8), AbC 12 (xAf r8.1 r5) (xAb r9), (!r9) = false, AbC 10 (xAc a0) (xAa r10), AbC 12 (xAf r6 r10) (xAb r11), (!r11) = false, AbC 10 (xAc a1) (xAa r12), AbC 12 (xAf r7 r12) (xAb r13), (!r13) = false, AbC 13 (xAm r6 1) (xAg r14), List.length r14.2.1 = List.length (Val.list r6), List.length r14.2.2.1 = List.length (Val.columns r6), List.length r14.2.2.2 = List.length (Val.rows r6), AbC 13 (xAm r7 r14.1) (xAg r15), List.length r15.2.1 = List.length (Val.list r7), List.length r15.2.2.1 = List.length (Val.columns r7), List.length r15.2.2.2 = List.length (Val.rows r7), (decide ((r15.1 : Int) < 0)) = false, AbC 12 (xAf r8.1 r5) (xAb r16), (!r16) = false, AbC 13 (xAm r8.1 1) (xAg r17), List.length r17.2.1 = List.length (Val.list r8.1), List.length r17.2.2.1 = List.length (Val.columns r8.1), List.length r17.2.2.2 = List.length (Val.rows r8.1), AbC 14 (xAx (Val.mk (Val.kind r8.1) (Val.n r8.1) (Val.step r8.1) (Val.text r8.1) r17.2.1 r17.2.2.1 r17.2.2.2) 1) (xAk r18), (decide ((r18 : Int) < 0)) = true]) := by kernel_rfl
theorem p5_e_23 (a0 a1 : Val) (r1 r2 : Int) (r3 r4 r5 r6 r7 : Val) (r8 : Val × Bool) (r9 : Bool) (r10 : Val) (r11 : Bool) (r12 : Val) (r13 : Bool) (r14 : Int × (List Val) × (List Str) × (List Rowd)) (r15 : Int × (List Val) × (List Str) × (List Rowd)) (r16 : Bool) (r17 : Int × (List Val) × (List Str) × (List Rowd)) (r18 : Int) : run tt (AbsCalls Try.prog) I5 3000 false [.code I5.body] ⟨(zBi 0 (xAr a0 a1)), [false, false, false, false, false, false, false, false, true], [xAe r1, xAe r2, xAa r3, xAa r4, xAo r5, xAa r6, xAa r7, xAv r8, xAb r9, xAa r10, xAb r11, xAa r12, xAb r13, xAg r14, xAg r15, xAb r16, xAg r17, xAk r18], []⟩ = some (.done (xAs false) [AbC 8 (xAl a0 1048576) (xAe r1), (decide ((r1 : Int) < 0)) = false, AbC 8 (xAl a1 r1) (xAe r2), (decide ((r2 : Int) < 0)) = false, AbC 10 (xAc a0) (xAa r3), AbC 10 (xAc a1) (xAa r4), AbC 17 (xAH r3 r4) (xAo r5), AbC 10 (xAc a0) (xAa r6), AbC 10 (xAc a1) (xAa r7), AbC 18 (xAt r6 r7) (xAv r8), AbC 12 (xAf r8.1 r5) (xAb r9), (!r9) = false, AbC 10 (xAc a0) (xAa r10), AbC 12 (xAf r6 r10) (xAb r11), (!r11) = false, AbC 10 (xAc a1) (xAa r12), AbC 12 (xAf r7 r12) (xAb r13), (!r13) = false, AbC 13 (xAm r6 1) (xAg r14), List.length r14.2.1 = List.length (Val.list r6), List.length r14.2.2.1 = List.length (Val.columns r6), List.length r14.2.2.2 = List.length (Val.rows r6), AbC 13 (xAm r7 r14.1) (xAg r15), List.length r15.2.1 = List.length (Val.list r7), List.length r15.2.2.1 = List.length (Val.columns r7), List.length r15.2.2.2 = List.length (Val.rows r7), (decide ((r15.1 : Int) < 0)) = false, AbC 12 (xAf r8.1 r5) (xAb r16), (!r16) = false, AbC 13 (xAm r8.1 1) (xAg r17), List.length r17.2.1 = List.length (Val.list r8.1), List.length r17.2.2.1 = List.length (Val.columns r8.1), List.length r17.2.2.2 = List.length (Val.rows r8.1), AbC 14 (xAx (Val.mk (Val.kind r8.1) (Val.n r8.1) (Val.step r8.1) (Val.text r8.1) r17.2.1 r17.2.2.1 r17.2.2.2) 1) (xAk r18), (decide ((r18 : Int) < 0)) = false, ((r18 : Int) != r17.1) = true]) := by kernel_rfl
theorem p5_e_24 (a0 a1 : Val) (r1 r2 : Int) (r3 r4 r5 r6 r7 : Val) (r8 : Val × Bool) (r9 : Bool) (r10 : Val) (r11 : Bool) (r12 : Val) (r13 : Bool) (r14 : Int × (List Val) × (List Str) × (List Rowd)) (r15 : Int × (List Val) × (List Str) × (List Rowd)) (r16 : Bool) (r17 : Int × (List Val) × (List Str) × (List Rowd)) (r18 : Int) (r19 r20 : Val) (r21 : Val × Bool) (r22 : Bool) : run tt (AbsCalls Try.prog) I5 3000 false [.code I5.body] ⟨(zBi 0 (xAr a0 a1)), [false, false, false, false, false, false, false, false, false, true], [xAe r1, xAe r2, xAa r3, xAa r4, xAo r5, xAa r6, xAa r7, xAv r8, xAb r9, xAa r10, xAb r11, xAa r12, xAb r13, xAg r14, xAg r15, xAb r16, xAg r17, xAk r18, xAa r19, xAa r20, xAw r21, xAb r22], []⟩ = some (.done (xAs false) [AbC 8 (xAl a0 1048576) (xAe r1), (decide ((r1 : Int) < 0)) = false, AbC 8 (xAl a1 r1) (xAe r2), (decide ((r2 : Int) < 0)) = false, AbC 10 (xAc a0) (xAa r3), AbC 10 (xAc a1) (xAa r4), AbC 17 (xAH r3 r4) (xAo r5), AbC 10 (xAc a0) (xAa r6), AbC 10 (xAc a1) (xAa r7), AbC 18 (xAt r6 r7) (xAv r8), AbC 12 (xAf r8.1 r5) (xAb r9), (!r9) = false, AbC 10 (xAc a0) (xAa r10), AbC 12 (xAf r6 r10) (xAb r11), (!r11) = false, AbC 10 (xAc a1) (xAa r12), AbC 12 (xAf r7 r12) (xAb r13), (!r13) = false, AbC 13 (xAm r6 1) (xAg r14), List.length r14.2.1 = List.length (Val.list r6), List.length r14.2.2.1 = List.length (Val.columns r6), List.length r14.2.2.2 = List.length (Val.rows r6), AbC 13 (xAm r7 r14.1) (xAg r15), List.length r15.2.1 = List.length (Val.list r7), List.length r15.2.2.1 = List.length (Val.columns r7), List.length r15.2.2.2 = List.length (Val.rows r7), (decide ((r15.1 : Int) < 0)) = false, AbC 12 (xAf r8.1 r5) (xAb r16), (!r16) = false, AbC 13 (xAm r8.1 1) (xAg r17), List.length r17.2.1 = List.length (Val.list r8.1), List.length r17.2.2.1 = List.length (Val.columns r8.1), List.length r17.2.2.2 = List.length (Val.rows r8.1), AbC 14 (xAx (Val.mk (Val.kind r8.1) (Val.n r8.1) (Val.step r8.1) (Val.text r8.1) r17.2.1 r17.2.2.1 r17.2.2.2) 1) (xAk r18), (decide ((r18 : Int) < 0)) = false, ((r18 : Int) != r17.1) = false, AbC 10 (xAc a0) (xAa r19), AbC 10 (xAc a1) (xAa r20), AbC 18 (xAt r19 r20) (xAw r21), AbC 12 (xAf (Val.mk (Val.kind r21.1) (Val.n r21.1) (Val.step r21.1) (Val.text r21.1) [] [] []) r5) (xAb r22), (!r22) = true]) := by kernel_rfl
theorem p5_e_25 (a0 a1 : Val) (r1 r2 : Int) (r3 r4 r5 r6 r7 : Val) (r8 : Val × Bool) (r9 : Bool) (r10 : Val) (r11 : Bool) (r12 : Val) (r13 : Bool) (r14 : Int × (List Val) × (List Str) × (List Rowd)) (r15 : Int × (List Val) × (List Str) × (List Rowd)) (r16 : Bool) (r17 : Int × (List Val) × (List Str) × (List Rowd)) (r18 : Int) (r19 r20 : Val) (r21 : Val × Bool) (r22 : Bool) (r23 : Int) : run tt (AbsCalls Try.prog) I5 3000 false [.code I5.body] ⟨(zBi 0 (xAr a0 a1)), [false, false, false, false, false, false, false, false, false, false, true], [xAe r1, xAe r2, xAa r3, xAa r4, xAo r5, xAa r6, xAa r7, xAv r8, xAb r9, xAa r10, xAb r11, xAa r12, xAb r13, xAg r14, xAg r15, xAb r16, xAg r17, xAk r18, xAa r19, xAa r20, xAw r21, xAb r22, xAk r23], []⟩ = some (.done (xAs false) [AbC 8 (xAl a0 1048576) (xAe r1), (decide ((r1 : Int) < 0)) = false, AbC 8 (xAl a1 r1) (xAe r2), (decide ((r2 : Int) < 0)) = false, AbC 10 (xAc a0) (xAa r3), AbC 10 (xAc a1) (xAa r4), AbC 17 (xAH r3 r4) (xAo r5), AbC 10 (xAc a0) (xAa r6), AbC 10 (xAc a1) (xAa r7), AbC 18 (xAt r6 r7) (xAv r8), AbC 12 (xAf r8.1 r5) (xAb r9), (!r9) = false, AbC 10 (xAc a0) (xAa r10), AbC 12 (xAf r6 r10) (xAb r11), (!r11) = false, AbC 10 (xAc a1) (xAa r12), AbC 12 (xAf r7 r12) (xAb r13), (!r13) = false, AbC 13 (xAm r6 1) (xAg r14), List.length r14.2.1 = List.length (Val.list r6), List.length r14.2.2.1 = List.length (Val.columns r6), List.length r14.2.2.2 = List.length (Val.rows r6), AbC 13 (xAm r7 r14.1) (xAg r15), List.length r15.2.1 = List.length (Val.list r7), List.length r15.2.2.1 = List.length (Val.columns r7), List.length r15.2.2.2 = List.length (Val.rows r7), (decide ((r15.1 : Int) < 0)) = false, AbC 12 (xAf r8.1 r5) (xAb r16), (!r16) = false, AbC 13 (xAm r8.1 1) (xAg r17), List.length r17.2.1 = List.length (Val.list r8.1), List.length r17.2.2.1 = List.length (Val.columns r8.1), List.length r17.2.2.2 = List.length (Val.rows r8.1), AbC 14 (xAx (Val.mk (Val.kind r8.1) (Val.n r8.1) (Val.step r8.1) (Val.text r8.1) r17.2.1 r17.2.2.1 r17.2.2.2) 1) (xAk r18), (decide ((r18 : Int) < 0)) = false, ((r18 : Int) != r17.1) = false, AbC 10 (xAc a0) (xAa r19), AbC 10 (xAc a1) (xAa r20), AbC 18 (xAt r19 r20) (xAw r21), AbC 12 (xAf (Val.mk (Val.kind r21.1) (Val.n r21.1) (Val.step r21.1) (Val.text r21.1) [] [] []) r5) (xAb r22), (!r22) = false, AbC 14 (xAx (Val.mk (Val.kind r8.1) (Val.n r8.1) (Val.step r8.1) (Val.text r8.1) r17.2.1 r17.2.2.1 r17.2.2.2) 1) (xAk r23), (decide ((r23 : Int) < 0)) = true]) := by kernel_rfl
theorem p5_e_26 (a0 a1 : Val) (r1 r2 : Int) (r3 r4 r5 r6 r7 : Val) (r8 : Val × Bool) (r9 : Bool) (r10 : Val) (r11 : Bool) (r12 : Val) (r13 : Bool) (r14 : Int × (List Val) × (List Str) × (List Rowd)) (r15 : Int × (List Val) × (List Str) × (List Rowd)) (r16 : Bool) (r17 : Int × (List Val) × (List Str) × (List Rowd)) (r18 : Int) (r19 r20 : Val) (r21 : Val × Bool) (r22 : Bool) (r23 : Int) : run tt (AbsCalls Try.prog) I5 3000 false [.code I5.body] ⟨(zBi 0 (xAr a0 a1)), [false, false, false, false, false, false, false, false, false, false, false, true], [xAe r1, xAe r2, xAa r3, xAa r4, xAo r5, xAa r6, xAa r7, xAv r8, xAb r9, xAa r10, xAb r11, xAa r12, xAb r13, xAg r14, xAg r15, xAb r16, xAg r17, xAk r18, xAa r19, xAa r20, xAw r21, xAb r22, xAk r23], []⟩ = some (.done (xAs false) [AbC 8 (xAl a0 1048576) (xAe r1), (decide ((r1 : Int) < 0)) = false, AbC 8 (xAl a1 r1) (xAe r2), (decide ((r2 : Int) < 0)) = false, AbC 10 (xAc a0) (xAa r3), AbC 10 (xAc a1) (xAa r4), AbC 17 (xAH r3 r4) (xAo r5), AbC 10 (xAc a0) (xAa r6), AbC 10 (xAc a1) (xAa r7), AbC 18 (xAt r6 r7) (xAv r8), AbC 12 (xAf r8.1 r5) (xAb r9), (!r9) = false, AbC 10 (xAc a0) (xAa r10), AbC 12 (xAf r6 r10) (xAb r11), (!r11) = false, AbC 10 (xAc a1) (xAa r12), AbC 12 (xAf r7 r12) (xAb r13), (!r13) = false, AbC 13 (xAm r6 1) (xAg r14), List.length r14.2.1 = List.length (Val.list r6), List.length r14.2.2.1 = List.length (Val.columns r6), List.length r14.2.2.2 = List.length (Val.rows r6), AbC 13 (xAm r7 r14.1) (xAg r15), List.length r15.2.1 = List.length (Val.list r7), List.length r15.2.2.1 = List.length (Val.columns r7), List.length r15.2.2.2 = List.length (Val.rows r7), (decide ((r15.1 : Int) < 0)) = false, AbC 12 (xAf r8.1 r5) (xAb r16), (!r16) = false, AbC 13 (xAm r8.1 1) (xAg r17), List.length r17.2.1 = List.length (Val.list r8.1), List.length r17.2.2.1 = List.length (Val.columns r8.1), List.length r17.2.2.2 = List.length (Val.rows r8.1), AbC 14 (xAx (Val.mk (Val.kind r8.1) (Val.n r8.1) (Val.step r8.1) (Val.text r8.1) r17.2.1 r17.2.2.1 r17.2.2.2) 1) (xAk r18), (decide ((r18 : Int) < 0)) = false, ((r18 : Int) != r17.1) = false, AbC 10 (xAc a0) (xAa r19), AbC 10 (xAc a1) (xAa r20), AbC 18 (xAt r19 r20) (xAw r21), AbC 12 (xAf (Val.mk (Val.kind r21.1) (Val.n r21.1) (Val.step r21.1) (Val.text r21.1) [] [] []) r5) (xAb r22), (!r22) = false, AbC 14 (xAx (Val.mk (Val.kind r8.1) (Val.n r8.1) (Val.step r8.1) (Val.text r8.1) r17.2.1 r17.2.2.1 r17.2.2.2) 1) (xAk r23), (decide ((r23 : Int) < 0)) = false, ((r23 : Int) != r17.1) = true]) := by kernel_rfl
theorem p5_e_27 (a0 a1 : Val) (r1 r2 : Int) (r3 r4 r5 r6 r7 : Val) (r8 : Val × Bool) (r9 : Bool) (r10 : Val) (r11 : Bool) (r12 : Val) (r13 : Bool) (r14 : Int × (List Val) × (List Str) × (List Rowd)) (r15 : Int × (List Val) × (List Str) × (List Rowd)) (r16 : Bool) (r17 : Int × (List Val) × (List Str) × (List Rowd)) (r18 : Int) (r19 r20 : Val) (r21 : Val × Bool) (r22 : Bool) (r23 : Int) : run tt (AbsCalls Try.prog) I5 3000 false [.code I5.body] ⟨(zBi 0 (xAr a0 a1)), [false, false, false, false, false, false, false, false, false, false, false, false], [xAe r1, xAe r2, xAa r3, xAa r4, xAo r5, xAa r6, xAa r7, xAv r8, xAb r9, xAa r10, xAb r11, xAa r12, xAb r13, xAg r14, xAg r15, xAb r16, xAg r17, xAk r18, xAa r19, xAa r20, xAw r21, xAb r22, xAk r23], []⟩ = some (.done (xAs true) [AbC 8 (xAl a0 1048576) (xAe r1), (decide ((r1 : Int) < 0)) = false, AbC 8 (xAl a1 r1) (xAe r2), (decide ((r2 : Int) < 0)) = false, AbC 10 (xAc a0) (xAa r3), AbC 10 (xAc a1) (xAa r4), AbC 17 (xAH r3 r4) (xAo r5), AbC 10 (xAc a0) (xAa r6), AbC 10 (xAc a1) (xAa r7), AbC 18 (xAt r6 r7) (xAv r8), AbC 12 (xAf r8.1 r5) (xAb r9), (!r9) = false, AbC 10 (xAc a0) (xAa r10), AbC 12 (xAf r6 r10) (xAb r11), (!r11) = false, AbC 10 (xAc a1) (xAa r12), AbC 12 (xAf r7 r12) (xAb r13), (!r13) = false, AbC 13 (xAm r6 1) (xAg r14), List.length r14.2.1 = List.length (Val.list r6), List.length r14.2.2.1 = List.length (Val.columns r6), List.length r14.2.2.2 = List.length (Val.rows r6), AbC 13 (xAm r7 r14.1) (xAg r15), List.length r15.2.1 = List.length (Val.list r7), List.length r15.2.2.1 = List.length (Val.columns r7), List.length r15.2.2.2 = List.length (Val.rows r7), (decide ((r15.1 : Int) < 0)) = false, AbC 12 (xAf r8.1 r5) (xAb r16), (!r16) = false, AbC 13 (xAm r8.1 1) (xAg r17), List.length r17.2.1 = List.length (Val.list r8.1), List.length r17.2.2.1 = List.length (Val.columns r8.1), List.length r17.2.2.2 = List.length (Val.rows r8.1), AbC 14 (xAx (Val.mk (Val.kind r8.1) (Val.n r8.1) (Val.step r8.1) (Val.text r8.1) r17.2.1 r17.2.2.1 r17.2.2.2) 1) (xAk r18), (decide ((r18 : Int) < 0)) = false, ((r18 : Int) != r17.1) = false, AbC 10 (xAc a0) (xAa r19), AbC 10 (xAc a1) (xAa r20), AbC 18 (xAt r19 r20) (xAw r21), AbC 12 (xAf (Val.mk (Val.kind r21.1) (Val.n r21.1) (Val.step r21.1) (Val.text r21.1) [] [] []) r5) (xAb r22), (!r22) = false, AbC 14 (xAx (Val.mk (Val.kind r8.1) (Val.n r8.1) (Val.step r8.1) (Val.text r8.1) r17.2.1 r17.2.2.1 r17.2.2.2) 1) (xAk r23), (decide ((r23 : Int) < 0)) = false, ((r23 : Int) != r17.1) = false]) := by kernel_rfl
theorem p5_e_28 (a0 a1 : Val) (r1 r2 : Int) (r3 r4 r5 r6 r7 : Val) (r8 : Val × Bool) (r9 : Bool) (r10 : Val) (r11 : Bool) (r12 : Val) (r13 : Bool) (r14 : Int × (List Val) × (List Str) × (List Rowd)) (r15 : Int × (List Val) × (List Str) × (List Rowd)) (r16 : Bool) (r17 : Int × (List Val) × (List Str) × (List Rowd)) (r18 : Int) (r19 r20 : Val) (r21 : Val × Bool) (r22 : Bool) : run tt (AbsCalls Try.prog) I5 3000 false [.code I5.body] ⟨(zBi 0 (xAr a0 a1)), [false, false, false, false, false, false, false, false, false, true], [xAe r1, xAe r2, xAa r3, xAa r4, xAo r5, xAa r6, xAa r7, xAv r8, xAb r9, xAa r10, xAb r11, xAa r12, xAb r13, xAg r14, xAg r15, xAb r16, xAg r17, xAk r18, xAa r19, xAa r20, xAv r21, xAb r22], []⟩ = some (.done (xAs false) [AbC 8 (xAl a0 1048576) (xAe r1), (decide ((r1 : Int) < 0)) = false, AbC 8 (xAl a1 r1) (xAe r2), (decide ((r2 : Int) < 0)) = false, AbC 10 (xAc a0) (xAa r3), AbC 10 (xAc a1) (xAa r4), AbC 17 (xAH r3 r4) (xAo r5), AbC 10 (xAc a0) (xAa r6), AbC 10 (xAc a1) (xAa r7), AbC 18 (xAt r6 r7) (xAv r8), AbC 12 (xAf r8.1 r5) (xAb r9), (!r9) = false, AbC 10 (xAc a0) (xAa r10), AbC 12 (xAf r6 r10) (xAb r11), (!r11) = false, AbC 10 (xAc a1) (xAa r12), AbC 12 (xAf r7 r12) (xAb r13), (!r13) = false, AbC 13 (xAm r6 1) (xAg r14), List.length r14.2.1 = List.length (Val.list r6), List.length r14.2.2.1 = List.length (Val.columns r6), List.length r14.2.2.2 = List.length (Val.rows r6), AbC 13 (xAm r7 r14.1) (xAg r15), List.length r15.2.1 = List.length (Val.list r7), List.length r15.2.2.1 = List.length (Val.columns r7), List.length r15.2.2.2 = List.length (Val.rows r7), (decide ((r15.1 : Int) < 0)) = false, AbC 12 (xAf r8.1 r5) (xAb r16), (!r16) = false, AbC 13 (xAm r8.1 1) (xAg r17), List.length r17.2.1 = List.length (Val.list r8.1), List.length r17.2.2.1 = List.length (Val.columns r8.1), List.length r17.2.2.2 = List.length (Val.rows r8.1), AbC 14 (xAx (Val.mk (Val.kind r8.1) (Val.n r8.1) (Val.step r8.1) (Val.text r8.1) r17.2.1 r17.2.2.1 r17.2.2.2) 1) (xAk r18), (decide ((r18 : Int) < 0)) = false, ((r18 : Int) != r17.1) = false, AbC 10 (xAc a0) (xAa r19), AbC 10 (xAc a1) (xAa r20), AbC 18 (xAt r19 r20) (xAv r21), AbC 12 (xAf r21.1 r5) (xAb r22), (!r22) = true]) := by kernel_rfl
theorem p5_e_29 (a0 a1 : Val) (r1 r2 : Int) (r3 r4 r5 r6 r7 : Val) (r8 : Val × Bool) (r9 : Bool) (r10 : Val) (r11 : Bool) (r12 : Val) (r13 : Bool) (r14 : Int × (List Val) × (List Str) × (List Rowd)) (r15 : Int × (List Val) × (List Str) × (List Rowd)) (r16 : Bool) (r17 : Int × (List Val) × (List Str) × (List Rowd)) (r18 : Int) (r19 r20 : Val) (r21 : Val × Bool) (r22 : Bool) (r23 : Int) : run tt (AbsCalls Try.prog) I5 3000 false [.code I5.body] ⟨(zBi 0 (xAr a0 a1)), [false, false, false, false, false, false, false, false, false, false, true], [xAe r1, xAe r2, xAa r3, xAa r4, xAo r5, xAa r6, xAa r7, xAv r8, xAb r9, xAa r10, xAb r11, xAa r12, xAb r13, xAg r14, xAg r15, xAb r16, xAg r17, xAk r18, xAa r19, xAa r20, xAv r21, xAb r22, xAk r23], []⟩ = some (.done (xAs false) [AbC 8 (xAl a0 1048576) (xAe r1), (decide ((r1 : Int) < 0)) = false, AbC 8 (xAl a1 r1) (xAe r2), (decide ((r2 : Int) < 0)) = false, AbC 10 (xAc a0) (xAa r3), AbC 10 (xAc a1) (xAa r4), AbC 17 (xAH r3 r4) (xAo r5), AbC 10 (xAc a0) (xAa r6), AbC 10 (xAc a1) (xAa r7), AbC 18 (xAt r6 r7) (xAv r8), AbC 12 (xAf r8.1 r5) (xAb r9), (!r9) = false, AbC 10 (xAc a0) (xAa r10), AbC 12 (xAf r6 r10) (xAb r11), (!r11) = false, AbC 10 (xAc a1) (xAa r12), AbC 12 (xAf r7 r12) (xAb r13), (!r13) = false, AbC 13 (xAm r6 1) (xAg r14), List.length r14.2.1 = List.length (Val.list r6), List.length r14.2.2.1 = List.length (Val.columns r6), List.length r14.2.2.2 = List.length (Val.rows r6), AbC 13 (xAm r7 r14.1) (xAg r15), List.length r15.2.1 = List.length (Val.list r7), List.length r15.2.2.1 = List.length (Val.columns r7), List.length r15.2.2.2 = List.length (Val.rows r7), (decide ((r15.1 : Int) < 0)) = false, AbC 12 (xAf r8.1 r5) (xAb r16), (!r16) = false, AbC 13 (xAm r8.1 1) (xAg r17), List.length r17.2.1 = List.length (Val.list r8.1), List.length r17.2.2.1 = List.length (Val.columns r8.1), List.length r17.2.2.2 = List.length (Val.rows r8.1), AbC 14 (xAx (Val.mk (Val.kind r8.1) (Val.n r8.1) (Val.step r8.1) (Val.text r8.1) r17.2.1 r17.2.2.1 r17.2.2.2) 1) (xAk r18), (decide ((r18 : Int) < 0)) = false, ((r18 : Int) != r17.1) = false, AbC 10 (xAc a0) (xAa r19), AbC 10 (xAc a1) (xAa r20), AbC 18 (xAt r19 r20) (xAv r21), AbC 12 (xAf r21.1 r5) (xAb r22), (!r22) = false, AbC 14 (xAx (Val.mk (Val.kind r8.1) (Val.n r8.1) (Val.step r8.1) (Val.text r8.1) r17.2.1 r17.2.2.1 r17.2.2.2) 1) (xAk r23), (decide ((r23 : Int) < 0)) = true]) := by kernel_rfl
theorem p5_e_30 (a0 a1 : Val) (r1 r2 : Int) (r3 r4 r5 r6 r7 : Val) (r8 : Val × Bool) (r9 : Bool) (r10 : Val) (r11 : Bool) (r12 : Val) (r13 : Bool) (r14 : Int × (List Val) × (List Str) × (List Rowd)) (r15 : Int × (List Val) × (List Str) × (List Rowd)) (r16 : Bool) (r17 : Int × (List Val) × (List Str) × (List Rowd)) (r18 : Int) (r19 r20 : Val) (r21 : Val × Bool) (r22 : Bool) (r23 : Int) : run tt (AbsCalls Try.prog) I5 3000 false [.code I5.body] ⟨(zBi 0 (xAr a0 a1)), [false, false, false, false, false, false, false, false, false, false, false, true], [xAe r1, xAe r2, xAa r3, xAa r4, xAo r5, xAa r6, xAa r7, xAv r8, xAb r9, xAa r10, xAb r11, xAa r12, xAb r13, xAg r14, xAg r15, xAb r16, xAg r17, xAk r18, xAa r19, xAa r20, xAv r21, xAb r22, xAk r23], []⟩ = some (.done (xAs false) [AbC 8 (xAl a0 1048576) (xAe r1), (decide ((r1 : Int) < 0)) = false, AbC 8 (xAl a1 r1) (xAe r2), (decide ((r2 : Int) < 0)) = false, AbC 10 (xAc a0) (xAa r3), AbC 10 (xAc a1) (xAa r4), AbC 17 (xAH r3 r4) (xAo r5), AbC 10 (xAc a0) (xAa r6), AbC 10 (xAc a1) (xAa r7), AbC 18 (xAt r6 r7) (xAv r8), AbC 12 (xAf r8.1 r5) (xAb r9), (!r9) = false, AbC 10 (xAc a0) (xAa r10), AbC 12 (xAf r6 r10) (xAb r11), (!r11) = false, AbC 10 (xAc a1) (xAa r12), AbC 12 (xAf r7 r12) (xAb r13), (!r13) = false, AbC 13 (xAm r6 1) (xAg r14), List.length r14.2.1 = List.length (Val.list r6), List.length r14.2.2.1 = List.length (Val.columns r6), List.length r14.2.2.2 = List.length (Val.rows r6), AbC 13 (xAm r7 r14.1) (xAg r15), List.length r15.2.1 = List.length (Val.list r7), List.length r15.2.2.1 = List.length (Val.columns r7), List.length r15.2.2.2 = List.length (Val.rows r7), (decide ((r15.1 : Int) < 0)) = false, AbC 12 (xAf r8.1 r5) (xAb r16), (!r16) = false, AbC 13 (xAm r8.1 1) (xAg r17), List.length r17.2.1 = List.length (Val.list r8.1), List.length r17.2.2.1 = List.length (Val.columns r8.1), List.length r17.2.2.2 = List.length (Val.rows r8.1), AbC 14 (xAx (Val.mk (Val.kind r8.1) (Val.n r8.1) (Val.step r8.1) (Val.text r8.1) r17.2.1 r17.2.2.1 r17.2.2.2) 1) (xAk r18), (decide ((r18 : Int) < 0)) = false, ((r18 : Int) != r17.1) = false, AbC 10 (xAc a0) (xAa r19), AbC 10 (xAc a1) (xAa r20), AbC 18 (xAt r19 r20) (xAv r21), AbC 12 (xAf r21.1 r5) (xAb r22), (!r22) = false, AbC 14 (xAx (Val.mk (Val.kind r8.1) (Val.n r8.1) (Val.step r8.1) (Val.text r8.1) r17.2.1 r17.2.2.1 r17.2.2.2) 1) (xAk r23), (decide ((r23 : Int) < 0)) = false, ((r23 : Int) != r17.1) = true]) := by kernel_rfl
theorem p5_e_31 (a0 a1 : Val) (r1 r2 : Int) (r3 r4 r5 r6 r7 : Val) (r8 : Val × Bool) (r9 : Bool) (r10 : Val) (r11 : Bool) (r12 : Val) (r13 : Bool) (r14 : Int × (List Val) × (List Str) × (List Rowd)) (r15 : Int × (List Val) × (List Str) × (List Rowd)) (r16 : Bool) (r17 : Int × (List Val) × (List Str) × (List Rowd)) (r18 : Int) (r19 r20 : Val) (r21 : Val × Bool) (r22 : Bool) (r23 : Int) : run tt (AbsCalls Try.prog) I5 3000 false [.code I5.body] ⟨(zBi 0 (xAr a0 a1)), [false, false, false, false, false, false, false, false, false, false, false, false], [xAe r1, xAe r2, xAa r3, xAa r4, xAo r5, xAa r6, xAa r7, xAv r8, xAb r9, xAa r10, xAb r11, xAa r12, xAb r13, xAg r14, xAg r15, xAb r16, xAg r17, xAk r18, xAa r19, xAa r20, xAv r21, xAb r22, xAk r23], []⟩ = some (.done (xAs true) [AbC 8 (xAl a0 1048576) (xAe r1), (decide ((r1 : Int) < 0)) = false, AbC 8 (xAl a1 r1) (xAe r2), (decide ((r2 : Int) < 0)) = false, AbC 10 (xAc a0) (xAa r3), AbC 10 (xAc a1) (xAa r4), AbC 17 (xAH r3 r4) (xAo r5), AbC 10 (xAc a0) (xAa r6), AbC 10 (xAc a1) (xAa r7), AbC 18 (xAt r6 r7) (xAv r8), AbC 12 (xAf r8.1 r5) (xAb r9), (!r9) = false, AbC 10 (xAc a0) (xAa r10), AbC 12 (xAf r6 r10) (xAb r11), (!r11) = false, AbC 10 (xAc a1) (xAa r12), AbC 12 (xAf r7 r12) (xAb r13), (!r13) = false, AbC 13 (xAm r6 1) (xAg r14), List.length r14.2.1 = List.length (Val.list r6), List.length r14.2.2.1 = List.length (Val.columns r6), List.length r14.2.2.2 = List.length (Val.rows r6), AbC 13 (xAm r7 r14.1) (xAg r15), List.length r15.2.1 = List.length (Val.list r7), List.length r15.2.2.1 = List.length (Val.columns r7), List.length r15.2.2.2 = List.length (Val.rows r7), (decide ((r15.1 : Int) < 0)) = false, AbC 12 (xAf r8.1 r5) (xAb r16), (!r16) = false, AbC 13 (xAm r8.1 1) (xAg r17), List.length r17.2.1 = List.length (Val.list r8.1), List.length r17.2.2.1 = List.length (Val.columns r8.1), List.length r17.2.2.2 = List.length (Val.rows r8.1), AbC 14 (xAx (Val.mk (Val.kind r8.1) (Val.n r8.1) (Val.step r8.1) (Val.text r8.1) r17.2.1 r17.2.2.1 r17.2.2.2) 1) (xAk r18), (decide ((r18 : Int) < 0)) = false, ((r18 : Int) != r17.1) = false, AbC 10 (xAc a0) (xAa r19), AbC 10 (xAc a1) (xAa r20), AbC 18 (xAt r19 r20) (xAv r21), AbC 12 (xAf r21.1 r5) (xAb r22), (!r22) = false, AbC 14 (xAx (Val.mk (Val.kind r8.1) (Val.n r8.1) (Val.step r8.1) (Val.text r8.1) r17.2.1 r17.2.2.1 r17.2.2.2) 1) (xAk r23), (decide ((r23 : Int) < 0)) = false, ((r23 : Int) != r17.1) = false]) := by kernel_rfl
theorem c5_e {N : Nat} : ∀ a0 a1 r, xFl N a0 a1 = some r → Reach Try.prog Try.f5 I5 [.code I5.body] (zBi 0 (xAr a0 a1)) (xAs r) := by
 intro a0 a1 r h
 unfold xFl at h
 obtain ⟨r1, h0, h⟩ := bind_inv h
 rcases cond_inv h with ⟨h1, h⟩ | ⟨h1, h⟩
 ·obtain rfl := Option.some.inj h
  exact Reach.done ttok mix fk5 (p5_e_0 a0 a1 r1) (obs_cons (xAp h0) (obs_cons h1 obs_nil))
 ·obtain ⟨r2, h2, h⟩ := bind_inv h
  rcases cond_inv h with ⟨h3, h⟩ | ⟨h3, h⟩
  ·obtain rfl := Option.some.inj h
   exact Reach.done ttok mix fk5 (p5_e_1 a0 a1 r1 r2) (obs_cons (xAp h0) (obs_cons h1 (obs_cons (xAp h2) (obs_cons h3 obs_nil))))
  ·obtain ⟨r3, h4, h⟩ := bind_inv h
   obtain ⟨r4, h5, h⟩ := bind_inv h
   obtain ⟨r5, h6, h⟩ := bind_inv h
   obtain ⟨r6, h7, h⟩ := bind_inv h
   obtain ⟨r7, h8, h⟩ := bind_inv h
   obtain ⟨r8, h9, h⟩ := bind_inv h
   rcases cond_inv h with ⟨h10, h⟩ | ⟨h10, h⟩
   ·obtain ⟨h11, h⟩ := ite_inv h
    obtain ⟨h12, h⟩ := ite_inv h
    obtain ⟨h13, h⟩ := ite_inv h
    obtain ⟨r9, h14, h⟩ := bind_inv h
    rcases cond_inv h with ⟨h15, h⟩ | ⟨h15, h⟩
    ·obtain rfl := Option.some.inj h
     exact Reach.done ttok mix fk5 (p5_e_2 a0 a1 r1 r2 r3 r4 r5 r6 r7 r8 r9) (obs_cons (xAp h0) (obs_cons h1 (obs_cons (xAp h2) (obs_cons h3 (obs_cons (xAd h4) (obs_cons (xAd h5) (obs_cons (xAK h6) (obs_cons (xAd h7) (obs_cons (xAd h8) (obs_cons (xAP (xAy h9) h10 h11 h12 h13) (obs_cons (xAh h14) (obs_cons h15 obs_nil))))))))))))
    ·obtain ⟨r10, h16, h⟩ := bind_inv h
     obtain ⟨r11, h17, h⟩ := bind_inv h
     rcases cond_inv h with ⟨h18, h⟩ | ⟨h18, h⟩
     ·obtain rfl := Option.some.inj h
      exact Reach.done ttok mix fk5 (p5_e_3 a0 a1 r1 r2 r3 r4 r5 r6 r7 r8 r9 r10 r11) (obs_cons (xAp h0) (obs_cons h1 (obs_cons (xAp h2) (obs_cons h3 (obs_cons (xAd h4) (obs_cons (xAd h5) (obs_cons (xAK h6) (obs_cons (xAd h7) (obs_cons (xAd h8) (obs_cons (xAP (xAy h9) h10 h11 h12 h13) (obs_cons (xAh h14) (obs_cons h15 (obs_cons (xAd h16) (obs_cons (xAh h17) (obs_cons h18 obs_nil)))))))))))))))
     ·obtain ⟨r12, h19, h⟩ := bind_inv h
      obtain ⟨r13, h20, h⟩ := bind_inv h
      rcases cond_inv h with ⟨h21, h⟩ | ⟨h21, h⟩
      ·obtain rfl := Option.some.inj h
       exact Reach.done ttok mix fk5 (p5_e_4 a0 a1 r1 r2 r3 r4 r5 r6 r7 r8 r9 r10 r11 r12 r13) (obs_cons (xAp h0) (obs_cons h1 (obs_cons (xAp h2) (obs_cons h3 (obs_cons (xAd h4) (obs_cons (xAd h5) (obs_cons (xAK h6) (obs_cons (xAd h7) (obs_cons (xAd h8) (obs_cons (xAP (xAy h9) h10 h11 h12 h13) (obs_cons (xAh h14) (obs_cons h15 (obs_cons (xAd h16) (obs_cons (xAh h17) (obs_cons h18 (obs_cons (xAd h19) (obs_cons (xAh h20) (obs_cons h21 obs_nil))))))))))))))))))
      ·obtain ⟨r14, h22, h⟩ := bind_inv h
       obtain ⟨h23, h⟩ := ite_inv h
       obtain ⟨h24, h⟩ := ite_inv h
       obtain ⟨h25, h⟩ := ite_inv h
       obtain ⟨r15, h26, h⟩ := bind_inv h
       obtain ⟨h27, h⟩ := ite_inv h
       obtain ⟨h28, h⟩ := ite_inv h
       obtain ⟨h29, h⟩ := ite_inv h
       rcases cond_inv h with ⟨h30, h⟩ | ⟨h30, h⟩
       ·obtain rfl := Option.some.inj h
        exact Reach.done ttok mix fk5 (p5_e_5 a0 a1 r1 r2 r3 r4 r5 r6 r7 r8 r9 r10 r11 r12 r13 r14 r15) (obs_cons (xAp h0) (obs_cons h1 (obs_cons (xAp h2) (obs_cons h3 (obs_cons (xAd h4) (obs_cons (xAd h5) (obs_cons (xAK h6) (obs_cons (xAd h7) (obs_cons (xAd h8) (obs_cons (xAP (xAy h9) h10 h11 h12 h13) (obs_cons (xAh h14) (obs_cons h15 (obs_cons (xAd h16) (obs_cons (xAh h17) (obs_cons h18 (obs_cons (xAd h19) (obs_cons (xAh h20) (obs_cons h21 (obs_cons (xAn h22) (obs_cons h23 (obs_cons h24 (obs_cons h25 (obs_cons (xAn h26) (obs_cons h27 (obs_cons h28 (obs_cons h29 (obs_cons h30 (obs_cons rfl obs_nil))))))))))))))))))))))))))))
       ·obtain ⟨r16, h31, h⟩ := bind_inv h
        rcases cond_inv h with ⟨h32, h⟩ | ⟨h32, h⟩
        ·obtain rfl := Option.some.inj h
         exact Reach.done ttok mix fk5 (p5_e_6 a0 a1 r1 r2 r3 r4 r5 r6 r7 r8 r9 r10 r11 r12 r13 r14 r15 r16) (obs_cons (xAp h0) (obs_cons h1 (obs_cons (xAp h2) (obs_cons h3 (obs_cons (xAd h4) (obs_cons (xAd h5) (obs_cons (xAK h6) (obs_cons (xAd h7) (obs_cons (xAd h8) (obs_cons (xAP (xAy h9) h10 h11 h12 h13) (obs_cons (xAh h14) (obs_cons h15 (obs_cons (xAd h16) (obs_cons (xAh h17) (obs_cons h18 (obs_cons (xAd h19) (obs_cons (xAh h20) (obs_cons h21 (obs_cons (xAn h22) (obs_cons h23 (obs_cons h24 (obs_cons h25 (obs_cons (xAn h26) (obs_cons h27 (obs_cons h28 (obs_cons h29 (obs_cons h30 (obs_cons (xAh h31) (obs_cons h32 obs_nil)))))))))))))))))))))))))))))
        ·obtain ⟨r17, h33, h⟩ := bind_inv h
         obtain ⟨r18, h34, h⟩ := bind_inv h
         rcases cond_inv h with ⟨h35, h⟩ | ⟨h35, h⟩
         ·obtain rfl := Option.some.inj h
          exact Reach.done ttok mix fk5 (p5_e_7 a0 a1 r1 r2 r3 r4 r5 r6 r7 r8 r9 r10 r11 r12 r13 r14 r15 r16 r17 r18) (obs_cons (xAp h0) (obs_cons h1 (obs_cons (xAp h2) (obs_cons h3 (obs_cons (xAd h4) (obs_cons (xAd h5) (obs_cons (xAK h6) (obs_cons (xAd h7) (obs_cons (xAd h8) (obs_cons (xAP (xAy h9) h10 h11 h12 h13) (obs_cons (xAh h14) (obs_cons h15 (obs_cons (xAd h16) (obs_cons (xAh h17) (obs_cons h18 (obs_cons (xAd h19) (obs_cons (xAh h20) (obs_cons h21 (obs_cons (xAn h22) (obs_cons h23 (obs_cons h24 (obs_cons h25 (obs_cons (xAn h26) (obs_cons h27 (obs_cons h28 (obs_cons h29 (obs_cons h30 (obs_cons (xAh h31) (obs_cons h32 (obs_cons (xBJ h33) (obs_cons (xAC h34) (obs_cons h35 obs_nil))))))))))))))))))))))))))))))))
         ·rcases cond_inv h with ⟨h36, h⟩ | ⟨h36, h⟩
          ·obtain rfl := Option.some.inj h
           exact Reach.done ttok mix fk5 (p5_e_8 a0 a1 r1 r2 r3 r4 r5 r6 r7 r8 r9 r10 r11 r12 r13 r14 r15 r16 r17 r18) (obs_cons (xAp h0) (obs_cons h1 (obs_cons (xAp h2) (obs_cons h3 (obs_cons (xAd h4) (obs_cons (xAd h5) (obs_cons (xAK h6) (obs_cons (xAd h7) (obs_cons (xAd h8) (obs_cons (xAP (xAy h9) h10 h11 h12 h13) (obs_cons (xAh h14) (obs_cons h15 (obs_cons (xAd h16) (obs_cons (xAh h17) (obs_cons h18 (obs_cons (xAd h19) (obs_cons (xAh h20) (obs_cons h21 (obs_cons (xAn h22) (obs_cons h23 (obs_cons h24 (obs_cons h25 (obs_cons (xAn h26) (obs_cons h27 (obs_cons h28 (obs_cons h29 (obs_cons h30 (obs_cons (xAh h31) (obs_cons h32 (obs_cons (xBJ h33) (obs_cons (xAC h34) (obs_cons h35 (obs_cons h36 obs_nil)))))))))))))))))))))))))))))))))
          ·obtain ⟨r19, h37, h⟩ := bind_inv h
           obtain ⟨r20, h38, h⟩ := bind_inv h
           obtain ⟨r21, h39, h⟩ := bind_inv h
           rcases cond_inv h with ⟨h40, h⟩ | ⟨h40, h⟩
           ·obtain ⟨h41, h⟩ := ite_inv h
            obtain ⟨h42, h⟩ := ite_inv h
            obtain ⟨h43, h⟩ := ite_inv h
            obtain ⟨r22, h44, h⟩ := bind_inv h
            rcases cond_inv h with ⟨h45, h⟩ | ⟨h45, h⟩
            ·obtain rfl := Option.some.inj h
             exact Reach.done ttok mix fk5 (p5_e_9 a0 a1 r1 r2 r3 r4 r5 r6 r7 r8 r9 r10 r11 r12 r13 r14 r15 r16 r17 r18 r19 r20 r21 r22) (obs_cons (xAp h0) (obs_cons h1 (obs_cons (xAp h2) (obs_cons h3 (obs_cons (xAd h4) (obs_cons (xAd h5) (obs_cons (xAK h6) (obs_cons (xAd h7) (obs_cons (xAd h8) (obs_cons (xAP (xAy h9) h10 h11 h12 h13) (obs_cons (xAh h14) (obs_cons h15 (obs_cons (xAd h16) (obs_cons (xAh h17) (obs_cons h18 (obs_cons (xAd h19) (obs_cons (xAh h20) (obs_cons h21 (obs_cons (xAn h22) (obs_cons h23 (obs_cons h24 (obs_cons h25 (obs_cons (xAn h26) (obs_cons h27 (obs_cons h28 (obs_cons h29 (obs_cons h30 (obs_cons (xAh h31) (obs_cons h32 (obs_cons (xBJ h33) (obs_cons (xAC h34) (obs_cons h35 (obs_cons h36 (obs_cons (xAd h37) (obs_cons (xAd h38) (obs_cons (xAP (xAy h39) h40 h41 h42 h43) (obs_cons (xAh h44) (obs_cons h45 obs_nil))))))))))))))))))))))))))))))))))))))
            ·obtain ⟨r23, h46, h⟩ := bind_inv h
             rcases cond_inv h with ⟨h47, h⟩ | ⟨h47, h⟩
             ·obtain rfl := Option.some.inj h
              exact Reach.done ttok mix fk5 (p5_e_10 a0 a1 r1 r2 r3 r4 r5 r6 r7 r8 r9 r10 r11 r12 r13 r14 r15 r16 r17 r18 r19 r20 r21 r22 r23) (obs_cons (xAp h0) (obs_cons h1 (obs_cons (xAp h2) (obs_cons h3 (obs_cons (xAd h4) (obs_cons (xAd h5) (obs_cons (xAK h6) (obs_cons (xAd h7) (obs_cons (xAd h8) (obs_cons (xAP (xAy h9) h10 h11 h12 h13) (obs_cons (xAh h14) (obs_cons h15 (obs_cons (xAd h16) (obs_cons (xAh h17) (obs_cons h18 (obs_cons (xAd h19) (obs_cons (xAh h20) (obs_cons h21 (obs_cons (xAn h22) (obs_cons h23 (obs_cons h24 (obs_cons h25 (obs_cons (xAn h26) (obs_cons h27 (obs_cons h28 (obs_cons h29 (obs_cons h30 (obs_cons (xAh h31) (obs_cons h32 (obs_cons (xBJ h33) (obs_cons (xAC h34) (obs_cons h35 (obs_cons h36 (obs_cons (xAd h37) (obs_cons (xAd h38) (obs_cons (xAP (xAy h39) h40 h41 h42 h43) (obs_cons (xAh h44) (obs_cons h45 (obs_cons (xAC h46) (obs_cons h47 obs_nil))))))))))))))))))))))))))))))))))))))))
             ·rcases cond_inv h with ⟨h48, h⟩ | ⟨h48, h⟩
              ·obtain rfl := Option.some.inj h
               exact Reach.done ttok mix fk5 (p5_e_11 a0 a1 r1 r2 r3 r4 r5 r6 r7 r8 r9 r10 r11 r12 r13 r14 r15 r16 r17 r18 r19 r20 r21 r22 r23) (obs_cons (xAp h0) (obs_cons h1 (obs_cons (xAp h2) (obs_cons h3 (obs_cons (xAd h4) (obs_cons (xAd h5) (obs_cons (xAK h6) (obs_cons (xAd h7) (obs_cons (xAd h8) (obs_cons (xAP (xAy h9) h10 h11 h12 h13) (obs_cons (xAh h14) (obs_cons h15 (obs_cons (xAd h16) (obs_cons (xAh h17) (obs_cons h18 (obs_cons (xAd h19) (obs_cons (xAh h20) (obs_cons h21 (obs_cons (xAn h22) (obs_cons h23 (obs_cons h24 (obs_cons h25 (obs_cons (xAn h26) (obs_cons h27 (obs_cons h28 (obs_cons h29 (obs_cons h30 (obs_cons (xAh h31) (obs_cons h32 (obs_cons (xBJ h33) (obs_cons (xAC h34) (obs_cons h35 (obs_cons h36 (obs_cons (xAd h37) (obs_cons (xAd h38) (obs_cons (xAP (xAy h39) h40 h41 h42 h43) (obs_cons (xAh h44) (obs_cons h45 (obs_cons (xAC h46) (obs_cons h47 (obs_cons h48 obs_nil)))))))))))))))))))))))))))))))))))))))))
              ·obtain rfl := Option.some.inj h
               exact Reach.done ttok mix fk5 (p5_e_12 a0 a1 r1 r2 r3 r4 r5 r6 r7 r8 r9 r10 r11 r12 r13 r14 r15 r16 r17 r18 r19 r20 r21 r22 r23) (obs_cons (xAp h0) (obs_cons h1 (obs_cons (xAp h2) (obs_cons h3 (obs_cons (xAd h4) (obs_cons (xAd h5) (obs_cons (xAK h6) (obs_cons (xAd h7) (obs_cons (xAd h8) (obs_cons (xAP (xAy h9) h10 h11 h12 h13) (obs_cons (xAh h14) (obs_cons h15 (obs_cons (xAd h16) (obs_cons (xAh h17) (obs_cons h18 (obs_cons (xAd h19) (obs_cons (xAh h20) (obs_cons h21 (obs_cons (xAn h22) (obs_cons h23 (obs_cons h24 (obs_cons h25 (obs_cons (xAn h26) (obs_cons h27 (obs_cons h28 (obs_cons h29 (obs_cons h30 (obs_cons (xAh h31) (obs_cons h32 (obs_cons (xBJ h33) (obs_cons (xAC h34) (obs_cons h35 (obs_cons h36 (obs_cons (xAd h37) (obs_cons (xAd h38) (obs_cons (xAP (xAy h39) h40 h41 h42 h43) (obs_cons (xAh h44) (obs_cons h45 (obs_cons (xAC h46) (obs_cons h47 (obs_cons h48 obs_nil)))))))))))))))))))))))))))))))))))))))))
           ·obtain ⟨r22, h41, h⟩ := bind_inv h
            rcases cond_inv h with ⟨h42, h⟩ | ⟨h42, h⟩
            ·obtain rfl := Option.some.inj h
             exact Reach.done ttok mix fk5 (p5_e_13 a0 a1 r1 r2 r3 r4 r5 r6 r7 r8 r9 r10 r11 r12 r13 r14 r15 r16 r17 r18 r19 r20 r21 r22) (obs_cons (xAp h0) (obs_cons h1 (obs_cons (xAp h2) (obs_cons h3 (obs_cons (xAd h4) (obs_cons (xAd h5) (obs_cons (xAK h6) (obs_cons (xAd h7) (obs_cons (xAd h8) (obs_cons (xAP (xAy h9) h10 h11 h12 h13) (obs_cons (xAh h14) (obs_cons h15 (obs_cons (xAd h16) (obs_cons (xAh h17) (obs_cons h18 (obs_cons (xAd h19) (obs_cons (xAh h20) (obs_cons h21 (obs_cons (xAn h22) (obs_cons h23 (obs_cons h24 (obs_cons h25 (obs_cons (xAn h26) (obs_cons h27 (obs_cons h28 (obs_cons h29 (obs_cons h30 (obs_cons (xAh h31) (obs_cons h32 (obs_cons (xBJ h33) (obs_cons (xAC h34) (obs_cons h35 (obs_cons h36 (obs_cons (xAd h37) (obs_cons (xAd h38) (obs_cons (xAQ (xAy h39) h40) (obs_cons (xAh h41) (obs_cons h42 obs_nil))))))))))))))))))))))))))))))))))))))
            ·obtain ⟨r23, h43, h⟩ := bind_inv h
             rcases cond_inv h with ⟨h44, h⟩ | ⟨h44, h⟩
             ·obtain rfl := Option.some.inj h
              exact Reach.done ttok mix fk5 (p5_e_14 a0 a1 r1 r2 r3 r4 r5 r6 r7 r8 r9 r10 r11 r12 r13 r14 r15 r16 r17 r18 r19 r20 r21 r22 r23) (obs_cons (xAp h0) (obs_cons h1 (obs_cons (xAp h2) (obs_cons h3 (obs_cons (xAd h4) (obs_cons (xAd h5) (obs_cons (xAK h6) (obs_cons (xAd h7) (obs_cons (xAd h8) (obs_cons (xAP (xAy h9) h10 h11 h12 h13) (obs_cons (xAh h14) (obs_cons h15 (obs_cons (xAd h16) (obs_cons (xAh h17) (obs_cons h18 (obs_cons (xAd h19) (obs_cons (xAh h20) (obs_cons h21 (obs_cons (xAn h22) (obs_cons h23 (obs_cons h24 (obs_cons h25 (obs_cons (xAn h26) (obs_cons h27 (obs_cons h28 (obs_cons h29 (obs_cons h30 (obs_cons (xAh h31) (obs_cons h32 (obs_cons (xBJ h33) (obs_cons (xAC h34) (obs_cons h35 (obs_cons h36 (obs_cons (xAd h37) (obs_cons (xAd h38) (obs_cons (xAQ (xAy h39) h40) (obs_cons (xAh h41) (obs_cons h42 (obs_cons (xAC h43) (obs_cons h44 obs_nil))))))))))))))))))))))))))))))))))))))))
             ·rcases cond_inv h with ⟨h45, h⟩ | ⟨h45, h⟩
              ·obtain rfl := Option.some.inj h
               exact Reach.done ttok mix fk5 (p5_e_15 a0 a1 r1 r2 r3 r4 r5 r6 r7 r8 r9 r10 r11 r12 r13 r14 r15 r16 r17 r18 r19 r20 r21 r22 r23) (obs_cons (xAp h0) (obs_cons h1 (obs_cons (xAp h2) (obs_cons h3 (obs_cons (xAd h4) (obs_cons (xAd h5) (obs_cons (xAK h6) (obs_cons (xAd h7) (obs_cons (xAd h8) (obs_cons (xAP (xAy h9) h10 h11 h12 h13) (obs_cons (xAh h14) (obs_cons h15 (obs_cons (xAd h16) (obs_cons (xAh h17) (obs_cons h18 (obs_cons (xAd h19) (obs_cons (xAh h20) (obs_cons h21 (obs_cons (xAn h22) (obs_cons h23 (obs_cons h24 (obs_cons h25 (obs_cons (xAn h26) (obs_cons h27 (obs_cons h28 (obs_cons h29 (obs_cons h30 (obs_cons (xAh h31) (obs_cons h32 (obs_cons (xBJ h33) (obs_cons (xAC h34) (obs_cons h35 (obs_cons h36 (obs_cons (xAd h37) (obs_cons (xAd h38) (obs_cons (xAQ (xAy h39) h40) (obs_cons (xAh h41) (obs_cons h42 (obs_cons (xAC h43) (obs_cons h44 (obs_cons h45 obs_nil)))))))))))))))))))))))))))))))))))))))))
              ·obtain rfl := Option.some.inj h
               exact Reach.done ttok mix fk5 (p5_e_16 a0 a1 r1 r2 r3 r4 r5 r6 r7 r8 r9 r10 r11 r12 r13 r14 r15 r16 r17 r18 r19 r20 r21 r22 r23) (obs_cons (xAp h0) (obs_cons h1 (obs_cons (xAp h2) (obs_cons h3 (obs_cons (xAd h4) (obs_cons (xAd h5) (obs_cons (xAK h6) (obs_cons (xAd h7) (obs_cons (xAd h8) (obs_cons (xAP (xAy h9) h10 h11 h12 h13) (obs_cons (xAh h14) (obs_cons h15 (obs_cons (xAd h16) (obs_cons (xAh h17) (obs_cons h18 (obs_cons (xAd h19) (obs_cons (xAh h20) (obs_cons h21 (obs_cons (xAn h22) (obs_cons h23 (obs_cons h24 (obs_cons h25 (obs_cons (xAn h26) (obs_cons h27 (obs_cons h28 (obs_cons h29 (obs_cons h30 (obs_cons (xAh h31) (obs_cons h32 (obs_cons (xBJ h33) (obs_cons (xAC h34) (obs_cons h35 (obs_cons h36 (obs_cons (xAd h37) (obs_cons (xAd h38) (obs_cons (xAQ (xAy h39) h40) (obs_cons (xAh h41) (obs_cons h42 (obs_cons (xAC h43) (obs_cons h44 (obs_cons h45 obs_nil)))))))))))))))))))))))))))))))))))))))))
   ·obtain ⟨r9, h11, h⟩ := bind_inv h
    rcases cond_inv h with ⟨h12, h⟩ | ⟨h12, h⟩
    ·obtain rfl := Option.some.inj h
     exact Reach.done ttok mix fk5 (p5_e_17 a0 a1 r1 r2 r3 r4 r5 r6 r7 r8 r9) (obs_cons (xAp h0) (obs_cons h1 (obs_cons (xAp h2) (obs_cons h3 (obs_cons (xAd h4) (obs_cons (xAd h5) (obs_cons (xAK h6) (obs_cons (xAd h7) (obs_cons (xAd h8) (obs_cons (xAQ (xAy h9) h10) (obs_cons (xAh h11) (obs_cons h12 obs_nil))))))))))))
    ·obtain ⟨r10, h13, h⟩ := bind_inv h
     obtain ⟨r11, h14, h⟩ := bind_inv h
     rcases cond_inv h with ⟨h15, h⟩ | ⟨h15, h⟩
     ·obtain rfl := Option.some.inj h
      exact Reach.done ttok mix fk5 (p5_e_18 a0 a1 r1 r2 r3 r4 r5 r6 r7 r8 r9 r10 r11) (obs_cons (xAp h0) (obs_cons h1 (obs_cons (xAp h2) (obs_cons h3 (obs_cons (xAd h4) (obs_cons (xAd h5) (obs_cons (xAK h6) (obs_cons (xAd h7) (obs_cons (xAd h8) (obs_cons (xAQ (xAy h9) h10) (obs_cons (xAh h11) (obs_cons h12 (obs_cons (xAd h13) (obs_cons (xAh h14) (obs_cons h15 obs_nil)))))))))))))))
     ·obtain ⟨r12, h16, h⟩ := bind_inv h
      obtain ⟨r13, h17, h⟩ := bind_inv h
      rcases cond_inv h with ⟨h18, h⟩ | ⟨h18, h⟩
      ·obtain rfl := Option.some.inj h
       exact Reach.done ttok mix fk5 (p5_e_19 a0 a1 r1 r2 r3 r4 r5 r6 r7 r8 r9 r10 r11 r12 r13) (obs_cons (xAp h0) (obs_cons h1 (obs_cons (xAp h2) (obs_cons h3 (obs_cons (xAd h4) (obs_cons (xAd h5) (obs_cons (xAK h6) (obs_cons (xAd h7) (obs_cons (xAd h8) (obs_cons (xAQ (xAy h9) h10) (obs_cons (xAh h11) (obs_cons h12 (obs_cons (xAd h13) (obs_cons (xAh h14) (obs_cons h15 (obs_cons (xAd h16) (obs_cons (xAh h17) (obs_cons h18 obs_nil))))))))))))))))))
      ·obtain ⟨r14, h19, h⟩ := bind_inv h
       obtain ⟨h20, h⟩ := ite_inv h
       obtain ⟨h21, h⟩ := ite_inv h
       obtain ⟨h22, h⟩ := ite_inv h
       obtain ⟨r15, h23, h⟩ := bind_inv h
       obtain ⟨h24, h⟩ := ite_inv h
       obtain ⟨h25, h⟩ := ite_inv h
       obtain ⟨h26, h⟩ := ite_inv h
       rcases cond_inv h with ⟨h27, h⟩ | ⟨h27, h⟩
       ·obtain rfl := Option.some.inj h
        exact Reach.done ttok mix fk5 (p5_e_20 a0 a1 r1 r2 r3 r4 r5 r6 r7 r8 r9 r10 r11 r12 r13 r14 r15) (obs_cons (xAp h0) (obs_cons h1 (obs_cons (xAp h2) (obs_cons h3 (obs_cons (xAd h4) (obs_cons (xAd h5) (obs_cons (xAK h6) (obs_cons (xAd h7) (obs_cons (xAd h8) (obs_cons (xAQ (xAy h9) h10) (obs_cons (xAh h11) (obs_cons h12 (obs_cons (xAd h13) (obs_cons (xAh h14) (obs_cons h15 (obs_cons (xAd h16) (obs_cons (xAh h17) (obs_cons h18 (obs_cons (xAn h19) (obs_cons h20 (obs_cons h21 (obs_cons h22 (obs_cons (xAn h23) (obs_cons h24 (obs_cons h25 (obs_cons h26 (obs_cons h27 (obs_cons rfl obs_nil))))))))))))))))))))))))))))
       ·obtain ⟨r16, h28, h⟩ := bind_inv h
        rcases cond_inv h with ⟨h29, h⟩ | ⟨h29, h⟩
        ·obtain rfl := Option.some.inj h
         exact Reach.done ttok mix fk5 (p5_e_21 a0 a1 r1 r2 r3 r4 r5 r6 r7 r8 r9 r10 r11 r12 r13 r14 r15 r16) (obs_cons (xAp h0) (obs_cons h1 (obs_cons (xAp h2) (obs_cons h3 (obs_cons (xAd h4) (obs_cons (xAd h5) (obs_cons (xAK h6) (obs_cons (xAd h7) (obs_cons (xAd h8) (obs_cons (xAQ (xAy h9) h10) (obs_cons (xAh h11) (obs_cons h12 (obs_cons (xAd h13) (obs_cons (xAh h14) (obs_cons h15 (obs_cons (xAd h16) (obs_cons (xAh h17) (obs_cons h18 (obs_cons (xAn h19) (obs_cons h20 (obs_cons h21 (obs_cons h22 (obs_cons (xAn h23) (obs_cons h24 (obs_cons h25 (obs_cons h26 (obs_cons h27 (obs_cons (xAh h28) (obs_cons h29 obs_nil)))))))))))))))))))))))))))))
        ·obtain ⟨r17, h30, h⟩ := bind_inv h
         obtain ⟨h31, h⟩ := ite_inv h
         obtain ⟨h32, h⟩ := ite_inv h
         obtain ⟨h33, h⟩ := ite_inv h
         obtain ⟨r18, h34, h⟩ := bind_inv h
         rcases cond_inv h with ⟨h35, h⟩ | ⟨h35, h⟩
         ·obtain rfl := Option.some.inj h
          exact Reach.done ttok mix fk5 (p5_e_22 a0 a1 r1 r2 r3 r4 r5 r6 r7 r8 r9 r10 r11 r12 r13 r14 r15 r16 r17 r18) (obs_cons (xAp h0) (obs_cons h1 (obs_cons (xAp h2) (obs_cons h3 (obs_cons (xAd h4) (obs_cons (xAd h5) (obs_cons (xAK h6) (obs_cons (xAd h7) (obs_cons (xAd h8) (obs_cons (xAQ (xAy h9) h10) (obs_cons (xAh h11) (obs_cons h12 (obs_cons (xAd h13) (obs_cons (xAh h14) (obs_cons h15 (obs_cons (xAd h16) (obs_cons (xAh h17) (obs_cons h18 (obs_cons (xAn h19) (obs_cons h20 (obs_cons h21 (obs_cons h22 (obs_cons (xAn h23) (obs_cons h24 (obs_cons h25 (obs_cons h26 (obs_cons h27 (obs_cons (xAh h28) (obs_cons h29 (obs_cons (xAn h30) (obs_cons h31 (obs_cons h32 (obs_cons h33 (obs_cons (xAC h34) (obs_cons h35 obs_nil)))))))))))))))))))))))))))))))))))
         ·rcases cond_inv h with ⟨h36, h⟩ | ⟨h36, h⟩
          ·obtain rfl := Option.some.inj h
           exact Reach.done ttok mix fk5 (p5_e_23 a0 a1 r1 r2 r3 r4 r5 r6 r7 r8 r9 r10 r11 r12 r13 r14 r15 r16 r17 r18) (obs_cons (xAp h0) (obs_cons h1 (obs_cons (xAp h2) (obs_cons h3 (obs_cons (xAd h4) (obs_cons (xAd h5) (obs_cons (xAK h6) (obs_cons (xAd h7) (obs_cons (xAd h8) (obs_cons (xAQ (xAy h9) h10) (obs_cons (xAh h11) (obs_cons h12 (obs_cons (xAd h13) (obs_cons (xAh h14) (obs_cons h15 (obs_cons (xAd h16) (obs_cons (xAh h17) (obs_cons h18 (obs_cons (xAn h19) (obs_cons h20 (obs_cons h21 (obs_cons h22 (obs_cons (xAn h23) (obs_cons h24 (obs_cons h25 (obs_cons h26 (obs_cons h27 (obs_cons (xAh h28) (obs_cons h29 (obs_cons (xAn h30) (obs_cons h31 (obs_cons h32 (obs_cons h33 (obs_cons (xAC h34) (obs_cons h35 (obs_cons h36 obs_nil))))))))))))))))))))))))))))))))))))
          ·obtain ⟨r19, h37, h⟩ := bind_inv h
           obtain ⟨r20, h38, h⟩ := bind_inv h
           obtain ⟨r21, h39, h⟩ := bind_inv h
           rcases cond_inv h with ⟨h40, h⟩ | ⟨h40, h⟩
           ·obtain ⟨h41, h⟩ := ite_inv h
            obtain ⟨h42, h⟩ := ite_inv h
            obtain ⟨h43, h⟩ := ite_inv h
            obtain ⟨r22, h44, h⟩ := bind_inv h
            rcases cond_inv h with ⟨h45, h⟩ | ⟨h45, h⟩
            ·obtain rfl := Option.some.inj h
             exact Reach.done ttok mix fk5 (p5_e_24 a0 a1 r1 r2 r3 r4 r5 r6 r7 r8 r9 r10 r11 r12 r13 r14 r15 r16 r17 r18 r19 r20 r21 r22) (obs_cons (xAp h0) (obs_cons h1 (obs_cons (xAp h2) (obs_cons h3 (obs_cons (xAd h4) (obs_cons (xAd h5) (obs_cons (xAK h6) (obs_cons (xAd h7) (obs_cons (xAd h8) (obs_cons (xAQ (xAy h9) h10) (obs_cons (xAh h11) (obs_cons h12 (obs_cons (xAd h13) (obs_cons (xAh h14) (obs_cons h15 (obs_cons (xAd h16) (obs_cons (xAh h17) (obs_cons h18 (obs_cons (xAn h19) (obs_cons h20 (obs_cons h21 (obs_cons h22 (obs_cons (xAn h23) (obs_cons h24 (obs_cons h25 (obs_cons h26 (obs_cons h27 (obs_cons (xAh h28) (obs_cons h29 (obs_cons (xAn h30) (obs_cons h31 (obs_cons h32 (obs_cons h33 (obs_cons (xAC h34) (obs_cons h35 (obs_cons h36 (obs_cons (xAd h37) (obs_cons (xAd h38) (obs_cons (xAP (xAy h39) h40 h41 h42 h43) (obs_cons (xAh h44) (obs_cons h45 obs_nil)))))))))))))))))))))))))))))))))))))))))
            ·obtain ⟨r23, h46, h⟩ := bind_inv h
             rcases cond_inv h with ⟨h47, h⟩ | ⟨h47, h⟩
             ·obtain rfl := Option.some.inj h
              exact Reach.done ttok mix fk5 (p5_e_25 a0 a1 r1 r2 r3 r4 r5 r6 r7 r8 r9 r10 r11 r12 r13 r14 r15 r16 r17 r18 r19 r20 r21 r22 r23) (obs_cons (xAp h0) (obs_cons h1 (obs_cons (xAp h2) (obs_cons h3 (obs_cons (xAd h4) (obs_cons (xAd h5) (obs_cons (xAK h6) (obs_cons (xAd h7) (obs_cons (xAd h8) (obs_cons (xAQ (xAy h9) h10) (obs_cons (xAh h11) (obs_cons h12 (obs_cons (xAd h13) (obs_cons (xAh h14) (obs_cons h15 (obs_cons (xAd h16) (obs_cons (xAh h17) (obs_cons h18 (obs_cons (xAn h19) (obs_cons h20 (obs_cons h21 (obs_cons h22 (obs_cons (xAn h23) (obs_cons h24 (obs_cons h25 (obs_cons h26 (obs_cons h27 (obs_cons (xAh h28) (obs_cons h29 (obs_cons (xAn h30) (obs_cons h31 (obs_cons h32 (obs_cons h33 (obs_cons (xAC h34) (obs_cons h35 (obs_cons h36 (obs_cons (xAd h37) (obs_cons (xAd h38) (obs_cons (xAP (xAy h39) h40 h41 h42 h43) (obs_cons (xAh h44) (obs_cons h45 (obs_cons (xAC h46) (obs_cons h47 obs_nil)))))))))))))))))))))))))))))))))))))))))))
             ·rcases cond_inv h with ⟨h48, h⟩ | ⟨h48, h⟩
              ·obtain rfl := Option.some.inj h
               exact Reach.done ttok mix fk5 (p5_e_26 a0 a1 r1 r2 r3 r4 r5 r6 r7 r8 r9 r10 r11 r12 r13 r14 r15 r16 r17 r18 r19 r20 r21 r22 r23) (obs_cons (xAp h0) (obs_cons h1 (obs_cons (xAp h2) (obs_cons h3 (obs_cons (xAd h4) (obs_cons (xAd h5) (obs_cons (xAK h6) (obs_cons (xAd h7) (obs_cons (xAd h8) (obs_cons (xAQ (xAy h9) h10) (obs_cons (xAh h11) (obs_cons h12 (obs_cons (xAd h13) (obs_cons (xAh h14) (obs_cons h15 (obs_cons (xAd h16) (obs_cons (xAh h17) (obs_cons h18 (obs_cons (xAn h19) (obs_cons h20 (obs_cons h21 (obs_cons h22 (obs_cons (xAn h23) (obs_cons h24 (obs_cons h25 (obs_cons h26 (obs_cons h27 (obs_cons (xAh h28) (obs_cons h29 (obs_cons (xAn h30) (obs_cons h31 (obs_cons h32 (obs_cons h33 (obs_cons (xAC h34) (obs_cons h35 (obs_cons h36 (obs_cons (xAd h37) (obs_cons (xAd h38) (obs_cons (xAP (xAy h39) h40 h41 h42 h43) (obs_cons (xAh h44) (obs_cons h45 (obs_cons (xAC h46) (obs_cons h47 (obs_cons h48 obs_nil))))))))))))))))))))))))))))))))))))))))))))
              ·obtain rfl := Option.some.inj h
               exact Reach.done ttok mix fk5 (p5_e_27 a0 a1 r1 r2 r3 r4 r5 r6 r7 r8 r9 r10 r11 r12 r13 r14 r15 r16 r17 r18 r19 r20 r21 r22 r23) (obs_cons (xAp h0) (obs_cons h1 (obs_cons (xAp h2) (obs_cons h3 (obs_cons (xAd h4) (obs_cons (xAd h5) (obs_cons (xAK h6) (obs_cons (xAd h7) (obs_cons (xAd h8) (obs_cons (xAQ (xAy h9) h10) (obs_cons (xAh h11) (obs_cons h12 (obs_cons (xAd h13) (obs_cons (xAh h14) (obs_cons h15 (obs_cons (xAd h16) (obs_cons (xAh h17) (obs_cons h18 (obs_cons (xAn h19) (obs_cons h20 (obs_cons h21 (obs_cons h22 (obs_cons (xAn h23) (obs_cons h24 (obs_cons h25 (obs_cons h26 (obs_cons h27 (obs_cons (xAh h28) (obs_cons h29 (obs_cons (xAn h30) (obs_cons h31 (obs_cons h32 (obs_cons h33 (obs_cons (xAC h34) (obs_cons h35 (obs_cons h36 (obs_cons (xAd h37) (obs_cons (xAd h38) (obs_cons (xAP (xAy h39) h40 h41 h42 h43) (obs_cons (xAh h44) (obs_cons h45 (obs_cons (xAC h46) (obs_cons h47 (obs_cons h48 obs_nil))))))))))))))))))))))))))))))))))))))))))))
           ·obtain ⟨r22, h41, h⟩ := bind_inv h
            rcases cond_inv h with ⟨h42, h⟩ | ⟨h42, h⟩
            ·obtain rfl := Option.some.inj h
             exact Reach.done ttok mix fk5 (p5_e_28 a0 a1 r1 r2 r3 r4 r5 r6 r7 r8 r9 r10 r11 r12 r13 r14 r15 r16 r17 r18 r19 r20 r21 r22) (obs_cons (xAp h0) (obs_cons h1 (obs_cons (xAp h2) (obs_cons h3 (obs_cons (xAd h4) (obs_cons (xAd h5) (obs_cons (xAK h6) (obs_cons (xAd h7) (obs_cons (xAd h8) (obs_cons (xAQ (xAy h9) h10) (obs_cons (xAh h11) (obs_cons h12 (obs_cons (xAd h13) (obs_cons (xAh h14) (obs_cons h15 (obs_cons (xAd h16) (obs_cons (xAh h17) (obs_cons h18 (obs_cons (xAn h19) (obs_cons h20 (obs_cons h21 (obs_cons h22 (obs_cons (xAn h23) (obs_cons h24 (obs_cons h25 (obs_cons h26 (obs_cons h27 (obs_cons (xAh h28) (obs_cons h29 (obs_cons (xAn h30) (obs_cons h31 (obs_cons h32 (obs_cons h33 (obs_cons (xAC h34) (obs_cons h35 (obs_cons h36 (obs_cons (xAd h37) (obs_cons (xAd h38) (obs_cons (xAQ (xAy h39) h40) (obs_cons (xAh h41) (obs_cons h42 obs_nil)))))))))))))))))))))))))))))))))))))))))
            ·obtain ⟨r23, h43, h⟩ := bind_inv h
             rcases cond_inv h with ⟨h44, h⟩ | ⟨h44, h⟩
             ·obtain rfl := Option.some.inj h
              exact Reach.done ttok mix fk5 (p5_e_29 a0 a1 r1 r2 r3 r4 r5 r6 r7 r8 r9 r10 r11 r12 r13 r14 r15 r16 r17 r18 r19 r20 r21 r22 r23) (obs_cons (xAp h0) (obs_cons h1 (obs_cons (xAp h2) (obs_cons h3 (obs_cons (xAd h4) (obs_cons (xAd h5) (obs_cons (xAK h6) (obs_cons (xAd h7) (obs_cons (xAd h8) (obs_cons (xAQ (xAy h9) h10) (obs_cons (xAh h11) (obs_cons h12 (obs_cons (xAd h13) (obs_cons (xAh h14) (obs_cons h15 (obs_cons (xAd h16) (obs_cons (xAh h17) (obs_cons h18 (obs_cons (xAn h19) (obs_cons h20 (obs_cons h21 (obs_cons h22 (obs_cons (xAn h23) (obs_cons h24 (obs_cons h25 (obs_cons h26 (obs_cons h27 (obs_cons (xAh h28) (obs_cons h29 (obs_cons (xAn h30) (obs_cons h31 (obs_cons h32 (obs_cons h33 (obs_cons (xAC h34) (obs_cons h35 (obs_cons h36 (obs_cons (xAd h37) (obs_cons (xAd h38) (obs_cons (xAQ (xAy h39) h40) (obs_cons (xAh h41) (obs_cons h42 (obs_cons (xAC h43) (obs_cons h44 obs_nil)))))))))))))))))))))))))))))))))))))))))))
             ·rcases cond_inv h with ⟨h45, h⟩ | ⟨h45, h⟩
              ·obtain rfl := Option.some.inj h
               exact Reach.done ttok mix fk5 (p5_e_30 a0 a1 r1 r2 r3 r4 r5 r6 r7 r8 r9 r10 r11 r12 r13 r14 r15 r16 r17 r18 r19 r20 r21 r22 r23) (obs_cons (xAp h0) (obs_cons h1 (obs_cons (xAp h2) (obs_cons h3 (obs_cons (xAd h4) (obs_cons (xAd h5) (obs_cons (xAK h6) (obs_cons (xAd h7) (obs_cons (xAd h8) (obs_cons (xAQ (xAy h9) h10) (obs_cons (xAh h11) (obs_cons h12 (obs_cons (xAd h13) (obs_cons (xAh h14) (obs_cons h15 (obs_cons (xAd h16) (obs_cons (xAh h17) (obs_cons h18 (obs_cons (xAn h19) (obs_cons h20 (obs_cons h21 (obs_cons h22 (obs_cons (xAn h23) (obs_cons h24 (obs_cons h25 (obs_cons h26 (obs_cons h27 (obs_cons (xAh h28) (obs_cons h29 (obs_cons (xAn h30) (obs_cons h31 (obs_cons h32 (obs_cons h33 (obs_cons (xAC h34) (obs_cons h35 (obs_cons h36 (obs_cons (xAd h37) (obs_cons (xAd h38) (obs_cons (xAQ (xAy h39) h40) (obs_cons (xAh h41) (obs_cons h42 (obs_cons (xAC h43) (obs_cons h44 (obs_cons h45 obs_nil))))))))))))))))))))))))))))))))))))))))))))
              ·obtain rfl := Option.some.inj h
               exact Reach.done ttok mix fk5 (p5_e_31 a0 a1 r1 r2 r3 r4 r5 r6 r7 r8 r9 r10 r11 r12 r13 r14 r15 r16 r17 r18 r19 r20 r21 r22 r23) (obs_cons (xAp h0) (obs_cons h1 (obs_cons (xAp h2) (obs_cons h3 (obs_cons (xAd h4) (obs_cons (xAd h5) (obs_cons (xAK h6) (obs_cons (xAd h7) (obs_cons (xAd h8) (obs_cons (xAQ (xAy h9) h10) (obs_cons (xAh h11) (obs_cons h12 (obs_cons (xAd h13) (obs_cons (xAh h14) (obs_cons h15 (obs_cons (xAd h16) (obs_cons (xAh h17) (obs_cons h18 (obs_cons (xAn h19) (obs_cons h20 (obs_cons h21 (obs_cons h22 (obs_cons (xAn h23) (obs_cons h24 (obs_cons h25 (obs_cons h26 (obs_cons h27 (obs_cons (xAh h28) (obs_cons h29 (obs_cons (xAn h30) (obs_cons h31 (obs_cons h32 (obs_cons h33 (obs_cons (xAC h34) (obs_cons h35 (obs_cons h36 (obs_cons (xAd h37) (obs_cons (xAd h38) (obs_cons (xAQ (xAy h39) h40) (obs_cons (xAh h41) (obs_cons h42 (obs_cons (xAC h43) (obs_cons h44 (obs_cons h45 obs_nil))))))))))))))))))))))))))))))))))))))))))))
theorem laws_FnExactTakeOf_ok {N : Nat} {a0 : Val} {a1 : Val} {r : Bool} (h : xFl N  a0 a1 = some r) : AbC 5 (xAr a0 a1) (xAs r) :=
 AbsCalls.of_reach fk5 rfl rfl (Nat.le_of_ble_eq_true rfl) (c5_e a0 a1 r h)
end Go.Ab.T
end
section
namespace Go.Ab
set_option linter.unusedVariables false
def Big (p : Nat → Prop) : Prop := ∃ k, ∀ N, k ≤ N → p N
def Big2 (p : Nat → Nat → Prop) : Prop := ∃ k, ∀ N n, k ≤ N → k ≤ n → p N n
theorem Big.imp {p q : Nat → Prop} (h : Big p) (f : ∀ N, p N → q N) : Big q := h.elim fun k hk => ⟨k, fun N hN => f N (hk N hN)⟩
theorem Big2.imp {p q : Nat → Nat → Prop} (h : Big2 p) (f : ∀ N n, p N n → q N n) : Big2 q := h.elim fun k hk => ⟨k, fun N n h1 h2 => f N n (hk N n h1 h2)⟩
theorem Big.of {p : Nat → Prop} (h : ∀ N, p N) : Big p := ⟨0, fun N _ => h N⟩
theorem Big2.of {p : Nat → Nat → Prop} (h : ∀ N n, p N n) : Big2 p := ⟨0, fun N n _ _ => h N n⟩
theorem Big.and {p q : Nat → Prop} (h : Big p) (h' : Big q) : Big fun N => p N ∧ q N := by
  obtain ⟨a, ha⟩ := h; obtain ⟨b, hb⟩ := h'
  exact ⟨max a b, fun N hN => ⟨ha N (by omega), hb N (by omega)⟩⟩
theorem Big2.and {p q : Nat → Nat → Prop} (h : Big2 p) (h' : Big2 q) : Big2 fun N n => p N n ∧ q N n := by
  obtain ⟨a, ha⟩ := h; obtain ⟨b, hb⟩ := h'
  exact ⟨max a b, fun N n h1 h2 => ⟨ha N n (by omega) (by omega), hb N n (by omega) (by omega)⟩⟩
theorem Big.two {p : Nat → Prop} (h : Big p) : Big2 fun N _ => p N := h.elim fun k hk => ⟨k, fun N _ h _ => hk N h⟩
theorem Big2.diag {p : Nat → Nat → Prop} (h : Big2 p) : Big fun N => p N N := h.elim fun k hk => ⟨k, fun N h => hk N N h h⟩
theorem Big2.succ {p : Nat → Nat → Prop} (h : Big2 fun N n => p N (n + 1)) : Big2 p := by
  obtain ⟨k, hk⟩ := h
  refine ⟨k + 1, fun N n h1 h2 => ?_⟩
  obtain ⟨m, rfl⟩ : ∃ m, n = m + 1 := ⟨n - 1, by omega⟩
  exact hk N m (by omega) (by omega)
theorem Big.list {α : Type} {p : α → Nat → Prop} {l : List α} (h : ∀ x ∈ l, Big (p x)) : Big fun N => ∀ x ∈ l, p x N := by
  induction l with
  | nil => exact .of fun N x hx => by cases hx
  | cons a l ih =>
    refine ((h a List.mem_cons_self).and (ih fun x hx => h x (List.mem_cons_of_mem _ hx))).imp fun N ⟨h1, h2⟩ x hx => ?_
    rcases List.mem_cons.1 hx with rfl | hx
    · exact h1
    · exact h2 x hx
theorem Big2.list {α : Type} {p : α → Nat → Nat → Prop} {l : List α} (h : ∀ x ∈ l, Big2 (p x)) : Big2 fun N n => ∀ x ∈ l, p x N n := by
  induction l with
  | nil => exact .of fun N n x hx => by cases hx
  | cons a l ih =>
    refine ((h a List.mem_cons_self).and (ih fun x hx => h x (List.mem_cons_of_mem _ hx))).imp fun N n ⟨h1, h2⟩ x hx => ?_
    rcases List.mem_cons.1 hx with rfl | hx
    · exact h1
    · exact h2 x hx
theorem Big.get {p : Nat → Prop} (h : Big p) : ∃ N, p N := h.elim fun k hk => ⟨k, hk k (Nat.le_refl k)⟩
def I64 (x : Int) : Prop := -9223372036854775808 ≤ x ∧ x ≤ 9223372036854775807
theorem wrap_i64_def (x : Int) : IntKind.i64.wrap x = if x % 18446744073709551616 ≥ 9223372036854775808 then x % 18446744073709551616 - 18446744073709551616 else x % 18446744073709551616 := by
  show (if (true && decide (x % 18446744073709551616 ≥ 9223372036854775808)) = true then x % 18446744073709551616 - 18446744073709551616 else x % 18446744073709551616) = _
  simp only [Bool.true_and, decide_eq_true_eq]
theorem xCr {x : Int} (h1 : -9223372036854775808 ≤ x) (h2 : x ≤ 9223372036854775807) : IntKind.i64.wrap x = x := by
  rw [wrap_i64_def]
  split <;> omega
theorem drop_cons {α : Type} {xs : List α} {i : Nat} {x : α} {l : List α} (h : xs.drop i = x :: l) : i < xs.length ∧ xs[i]? = some x ∧ xs.drop (i + 1) = l := by
  have h1 : i < xs.length := by
    rcases Nat.lt_or_ge i xs.length with h1 | h1
    · exact h1
    · rw [List.drop_eq_nil_of_le h1] at h; cases h
  rw [List.drop_eq_getElem_cons h1] at h
  cases h
  exact ⟨h1, by simp [h1], rfl⟩
theorem drop_nil {α : Type} {xs : List α} {i : Nat} (h : xs.drop i = []) : xs.length ≤ i := by simpa using h
end Go.Ab
end
section
namespace Go.Ab
set_option linter.unusedVariables false
inductive DK (K : Nat) : D → Prop where
  | int {k n} (h : (Lit.int k n).wf = true) : DK K (.int k n)
  | bool (b) : DK K (.bool b)
  | str {s : Str} (h : s.length ≤ K) : DK K (.str s)
  | sl {sz rows} (h : rows.length ≤ K) (hr : ∀ r ∈ rows, ∀ x ∈ r, DK K x) : DK K (.sl sz rows)
theorem DFit.dk {d : D} (h : DFit d) : DK maxLen d := by
  induction h with
  | int h => exact .int h
  | bool b => exact .bool b
  | str h => exact .str h
  | sl h _ ih => exact .sl h ih
theorem wf_i64 {n : Int} : (Lit.int .i64 n).wf = true ↔ I64 n := by
  show (decide (_ ≤ n) && decide (n ≤ _)) = true ↔ _
  rw [Bool.and_eq_true, decide_eq_true_eq, decide_eq_true_eq]
  exact Iff.rfl
theorem DK.i64 {K : Nat} {n : Int} : DK K (.int .i64 n) ↔ I64 n := ⟨fun h => by cases h with | int h => exact wf_i64.1 h, fun h => .int (wf_i64.2 h)⟩
theorem DK.str_iff {K : Nat} {s : Str} : DK K (.str s) ↔ s.length ≤ K := ⟨fun h => by cases h; assumption, .str⟩
theorem DK.sl_iff {K sz : Nat} {α : Type} {f : α → List D} {xs : List α} : DK K (.sl sz (xs.map f)) ↔ xs.length ≤ K ∧ ∀ x ∈ xs, ∀ d ∈ f x, DK K d := by
  constructor
  · intro h
    cases h with
    | sl h hr => exact ⟨by simpa using h, fun x hx => hr _ (List.mem_map_of_mem hx)⟩
  · rintro ⟨h, hr⟩
    refine .sl (by simpa using h) fun r hr' => ?_
    obtain ⟨x, hx, rfl⟩ := List.mem_map.1 hr'
    exact hr x hx
def LFit {α : Type} (K : Nat) (p : α → Prop) (l : List α) : Prop := l.length ≤ K ∧ ∀ x ∈ l, p x
def Ty.Fit (K : Nat) (T : Ty) (x : T.den) : Prop := ∀ d ∈ T.toD x, DK K d
def Org.Fit (o : Org) : Prop := I64 o.cell ∧ I64 o.row
def Rowd.Fit (K : Nat) (r : Rowd) : Prop := LFit K I64 r.cells ∧ LFit K Org.Fit r.frm
def Str.Fit (K : Nat) (s : Str) : Prop := s.length ≤ K
def Val.Fit (K : Nat) (v : Val) : Prop := ∀ d ∈ Val.toD v, DK K d
def Fil.Fit (K : Nat) (v : Fil) : Prop := Str.Fit K v.name ∧ I64 v.n
theorem rowd_fit {K : Nat} {r : Rowd} : (∀ d ∈ Rowd.toD r, DK K d) ↔ r.Fit K := by
  simp only [Rowd.toD, List.mem_cons, List.not_mem_nil, or_false, forall_eq_or_imp, forall_eq, DK.sl_iff, DK.i64, Rowd.Fit, LFit, Org.Fit]
theorem fil_fit {K : Nat} {r : Fil} : Ty.Fit K .fil r ↔ r.Fit K := by
  simp only [Ty.Fit, Ty.toD, List.mem_cons, List.not_mem_nil, or_false, forall_eq_or_imp, forall_eq, DK.str_iff, DK.i64, Fil.Fit, Str.Fit]
theorem Val.fit_iff {K : Nat} {v : Val} : v.Fit K ↔ I64 v.kind ∧ I64 v.n ∧ I64 v.step ∧ Str.Fit K v.text ∧ LFit K (Val.Fit K) v.list ∧ LFit K (Str.Fit K) v.columns ∧ LFit K (Rowd.Fit K) v.rows := by
  cases v
  simp only [Val.Fit, Val.toD, Val.toDs_eq, List.mem_cons, List.not_mem_nil, or_false, forall_eq_or_imp, forall_eq, DK.sl_iff, DK.i64, DK.str_iff, Str.Fit, LFit, Val.kind, Val.n, Val.step, Val.text, Val.list, Val.columns, Val.rows, rowd_fit]
theorem sizeOf_mem_list {l : List Val} {x : Val} (h : x ∈ l) (k n s : Int) (t : Str) (c : List Str) (r : List Rowd) : SizeOf.sizeOf x < SizeOf.sizeOf (Val.mk k n s t l c r) := by
  have := List.sizeOf_lt_of_mem h
  simp only [Val.mk.sizeOf_spec]
  omega
theorem Val.ind {p : Val → Prop} (h : ∀ k n s t l c r, (∀ x ∈ l, p x) → p (.mk k n s t l c r)) : ∀ v, p v
  | .mk k n s t l c r => h k n s t l c r fun x hx => Val.ind h x
termination_by v => SizeOf.sizeOf v
decreasing_by exact sizeOf_mem_list hx k n s t c r
theorem cell_int {n : Int} (h : DK maxLen (CV.int .i64 n).toD) : I64 n := DK.i64.1 h
theorem cell_str {s : Str} (h : DK maxLen (CV.str s).toD) : Str.Fit maxLen s := DK.str_iff.1 h
theorem cell_sl {T : Ty} {f : Fl} {xs : List T.den} (h : DK maxLen (CV.sl f T xs).toD) : LFit maxLen (T.Fit maxLen) xs := DK.sl_iff.1 h
theorem LFit.imp {α : Type} {K : Nat} {p q : α → Prop} {l : List α} (h : LFit K p l) (f : ∀ x, p x → q x) : LFit K q l := ⟨h.1, fun x hx => f x (h.2 x hx)⟩
end Go.Ab
end
section
namespace Go.Ab
set_option linter.unusedVariables false
theorem whileLoop {σ ρ : Type} {L : Nat → σ → Option ρ} (m : σ → Nat) (Inv : σ → Prop) (Post : ρ → Prop)
    (hstep : ∀ s, Inv s → (∃ s', Inv s' ∧ m s' < m s ∧ ∀ n, L (n + 1) s = L n s') ∨ (∃ r, Post r ∧ ∀ n, L (n + 1) s = some r)) :
    ∀ n s, Inv s → m s < n → ∃ r, Post r ∧ L n s = some r := by
  intro n
  induction n with
  | zero => intro s _ h; omega
  | succ n ih =>
    intro s hs hn
    rcases hstep s hs with ⟨s', h1, h2, h3⟩ | ⟨r, h1, h2⟩
    · obtain ⟨r, h4, h5⟩ := ih s' h1 (by omega)
      exact ⟨r, h4, by rw [h3]; exact h5⟩
    · exact ⟨r, h1, h2 n⟩
theorem xFK {α σ ρ : Type} {L : Nat → Int → σ → Option ρ} (x0 : List α) (g : List α → σ → ρ) (Inv : Nat → σ → Prop)
    (hnil : ∀ n s, Inv x0.length s → L (n + 1) (x0.length : Nat) s = some (g [] s))
    (hcons : ∀ i x l s, x0.drop i = x :: l → i < x0.length → x0[i]? = some x → Inv i s →
      (∃ s', Inv (i + 1) s' ∧ g (x :: l) s = g l s' ∧ ∀ n, L (n + 1) (i : Nat) s = L n ((i + 1 : Nat) : Int) s') ∨ (∀ n, L (n + 1) (i : Nat) s = some (g (x :: l) s))) :
    ∀ n i s, Inv i s → i ≤ x0.length → x0.length < n + i → L n (i : Nat) s = some (g (x0.drop i) s) := by
  intro n
  induction n with
  | zero => intro i s _ h1 h2; omega
  | succ n ih =>
    intro i s hs hi hn
    cases hd : x0.drop i with
    | nil =>
      have := drop_nil hd
      obtain rfl : i = x0.length := by omega
      exact hnil n s hs
    | cons x l =>
      obtain ⟨h1, h2, h3⟩ := drop_cons hd
      rcases hcons i x l s hd h1 h2 hs with ⟨s', h4, h5, h6⟩ | h
      · rw [h6, ih (i + 1) s' h4 (by omega) (by omega), h3, h5]
      · exact h n
theorem xBl {α : Type} {xs : List α} {i : Nat} {x : α} (h : xs[i]? = some x) (d : α) : xs.getD i d = x := by simp [List.getD, h]
theorem xAS {i : Nat} {len : Nat} (h : i < len) (hl : len ≤ 9223372036854775807) : IntKind.i64.wrap ((i : Int) + 1) = ((i + 1 : Nat) : Int) := by
  rw [xCr (by omega) (by omega)]; omega
def left (s : Nat) (l : Int) : Int := if (s : Int) ≤ l then l - s else -1
theorem left_of {s : Nat} {l : Int} (h : (s : Int) ≤ l) : left s l = l - s := by unfold left; rw [if_pos h]
theorem left_not {s : Nat} {l : Int} (h : ¬ (s : Int) ≤ l) : left s l = -1 := by unfold left; rw [if_neg h]
theorem szThen {s b : Nat} {F : Option Int} {R : Int → Option Int} {l : Int} (hl : s ≤ 9223372036854775807) (h0 : 0 ≤ l) (h1 : l ≤ 1048576)
    (hF : F = bif decide (IntKind.i64.wrap (l - (s : Int)) < 0) then some (-1) else R (IntKind.i64.wrap (l - (s : Int))))
    (hR : ∀ m, 0 ≤ m → m ≤ 1048576 → R m = some (left b m)) : F = some (left (s + b) l) := by
  rw [hF, xCr (by omega) (by omega)]
  by_cases h : (s : Int) ≤ l
  · rw [decide_eq_false (by omega), cond_false, hR _ (by omega) (by omega)]
    unfold left
    split <;> split <;> first | rfl | omega | (congr 1; omega)
  · rw [decide_eq_true (by omega), cond_true, left_not (by omega)]
theorem szLast {s : Nat} {l : Int} (hl : s ≤ 9223372036854775807) (h0 : 0 ≤ l) (h1 : l ≤ 1048576) :
    (bif decide (IntKind.i64.wrap (l - (s : Int)) < 0) then some (-1) else some (IntKind.i64.wrap (l - (s : Int)))) = some (left s l) := by
  rw [xCr (by omega) (by omega)]
  unfold left
  by_cases h : (s : Int) ≤ l
  · rw [decide_eq_false (by omega), if_pos h]; rfl
  · rw [decide_eq_true (by omega), if_neg h]; rfl
theorem szBind {a b : Nat} {l : Int} {x : Option Int} {R : Int → Option Int} (h0 : 0 ≤ l) (h1 : l ≤ 1048576) (h : x = some (left a l)) (hR : ∀ m, 0 ≤ m → m ≤ 1048576 → R m = some (left b m)) :
    (x.bind fun r1 => bif decide (r1 < 0) then (some (-1) : Option Int) else R r1) = some (left (a + b) l) := by
  rw [h, Option.bind_some]
  by_cases h : (a : Int) ≤ l
  · rw [left_of h, decide_eq_false (by omega), cond_false, hR _ (by omega) (by omega)]
    unfold left
    split <;> split <;> first | rfl | omega | (congr 1; omega)
  · rw [left_not h, left_not (by omega)]; rfl
theorem left_two {a : Nat} {l : Int} {x : Option Int} (h : x = some (left a l)) : (x.bind fun r1 => bif decide (r1 < 0) then (some (-1) : Option Int) else some r1) = some (left a l) := by
  rw [h, Option.bind_some]
  unfold left
  split
  · rw [decide_eq_false (by omega)]; rfl
  · rfl
section
variable {α : Type} {d : α}
theorem szLoop {L : Nat → List α → Int → Int → Option Int} {sz : α → Int → Option Int} {size : α → Nat} {x0 : List α}
    (hL : ∀ n x1 x5, L (n + 1) x0 x1 x5 = bif decide (x5 < (x0.length : Int)) then (if (0 : Int) ≤ x5 ∧ x5 < (x0.length : Int) then Option.bind (sz (x0.getD x5.toNat d) x1) fun r1 => bif decide (r1 < 0) then some (-1) else L n x0 r1 (IntKind.i64.wrap (x5 + 1)) else none) else some x1)
    (hlen : x0.length ≤ 9223372036854775807) (hsz : ∀ x ∈ x0, ∀ l, 0 ≤ l → l ≤ 1048576 → sz x l = some (left (size x) l)) {n : Nat} (hn : x0.length < n) {l : Int} (h0 : 0 ≤ l) (h1 : l ≤ 1048576) :
    L n x0 l 0 = some (left (x0.map size).sum l) := by
  have key := xFK (L := fun n i s => L n x0 s i) x0 (fun l s => left (l.map size).sum s) (fun _ s => 0 ≤ s ∧ s ≤ 1048576) (fun n s hs => by
      have hs : 0 ≤ s ∧ s ≤ 1048576 := hs
      simp only [hL]; simp [left]; omega)
    (fun i x r s hd hi hx hs => by
      have hs : 0 ≤ s ∧ s ≤ 1048576 := hs
      have hi' : (i : Int) < (x0.length : Int) := by omega
      have hm : x ∈ x0 := List.mem_of_getElem? hx
      by_cases hle : (size x : Int) ≤ s
      · refine .inl ⟨s - size x, by omega, ?_, fun n => ?_⟩
        · simp only [List.map_cons, List.sum_cons, left]
          split <;> split <;> omega
        · simp only [hL, decide_eq_true hi', cond_true, Int.toNat_natCast, xBl hx, hsz x hm s hs.1 hs.2, left_of hle, Option.bind_some, xAS hi hlen]
          rw [if_pos (by omega), decide_eq_false (by omega), cond_false]
      · refine .inr fun n => ?_
        simp only [hL, decide_eq_true hi', cond_true, Int.toNat_natCast, xBl hx, hsz x hm s hs.1 hs.2, left_not hle, Option.bind_some]
        rw [if_pos (by omega), decide_eq_true (by omega), cond_true]
        simp only [List.map_cons, List.sum_cons, left]
        rw [if_neg (by omega)])
    n 0 l ⟨h0, h1⟩ (by omega) (by omega)
  simpa using key
theorem szLoopG {L : Nat → List α → Int → Int → Option Int} {sz : α → Int → Option Int} {size : α → Nat} {x0 : List α}
    (hL : ∀ n x1 x5, L (n + 1) x0 x1 x5 = bif decide (x5 < (x0.length : Int)) then (if (0 : Int) ≤ x5 ∧ x5 < (x0.length : Int) then Option.bind (sz (x0.getD x5.toNat d) x1) fun r1 => bif decide (r1 < 0) then some (-1) else L n x0 r1 (IntKind.i64.wrap (x5 + 1)) else none) else some x1)
    (hlen : x0.length ≤ 9223372036854775807) (hsz : ∀ x ∈ x0, ∀ l, 0 ≤ l → l ≤ 1048576 → ∃ r, sz x l = some r ∧ ((size x : Int) ≤ l → r = l - size x) ∧ (¬ (size x : Int) ≤ l → r < 0)) {n : Nat} (hn : x0.length < n) {l : Int} (h0 : 0 ≤ l) (h1 : l ≤ 1048576) :
    L n x0 l 0 = some (left (x0.map size).sum l) := by
  have key := xFK (L := fun n i s => L n x0 s i) x0 (fun l s => left (l.map size).sum s) (fun _ s => 0 ≤ s ∧ s ≤ 1048576) (fun n s hs => by
      have hs : 0 ≤ s ∧ s ≤ 1048576 := hs
      simp only [hL]; simp [left]; omega)
    (fun i x r s hd hi hx hs => by
      have hs : 0 ≤ s ∧ s ≤ 1048576 := hs
      have hi' : (i : Int) < (x0.length : Int) := by omega
      have hm : x ∈ x0 := List.mem_of_getElem? hx
      obtain ⟨q, hq, hq1, hq2⟩ := hsz x hm s hs.1 hs.2
      by_cases hle : (size x : Int) ≤ s
      · refine .inl ⟨s - size x, by omega, ?_, fun n => ?_⟩
        · simp only [List.map_cons, List.sum_cons, left]
          split <;> split <;> omega
        · simp only [hL, decide_eq_true hi', cond_true, Int.toNat_natCast, xBl hx, hq, hq1 hle, Option.bind_some, xAS hi hlen]
          rw [if_pos (by omega), decide_eq_false (by omega), cond_false]
      · refine .inr fun n => ?_
        simp only [hL, decide_eq_true hi', cond_true, Int.toNat_natCast, xBl hx, hq, Option.bind_some]
        have := hq2 hle
        rw [if_pos (by omega), decide_eq_true (by omega), cond_true]
        simp only [List.map_cons, List.sum_cons, left]
        rw [if_neg (by omega)])
    n 0 l ⟨h0, h1⟩ (by omega) (by omega)
  simpa using key
theorem toLoop {L : Nat → List α → List α → Int → Option (List α)} {to : α → Option α} {re : α → α} {x0 : List α}
    (hL : ∀ n x3 x4, L (n + 1) x0 x3 x4 = bif decide (x4 < (x0.length : Int)) then (if (0 : Int) ≤ x4 ∧ x4 < (x0.length : Int) then Option.bind (to (x0.getD x4.toNat d)) fun r1 => (if (0 : Int) ≤ x4 ∧ x4 < (x3.length : Int) then L n x0 (x3.set x4.toNat (re r1)) (IntKind.i64.wrap (x4 + 1)) else none) else none) else some x3)
    (hlen : x0.length ≤ 9223372036854775807) (hto : ∀ x ∈ x0, ∃ y, to x = some y ∧ re y = x) {n : Nat} (hn : x0.length < n) :
    L n x0 (List.replicate x0.length d) 0 = some x0 := by
  have key := xFK (L := fun n i s => L n x0 s i) x0 (fun _ _ => x0) (fun i s => s = x0.take i ++ List.replicate (x0.length - i) d) (fun n s hs => by
      have hs : s = x0.take x0.length ++ List.replicate (x0.length - x0.length) d := hs
      simp only [hL]; simp [hs])
    (fun i x r s hd hi hx hs => by
      have hs : s = x0.take i ++ List.replicate (x0.length - i) d := hs
      have hi' : (i : Int) < (x0.length : Int) := by omega
      have hm : x ∈ x0 := List.mem_of_getElem? hx
      obtain ⟨y, h1, h2⟩ := hto x hm
      have hsl : s.length = x0.length := by rw [hs]; simp; omega
      refine .inl ⟨s.set i x, ?_, rfl, fun n => ?_⟩
      · show s.set i x = x0.take (i + 1) ++ List.replicate (x0.length - (i + 1)) d
        rw [hs, List.set_append]
        have : (x0.take i).length = i := by simp; omega
        rw [this, if_neg (by omega), List.take_add_one, hx, Option.toList_some, List.append_assoc, Nat.sub_self]
        rw [show x0.length - i = (x0.length - (i + 1)) + 1 from by omega, List.replicate_succ, List.set_cons_zero]
        rfl
      · simp only [hL, decide_eq_true hi', cond_true, Int.toNat_natCast, xBl hx, h1, h2, Option.bind_some, xAS hi hlen, hsl]
        rw [if_pos (by omega), if_pos (by omega)])
    n 0 (List.replicate x0.length d) (by simp) (by omega) (by omega)
  exact key
theorem eqLoop {L : Nat → Int → Option Bool} {x0 : List α} (hend : ∀ n, L (n + 1) (x0.length : Nat) = some true)
    (hcons : ∀ (i : Nat) x n, i < x0.length → x0[i]? = some x → x ∈ x0 → L (n + 1) (i : Nat) = L n ((i + 1 : Nat) : Int)) {n : Nat} (hn : x0.length < n) : L n 0 = some true := by
  have key := xFK (σ := Unit) (L := fun n i _ => L n i) x0 (fun _ _ => true) (fun _ _ => True) (fun n _ _ => hend n)
    (fun i x r s hd hi hx _ => .inl ⟨(), trivial, rfl, fun n => hcons i x n hi hx (List.mem_of_getElem? hx)⟩) n 0 () trivial (by omega) (by omega)
  exact key
end
end Go.Ab
end
section
namespace Go.Ab
set_option linter.unusedVariables false
theorem vk (a b c : Int) (t : Str) (l : List Val) (k : List Str) (r : List Rowd) : (Val.mk a b c t l k r).kind = a := rfl
theorem vn (a b c : Int) (t : Str) (l : List Val) (k : List Str) (r : List Rowd) : (Val.mk a b c t l k r).n = b := rfl
theorem vs (a b c : Int) (t : Str) (l : List Val) (k : List Str) (r : List Rowd) : (Val.mk a b c t l k r).step = c := rfl
theorem vt (a b c : Int) (t : Str) (l : List Val) (k : List Str) (r : List Rowd) : (Val.mk a b c t l k r).text = t := rfl
theorem vl (a b c : Int) (t : Str) (l : List Val) (k : List Str) (r : List Rowd) : (Val.mk a b c t l k r).list = l := rfl
theorem vc (a b c : Int) (t : Str) (l : List Val) (k : List Str) (r : List Rowd) : (Val.mk a b c t l k r).columns = k := rfl
theorem vr (a b c : Int) (t : Str) (l : List Val) (k : List Str) (r : List Rowd) : (Val.mk a b c t l k r).rows = r := rfl
theorem ek (a b : Int) (t : Str) (l : List Exp) : (Exp.mk a b t l).kind = a := rfl
theorem en (a b : Int) (t : Str) (l : List Exp) : (Exp.mk a b t l).n = b := rfl
theorem ea (a b : Int) (t : Str) (l : List Exp) : (Exp.mk a b t l).args = l := rfl
def Rowd.size (r : Rowd) : Nat := r.cells.length + r.frm.length
mutual
def Val.size : Val → Nat
  | .mk _ _ _ t l c r => t.length + (l.length + Val.sizes l) + (c.length + (c.map List.length).sum) + (r.length + (r.map Rowd.size).sum)
def Val.sizes : List Val → Nat
  | [] => 0
  | x :: r => Val.size x + Val.sizes r
end
theorem Val.sizes_eq (l : List Val) : Val.sizes l = (l.map Val.size).sum := by
  induction l with
  | nil => rfl
  | cons x l ih => simp [Val.sizes, ih]
theorem size_mem {α : Type} {f : α → Nat} {l : List α} {x : α} (h : x ∈ l) : f x ≤ (l.map f).sum := by
  induction l with
  | nil => cases h
  | cons a l ih =>
    simp only [List.map_cons, List.sum_cons]
    rcases List.mem_cons.1 h with rfl | h
    · omega
    · have := ih h; omega
theorem Val.size_eq (e : Val) : e.size = e.text.length + (e.list.length + (e.list.map Val.size).sum) + (e.columns.length + (e.columns.map List.length).sum) + (e.rows.length + (e.rows.map Rowd.size).sum) := by
  cases e; simp [Val.size, Val.sizes_eq, Val.text, Val.list, Val.columns, Val.rows]
theorem lfit_size {α : Type} {K M : Nat} {p q : α → Prop} {f : α → Nat} {l : List α} (h : LFit M p l) (hs : l.length + (l.map f).sum ≤ K) (hpq : ∀ x ∈ l, p x → f x ≤ K → q x) : LFit K q l :=
  ⟨by omega, fun x hx => hpq x hx (h.2 x hx) (by have := size_mem (f := f) hx; omega)⟩
theorem Rowd.fit_size {K M : Nat} {r : Rowd} (h : r.Fit M) (hs : r.size ≤ K) : r.Fit K := by
  unfold Rowd.size at hs
  exact ⟨⟨by omega, h.1.2⟩, ⟨by omega, h.2.2⟩⟩
theorem Val.fit_size {K M : Nat} : ∀ e : Val, e.Fit M → e.size ≤ K → e.Fit K := by
  refine Val.ind fun k n s t l c r ih h hs => ?_
  rw [Val.fit_iff] at h ⊢
  obtain ⟨h1, h2, h3, h4, h5, h6, h7⟩ := h
  have hs := hs
  rw [Val.size_eq] at hs
  exact ⟨h1, h2, h3, show List.length _ ≤ K from by omega, lfit_size h5 (by omega) fun x hx => ih x hx, lfit_size (f := List.length) h6 (by omega) fun x hx _ h => h, lfit_size (f := Rowd.size) h7 (by omega) fun x hx => Rowd.fit_size⟩
theorem xGS (n : Nat) : Big fun N => n < N := ⟨n + 1, fun N h => by omega⟩
end Go.Ab
end
section
namespace Go.Ab
set_option linter.unusedVariables false
theorem markHeld {α : Type} {Lm : Nat → List α → Int → Int → Option (Int × List α)} {Lh : Nat → List α → Int → Int → Option Int} {c : α → Nat} {x0 : List α} {k0 B : Int} {n : Nat}
    (hm : ∀ n xs k, xs.length = x0.length → Lm (n + 1) xs k (xs.length : Nat) = some (k, xs)) (hh : ∀ n ys k, ys.length = x0.length → Lh (n + 1) ys k (ys.length : Nat) = some k)
    (hx : ∀ x ∈ x0, ∀ k, k0 ≤ k → k + c x ≤ B → ∃ y, (∀ n xs (i : Nat), xs.length = x0.length → xs[i]? = some x → Lm (n + 1) xs k i = Lm n (xs.set i y) (k + c x) ((i + 1 : Nat) : Int)) ∧
      (∀ n ys (i : Nat), ys.length = x0.length → ys[i]? = some y → Lh (n + 1) ys k i = Lh n ys (k + c x) ((i + 1 : Nat) : Int)))
    (hk : k0 + (x0.map c).sum ≤ B) (hn : x0.length < n) : ∃ ys, ys.length = x0.length ∧ Lm n x0 k0 0 = some (k0 + (x0.map c).sum, ys) ∧ Lh n ys k0 0 = some (k0 + (x0.map c).sum) := by
  have key : ∀ (l pre : List α) (k : Int) (n : Nat), pre.length + l.length = x0.length → (∀ x ∈ l, x ∈ x0) → k0 ≤ k → k + (l.map c).sum ≤ B → l.length < n →
      ∃ ys, ys.length = l.length ∧ Lm n (pre ++ l) k (pre.length : Nat) = some (k + (l.map c).sum, pre ++ ys) ∧ ∀ pre' : List α, pre'.length = pre.length → Lh n (pre' ++ ys) k (pre.length : Nat) = some (k + (l.map c).sum) := by
    intro l
    induction l with
    | nil =>
      intro pre k n hl hmem h0 hB hn
      obtain ⟨n, rfl⟩ : ∃ m, n = m + 1 := ⟨n - 1, by simp at hn; omega⟩
      refine ⟨[], rfl, ?_, fun pre' hp => ?_⟩
      · have := hm n (pre ++ []) k (by simpa using hl)
        simpa using this
      · have := hh n (pre' ++ []) k (by simp [hp]; simpa using hl)
        simp only [List.append_nil, hp] at this
        simpa using this
    | cons x l ih =>
      intro pre k n hl hmem h0 hB hn
      obtain ⟨n, rfl⟩ : ∃ m, n = m + 1 := ⟨n - 1, by simp at hn; omega⟩
      simp only [List.map_cons, List.sum_cons, List.length_cons] at hB hl hn
      obtain ⟨y, h1, h2⟩ := hx x (hmem x List.mem_cons_self) k h0 (by omega)
      obtain ⟨ys, g1, g2, g3⟩ := ih (pre ++ [y]) (k + c x) n (by simp; omega) (fun z hz => hmem z (List.mem_cons_of_mem _ hz)) (by omega) (by omega) (by omega)
      refine ⟨y :: ys, by simp [g1], ?_, fun pre' hp => ?_⟩
      · rw [h1 n (pre ++ x :: l) pre.length (by simp; omega) (by simp)]
        rw [List.set_append, if_neg (by omega), Nat.sub_self, List.set_cons_zero]
        have e : ((pre.length + 1 : Nat) : Int) = ((pre ++ [y]).length : Nat) := by simp
        rw [e, show pre ++ y :: l = (pre ++ [y]) ++ l from by simp, g2]
        simp only [List.map_cons, List.sum_cons, List.append_assoc, List.cons_append, List.nil_append]
        congr 2
        omega
      · rw [h2 n (pre' ++ y :: ys) pre.length (by simp [hp, g1]; omega) (by rw [← hp]; simp)]
        have e : ((pre.length + 1 : Nat) : Int) = ((pre ++ [y]).length : Nat) := by simp
        rw [e, show pre' ++ y :: ys = (pre' ++ [y]) ++ ys from by simp, g3 (pre' ++ [y]) (by simp [hp])]
        simp only [List.map_cons, List.sum_cons]
        congr 1
        omega
  obtain ⟨ys, h1, h2, h3⟩ := key x0 [] k0 n (by simp) (fun x h => h) (Int.le_refl _) hk hn
  exact ⟨ys, h1, h2, by simpa using h3 [] rfl⟩
theorem sum_le_mul {α : Type} {f g : α → Nat} {l : List α} {a : Nat} (h : ∀ x ∈ l, f x ≤ a + a * g x) : (l.map f).sum ≤ a * (l.length + (l.map g).sum) := by
  induction l with
  | nil => simp
  | cons x l ih =>
    have h1 := h x List.mem_cons_self
    have h2 := ih fun y hy => h y (List.mem_cons_of_mem _ hy)
    simp only [List.map_cons, List.sum_cons, List.length_cons, Nat.mul_add] at h2 ⊢
    omega
theorem xHs {α : Type} {xs : List α} {i : Nat} (h : i < xs.length) (y d : α) : (xs.set i y).getD i d = y := by simp [List.getD, h]
end Go.Ab
end
section
namespace Go.Ab
set_option linter.unusedVariables false
set_option linter.unusedSimpArgs false
def xIl (c : UInt8) : Bool := decide ((c.toNat : Int) ≥ 97) && decide ((c.toNat : Int) ≤ 122)
def digitC (c : UInt8) : Bool := decide ((c.toNat : Int) ≥ 48) && decide ((c.toNat : Int) ≤ 57)
def xG8 : List UInt8 → Bool → Bool
  | [], _ => true
  | x :: r, f => (xIl x || (!f && digitC x)) && xG8 r false
theorem spec_l2Shape_eq {N : Nat} {s : Str} (hl : s.length ≤ 9223372036854775807) (hn : s.length < N) : xGE N s = some (xG8 s true && decide ((s.length : Int) > 0)) :=
  xFK (L := fun n i _ => xCk N n s i) s (fun l f => xG8 l f && decide ((s.length : Int) > 0)) (fun i f => f = (i == 0)) (fun n _ _ => by simp [xCk, xG8])
    (fun i x l f hd hi hx hf => by
      have hi' : (i : Int) < (s.length : Int) := by omega
      have hi0 : ((i : Int) == 0) = f := by rw [hf]; cases i <;> simp <;> omega
      by_cases h1 : (xIl x || (!f && digitC x)) = true
      · refine .inl ⟨false, by simp, by simp [xG8, h1], fun n => ?_⟩
        simp only [xCk, decide_eq_true hi', cond_true, Int.toNat_natCast, xBl hx, xAS hi hl, hi0]
        rw [if_pos (by omega)]
        unfold xIl digitC at h1
        by_cases c1 : (x.toNat : Int) ≥ 97 <;> by_cases c2 : (x.toNat : Int) ≤ 122 <;> by_cases c3 : (x.toNat : Int) ≥ 48 <;> by_cases c4 : (x.toNat : Int) ≤ 57 <;> cases f <;>
          simp only [c1, c2, c3, c4, decide_true, decide_false, cond_true, cond_false, Bool.not_true, Bool.not_false, Bool.and_true, Bool.and_false, Bool.or_true, Bool.or_false, Bool.false_and, Bool.true_and, Bool.false_or, Bool.false_eq_true] at h1 ⊢
      · refine .inr fun n => ?_
        have h1 := Bool.eq_false_iff.2 h1
        simp only [xCk, decide_eq_true hi', cond_true, Int.toNat_natCast, xBl hx, xAS hi hl, hi0, xG8, h1, Bool.false_and]
        rw [if_pos (by omega)]
        unfold xIl digitC at h1
        by_cases c1 : (x.toNat : Int) ≥ 97 <;> by_cases c2 : (x.toNat : Int) ≤ 122 <;> by_cases c3 : (x.toNat : Int) ≥ 48 <;> by_cases c4 : (x.toNat : Int) ≤ 57 <;> cases f <;>
          simp only [c1, c2, c3, c4, decide_true, decide_false, cond_true, cond_false, Bool.not_true, Bool.not_false, Bool.and_true, Bool.and_false, Bool.or_true, Bool.or_false, Bool.false_and, Bool.true_and, Bool.false_or, Bool.true_eq_false] at h1 ⊢) N 0 true rfl (by omega) (by omega)
theorem xEv (N : Nat) (a b c : Int) : xD8 N a b c = some (decide (b ≤ a) && decide (a ≤ c)) := by
  unfold xD8
  cases h : decide (b ≤ a) <;> simp
theorem xF2 (N : Nat) (a b c : Int) : xGc N a b c = some (decide (b ≤ a) && decide (a ≤ c)) := by
  unfold xGc
  cases h : decide (b ≤ a)
  · rfl
  · rfl
theorem impl_isWord_eq {N : Nat} {s : Str} (hl : s.length ≤ 9223372036854775807) (hn : s.length < N) : xGW N s = some (xG8 s true && (decide ((1 : Int) ≤ s.length) && decide ((s.length : Int) ≤ 8))) :=
  xFK (L := fun n i _ => xCP N n s i) s (fun l f => xG8 l f && (decide ((1 : Int) ≤ s.length) && decide ((s.length : Int) ≤ 8))) (fun i f => f = (i == 0)) (fun n _ _ => by simp [xCP, xG8, xEv])
    (fun i x l f hd hi hx hf => by
      have hi' : (i : Int) < (s.length : Int) := by omega
      have hi0 : ((i : Int) == 0) = f := by rw [hf]; cases i <;> simp <;> omega
      have e1 : decide ((x.toNat : Int) < 48) = !decide ((x.toNat : Int) ≥ 48) := by by_cases c : (x.toNat : Int) ≥ 48 <;> simp [c] <;> omega
      have e2 : decide ((x.toNat : Int) > 57) = !decide ((x.toNat : Int) ≤ 57) := by by_cases c : (x.toNat : Int) ≤ 57 <;> simp [c] <;> omega
      by_cases h1 : (xIl x || (!f && digitC x)) = true
      · refine .inl ⟨false, by simp, by simp [xG8, h1], fun n => ?_⟩
        simp only [xCP, decide_eq_true hi', cond_true, Int.toNat_natCast, xBl hx, xAS hi hl, hi0, e1, e2]
        rw [if_pos (by omega)]
        unfold xIl digitC at h1
        by_cases c1 : (x.toNat : Int) ≥ 97 <;> by_cases c2 : (x.toNat : Int) ≤ 122 <;> by_cases c3 : (x.toNat : Int) ≥ 48 <;> by_cases c4 : (x.toNat : Int) ≤ 57 <;> cases f <;>
          simp only [c1, c2, c3, c4, decide_true, decide_false, cond_true, cond_false, Bool.not_true, Bool.not_false, Bool.and_true, Bool.and_false, Bool.or_true, Bool.or_false, Bool.false_and, Bool.true_and, Bool.false_or, Bool.false_eq_true] at h1 ⊢
      · refine .inr fun n => ?_
        have h1 := Bool.eq_false_iff.2 h1
        simp only [xCP, decide_eq_true hi', cond_true, Int.toNat_natCast, xBl hx, xAS hi hl, hi0, e1, e2, xG8, h1, Bool.false_and]
        rw [if_pos (by omega)]
        unfold xIl digitC at h1
        by_cases c1 : (x.toNat : Int) ≥ 97 <;> by_cases c2 : (x.toNat : Int) ≤ 122 <;> by_cases c3 : (x.toNat : Int) ≥ 48 <;> by_cases c4 : (x.toNat : Int) ≤ 57 <;> cases f <;>
          simp only [c1, c2, c3, c4, decide_true, decide_false, cond_true, cond_false, Bool.not_true, Bool.not_false, Bool.and_true, Bool.and_false, Bool.or_true, Bool.or_false, Bool.false_and, Bool.true_and, Bool.false_or, Bool.true_eq_false] at h1 ⊢) N 0 true rfl (by omega) (by omega)
def xHn : List Str := [[108, 101, 116], [105, 110], [105, 102], [116, 104, 101, 110], [101, 108, 115, 101], [102, 111, 114], [100, 111], [108, 101, 110], [115, 117, 109], [116, 97, 107, 101], [115, 107, 105, 112], [114, 97, 110, 103, 101], [110, 116, 104], [119, 104, 101, 114, 101], [107, 101, 101, 112], [97, 100, 100], [103, 114, 111, 117, 112], [106, 111, 105, 110], [99, 111, 108, 117, 109, 110], [114, 111, 119, 115], [99, 108, 111, 99, 107], [99, 104, 97, 110, 99, 101], [102, 105, 108, 101], [116, 97, 98, 108, 101]]
theorem spec_l1Has_eq {N : Nat} {xs : List Str} {s : Str} (hl : xs.length ≤ 9223372036854775807) (hn : xs.length < N) : xGP N xs s = some (xs.any (· == s)) :=
  xFK (σ := Unit) (L := fun n i _ => xEt N n xs s i) xs (fun l _ => l.any (· == s)) (fun _ _ => True) (fun n _ _ => by simp [xEt])
    (fun i x l _ hd hi hx _ => by
      have hi' : (i : Int) < (xs.length : Int) := by omega
      cases h1 : x == s
      · refine .inl ⟨(), trivial, by simp [h1], fun n => ?_⟩
        simp only [xEt, decide_eq_true hi', cond_true, Int.toNat_natCast, xBl hx, h1, cond_false, xAS hi hl]
        rw [if_pos (by omega)]
      · refine .inr fun n => ?_
        simp only [xEt, decide_eq_true hi', cond_true, Int.toNat_natCast, xBl hx, h1]
        rw [if_pos (by omega)]
        simp [h1]) N 0 () trivial (by omega) (by omega)
def xHV (s : Str) : Bool := xHn.any (· == s)
theorem spec_IsReserved_eq {N : Nat} {s : Str} (hn : 24 < N) : xEO N s = some (xHV s) := by
  unfold xEO xFy
  rw [Option.bind_some, show ([[108, 101, 116], [105, 110], [105, 102], [116, 104, 101, 110], [101, 108, 115, 101], [102, 111, 114], [100, 111], [108, 101, 110], [115, 117, 109], [116, 97, 107, 101], [115, 107, 105, 112], [114, 97, 110, 103, 101], [110, 116, 104], [119, 104, 101, 114, 101], [107, 101, 101, 112], [97, 100, 100], [103, 114, 111, 117, 112], [106, 111, 105, 110], [99, 111, 108, 117, 109, 110], [114, 111, 119, 115], [99, 108, 111, 99, 107], [99, 104, 97, 110, 99, 101], [102, 105, 108, 101], [116, 97, 98, 108, 101]] : List Str) = xHn from rfl, spec_l1Has_eq (by decide) hn]
  rfl
theorem impl_IsReserved_eq (N : Nat) (s : Str) : xEG N s = some (xHV s) := by
  by_cases h : s ∈ xHn
  · have h' : xHV s = true := List.any_eq_true.2 ⟨s, h, by simp⟩
    rw [h']
    simp only [xHn, List.mem_cons, List.not_mem_nil, or_false] at h
    rcases h with h | h | h | h | h | h | h | h | h | h | h | h | h | h | h | h | h | h | h | h | h | h | h | h <;> subst h <;> rfl
  · have h' : xHV s = false := by
      unfold xHV
      rw [List.any_eq_false]
      intro x hx hxs
      exact h (by rw [← eq_of_beq hxs]; exact hx)
    rw [h']
    have hne : ∀ x ∈ xHn, (s == x) = false := by
      intro x hx
      cases hb : s == x
      · rfl
      · exact absurd (by rw [eq_of_beq hb]; exact hx) h
    simp only [xHn, List.mem_cons, List.not_mem_nil, or_false, forall_eq_or_imp, forall_eq] at hne
    simp only [xEG, xEm, hne, cond_false, Option.bind_some]
    rfl
def xG6 (s : Str) : Bool := xG8 s true && (decide ((1 : Int) ≤ s.length) && decide ((s.length : Int) ≤ 8)) && !xHV s
theorem xId {N : Nat} {s : Str} (hl : s.length ≤ 9223372036854775807) (hn : s.length < N) : xEg N s = some (xG6 s) := by
  unfold xEg xG6
  rw [impl_isWord_eq hl hn, Option.bind_some]
  cases (xG8 s true && (decide ((1 : Int) ≤ s.length) && decide ((s.length : Int) ≤ 8)))
  · rfl
  · rw [impl_IsReserved_eq]; rfl
theorem xIp {N : Nat} {s : Str} (hl : s.length ≤ 9223372036854775807) (hn : s.length < N) (hn2 : 24 < N) : xEk N s = some (xG6 s) := by
  unfold xEk xG6
  rw [spec_l2Shape_eq hl hn, Option.bind_some, spec_IsReserved_eq hn2]
  have : decide ((s.length : Int) > 0) = decide ((1 : Int) ≤ s.length) := by by_cases c : (s.length : Int) > 0 <;> simp [c] <;> omega
  rw [this]
  cases xG8 s true <;> cases decide ((1 : Int) ≤ s.length) <;> cases decide ((s.length : Int) ≤ 8) <;> rfl
end Go.Ab
end
section
namespace Go.Ab
set_option linter.unusedVariables false
set_option linter.unusedSimpArgs false
theorem left_ge {s : Nat} {l : Int} (h : ¬ left s l < 0) : (s : Int) ≤ l := by unfold left at h; split at h <;> omega
end Go.Ab
end
section
namespace Go.Ab
set_option linter.unusedVariables false
set_option linter.unusedSimpArgs false
def xGo (n : Int) : Bool := decide ((-1000000000 : Int) ≤ n) && decide (n ≤ 1000000000)
theorem xGI (N : Nat) (n : Int) : xDr N n = some (xGo n) := by simp [xDr, xF2, xGo]
theorem xGG (N : Nat) (n : Int) : xDo N n = some (xGo n) := by simp [xDo, xEv, xGo]
theorem wrap_pred {i len : Nat} (h0 : i ≠ 0) (h : i < len) (hl : len ≤ 9223372036854775807) : IntKind.i64.wrap ((i : Int) - 1) = ((i - 1 : Nat) : Int) := by
  rw [xCr (by omega) (by omega)]; omega
theorem markText_some {N : Nat} (hN : 274877906944 < N) {k : Int} (h0 : 0 ≤ k) (h1 : k ≤ 137438953472) : ∃ t, xDp N k = some t := by
  unfold xDp
  cases decide (k ≤ 0)
  · rw [cond_false]
    obtain ⟨r, _, hr⟩ := whileLoop (L := fun n (s : Int × Str) => xDN N n s.1 s.2) (fun s => s.1.toNat) (fun s => 0 ≤ s.1 ∧ (s.2.length : Int) + s.1 ≤ 137438953472) (fun _ => True) (fun s hs => by
      obtain ⟨x, t⟩ := s
      obtain ⟨g0, g1⟩ := hs
      have g0 : 0 ≤ x := g0
      have g1 : (t.length : Int) + x ≤ 137438953472 := g1
      by_cases hx : x > 0
      · have hq : Int.tdiv x 10 = x / 10 := Int.tdiv_eq_ediv_of_nonneg g0
        refine .inl ⟨(IntKind.i64.wrap (Int.tdiv x 10), (List.map (fun n => UInt8.ofNat (Int.toNat n)) [(IntKind.u8.wrap ((IntKind.i64.wrap (48 + (Int.tmod x 10)))))]) ++ t), ?_, ?_, fun n => ?_⟩
        · show 0 ≤ IntKind.i64.wrap (Int.tdiv x 10) ∧ _
          rw [hq, xCr (by omega) (by omega)]
          simp only [List.map_cons, List.map_nil, List.cons_append, List.nil_append, List.length_cons]
          omega
        · show (IntKind.i64.wrap (Int.tdiv x 10)).toNat < x.toNat
          rw [hq, xCr (by omega) (by omega)]
          omega
        · simp only [xDN, decide_eq_true hx, cond_true]
          rw [if_pos (by simp only [List.map_cons, List.map_nil, List.length_cons, List.length_nil]; unfold Lim; omega)]
      · refine .inr ⟨[109] ++ t, trivial, fun n => ?_⟩
        simp only [xDN, decide_eq_false hx, cond_false]
        rw [if_pos (by simp only [List.length_cons, List.length_nil]; unfold Lim; omega)]) N (k, []) ⟨h0, by simpa using h1⟩ (by show k.toNat < N; omega)
    exact ⟨r, hr⟩
  · exact ⟨_, rfl⟩
end Go.Ab
end
section
namespace Go.Ab
set_option linter.unusedVariables false
set_option linter.unusedSimpArgs false
theorem szIntS_eq {N : Nat} {x0 : List Int} (h : x0.length ≤ 9223372036854775807) {l : Int} (h0 : 0 ≤ l) (h1 : l ≤ 1048576) : xG0 N x0 l = some (left x0.length l) := szLast h h0 h1
theorem szOriginS_eq {N : Nat} {x0 : List Org} (h : x0.length ≤ 9223372036854775807) {l : Int} (h0 : 0 ≤ l) (h1 : l ≤ 1048576) : xFP N x0 l = some (left x0.length l) := szLast h h0 h1
theorem szRow_eq {N : Nat} {r : Rowd} (h : r.Fit maxLen) {l : Int} (h0 : 0 ≤ l) (h1 : l ≤ 1048576) : xGO N r l = some (left r.size l) :=
  szBind h0 h1 (szIntS_eq h.1.1 h0 h1) fun m m0 m1 => left_two (szOriginS_eq h.2.1 m0 m1)
theorem szRowS_eq {N : Nat} {x0 : List Rowd} (h : LFit maxLen (Rowd.Fit maxLen) x0) (hn : x0.length < N) {l : Int} (h0 : 0 ≤ l) (h1 : l ≤ 1048576) : xG1 N x0 l = some (left (x0.length + (x0.map Rowd.size).sum) l) :=
  szThen h.1 h0 h1 rfl fun m hm0 hm1 => szLoop (L := fun n x0 x1 x5 => xFQ N n x0 x1 x5) (d := Ty.row.dflt) (sz := xGO N) (fun _ _ _ => rfl) h.1 (fun x hx l h0 h1 => szRow_eq (h.2 x hx) h0 h1) hn hm0 hm1
theorem szStringS_eq {N : Nat} {x0 : List Str} (h : LFit maxLen (Str.Fit maxLen) x0) (hn : x0.length < N) {l : Int} (h0 : 0 ≤ l) (h1 : l ≤ 1048576) : xFR N x0 l = some (left (x0.length + (x0.map List.length).sum) l) :=
  szThen h.1 h0 h1 rfl fun m hm0 hm1 => szLoopG (L := fun n x0 x1 x5 => xEL N n x0 x1 x5) (d := Ty.str.dflt) (sz := fun s l => some (IntKind.i64.wrap (l - (List.length s : Int)))) (size := List.length) (fun _ _ _ => rfl) h.1
    (fun x hx l h0 h1 => by
      have hx : x.length ≤ 9223372036854775807 := h.2 x hx
      exact ⟨_, rfl, fun h => by rw [xCr (by omega) (by omega)], fun h => by rw [xCr (by omega) (by omega)]; omega⟩) hn hm0 hm1
theorem szValue_big : ∀ v : Val, v.Fit maxLen → Big2 fun N d => ∀ l, 0 ≤ l → l ≤ 1048576 → (xB9 N d).c_laws_szValue v l = some (left v.size l) := by
  refine Val.ind fun k n s t a c r ih h => ?_
  obtain ⟨h1, h2, h3, h4, h5, h6, h7⟩ := Val.fit_iff.1 h
  refine Big2.succ (Big2.succ ?_)
  refine ((Big2.list fun x hx => ih x hx (h5.2 x hx)).and ((xGS a.length).and ((xGS c.length).and (xGS r.length))).two).imp fun N d ⟨hx, hn, hc, hr⟩ l h0 l1 => ?_
  have e : (Val.mk k n s t a c r).size = t.length + ((a.length + (a.map Val.size).sum) + ((c.length + (c.map List.length).sum) + (r.length + (r.map Rowd.size).sum))) := by rw [Val.size_eq]; simp only [Val.text, Val.list, Val.columns, Val.rows]; omega
  rw [e]
  exact szThen h4 h0 l1 rfl fun m m0 m1 => szBind m0 m1 (szThen h5.1 m0 m1 rfl fun m m0 m1 =>
    szLoop (L := fun n x0 x1 x5 => xE5 N (xB9 N d).c_laws_szValue (xB9 N d).c_laws_szValueS n x0 x1 x5) (d := Ty.val.dflt) (sz := (xB9 N d).c_laws_szValue)
      (fun _ _ _ => rfl) h5.1 (fun x hxm l h0 h1 => hx x hxm l h0 h1) hn m0 m1) fun m m0 m1 => szBind m0 m1 (szStringS_eq h6 hc m0 m1) fun m m0 m1 => left_two (szRowS_eq h7 hr m0 m1)
theorem xHp {v : Val} (h : v.Fit maxLen) : Big fun N => ∀ l, 0 ≤ l → l ≤ 1048576 → xF1 N v l = some (left v.size l) := (szValue_big v h).diag
theorem toIntS_eq {N : Nat} {x0 : List Int} (hl : x0.length ≤ 1048576) (hn : x0.length < N) : xGl N x0 = some x0 := by
  unfold xGl
  rw [if_pos ⟨by omega, rfl, by unfold Lim; omega⟩]
  exact toLoop (L := fun n x0 x3 x4 => xFS N n x0 x3 x4) (to := some) (re := fun r => r) (fun _ _ _ => rfl) (by omega) (fun x hx => ⟨x, rfl, rfl⟩) hn
theorem toStringS_eq {N : Nat} {x0 : List Str} (hl : x0.length ≤ 1048576) (hn : x0.length < N) : xFk N x0 = some x0 := by
  unfold xFk
  rw [if_pos ⟨by omega, rfl, by unfold Lim; omega⟩]
  exact toLoop (L := fun n x0 x3 x4 => xEN N n x0 x3 x4) (to := some) (re := fun r => r) (fun _ _ _ => rfl) (by omega) (fun x hx => ⟨x, rfl, rfl⟩) hn
theorem toOriginS_eq {N : Nat} {x0 : List Org} (hl : x0.length ≤ 1048576) (hn : x0.length < N) : xFi N x0 = some x0 := by
  unfold xFi
  rw [if_pos ⟨by omega, rfl, by unfold Lim; omega⟩]
  exact toLoop (L := fun n x0 x3 x4 => xEM N n x0 x3 x4) (to := xGa N) (re := fun r => r) (fun _ _ _ => rfl) (by omega) (fun x hx => ⟨x, rfl, rfl⟩) hn
theorem toRow_eq {N : Nat} {r : Rowd} (h : r.Fit 1048576) (hN : 1048576 < N) : xGm N r = some r := by
  have h1 : r.cells.length ≤ 1048576 := h.1.1
  have h2 : r.frm.length ≤ 1048576 := h.2.1
  unfold xGm
  rw [toIntS_eq h1 (by omega), toOriginS_eq h2 (by omega)]; rfl
theorem toRowS_eq {N : Nat} {x0 : List Rowd} (h : LFit 1048576 (Rowd.Fit 1048576) x0) (hN : 1048576 < N) : xGn N x0 = some x0 := by
  have hl : x0.length ≤ 1048576 := h.1
  unfold xGn
  rw [if_pos ⟨by omega, rfl, by unfold Lim; omega⟩]
  exact toLoop (L := fun n x0 x3 x4 => xFT N n x0 x3 x4) (to := xGm N) (re := fun r => r) (fun _ _ _ => rfl) (by omega) (fun x hx => ⟨x, toRow_eq (h.2 x hx) hN, rfl⟩) (by omega)
theorem toValueS_step {N d : Nat} {a : List Val} (hl : a.length ≤ 1048576) (hn : a.length < N) (hx : ∀ x ∈ a, (xBc N d).c_laws_toValue x = some x) : (xBc N (d + 1)).c_laws_toValueS a = some a := by
  show xDB N (xBc N d).c_laws_toValue (xBc N d).c_laws_toValueS a = _
  unfold xDB
  rw [if_pos ⟨by omega, rfl, by unfold Lim; omega⟩]
  exact toLoop (L := fun n x0 x3 x4 => xE7 N (xBc N d).c_laws_toValue (xBc N d).c_laws_toValueS n x0 x3 x4) (to := (xBc N d).c_laws_toValue) (re := Val.re) (fun _ _ _ => rfl) (by omega) (fun x hxm => ⟨x, hx x hxm, Val.re_eq x⟩) hn
theorem toValue_big : ∀ v : Val, v.Fit 1048576 → Big2 fun N d => (xBc N d).c_laws_toValue v = some v := by
  refine Val.ind fun k n s t a c r ih h => ?_
  obtain ⟨h1, h2, h3, h4, h5, h6, h7⟩ := Val.fit_iff.1 h
  refine Big2.succ (Big2.succ ?_)
  refine ((Big2.list fun x hx => ih x hx (h5.2 x hx)).and (xGS 1048576).two).imp fun N d ⟨hx, hN⟩ => ?_
  have hl : a.length ≤ 1048576 := h5.1
  have hc : c.length ≤ 1048576 := h6.1
  show xD3 N (xBc N (d + 1)).c_laws_toValue (xBc N (d + 1)).c_laws_toValueS _ = _
  unfold xD3
  simp only [Val.list, Val.columns, Val.rows, toValueS_step (N := N) hl (by omega) hx, toStringS_eq (N := N) hc (by omega), toRowS_eq (x0 := r) h7 hN, Option.bind_some]
  rfl
theorem toValue_eq {v : Val} (h : v.Fit 1048576) : Big fun N => xA8 N v = some v := (toValue_big v h).diag
theorem eqIntS_self {N : Nat} {x0 : List Int} (hl : x0.length ≤ 9223372036854775807) (hn : x0.length < N) : xGh N x0 x0 = some true := by
  unfold xGh
  rw [bne_self_eq_false, cond_false]
  exact eqLoop (L := fun n i => xEx N n x0 x0 i) (fun n => by simp [xEx]) (fun i x n hi hx hm => by
    have hi' : (i : Int) < (x0.length : Int) := by omega
    simp only [xEx, decide_eq_true hi', cond_true, Int.toNat_natCast, xBl hx, xAS hi hl, bne_self_eq_false, cond_false]
    rw [if_pos (by omega), if_pos (by omega)]) hn
theorem eqStringS_self {N : Nat} {x0 : List Str} (hl : x0.length ≤ 9223372036854775807) (hn : x0.length < N) : xFf N x0 x0 = some true := by
  unfold xFf
  rw [bne_self_eq_false, cond_false]
  exact eqLoop (L := fun n i => xDh N n x0 x0 i) (fun n => by simp [xDh]) (fun i x n hi hx hm => by
    have hi' : (i : Int) < (x0.length : Int) := by omega
    simp only [xDh, decide_eq_true hi', cond_true, Int.toNat_natCast, xBl hx, xAS hi hl, beq_self_eq_true, Bool.not_true, cond_false]
    rw [if_pos (by omega), if_pos (by omega)]) hn
theorem eqOrigin_self (N : Nat) (f : Org) : xFB N f f = some true := by simp [xFB]
theorem eqOriginS_self {N : Nat} {x0 : List Org} (hl : x0.length ≤ 9223372036854775807) (hn : x0.length < N) : xFd N x0 x0 = some true := by
  unfold xFd
  rw [bne_self_eq_false, cond_false]
  exact eqLoop (L := fun n i => xDf N n x0 x0 i) (fun n => by simp [xDf]) (fun i x n hi hx hm => by
    have hi' : (i : Int) < (x0.length : Int) := by omega
    simp only [xDf, decide_eq_true hi', cond_true, Int.toNat_natCast, xBl hx, eqOrigin_self, Option.bind_some, xAS hi hl, Bool.not_true, cond_false]
    rw [if_pos (by omega), if_pos (by omega)]) hn
theorem eqRow_self {N K : Nat} {r : Rowd} (h : r.Fit K) (hK : K ≤ 9223372036854775807) (hN : K < N) : xGN N r r = some true := by
  have h1 : r.cells.length ≤ K := h.1.1
  have h2 : r.frm.length ≤ K := h.2.1
  simp [xGN, eqIntS_self (by omega : r.cells.length ≤ _) (by omega : _ < N), eqOriginS_self (by omega : r.frm.length ≤ _) (by omega : _ < N)]
theorem eqRowS_self {N K : Nat} {x0 : List Rowd} (h : LFit K (Rowd.Fit K) x0) (hK : K ≤ 9223372036854775807) (hN : K < N) : xGi N x0 x0 = some true := by
  have hl : x0.length ≤ K := h.1
  unfold xGi
  rw [bne_self_eq_false, cond_false]
  exact eqLoop (x0 := x0) (L := fun n i => xEy N n x0 x0 i) (fun n => by simp [xEy]) (fun i x n hi hx hm => by
    have hi' : (i : Int) < (x0.length : Int) := by omega
    simp only [xEy, decide_eq_true hi', cond_true, Int.toNat_natCast, xBl hx, eqRow_self (h.2 x hm) hK hN, Option.bind_some, xAS hi (by omega : x0.length ≤ _), Bool.not_true, cond_false]
    rw [if_pos (by omega), if_pos (by omega)]) (by omega)
theorem eqValueS_step {N d : Nat} {a : List Val} (hl : a.length ≤ 9223372036854775807) (hn : a.length < N) (hx : ∀ x ∈ a, (xBh N d).c_laws_eqValue x x = some true) : (xBh N (d + 1)).c_laws_eqValueS a a = some true := by
  show xDz N (xBh N d).c_laws_eqValue (xBh N d).c_laws_eqValueS a a = _
  unfold xDz
  rw [bne_self_eq_false, cond_false]
  exact eqLoop (L := fun n i => xDH N (xBh N d).c_laws_eqValue (xBh N d).c_laws_eqValueS n a a i) (fun n => by simp [xDH]) (fun i x n hi hxi hm => by
    have hi' : (i : Int) < (a.length : Int) := by omega
    simp only [xDH, decide_eq_true hi', cond_true, Int.toNat_natCast, xBl hxi, hx x hm, Option.bind_some, xAS hi (by omega : a.length ≤ _), Bool.not_true, cond_false]
    rw [if_pos (by omega), if_pos (by omega)]) hn
theorem eqValue_big {K : Nat} (hK : K ≤ 9223372036854775807) : ∀ v : Val, v.Fit K → Big2 fun N d => (xBh N d).c_laws_eqValue v v = some true := by
  refine Val.ind fun k n s t a c r ih h => ?_
  obtain ⟨h1, h2, h3, h4, h5, h6, h7⟩ := Val.fit_iff.1 h
  refine Big2.succ (Big2.succ ?_)
  refine ((Big2.list fun x hx => ih x hx (h5.2 x hx)).and (xGS K).two).imp fun N d ⟨hx, hN⟩ => ?_
  have hl : a.length ≤ K := h5.1
  have hc : c.length ≤ K := h6.1
  show xDZ N (xBh N (d + 1)).c_laws_eqValue (xBh N (d + 1)).c_laws_eqValueS _ _ = _
  unfold xDZ
  simp only [Val.list, Val.columns, Val.rows, eqValueS_step (by omega : a.length ≤ _) (by omega : _ < N) hx, eqStringS_self (by omega : c.length ≤ _) (by omega : _ < N), eqRowS_self (x0 := r) h7 hK hN, Option.bind_some, bne_self_eq_false, beq_self_eq_true, Bool.not_true, cond_false]
theorem xHK {v : Val} {K : Nat} (h : v.Fit K) (hK : K ≤ 9223372036854775807) : Big fun N => xA7 N v v = some true := (eqValue_big hK v h).diag
def cOne {α : Type} (_ : α) : Nat := 1
def cOrg (_ : Org) : Nat := 2
def cRow (r : Rowd) : Nat := (r.cells.map cOne).sum + (r.frm.map cOrg).sum
theorem cOne_sum {α : Type} (xs : List α) : (xs.map cOne).sum = xs.length := by
  induction xs with
  | nil => rfl
  | cons x l ih => simp only [List.map_cons, List.sum_cons, ih, List.length_cons, cOne]; omega
theorem cOrg_sum (xs : List Org) : (xs.map cOrg).sum = 2 * xs.length := by
  induction xs with
  | nil => rfl
  | cons x l ih => simp only [List.map_cons, List.sum_cons, ih, List.length_cons, cOrg]; omega
theorem markIntS_held {N : Nat} (hN : 274877906944 < N) {xs : List Int} {k : Int} (h0 : 0 ≤ k) (h1 : k + ((xs.map cOne).sum : Nat) ≤ 137438953472) :
    ∃ ys, ys.length = xs.length ∧ xF9 N xs k = some (k + ((xs.map cOne).sum : Nat), ys) ∧ xF7 N ys k = some (k + ((xs.map cOne).sum : Nat)) := by
  have hs := cOne_sum xs
  refine markHeld (Lm := fun n xs k i => xDL N n xs k i) (Lh := fun n ys k i => xDI N n ys k i) (c := cOne) (fun n xs k hl => by simp [xDL]) (fun n ys k hl => by simp [xDI])
    (fun x hx k hk hB => ?_) h1 (by omega)
  have hc : cOne x = 1 := rfl
  rw [hc] at hB ⊢
  refine ⟨k, fun n xs' i hl hxi => ?_, fun n ys i hl hyi => ?_⟩
  · have hi := (List.getElem?_eq_some_iff.1 hxi).1
    have hi' : (i : Int) < (xs'.length : Int) := by omega
    simp only [xDL, decide_eq_true hi', cond_true, Int.toNat_natCast, xAS hi (by omega : xs'.length ≤ _), xCr (x := k + 1) (by omega) (by omega)]
    rw [if_pos (by omega)]; rfl
  · have hi := (List.getElem?_eq_some_iff.1 hyi).1
    have hi' : (i : Int) < (ys.length : Int) := by omega
    simp only [xDI, decide_eq_true hi', cond_true, Int.toNat_natCast, xBl hyi, xAS hi (by omega : ys.length ≤ _), xCr (x := k + 1) (by omega) (by omega), bne_self_eq_false, cond_false]
    rw [if_pos (by omega)]; rfl
theorem xHC {N : Nat} (hN : 274877906944 < N) {xs : List Str} {k : Int} (h0 : 0 ≤ k) (h1 : k + ((xs.map cOne).sum : Nat) ≤ 137438953472) :
    ∃ ys, ys.length = xs.length ∧ xEj N xs k = some (k + ((xs.map cOne).sum : Nat), ys) ∧ xDK N ys k = some (k + ((xs.map cOne).sum : Nat)) := by
  have hs := cOne_sum xs
  refine markHeld (Lm := fun n xs k i => xCG N n xs k i) (Lh := fun n ys k i => xCg N n ys k i) (c := cOne) (fun n xs k hl => by simp [xCG]) (fun n ys k hl => by simp [xCg])
    (fun x hx k hk hB => ?_) h1 (by omega)
  have hc : cOne x = 1 := rfl
  rw [hc] at hB ⊢
  obtain ⟨t, ht⟩ := markText_some hN (k := k) (by omega) (by omega)
  refine ⟨t, fun n xs' i hl hxi => ?_, fun n ys i hl hyi => ?_⟩
  · have hi := (List.getElem?_eq_some_iff.1 hxi).1
    have hi' : (i : Int) < (xs'.length : Int) := by omega
    simp only [xCG, decide_eq_true hi', cond_true, Int.toNat_natCast, ht, Option.bind_some, xAS hi (by omega : xs'.length ≤ _), xCr (x := k + 1) (by omega) (by omega)]
    rw [if_pos (by omega)]; rfl
  · have hi := (List.getElem?_eq_some_iff.1 hyi).1
    have hi' : (i : Int) < (ys.length : Int) := by omega
    simp only [xCg, decide_eq_true hi', cond_true, Int.toNat_natCast, xBl hyi, ht, Option.bind_some, xAS hi (by omega : ys.length ≤ _), xCr (x := k + 1) (by omega) (by omega), beq_self_eq_true, Bool.not_true, cond_false]
    rw [if_pos (by omega)]; rfl
theorem markOriginS_held {N : Nat} (hN : 274877906944 < N) {xs : List Org} {k : Int} (h0 : 0 ≤ k) (h1 : k + ((xs.map cOrg).sum : Nat) ≤ 137438953472) :
    ∃ ys, ys.length = xs.length ∧ xE3 N xs k = some (k + ((xs.map cOrg).sum : Nat), ys) ∧ xE2 N ys k = some (k + ((xs.map cOrg).sum : Nat)) := by
  have hs := cOrg_sum xs
  refine markHeld (Lm := fun n xs k i => xCF N n xs k i) (Lh := fun n ys k i => xCE N n ys k i) (c := cOrg) (fun n xs k hl => by simp [xCF]) (fun n ys k hl => by simp [xCE])
    (fun x hx k hk hB => ?_) h1 (by omega)
  have hc : cOrg x = 2 := rfl
  rw [hc] at hB ⊢
  refine ⟨⟨k, k + 1⟩, fun n xs' i hl hxi => ?_, fun n ys i hl hyi => ?_⟩
  · have hi := (List.getElem?_eq_some_iff.1 hxi).1
    have hi' : (i : Int) < (xs'.length : Int) := by omega
    simp only [xCF, decide_eq_true hi', cond_true, Int.toNat_natCast, xBl hxi, List.length_set, xHs hi, List.set_set, xAS hi (by omega : xs'.length ≤ _)]
    rw [if_pos (by omega), if_pos (by omega), xCr (x := k + 1) (by omega) (by omega), xCr (x := k + 1 + 1) (by omega) (by omega)]
    congr 1
    omega
  · have hi := (List.getElem?_eq_some_iff.1 hyi).1
    have hi' : (i : Int) < (ys.length : Int) := by omega
    simp only [xCE, decide_eq_true hi', cond_true, Int.toNat_natCast, xBl hyi, xAS hi (by omega : ys.length ≤ _), xCr (x := k + 1) (by omega) (by omega), xCr (x := k + 1 + 1) (by omega) (by omega), bne_self_eq_false, cond_false]
    rw [if_pos (by omega)]
    congr 1
    omega
theorem markRowS_held {N : Nat} (hN : 274877906944 < N) {xs : List Rowd} {k : Int} (hlen : xs.length ≤ 137438953472) (h0 : 0 ≤ k) (h1 : k + ((xs.map cRow).sum : Nat) ≤ 137438953472) :
    ∃ ys, ys.length = xs.length ∧ xFC N xs k = some (k + ((xs.map cRow).sum : Nat), ys) ∧ xEV N ys k = some (k + ((xs.map cRow).sum : Nat)) := by
  refine markHeld (Lm := fun n xs k i => xDM N n xs k i) (Lh := fun n ys k i => xC7 N n ys k i) (c := cRow) (fun n xs k hl => by simp [xDM]) (fun n ys k hl => by simp [xC7])
    (fun x hx k hk hB => ?_) h1 (by omega)
  have hc : cRow x = (x.cells.map cOne).sum + (x.frm.map cOrg).sum := rfl
  rw [hc] at hB ⊢
  obtain ⟨ya, a1, a2, a3⟩ := markIntS_held hN (xs := x.cells) (k := k) (by omega) (by omega)
  obtain ⟨yb, b1, b2, b3⟩ := markOriginS_held hN (xs := x.frm) (k := k + ((x.cells.map cOne).sum : Nat)) (by omega) (by omega)
  refine ⟨⟨ya, yb⟩, fun n xs' i hl hxi => ?_, fun n ys i hl hyi => ?_⟩
  · have hi := (List.getElem?_eq_some_iff.1 hxi).1
    have hi' : (i : Int) < (xs'.length : Int) := by omega
    have hcd : (0 : Int) ≤ (i : Int) ∧ (i : Int) < (xs'.length : Int) := by omega
    simp only [xDM, decide_eq_true hi', cond_true, Int.toNat_natCast, xBl hxi, List.length_set, xHs hi, List.set_set, xAS hi (by omega : xs'.length ≤ _), if_pos hcd, a2, b2, if_pos a1, if_pos b1, Option.bind_some]
    congr 1
    omega
  · have hi := (List.getElem?_eq_some_iff.1 hyi).1
    have hi' : (i : Int) < (ys.length : Int) := by omega
    have hcd : (0 : Int) ≤ (i : Int) ∧ (i : Int) < (ys.length : Int) := by omega
    simp only [xC7, decide_eq_true hi', cond_true, Int.toNat_natCast, xBl hyi, xAS hi (by omega : ys.length ≤ _), if_pos hcd, a3, b3, Option.bind_some]
    rw [decide_eq_false (by omega), cond_false, decide_eq_false (by omega), cond_false]
    congr 1
    omega
mutual
def Val.cnt : Val → Nat
  | .mk _ _ _ _ l c r => 4 + Val.cnts l + (c.map cOne).sum + (r.map cRow).sum
def Val.cnts : List Val → Nat
  | [] => 0
  | x :: r => Val.cnt x + Val.cnts r
end
theorem Val.cnts_eq (l : List Val) : Val.cnts l = (l.map Val.cnt).sum := by
  induction l with
  | nil => rfl
  | cons x l ih => simp [Val.cnts, ih]
theorem cRow_le (l : List Rowd) : (l.map cRow).sum ≤ 2 * (l.length + (l.map Rowd.size).sum) :=
  sum_le_mul fun x _ => by simp only [cRow, cOne_sum, cOrg_sum, Rowd.size]; omega
theorem Val.cnt_le : ∀ v : Val, v.cnt ≤ 4 + 4 * v.size := by
  refine Val.ind fun k n s t l c r ih => ?_
  have h1 := sum_le_mul (f := Val.cnt) (g := Val.size) (l := l) (a := 4) fun x hx => ih x hx
  have h2 := cRow_le r
  have h3 := cOne_sum c
  rw [Val.size_eq]
  simp only [Val.cnt, Val.cnts_eq, Val.text, Val.list, Val.columns, Val.rows, h3] at h1 h2 ⊢
  omega
theorem cnts_len (l : List Val) : l.length ≤ (l.map Val.cnt).sum := by
  induction l with
  | nil => simp
  | cons x l ih =>
    have : 4 ≤ x.cnt := by cases x; simp only [Val.cnt]; omega
    simp only [List.length_cons, List.map_cons, List.sum_cons]; omega
def MarkV (N d : Nat) (l : List Val) : Prop := ∀ k : Int, 0 ≤ k → k + ((l.map Val.cnt).sum : Nat) ≤ 137438953472 →
    ∃ ys, ys.length = l.length ∧ xEb N d l k = some (k + ((l.map Val.cnt).sum : Nat), ys) ∧ xDj N d ys k = some (k + ((l.map Val.cnt).sum : Nat))
theorem markV_step {N d : Nat} (hN : 274877906944 < N) {l : List Val} (hr : ∀ x ∈ l, x.rows.length ≤ 137438953472) (hx : ∀ x ∈ l, MarkV N d x.list) : MarkV N (d + 1) l := by
  intro k h0 h1
  have hlen := cnts_len l
  refine markHeld (Lm := fun n xs k i => xC0 N (xEb N d) n xs k i) (Lh := fun n ys k i => xCp N (xDj N d) n ys k i) (c := Val.cnt) (fun n xs k hl => by simp [xC0]) (fun n ys k hl => by simp [xCp])
    (fun x hxm k hk hB => ?_) h1 (by omega)
  have hc : x.cnt = 4 + (x.list.map Val.cnt).sum + (x.columns.map cOne).sum + (x.rows.map cRow).sum := by cases x; simp only [Val.cnt, Val.cnts_eq, Val.list, Val.columns, Val.rows]
  rw [hc] at hB ⊢
  obtain ⟨t, ht⟩ := markText_some hN (k := k + 1 + 1 + 1) (by omega) (by omega)
  obtain ⟨ya, a1, a2, a3⟩ := hx x hxm (k + 1 + 1 + 1 + 1) (by omega) (by omega)
  obtain ⟨yb, b1, b2, b3⟩ := xHC hN (xs := x.columns) (k := k + 1 + 1 + 1 + 1 + ((x.list.map Val.cnt).sum : Nat)) (by omega) (by omega)
  obtain ⟨yc, c1, c2, c3⟩ := markRowS_held hN (xs := x.rows) (k := k + 1 + 1 + 1 + 1 + ((x.list.map Val.cnt).sum : Nat) + ((x.columns.map cOne).sum : Nat)) (hr x hxm) (by omega) (by omega)
  have w1 : IntKind.i64.wrap (k + 1) = k + 1 := xCr (by omega) (by omega)
  have w2 : IntKind.i64.wrap (k + 1 + 1) = k + 1 + 1 := xCr (by omega) (by omega)
  have w3 : IntKind.i64.wrap (k + 1 + 1 + 1) = k + 1 + 1 + 1 := xCr (by omega) (by omega)
  have w4 : IntKind.i64.wrap (k + 1 + 1 + 1 + 1) = k + 1 + 1 + 1 + 1 := xCr (by omega) (by omega)
  refine ⟨.mk k (k + 1) (k + 1 + 1) t ya yb yc, fun n xs' i hl hxi => ?_, fun n ys i hl hyi => ?_⟩
  · have hi := (List.getElem?_eq_some_iff.1 hxi).1
    have hi' : (i : Int) < (xs'.length : Int) := by omega
    have hcd : (0 : Int) ≤ (i : Int) ∧ (i : Int) < (xs'.length : Int) := by omega
    simp only [xC0, decide_eq_true hi', cond_true, Int.toNat_natCast, xBl hxi, List.length_set, xHs hi, List.set_set, xAS hi (by omega : xs'.length ≤ _), if_pos hcd, w1, w2, w3, w4, ht, Option.bind_some,
      vk, vn, vs, vt, vl, vc, vr, a2, b2, c2, if_pos a1, if_pos b1, if_pos c1]
    congr 1
    omega
  · have hi := (List.getElem?_eq_some_iff.1 hyi).1
    have hi' : (i : Int) < (ys.length : Int) := by omega
    have hcd : (0 : Int) ≤ (i : Int) ∧ (i : Int) < (ys.length : Int) := by omega
    simp only [xCp, decide_eq_true hi', cond_true, Int.toNat_natCast, xBl hyi, xAS hi (by omega : ys.length ≤ _), if_pos hcd, w1, w2, w3, w4, ht, Option.bind_some, vk, vn, vs, vt, vl, vc, vr, a3, b3, c3, bne_self_eq_false, beq_self_eq_true, Bool.not_true, cond_false]
    rw [decide_eq_false (by omega), cond_false, decide_eq_false (by omega), cond_false, decide_eq_false (by omega), cond_false]
    congr 1
    omega
theorem markV_big {K : Nat} (hK : K ≤ 137438953472) : ∀ v : Val, v.Fit K → Big2 fun N d => MarkV N d v.list := by
  refine Val.ind fun k n s t a c r ih h => ?_
  obtain ⟨h1, h2, h3, h4, h5, h6, h7⟩ := Val.fit_iff.1 h
  refine Big2.succ ?_
  refine ((Big2.list fun x hx => ih x hx (h5.2 x hx)).and (xGS 274877906944).two).imp fun N d ⟨hx, hN⟩ => ?_
  exact markV_step hN (fun x hxm => by have := (Val.fit_iff.1 (h5.2 x hxm)).2.2.2.2.2.2.1; omega) hx
theorem xHT {K : Nat} (hK : K ≤ 137438953472) {v : Val} (h : v.Fit K) :
    Big fun N => ∀ k : Int, 0 ≤ k → k + (v.cnt : Nat) ≤ 137438953472 → ∃ k' xa xb xc, 0 ≤ k' ∧ k' ≤ k + (v.cnt : Nat) ∧ xa.length = v.list.length ∧ xb.length = v.columns.length ∧ xc.length = v.rows.length ∧ xBz N v k = some (k', xa, xb, xc) ∧ xA9 N (Val.mk v.kind v.n v.step v.text xa xb xc) k = some k' := by
  have hb := (markV_big hK v h).diag
  refine (hb.and (xGS 274877906944)).imp fun N ⟨hm, hN⟩ k k0 kB => ?_
  have hc' : v.cnt = 4 + (v.list.map Val.cnt).sum + (v.columns.map cOne).sum + (v.rows.map cRow).sum := by cases v; simp only [Val.cnt, Val.cnts_eq, Val.list, Val.columns, Val.rows]
  obtain ⟨ya, a1, a2, a3⟩ := hm k (by omega) (by omega)
  obtain ⟨yb, b1, b2, b3⟩ := xHC hN (xs := v.columns) (k := k + ((v.list.map Val.cnt).sum : Nat)) (by omega) (by omega)
  obtain ⟨yc, c1, c2, c3⟩ := markRowS_held hN (xs := v.rows) (k := k + ((v.list.map Val.cnt).sum : Nat) + ((v.columns.map cOne).sum : Nat)) (by have := (Val.fit_iff.1 h).2.2.2.2.2.2.1; omega) (by omega) (by omega)
  have a2' : xGZ N v.list k = _ := a2
  have a3' : xF8 N ya k = _ := a3
  refine ⟨k + ((v.list.map Val.cnt).sum : Nat) + ((v.columns.map cOne).sum : Nat) + ((v.rows.map cRow).sum : Nat), ya, yb, yc, by omega, by omega, a1, b1, c1, ?_, ?_⟩
  · simp only [xBz, a2', Option.bind_some, if_pos a1, b2, if_pos b1, c2, if_pos c1]
  · simp only [xA9, vl, vc, vr, a3', b3, c3, Option.bind_some]
    rw [decide_eq_false (by omega), cond_false, decide_eq_false (by omega), cond_false, decide_eq_false (by omega), cond_false]
theorem markValue_held {K : Nat} (hK : K ≤ 137438953472) {v : Val} (h : v.Fit K) (hc : v.cnt ≤ 100000000000) :
    Big fun N => ∃ k xa xb xc, 0 ≤ k ∧ xa.length = v.list.length ∧ xb.length = v.columns.length ∧ xc.length = v.rows.length ∧ xBz N v 1 = some (k, xa, xb, xc) ∧ xA9 N (Val.mk v.kind v.n v.step v.text xa xb xc) 1 = some k :=
  (xHT hK h).imp fun N h => by
    obtain ⟨k', xa, xb, xc, h0, _, h2⟩ := h 1 (by omega) (by omega)
    exact ⟨k', xa, xb, xc, h0, h2⟩
theorem val_of_cells {a0 : Val} (f0 : ∀ z ∈ [CV.int .i64 (Val.kind a0), .int .i64 (Val.n a0), .int .i64 (Val.step a0), .str (Val.text a0), .sl .ro .val (Val.list a0), .sl .ro .str (Val.columns a0), .sl .ro .row (Val.rows a0)], DFit z.toD) : a0.Fit maxLen := by
  have f := fun z hz => (f0 z hz).dk
  simp only [List.mem_cons, List.not_mem_nil, or_false, forall_eq_or_imp, forall_eq] at f
  obtain ⟨h1, h2, h3, h4, h5, h6, h7⟩ := f
  refine Val.fit_iff.2 ⟨cell_int h1, cell_int h2, cell_int h3, cell_str h4, cell_sl h5, (cell_sl h6).imp fun x hx => ?_, (cell_sl h7).imp fun x hx => rowd_fit.1 hx⟩
  exact DK.str_iff.1 (hx _ List.mem_cons_self)
end Go.Ab
end
section
namespace Go.Ab
set_option linter.unusedVariables false
set_option linter.unusedSimpArgs false
theorem spec_l3Row_eq {N K : Nat} {r : Rowd} (h : r.Fit K) (hK : K ≤ 137438953472) : xGR N r = some r := by
  have h1 : r.cells.length ≤ K := h.1.1
  have h2 : r.frm.length ≤ K := h.2.1
  unfold xGR
  rw [if_pos (by unfold Lim; omega), if_pos (by unfold Lim; omega)]; rfl
theorem impl_copyRow_eq {N K : Nat} {r : Rowd} (h : r.Fit K) (hK : K ≤ 137438953472) : xGC N r = some r := spec_l3Row_eq (N := N) h hK
theorem spec_copy_b7_eq {N K : Nat} {rc : Val → Option Val} {v z : Val} {k n s : Int} {t : Str} {l : List Val} {c : List Str} (h : LFit K (Rowd.Fit K) v.rows) (hK : K ≤ 137438953472) (hN : K < N) :
    xDV N rc N 0 v z (Val.mk k n s t l c []) = some (Val.mk k n s t l c v.rows) := by
  have hl : v.rows.length ≤ K := h.1
  exact xFK (L := fun m i q => xDV N rc m i v z (Val.mk k n s t l c q)) v.rows (fun r q => Val.mk k n s t l c (q ++ r)) (fun i q => q.length = i) (fun m q hq => by simp [xDV])
    (fun i x r q hd hi hx hq => by
      have hq : q.length = i := hq
      have hi' : (i : Int) < (v.rows.length : Int) := by omega
      refine .inl ⟨q ++ [x], by simp [hq], by simp, fun m => ?_⟩
      simp only [xDV, decide_eq_true hi', cond_true, Int.toNat_natCast, xBl hx, spec_l3Row_eq (h.2 x (List.mem_of_getElem? hx)) hK, Option.bind_some, xAS hi (by omega : v.rows.length ≤ _), vk, vn, vs, vt, vl, vc, vr]
      rw [if_pos (by omega), if_pos (by simp only [List.length_cons, List.length_nil]; unfold Lim; omega)]) N 0 [] rfl (by omega) (by omega)
theorem spec_copy_step {N d K : Nat} {v : Val} (h : v.Fit K) (hK : K ≤ 137438953472) (hN : K < N) (hx : ∀ x ∈ v.list, xEf N d x = some x) : xEl N (xEf N d) v = some v := by
  obtain ⟨h1, h2, h3, h4, h5, h6, h7⟩ := Val.fit_iff.1 h
  have hl : v.list.length ≤ K := h5.1
  have hc : v.columns.length ≤ K := h6.1
  unfold xEl
  rw [if_pos (by unfold Lim; omega)]
  have key := xFK (L := fun m i q => xEB N (xEf N d) m i v (Val.mk 0 0 0 [] [] [] []) (Val.mk v.kind v.n v.step v.text q ([] ++ v.columns) [])) v.list (fun l q => Val.mk v.kind v.n v.step v.text (q ++ l) v.columns v.rows) (fun i q => q.length = i)
    (fun m q hq => by
      simp only [xEB, Int.lt_irrefl, decide_false, cond_false, List.append_nil, List.nil_append]
      exact spec_copy_b7_eq h7 hK hN)
    (fun i x l q hd hi hxi hq => by
      have hq : q.length = i := hq
      have hi' : (i : Int) < (v.list.length : Int) := by omega
      refine .inl ⟨q ++ [x], by simp [hq], by simp, fun m => ?_⟩
      simp only [xEB, decide_eq_true hi', cond_true, Int.toNat_natCast, xBl hxi, hx x (List.mem_of_getElem? hxi), Option.bind_some, Val.re_eq, xAS hi (by omega : v.list.length ≤ _), vk, vn, vs, vt, vl, vc, vr]
      rw [if_pos (by omega), if_pos (by simp only [List.length_cons, List.length_nil]; unfold Lim; omega)]) N 0 [] rfl (by omega) (by omega)
  rw [List.drop_zero, List.nil_append, List.nil_append, Val.eta] at key
  exact key
theorem spec_copy_big {K : Nat} (hK : K ≤ 137438953472) : ∀ v : Val, v.Fit K → Big2 fun N d => xEf N d v = some v := by
  refine Val.ind fun k n s t a c r ih h => ?_
  have h5 := (Val.fit_iff.1 h).2.2.2.2.1
  refine Big2.succ ?_
  exact ((Big2.list fun x hx => ih x hx (h5.2 x hx)).and (xGS K).two).imp fun N d ⟨hx, hN⟩ => spec_copy_step h hK hN hx
theorem spec_copy_eq' {K : Nat} {v : Val} (h : v.Fit K) (hK : K ≤ 137438953472) : Big fun N => xIs N v = some v := (spec_copy_big hK v h).diag
theorem impl_copy_b6_eq {N K : Nat} {rc : Val → Option Val} {rd : List Val → Option (List Val)} {z : Val} {k n s : Int} {t : Str} {l : List Val} {c : List Str} {rs : List Rowd} (h : LFit K (Rowd.Fit K) rs) (hK : K ≤ 137438953472) (hN : K < N) :
    xCK N rc rd N rs rs.length 0 z (Val.mk k n s t l c []) = some (Val.mk k n s t l c rs) := by
  have hl : rs.length ≤ K := h.1
  exact xFK (L := fun m i q => xCK N rc rd m rs rs.length i z (Val.mk k n s t l c q)) rs (fun r q => Val.mk k n s t l c (q ++ r)) (fun i q => q.length = i) (fun m q hq => by simp [xCK])
    (fun i x r q hd hi hx hq => by
      have hq : q.length = i := hq
      have hi' : (i : Int) < (rs.length : Int) := by omega
      refine .inl ⟨q ++ [x], by simp [hq], by simp, fun m => ?_⟩
      simp only [xCK, decide_eq_true hi', cond_true, Int.toNat_natCast, xBl hx, impl_copyRow_eq (h.2 x (List.mem_of_getElem? hx)) hK, Option.bind_some, xAS hi (by omega : rs.length ≤ _), vk, vn, vs, vt, vl, vc, vr]
      rw [if_pos (by omega), if_pos (by simp only [List.length_cons, List.length_nil]; unfold Lim; omega)]) N 0 [] rfl (by omega) (by omega)
theorem xHz {N d : Nat} {a : List Val} (hl : a.length ≤ 137438953472) (hn : a.length < N) (hx : ∀ x ∈ a, (xAM N d).c_impl_copyValue x = some x) : (xAM N (d + 1)).c_impl_copyValues a = some a := by
  show xC4 N (xAM N d).c_impl_copyValue (xAM N d).c_impl_copyValues a = _
  unfold xC4
  exact xFK (L := fun m i q => xCY N (xAM N d).c_impl_copyValue (xAM N d).c_impl_copyValues m q a a.length i) a (fun l q => q ++ l) (fun i q => q.length = i) (fun m q hq => by simp [xCY])
    (fun i x l q hd hi hxi hq => by
      have hq : q.length = i := hq
      have hi' : (i : Int) < (a.length : Int) := by omega
      refine .inl ⟨q ++ [x], by simp [hq], by simp, fun m => ?_⟩
      simp only [xCY, decide_eq_true hi', cond_true, Int.toNat_natCast, xBl hxi, hx x (List.mem_of_getElem? hxi), Option.bind_some, Val.re_eq, xAS hi (by omega : a.length ≤ _)]
      rw [if_pos (by omega), if_pos (by simp only [List.length_cons, List.length_nil]; unfold Lim; omega)]) N 0 [] rfl (by omega) (by omega)
theorem impl_copy_step {N d K : Nat} {v : Val} (h : v.Fit K) (hK : K ≤ 137438953472) (hN : K < N) (hx : (xAM N d).c_impl_copyValues v.list = some v.list) : (xAM N (d + 1)).c_impl_copyValue v = some v := by
  obtain ⟨h1, h2, h3, h4, h5, h6, h7⟩ := Val.fit_iff.1 h
  have hc : v.columns.length ≤ K := h6.1
  show xDe N (xAM N d).c_impl_copyValue (xAM N d).c_impl_copyValues v = _
  unfold xDe
  rw [hx, Option.bind_some, if_pos (by unfold Lim; omega), impl_copy_b6_eq h7 hK hN, List.nil_append, Val.eta]
theorem impl_copy_big {K : Nat} (hK : K ≤ 137438953472) : ∀ v : Val, v.Fit K → Big2 fun N d => (xAM N d).c_impl_copyValue v = some v := by
  refine Val.ind fun k n s t a c r ih h => ?_
  have h5 := (Val.fit_iff.1 h).2.2.2.2.1
  have hl : a.length ≤ K := h5.1
  refine Big2.succ (Big2.succ ?_)
  exact ((Big2.list fun x hx => ih x hx (h5.2 x hx)).and (xGS K).two).imp fun N d ⟨hx, hN⟩ => impl_copy_step h hK hN (xHz (a := a) (by omega) (by omega) hx)
theorem impl_copy_eq' {K : Nat} {v : Val} (h : v.Fit K) (hK : K ≤ 137438953472) : Big fun N => xGv N v = some v := (impl_copy_big hK v h).diag
theorem impl_copies_eq {K : Nat} {a : List Val} (h : LFit K (Val.Fit K) a) (hK : K ≤ 137438953472) : Big fun N => xGV N a = some a := by
  have hl : a.length ≤ K := h.1
  have key : Big2 fun N d => (xAM N d).c_impl_copyValues a = some a :=
    Big2.succ (((Big2.list fun x hx => impl_copy_big hK x (h.2 x hx)).and (xGS K).two).imp fun N d ⟨hx, hN⟩ => xHz (by omega) (by omega) hx)
  exact key.diag
theorem valCnt (v : Val) : v.cnt = 4 + ((v.list.map Val.cnt).sum + (v.columns.map cOne).sum + (v.rows.map cRow).sum) := by
  cases v; simp only [Val.cnt, Val.cnts_eq, vl, vc, vr]; omega
theorem xGy {x : Int} (h1 : -1000000 ≤ x) (h2 : x ≤ 1000000) : I64 x := ⟨by omega, by omega⟩
theorem lfit_nil {α : Type} {K : Nat} {p : α → Prop} : LFit K p [] := ⟨Nat.zero_le _, fun x hx => by cases hx⟩
end Go.Ab
end
section
namespace Go.Ab
set_option linter.unusedVariables false
set_option linter.unusedSimpArgs false
def allI {α : Type} (p : Nat → α → Bool) : List α → Nat → Bool
  | [], _ => true
  | x :: r, i => p i x && allI p r (i + 1)
theorem allI_true {α : Type} {p : Nat → α → Bool} : ∀ {l : List α} {i : Nat}, allI p l i = true → ∀ (j : Nat) (x : α), l[j]? = some x → p (i + j) x = true
  | [], i, _, j, x, hj => by simp at hj
  | y :: r, i, h, j, x, hj => by
    simp only [allI, Bool.and_eq_true] at h
    cases j with
    | zero => simp at hj; subst hj; exact h.1
    | succ j =>
      have := allI_true h.2 j x (by simpa using hj)
      rw [show i + (j + 1) = i + 1 + j from by omega]; exact this
theorem xGf {α : Type} {L : Nat → Int → Option Bool} {x0 : List α} {p : Nat → α → Bool} {e : Option Bool} (hend : ∀ n, L (n + 1) (x0.length : Nat) = e)
    (hcons : ∀ (i : Nat) x n, i < x0.length → x0[i]? = some x → x ∈ x0 → L (n + 1) (i : Nat) = bif p i x then L n ((i + 1 : Nat) : Int) else some false) {n : Nat} (hn : x0.length < n) :
    L n 0 = bif allI p x0 0 then e else some false := by
  have key : ∀ (m i : Nat), i ≤ x0.length → x0.length < m + i → L m (i : Nat) = bif allI p (x0.drop i) i then e else some false := by
    intro m
    induction m with
    | zero => intro i h1 h2; omega
    | succ m ih =>
      intro i h1 h2
      cases hd : x0.drop i with
      | nil =>
        have := drop_nil hd
        obtain rfl : i = x0.length := by omega
        rw [hend]; rfl
      | cons x l =>
        obtain ⟨g1, g2, g3⟩ := drop_cons hd
        rw [hcons i x m g1 g2 (List.mem_of_getElem? g2), ih (i + 1) (by omega) (by omega), g3]
        simp only [allI]
        cases p i x <;> rfl
  exact key n 0 (by omega) (by omega)
def textC (c : UInt8) : Bool := !(decide ((c.toNat : Int) < 32)) && (!(decide ((c.toNat : Int) > 126)) && !((c.toNat : Int) == 34))
def textOk (s : Str) : Bool := allI (fun _ => textC) s 0 && decide ((s.length : Int) ≤ 20)
theorem xHb {a b : Bool} : (bif a then some b else some false) = some (a && b) := by cases a <;> rfl
theorem xG3 {N : Nat} {s : Str} (hl : s.length ≤ 9223372036854775807) (hn : s.length < N) : xE9 N s = some (textOk s) := by
  rw [textOk, ← xHb]
  exact xGf (L := fun n i => xB3 N n s i) (fun n => by simp [xB3]) (fun i x n hi hx hm => by
    have hi' : (i : Int) < (s.length : Int) := by omega
    simp only [xB3, decide_eq_true hi', cond_true, Int.toNat_natCast, xBl hx, xAS hi hl, textC]
    rw [if_pos (by omega)]
    cases decide ((x.toNat : Int) < 32) <;> cases decide ((x.toNat : Int) > 126) <;> cases ((x.toNat : Int) == 34) <;> rfl) hn
theorem xHF (N n : Nat) (s : Str) (i : Int) : xDc N n s i = xB3 N n s i := by
  induction n generalizing i with
  | zero => rfl
  | succ n ih => simp only [xDc, xB3, ih]
theorem xIe {N : Nat} {s : Str} (hl : s.length ≤ 9223372036854775807) (hn : s.length < N) : xE1 N s = some (textOk s) := (xHF N N s 0).trans (xG3 hl hn)
def idxS : List Str → Str → Nat → Int
  | [], _, _ => -1
  | x :: r, s, i => bif x == s then (i : Int) else idxS r s (i + 1)
theorem impl_IndexOf_eq {N : Nat} {xs : List Str} {s : Str} (hl : xs.length ≤ 9223372036854775807) (hn : xs.length < N) : xGB N xs s = some (idxS xs s 0) :=
  xFK (L := fun n i _ => xDs N n s xs xs.length i) xs (fun l q => idxS l s q) (fun i q => q = i) (fun n q _ => by simp [xDs, idxS])
    (fun i x l q hd hi hx hq => by
      have hi' : (i : Int) < (xs.length : Int) := by omega
      have hq : q = i := hq
      subst hq
      cases h1 : x == s
      · refine .inl ⟨q + 1, rfl, by simp only [idxS, h1, cond_false], fun n => ?_⟩
        simp only [xDs, decide_eq_true hi', cond_true, Int.toNat_natCast, xBl hx, h1, cond_false, xAS hi hl]
        rw [if_pos (by omega)]
      · refine .inr fun n => ?_
        simp only [xDs, decide_eq_true hi', cond_true, Int.toNat_natCast, xBl hx, h1]
        rw [if_pos (by omega)]
        simp only [idxS, h1, cond_true]) N 0 0 rfl (by omega) (by omega)
theorem idxS_eq {s : Str} : ∀ {xs : List Str} {j i : Nat}, xs[i]? = some s → (idxS xs s j == ((j + i : Nat) : Int)) = !(xs.take i).any (· == s)
  | [], j, i, h => by simp at h
  | x :: r, j, 0, h => by
    simp at h; subst h
    simp [idxS]
  | x :: r, j, i + 1, h => by
    have h' : r[i]? = some s := by simpa using h
    have ih := idxS_eq (j := j + 1) h'
    simp only [idxS, List.take_succ_cons, List.any_cons]
    cases hx : x == s
    · simp only [cond_false, Bool.false_or]
      rw [← ih, show j + (i + 1) = j + 1 + i from by omega]
    · simp only [cond_true, Bool.true_or, Bool.not_true]
      simp; omega
def xHJ (xs : List Str) (i : Nat) (x : Str) : Bool := !(xs.take i).any (· == x)
def distinct (xs : List Str) : Bool := allI (xHJ xs) xs 0
theorem xIm {N : Nat} {xs : List Str} (hl : xs.length ≤ 9223372036854775807) (hn : xs.length < N) : xE8 N xs = some (distinct xs) := by
  have := xGf (L := fun n i => xCi N n xs i) (x0 := xs) (p := xHJ xs) (e := some true) (fun n => by simp [xCi]) (fun i x n hi hx hm => by
    have hi' : (i : Int) < (xs.length : Int) := by omega
    simp only [xCi, decide_eq_true hi', cond_true, Int.toNat_natCast, xBl hx, xAS hi hl, spec_l1Has_eq (N := N) (xs := xs.take i) (by simp; omega) (by simp; omega), Option.bind_some, xHJ]
    rw [if_pos (by omega), if_pos (by omega)]
    cases (List.take i xs).any (· == x) <;> rfl) hn
  show xCi N N xs 0 = _
  rw [this, xHb, Bool.and_true]; rfl
theorem xIa {N : Nat} {xs : List Str} (hl : xs.length ≤ 9223372036854775807) (hn : xs.length < N) : xE0 N xs = some (distinct xs) := by
  have := xGf (L := fun n i => xCe N n xs xs xs.length i) (x0 := xs) (p := xHJ xs) (e := some true) (fun n => by simp [xCe]) (fun i x n hi hx hm => by
    have hi' : (i : Int) < (xs.length : Int) := by omega
    have e := idxS_eq (j := 0) hx
    rw [Nat.zero_add] at e
    simp only [xCe, decide_eq_true hi', cond_true, Int.toNat_natCast, xBl hx, xAS hi hl, impl_IndexOf_eq (N := N) (xs := xs) hl hn, Option.bind_some, bne, e, xHJ]
    rw [if_pos (by omega)]
    cases (List.take i xs).any (· == x) <;> rfl) hn
  show xCe N N xs xs xs.length 0 = _
  rw [this, xHb, Bool.and_true]; rfl
def colsOk (c : List Str) : Bool := allI (fun _ => xG6) c 0 && ((decide ((1 : Int) ≤ c.length) && decide ((c.length : Int) ≤ 4)) && distinct c)
theorem spec_l3Columns_eq {N K : Nat} {c : List Str} (h : LFit K (Str.Fit K) c) (hK : 24 ≤ K ∧ K ≤ 4611686018427387904) (hN : K < N) : xFU N c = some (colsOk c) := by
  have hl : c.length ≤ K := h.1
  rw [colsOk, ← xHb]
  exact xGf (L := fun n i => xDn N n c i) (fun n => by
      simp only [xDn, Int.lt_irrefl, decide_false, cond_false, xF2, Option.bind_some, xIm (N := N) (xs := c) (by omega) (by omega)]
      rw [← xHb]) (fun i x n hi hx hm => by
    have hi' : (i : Int) < (c.length : Int) := by omega
    have hxl : x.length ≤ K := h.2 x hm
    simp only [xDn, decide_eq_true hi', cond_true, Int.toNat_natCast, xBl hx, xAS hi (by omega : c.length ≤ _), xIp (N := N) (s := x) (by omega) (by omega) (by omega), Option.bind_some]
    rw [if_pos (by omega)]
    cases xG6 x <;> rfl) (by omega)
theorem impl_areColumns_eq {N K : Nat} {c : List Str} (h : LFit K (Str.Fit K) c) (hK : 24 ≤ K ∧ K ≤ 4611686018427387904) (hN : K < N) : xFt N c = some (colsOk c) := by
  have hl : c.length ≤ K := h.1
  rw [colsOk, ← xHb]
  exact xGf (L := fun n i => xCX N n c c c.length i) (fun n => by
      simp only [xCX, Int.lt_irrefl, decide_false, cond_false, xEv, Option.bind_some, xIa (N := N) (xs := c) (by omega) (by omega)]
      rw [← xHb]) (fun i x n hi hx hm => by
    have hi' : (i : Int) < (c.length : Int) := by omega
    have hxl : x.length ≤ K := h.2 x hm
    simp only [xCX, decide_eq_true hi', cond_true, Int.toNat_natCast, xBl hx, xAS hi (by omega : c.length ≤ _), xId (N := N) (s := x) (by omega) (by omega), Option.bind_some]
    rw [if_pos (by omega)]
    cases xG6 x <;> rfl) (by omega)
def befO (a b : Org) : Bool := decide (a.cell < b.cell) || ((a.cell == b.cell) && decide (a.row < b.row))
theorem xHD (N : Nat) (a b : Org) : xFJ N a b = some (befO a b) := by
  unfold xFJ befO
  cases decide (a.cell < b.cell) <;> cases (a.cell == b.cell) <;> rfl
theorem xHY (N : Nat) (a b : Org) : xEJ N a b = some (befO a b) := xHD N a b
def ascP (xs : List Org) (i : Nat) (x : Org) : Bool := !(decide (x.cell < 0)) && (!(decide (x.row < 0)) && (decide (i = 0) || befO (xs.getD (i - 1) Ty.org.dflt) x))
def ascOk (xs : List Org) : Bool := allI (ascP xs) xs 0
theorem asc_step {xs : List Org} {i : Nat} {x : Org} {hi : i < xs.length} (hl : xs.length ≤ 9223372036854775807) {F : Option Bool} :
    (bif decide (x.cell < 0) then some false else bif decide (x.row < 0) then some false else bif decide ((i : Int) > 0) then
      (if (0 : Int) ≤ IntKind.i64.wrap ((i : Int) - 1) ∧ IntKind.i64.wrap ((i : Int) - 1) < (xs.length : Int) then (bif !(befO (xs.getD (Int.toNat (IntKind.i64.wrap ((i : Int) - 1))) Ty.org.dflt) x) then some false else F) else none) else F) =
    bif ascP xs i x then F else some false := by
  unfold ascP
  cases decide (x.cell < 0)
  · cases decide (x.row < 0)
    · by_cases h0 : i = 0
      · subst h0; rfl
      · rw [wrap_pred h0 hi hl, Int.toNat_natCast, decide_eq_true (show (i : Int) > 0 by omega), decide_eq_false h0]
        simp only [cond_true, cond_false, Bool.not_false, Bool.true_and, Bool.false_or]
        rw [if_pos (by omega)]
        cases befO (xs.getD (i - 1) Ty.org.dflt) x <;> rfl
    · rfl
  · rfl
theorem xIr {N : Nat} {xs : List Org} (hl : xs.length ≤ 9223372036854775807) (hn : xs.length < N) : xFa N xs = some (ascOk xs) := by
  have := xGf (L := fun n i => xB6 N n xs i) (x0 := xs) (p := ascP xs) (e := some true) (fun n => by simp [xB6]) (fun i x n hi hx hm => by
    have hi' : (i : Int) < (xs.length : Int) := by omega
    rw [← asc_step (hi := hi) hl]
    simp only [xB6, decide_eq_true hi', cond_true, Int.toNat_natCast, xBl hx, xAS hi hl, xHD, Option.bind_some]
    rw [if_pos (by omega)]) hn
  show xB6 N N xs 0 = _
  rw [this, xHb, Bool.and_true]; rfl
def rowP (n : Nat) (_ : Nat) (r : Rowd) : Bool := (r.cells.length == n) && (allI (fun _ => xGo) r.cells 0 && ascOk r.frm)
def tableOk (c : List Str) (rs : List Rowd) : Bool := colsOk c && (decide (rs.length ≤ 12) && allI (rowP c.length) rs 0)
theorem lenEq (a b : Nat) : (((a : Nat) : Int) != ((b : Nat) : Int)) = !(a == b) := by
  by_cases h : a = b
  · subst h; simp
  · have : ¬ ((a : Int) = (b : Int)) := by omega
    rw [bne, show ((a : Int) == (b : Int)) = false from beq_eq_false_iff_ne.2 this, show (a == b) = false from beq_eq_false_iff_ne.2 h]
theorem xIv {N : Nat} {k4 : Int → Val → Option Bool} {x3 : Int} {v : Val} {r : Rowd} (hl : r.cells.length ≤ 9223372036854775807) (hn : r.cells.length < N) :
    xDa N k4 N x3 0 v r = bif allI (fun _ => xGo) r.cells 0 then k4 (IntKind.i64.wrap (x3 + 1)) v else some false :=
  xGf (L := fun n i => xDa N k4 n x3 i v r) (fun n => by simp [xDa]) (fun i x n hi hx hm => by
    have hi' : (i : Int) < (r.cells.length : Int) := by omega
    simp only [xDa, decide_eq_true hi', cond_true, Int.toNat_natCast, xBl hx, xAS hi hl, xGI, Option.bind_some]
    rw [if_pos (by omega)]
    cases xGo x <;> rfl) hn
theorem spec_l3Table_eq {N K : Nat} {v : Val} (h : v.Fit K) (hK : 24 ≤ K ∧ K ≤ 4611686018427387904) (hN : K < N) : xF4 N v = some (tableOk v.columns v.rows) := by
  obtain ⟨_, _, _, _, _, h6, h7⟩ := Val.fit_iff.1 h
  have hl : v.rows.length ≤ K := h7.1
  unfold xF4
  rw [spec_l3Columns_eq h6 hK hN, Option.bind_some, tableOk]
  cases hc : colsOk v.columns
  · rfl
  · by_cases hr : v.rows.length ≤ 12
    · rw [decide_eq_false (by omega), decide_eq_true hr]
      simp only [Bool.not_true, cond_false, Bool.true_and]
      have := xGf (L := fun n i => xDw N n i v) (x0 := v.rows) (p := rowP v.columns.length) (e := some true) (n := N) (fun n => by simp [xDw]) (fun i x n hi hx hm => by
        have hi' : (i : Int) < (v.rows.length : Int) := by omega
        obtain ⟨⟨g1, _⟩, ⟨g2, _⟩⟩ := h7.2 x hm
        simp only [xDw, decide_eq_true hi', cond_true, Int.toNat_natCast, xBl hx, lenEq, xIr (N := N) (xs := x.frm) (by omega) (by omega), Option.bind_some, xIv (N := N) (r := x) (by omega) (by omega), xAS hi (by omega : v.rows.length ≤ _), rowP]
        rw [if_pos (by omega)]
        cases (x.cells.length == v.columns.length) <;> cases ascOk x.frm <;> cases allI (fun _ => xGo) x.cells 0 <;> rfl) (by omega)
      have this : xDw N N 0 v = _ := this
      rw [this, xHb, Bool.and_true]
    · rw [decide_eq_true (by omega), decide_eq_false hr]; rfl
theorem xIg {N : Nat} {k4 : List Rowd → Int → Int → Val → Option Bool} {x20 : List Rowd} {x21 x22 : Int} {v : Val} {r : Rowd} (hl : r.frm.length ≤ 9223372036854775807) (hn : r.frm.length < N) :
    xCx N k4 N x20 x21 x22 r.frm r.frm.length 0 v r = bif ascOk r.frm then k4 x20 x21 (IntKind.i64.wrap (x22 + 1)) v else some false :=
  xGf (L := fun n i => xCx N k4 n x20 x21 x22 r.frm r.frm.length i v r) (fun n => by simp [xCx]) (fun i x n hi hx hm => by
    have hi' : (i : Int) < (r.frm.length : Int) := by omega
    rw [← asc_step (hi := hi) hl]
    simp only [xCx, decide_eq_true hi', cond_true, Int.toNat_natCast, xBl hx, xAS hi hl, xHY, Option.bind_some]
    rw [if_pos (by omega)]) hn
theorem impl_isTable_b9_eq {N : Nat} {k4 : List Rowd → Int → Int → Val → Option Bool} {x20 : List Rowd} {x21 x22 : Int} {v : Val} {r : Rowd} (hl : r.cells.length ≤ 9223372036854775807) (hn : r.cells.length < N) (hl2 : r.frm.length ≤ 9223372036854775807) (hn2 : r.frm.length < N) :
    xDu N k4 N x20 x21 x22 r.cells r.cells.length 0 v r = bif allI (fun _ => xGo) r.cells 0 then (bif ascOk r.frm then k4 x20 x21 (IntKind.i64.wrap (x22 + 1)) v else some false) else some false :=
  xGf (L := fun n i => xDu N k4 n x20 x21 x22 r.cells r.cells.length i v r) (fun n => by simp only [xDu, Int.lt_irrefl, decide_false, cond_false]; exact xIg hl2 hn2) (fun i x n hi hx hm => by
    have hi' : (i : Int) < (r.cells.length : Int) := by omega
    simp only [xDu, decide_eq_true hi', cond_true, Int.toNat_natCast, xBl hx, xAS hi hl, xGG, Option.bind_some]
    rw [if_pos (by omega)]
    cases xGo x <;> rfl) hn
theorem impl_isTable_eq {N K : Nat} {v : Val} (h : v.Fit K) (hK : 24 ≤ K ∧ K ≤ 4611686018427387904) (hN : K < N) : xFv N v = some (tableOk v.columns v.rows) := by
  obtain ⟨_, _, _, _, _, h6, h7⟩ := Val.fit_iff.1 h
  have hl : v.rows.length ≤ K := h7.1
  unfold xFv
  rw [impl_areColumns_eq h6 hK hN, Option.bind_some, tableOk]
  cases hc : colsOk v.columns
  · rfl
  · by_cases hr : v.rows.length ≤ 12
    · rw [decide_eq_false (by omega), decide_eq_true hr]
      simp only [Bool.not_true, cond_false, Bool.true_and]
      have := xGf (L := fun n i => xDt N n v.rows v.rows.length i v) (x0 := v.rows) (p := rowP v.columns.length) (e := some true) (n := N) (fun n => by simp [xDt]) (fun i x n hi hx hm => by
        have hi' : (i : Int) < (v.rows.length : Int) := by omega
        obtain ⟨⟨g1, _⟩, ⟨g2, _⟩⟩ := h7.2 x hm
        simp only [xDt, decide_eq_true hi', cond_true, Int.toNat_natCast, xBl hx, lenEq, impl_isTable_b9_eq (N := N) (r := x) (by omega) (by omega) (by omega) (by omega), xAS hi (by omega : v.rows.length ≤ _), rowP]
        rw [if_pos (by omega)]
        cases (x.cells.length == v.columns.length) <;> cases ascOk x.frm <;> cases allI (fun _ => xGo) x.cells 0 <;> rfl) (by omega)
      have this : xDt N N v.rows v.rows.length 0 v = _ := this
      rw [this, xHb, Bool.and_true]
    · rw [decide_eq_true (by omega), decide_eq_false hr]; rfl
end Go.Ab
end
