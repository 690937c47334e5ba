/- What several statements share: plain functions, certificates, laws. Conditions: none. -/
import Derived.Test.YtkbojckenecnbaaL2
import Derived.Test.YtkbojckenecnbaaK0
set_option linter.all false
section
open Go.Proofs
namespace Go.Ab.T
set_option linter.unusedVariables false
set_option maxRecDepth 100000
noncomputable def I97 : Info := { body := (Try.f97.body).getD .skip, nt := 15, results := [.tmp 6], keep := [0, 2, 4, 12], live := [], modes := [(1, [(3, .take, false)])], ext := [], lnt := [], casts := [], fcast := [] }
theorem fk97 : FnOk Try.prog 97 Try.f97 I97 := ⟨Try.func97, by kernel_rfl, by kernel_rfl, by kernel_rfl, by kernel_rfl⟩
theorem p97_e_0 (a0 a1 a2 : Int) : run tt (AbsCalls Try.prog) I97 3000 false [.code I97.body] ⟨(zBg 0 (yDd a0 a1 a2)), [true], [], []⟩ = some (.done (yBQ (decide ((a0 : Int) ≤ a2))) [(decide ((a0 : Int) ≥ a1)) = true]) := by kernel_rfl
theorem p97_e_1 (a0 a1 a2 : Int) : run tt (AbsCalls Try.prog) I97 3000 false [.code I97.body] ⟨(zBg 0 (yDd a0 a1 a2)), [false], [], []⟩ = some (.done (yBQ false) [(decide ((a0 : Int) ≥ a1)) = false]) := by kernel_rfl
theorem c97_e {N : Nat} : ∀ a0 a1 a2 r, yEN N a0 a1 a2 = some r → Reach Try.prog Try.f97 I97 [.code I97.body] (zBg 0 (yDd a0 a1 a2)) (yBQ r) := by
 intro a0 a1 a2 r h
 unfold yEN at h
 rcases cond_inv h with ⟨h0, h⟩ | ⟨h0, h⟩
 ·obtain rfl := Option.some.inj h
  exact Reach.done ttok mix fk97 (p97_e_0 a0 a1 a2) (obs_cons h0 obs_nil)
 ·obtain rfl := Option.some.inj h
  exact Reach.done ttok mix fk97 (p97_e_1 a0 a1 a2) (obs_cons h0 obs_nil)
theorem yFg {N : Nat} {a0 : Int} {a1 : Int} {a2 : Int} {r : Bool} (h : yEN N  a0 a1 a2 = some r) : AbC 97 (yDd a0 a1 a2) (yBQ r) :=
 AbsCalls.of_reach fk97 rfl rfl (Nat.le_of_ble_eq_true rfl) (c97_e a0 a1 a2 r h)
noncomputable def I95 : Info := { body := (Try.f95.body).getD .skip, nt := 5, results := [.tmp 2], keep := [0, 4], live := [], modes := [], ext := [], lnt := [], casts := [], fcast := [] }
theorem fk95 : FnOk Try.prog 95 Try.f95 I95 := ⟨Try.func95, by kernel_rfl, by kernel_rfl, by kernel_rfl, by kernel_rfl⟩
theorem p95_e_0 (a0 : Int) (r1 : Bool) : run tt (AbsCalls Try.prog) I95 3000 false [.code I95.body] ⟨(zBg 0 (yBs a0)), [], [yBQ r1], []⟩ = some (.done (yAz r1) [AbC 97 (yDd a0 (-1000000000) 1000000000) (yBQ r1)]) := by kernel_rfl
theorem c95_e {N : Nat} : ∀ a0 r, yCq N a0 = some r → Reach Try.prog Try.f95 I95 [.code I95.body] (zBg 0 (yBs a0)) (yAz r) := by
 intro a0 r h
 unfold yCq at h
 obtain ⟨r1, h0, h⟩ := bind_inv h
 obtain rfl := Option.some.inj h
 exact Reach.done ttok mix fk95 (p95_e_0 a0 r1) (obs_cons (yFg h0) obs_nil)
theorem yCQ {N : Nat} {a0 : Int} {r : Bool} (h : yCq N  a0 = some r) : AbC 95 (yBs a0) (yAz r) :=
 AbsCalls.of_reach fk95 rfl rfl (Nat.le_of_ble_eq_true rfl) (c95_e a0 r h)
noncomputable def I101 : Info := { body := (Try.f101.body).getD .skip, nt := 15, results := [.tmp 6], keep := [0, 2, 4, 12], live := [], modes := [(1, [(3, .take, false)])], ext := [], lnt := [], casts := [], fcast := [] }
theorem fk101 : FnOk Try.prog 101 Try.f101 I101 := ⟨Try.func101, by kernel_rfl, by kernel_rfl, by kernel_rfl, by kernel_rfl⟩
theorem p101_e_0 (a0 a1 a2 : Int) : run tt (AbsCalls Try.prog) I101 3000 false [.code I101.body] ⟨(zBg 0 (yB2 a0 a1 a2)), [true], [], []⟩ = some (.done (yAY (decide ((a0 : Int) ≤ a2))) [(decide ((a1 : Int) ≤ a0)) = true]) := by kernel_rfl
theorem p101_e_1 (a0 a1 a2 : Int) : run tt (AbsCalls Try.prog) I101 3000 false [.code I101.body] ⟨(zBg 0 (yB2 a0 a1 a2)), [false], [], []⟩ = some (.done (yAY false) [(decide ((a1 : Int) ≤ a0)) = false]) := by kernel_rfl
theorem c101_e {N : Nat} : ∀ a0 a1 a2 r, yDg N a0 a1 a2 = some r → Reach Try.prog Try.f101 I101 [.code I101.body] (zBg 0 (yB2 a0 a1 a2)) (yAY r) := by
 intro a0 a1 a2 r h
 unfold yDg at h
 rcases cond_inv h with ⟨h0, h⟩ | ⟨h0, h⟩
 ·obtain rfl := Option.some.inj h
  exact Reach.done ttok mix fk101 (p101_e_0 a0 a1 a2) (obs_cons h0 obs_nil)
 ·obtain rfl := Option.some.inj h
  exact Reach.done ttok mix fk101 (p101_e_1 a0 a1 a2) (obs_cons h0 obs_nil)
theorem yD8 {N : Nat} {a0 : Int} {a1 : Int} {a2 : Int} {r : Bool} (h : yDg N  a0 a1 a2 = some r) : AbC 101 (yB2 a0 a1 a2) (yAY r) :=
 AbsCalls.of_reach fk101 rfl rfl (Nat.le_of_ble_eq_true rfl) (c101_e a0 a1 a2 r h)
noncomputable def I104 : Info := { body := (Try.f104.body).getD .skip, nt := 5, results := [.tmp 2], keep := [0, 4], live := [], modes := [], ext := [], lnt := [], casts := [], fcast := [] }
theorem fk104 : FnOk Try.prog 104 Try.f104 I104 := ⟨Try.func104, by kernel_rfl, by kernel_rfl, by kernel_rfl, by kernel_rfl⟩
theorem p104_e_0 (a0 : Int) (r1 : Bool) : run tt (AbsCalls Try.prog) I104 3000 false [.code I104.body] ⟨(zBg 0 (yBn a0)), [], [yAY r1], []⟩ = some (.done (yAy r1) [AbC 101 (yB2 a0 (-1000000000) 1000000000) (yAY r1)]) := by kernel_rfl
theorem c104_e {N : Nat} : ∀ a0 r, yCm N a0 = some r → Reach Try.prog Try.f104 I104 [.code I104.body] (zBg 0 (yBn a0)) (yAy r) := by
 intro a0 r h
 unfold yCm at h
 obtain ⟨r1, h0, h⟩ := bind_inv h
 obtain rfl := Option.some.inj h
 exact Reach.done ttok mix fk104 (p104_e_0 a0 r1) (obs_cons (yD8 h0) obs_nil)
theorem yCK {N : Nat} {a0 : Int} {r : Bool} (h : yCm N  a0 = some r) : AbC 104 (yBn a0) (yAy r) :=
 AbsCalls.of_reach fk104 rfl rfl (Nat.le_of_ble_eq_true rfl) (c104_e a0 r h)
noncomputable def I139 : Info := { body := (Try.f139.body).getD .skip, nt := 29, results := [.tmp 2], keep := [0, 4, 6, 14, 50], live := [(2, [0, 6])], modes := [(4, [(4, .take, false), (10, .take, false)])], ext := [], lnt := [], casts := [], fcast := [] }
theorem fk139 : FnOk Try.prog 139 Try.f139 I139 := ⟨Try.func139, by kernel_rfl, by kernel_rfl, by kernel_rfl, by kernel_rfl⟩
def S139_2 (x0 : Str) (x3 : Int) : St := [(0, .v false [.str x0]), (6, .v false [.int .i64 x3])]
theorem p139_2_0 (x0 : Str) (x3 : Int) : run tt (AbsCalls Try.prog) I139 3000 true (stkAt 2 I139.body) ⟨(S139_2 x0 x3), [true, true, true, true], [], []⟩ = some (.done (yA4 false) [(decide ((x3 : Int) < (List.length x0 : Int))) = true, (0 : Int) ≤ x3 ∧ x3 < (List.length x0), (decide ((((List.getD x0 (Int.toNat x3) 0).toNat : Int) : Int) < 32)) = true, true = true, true = true]) := by kernel_rfl
theorem p139_2_1 (x0 : Str) (x3 : Int) : run tt (AbsCalls Try.prog) I139 3000 true (stkAt 2 I139.body) ⟨(S139_2 x0 x3), [true, false, true, true], [], []⟩ = some (.done (yA4 false) [(decide ((x3 : Int) < (List.length x0 : Int))) = true, (0 : Int) ≤ x3 ∧ x3 < (List.length x0), (decide ((((List.getD x0 (Int.toNat x3) 0).toNat : Int) : Int) < 32)) = false, (0 : Int) ≤ x3 ∧ x3 < (List.length x0), (decide ((((List.getD x0 (Int.toNat x3) 0).toNat : Int) : Int) > 126)) = true, true = true]) := by kernel_rfl
theorem p139_2_2 (x0 : Str) (x3 : Int) : run tt (AbsCalls Try.prog) I139 3000 true (stkAt 2 I139.body) ⟨(S139_2 x0 x3), [true, false, false, true], [], []⟩ = some (.done (yA4 false) [(decide ((x3 : Int) < (List.length x0 : Int))) = true, (0 : Int) ≤ x3 ∧ x3 < (List.length x0), (decide ((((List.getD x0 (Int.toNat x3) 0).toNat : Int) : Int) < 32)) = false, (0 : Int) ≤ x3 ∧ x3 < (List.length x0), (decide ((((List.getD x0 (Int.toNat x3) 0).toNat : Int) : Int) > 126)) = false, (0 : Int) ≤ x3 ∧ x3 < (List.length x0), ((((List.getD x0 (Int.toNat x3) 0).toNat : Int) : Int) == 34) = true]) := by kernel_rfl
theorem p139_2_3 (x0 : Str) (x3 : Int) : run tt (AbsCalls Try.prog) I139 3000 true (stkAt 2 I139.body) ⟨(S139_2 x0 x3), [true, false, false, false], [], []⟩ = some (.stop (stkAt 2 I139.body) (S139_2 x0 (IntKind.i64.wrap (x3 + 1))) [(decide ((x3 : Int) < (List.length x0 : Int))) = true, (0 : Int) ≤ x3 ∧ x3 < (List.length x0), (decide ((((List.getD x0 (Int.toNat x3) 0).toNat : Int) : Int) < 32)) = false, (0 : Int) ≤ x3 ∧ x3 < (List.length x0), (decide ((((List.getD x0 (Int.toNat x3) 0).toNat : Int) : Int) > 126)) = false, (0 : Int) ≤ x3 ∧ x3 < (List.length x0), ((((List.getD x0 (Int.toNat x3) 0).toNat : Int) : Int) == 34) = false]) := by kernel_rfl
theorem p139_2_4 (x0 : Str) (x3 : Int) : run tt (AbsCalls Try.prog) I139 3000 true (stkAt 2 I139.body) ⟨(S139_2 x0 x3), [false], [], []⟩ = some (.done (yA4 (decide (((List.length x0 : Int) : Int) ≤ 20))) [(decide ((x3 : Int) < (List.length x0 : Int))) = false]) := by kernel_rfl
theorem p139_e_5 (a0 : Str) : run tt (AbsCalls Try.prog) I139 3000 false [.code I139.body] ⟨(zBg 0 (yDl a0)), [], [], []⟩ = some (.stop (stkAt 2 I139.body) (S139_2 a0 0) []) := by kernel_rfl
theorem c139_2 {N : Nat} : ∀ n x0 x3 r, yA3 N n x0 x3 = some r → Reach Try.prog Try.f139 I139 (stkAt 2 I139.body) (S139_2 x0 x3) (yA4 r) := by
 intro n
 induction n with
 | zero => intro x0 x3 r h; have h' : (none : Option (Bool)) = some r := h; cases h'
 | succ n ih =>
  intro x0 x3 r h
  rw [yA3] at h
  rcases cond_inv h with ⟨h0, h⟩ | ⟨h0, h⟩
  ·obtain ⟨h1, h⟩ := ite_inv h
   rcases cond_inv h with ⟨h2, h⟩ | ⟨h2, h⟩
   ·obtain rfl := Option.some.inj h
    exact Reach.done ttok mix fk139 (p139_2_0 x0 x3) (obs_cons h0 (obs_cons h1 (obs_cons h2 (obs_cons rfl (obs_cons rfl obs_nil)))))
   ·rcases cond_inv h with ⟨h4, h⟩ | ⟨h4, h⟩
    ·obtain rfl := Option.some.inj h
     exact Reach.done ttok mix fk139 (p139_2_1 x0 x3) (obs_cons h0 (obs_cons h1 (obs_cons h2 (obs_cons h1 (obs_cons h4 (obs_cons rfl obs_nil))))))
    ·rcases cond_inv h with ⟨h6, h⟩ | ⟨h6, h⟩
     ·obtain rfl := Option.some.inj h
      exact Reach.done ttok mix fk139 (p139_2_2 x0 x3) (obs_cons h0 (obs_cons h1 (obs_cons h2 (obs_cons h1 (obs_cons h4 (obs_cons h1 (obs_cons h6 obs_nil)))))))
     ·exact Reach.stop ttok mix fk139 (p139_2_3 x0 x3) (obs_cons h0 (obs_cons h1 (obs_cons h2 (obs_cons h1 (obs_cons h4 (obs_cons h1 (obs_cons h6 obs_nil))))))) (ih _ _ _ h)
  ·obtain rfl := Option.some.inj h
   exact Reach.done ttok mix fk139 (p139_2_4 x0 x3) (obs_cons h0 obs_nil)
theorem c139_e {N : Nat} : ∀ a0 r, yDv N a0 = some r → Reach Try.prog Try.f139 I139 [.code I139.body] (zBg 0 (yDl a0)) (yA4 r) := by
 intro a0 r h
 unfold yDv at h
 exact Reach.stop ttok mix fk139 (p139_e_5 a0) obs_nil (c139_2   _ _ _ _ h)
theorem yGl {N : Nat} {a0 : Str} {r : Bool} (h : yDv N  a0 = some r) : AbC 139 (yDl a0) (yA4 r) :=
 AbsCalls.of_reach fk139 rfl rfl (Nat.le_of_ble_eq_true rfl) (c139_e a0 r h)
noncomputable def I123 : Info := { body := (Try.f123.body).getD .skip, nt := 16, results := [.tmp 2], keep := [0, 2, 4, 3], live := [], modes := [(1, [(3, .take, false), (8, .take, false)])], ext := [], lnt := [], casts := [], fcast := [] }
theorem fk123 : FnOk Try.prog 123 Try.f123 I123 := ⟨Try.func123, by kernel_rfl, by kernel_rfl, by kernel_rfl, by kernel_rfl⟩
theorem p123_e_0 (a0 : Val) : run tt (AbsCalls Try.prog) I123 3000 false [.code I123.body] ⟨(zBg 0 (yBB a0)), [true, true], [], []⟩ = some (.done (yAV true) [(((Val.kind a0) : Int) == 1) = true, true = true]) := by kernel_rfl
theorem p123_e_1 (a0 : Val) : run tt (AbsCalls Try.prog) I123 3000 false [.code I123.body] ⟨(zBg 0 (yBB a0)), [false, true], [], []⟩ = some (.done (yAV true) [(((Val.kind a0) : Int) == 1) = false, (((Val.kind a0) : Int) == 2) = true]) := by kernel_rfl
theorem p123_e_2 (a0 : Val) : run tt (AbsCalls Try.prog) I123 3000 false [.code I123.body] ⟨(zBg 0 (yBB a0)), [false, false], [], []⟩ = some (.done (yAV (((Val.kind a0) : Int) == 3)) [(((Val.kind a0) : Int) == 1) = false, (((Val.kind a0) : Int) == 2) = false]) := by kernel_rfl
theorem c123_e {N : Nat} : ∀ a0 r, yEf N a0 = some r → Reach Try.prog Try.f123 I123 [.code I123.body] (zBg 0 (yBB a0)) (yAV r) := by
 intro a0 r h
 unfold yEf at h
 rcases cond_inv h with ⟨h0, h⟩ | ⟨h0, h⟩
 ·obtain rfl := Option.some.inj h
  exact Reach.done ttok mix fk123 (p123_e_0 a0) (obs_cons h0 (obs_cons rfl obs_nil))
 ·rcases cond_inv h with ⟨h1, h⟩ | ⟨h1, h⟩
  ·obtain rfl := Option.some.inj h
   exact Reach.done ttok mix fk123 (p123_e_1 a0) (obs_cons h0 (obs_cons h1 obs_nil))
  ·obtain rfl := Option.some.inj h
   exact Reach.done ttok mix fk123 (p123_e_2 a0) (obs_cons h0 (obs_cons h1 obs_nil))
theorem yEF {N : Nat} {a0 : Val} {r : Bool} (h : yEf N  a0 = some r) : AbC 123 (yBB a0) (yAV r) :=
 AbsCalls.of_reach fk123 rfl rfl (Nat.le_of_ble_eq_true rfl) (c123_e a0 r h)
noncomputable def I147 : Info := { body := (Try.f147.body).getD .skip, nt := 10, results := [.tmp 4], keep := [0, 2, 8, 14], live := [], modes := [], ext := [], lnt := [], casts := [], fcast := [] }
theorem fk147 : FnOk Try.prog 147 Try.f147 I147 := ⟨Try.func147, by kernel_rfl, by kernel_rfl, by kernel_rfl, by kernel_rfl⟩
theorem p147_e_0 (a0 a1 : Int) : run tt (AbsCalls Try.prog) I147 3000 false [.code I147.body] ⟨(zBg 0 (yEr a0 a1)), [true], [], []⟩ = some (.done (yD2 a0) [(decide ((a0 : Int) > a1)) = true]) := by kernel_rfl
theorem p147_e_1 (a0 a1 : Int) : run tt (AbsCalls Try.prog) I147 3000 false [.code I147.body] ⟨(zBg 0 (yEr a0 a1)), [false], [], []⟩ = some (.done (yD2 a1) [(decide ((a0 : Int) > a1)) = false]) := by kernel_rfl
theorem c147_e {N : Nat} : ∀ a0 a1 r, yEW N a0 a1 = some r → Reach Try.prog Try.f147 I147 [.code I147.body] (zBg 0 (yEr a0 a1)) (yD2 r) := by
 intro a0 a1 r h
 unfold yEW at h
 rcases cond_inv h with ⟨h0, h⟩ | ⟨h0, h⟩
 ·obtain rfl := Option.some.inj h
  exact Reach.done ttok mix fk147 (p147_e_0 a0 a1) (obs_cons h0 obs_nil)
 ·obtain rfl := Option.some.inj h
  exact Reach.done ttok mix fk147 (p147_e_1 a0 a1) (obs_cons h0 obs_nil)
theorem spec_l1Max_ok {N : Nat} {a0 : Int} {a1 : Int} {r : Int} (h : yEW N  a0 a1 = some r) : AbC 147 (yEr a0 a1) (yD2 r) :=
 AbsCalls.of_reach fk147 rfl rfl (Nat.le_of_ble_eq_true rfl) (c147_e a0 a1 r h)
noncomputable def I125 : Info := { body := (Try.f125.body).getD .skip, nt := 22, results := [.tmp 2], keep := [0, 2, 4, 6, 8, 18, 3], live := [(3, [2, 6, 8, 3])], modes := [], ext := [], lnt := [], casts := [], fcast := [] }
theorem fk125 : FnOk Try.prog 125 Try.f125 I125 := ⟨Try.func125, by kernel_rfl, by kernel_rfl, by kernel_rfl, by kernel_rfl⟩
def S125_3 (x3 x4 : Int) (b1 : Val) : St := [(2, .v false [.ptr 1 0]), (6, .v false [.int .i64 x3]), (8, .v false [.int .i64 x4]), (3, .v true [.int .i64 (Val.kind b1), .int .i64 (Val.n b1), .int .i64 (Val.step b1), .str (Val.text b1), .sl .ro .val (Val.list b1), .sl .ro .str (Val.columns b1), .sl .ro .row (Val.rows b1)])]
theorem p125_3_0 (x3 x4 : Int) (b1 : Val) (r1 r2 : Int) : run tt (AbsCalls Try.prog) I125 3000 true (stkAt 3 I125.body) ⟨(S125_3 x3 x4 b1), [true], [yAU r1, yD2 r2], []⟩ = some (.stop (stkAt 3 I125.body) (S125_3 r2 (IntKind.i64.wrap (x4 + 1)) b1) [(decide ((x4 : Int) < (List.length (Val.list b1) : Int))) = true, (0 : Int) ≤ x4 ∧ x4 < (List.length (Val.list b1)), AbC 125 (yBm (List.getD (Val.list b1) (Int.toNat x4) Ty.val.dflt)) (yAU r1), AbC 147 (yEr x3 r1) (yD2 r2)]) := by kernel_rfl
theorem p125_3_1 (x3 x4 : Int) (b1 : Val) : run tt (AbsCalls Try.prog) I125 3000 true (stkAt 3 I125.body) ⟨(S125_3 x3 x4 b1), [false], [], []⟩ = some (.done (yAU (IntKind.i64.wrap (x3 + 1))) [(decide ((x4 : Int) < (List.length (Val.list b1) : Int))) = false]) := by kernel_rfl
theorem p125_e_2 (a0 : Val) : run tt (AbsCalls Try.prog) I125 3000 false [.code I125.body] ⟨(zBg 0 (yBm a0)), [], [], []⟩ = some (.stop (stkAt 3 I125.body) (S125_3 0 0 a0) []) := by kernel_rfl
theorem c125_3 {N : Nat} {rc_spec_DepthOf : Val → Option (Int)} (hrc_spec_DepthOf : ∀ a0 r, rc_spec_DepthOf a0 = some r → AbC 125 (yBm a0) (yAU r)) : ∀ n x3 x4 b1 r, yCG N rc_spec_DepthOf n x3 x4 b1 = some r → Reach Try.prog Try.f125 I125 (stkAt 3 I125.body) (S125_3 x3 x4 b1) (yAU r) := by
 intro n
 induction n with
 | zero => intro x3 x4 b1 r h; have h' : (none : Option (Int)) = some r := h; cases h'
 | succ n ih =>
  intro x3 x4 b1 r h
  rw [yCG] at h
  rcases cond_inv h with ⟨h0, h⟩ | ⟨h0, h⟩
  ·obtain ⟨h1, h⟩ := ite_inv h
   obtain ⟨r1, h2, h⟩ := bind_inv h
   obtain ⟨r2, h3, h⟩ := bind_inv h
   exact Reach.stop ttok mix fk125 (p125_3_0 x3 x4 b1 r1 r2) (obs_cons h0 (obs_cons h1 (obs_cons (hrc_spec_DepthOf _ _ h2) (obs_cons (spec_l1Max_ok h3) obs_nil)))) (ih _ _ _ _ h)
  ·obtain rfl := Option.some.inj h
   exact Reach.done ttok mix fk125 (p125_3_1 x3 x4 b1) (obs_cons h0 obs_nil)
theorem c125_e {N : Nat} {rc_spec_DepthOf : Val → Option (Int)} (hrc_spec_DepthOf : ∀ a0 r, rc_spec_DepthOf a0 = some r → AbC 125 (yBm a0) (yAU r)) : ∀ a0 r, yD0 N rc_spec_DepthOf a0 = some r → Reach Try.prog Try.f125 I125 [.code I125.body] (zBg 0 (yBm a0)) (yAU r) := by
 intro a0 r h
 unfold yD0 at h
 exact Reach.stop ttok mix fk125 (p125_e_2 a0) obs_nil (c125_3 hrc_spec_DepthOf  _ _ _ _ _ h)
theorem yFY {N : Nat} {rc_spec_DepthOf : Val → Option (Int)} (hrc_spec_DepthOf : ∀ a0 r, rc_spec_DepthOf a0 = some r → AbC 125 (yBm a0) (yAU r)) {a0 : Val} {r : Int} (h : yD0 N rc_spec_DepthOf a0 = some r) : AbC 125 (yBm a0) (yAU r) :=
 AbsCalls.of_reach fk125 rfl rfl (Nat.le_of_ble_eq_true rfl) (c125_e hrc_spec_DepthOf a0 r h)
theorem yGj {N : Nat} : ∀ d, (∀ a0 r, yCk N d a0 = some r → AbC 125 (yBm a0) (yAU r)) := by
 intro d
 induction d with
 | zero => intro _ r h; have h' : (none : Option (Int)) = some r := h; cases h'
 | succ d ih => intro _ r h; exact yFY (N := N) ih h
theorem spec_DepthOf_ok {N : Nat} {a0 : Val} {r : Int} (h : yFe N a0 = some r) : AbC 125 (yBm a0) (yAU r) := yGj N _ r h
noncomputable def I160 : Info := { body := (Try.f160.body).getD .skip, nt := 45, results := [.tmp 2], keep := [0, 4, 6, 8, 10, 18, 82], live := [(2, [0, 6])], modes := [(4, [(4, .take, false)]), (5, [(4, .take, false)]), (6, [(0, .take, false), (2, .take, false), (5, .take, false), (6, .take, false)])], ext := [], lnt := [], casts := [], fcast := [] }
theorem yF6 : FnOk Try.prog 160 Try.f160 I160 := ⟨Try.func160, by kernel_rfl, by kernel_rfl, by kernel_rfl, by kernel_rfl⟩
def yEl (x0 : Str) (x3 : Int) : St := [(0, .v false [.str x0]), (6, .v false [.int .i64 x3])]
theorem p160_2_0 (x0 : Str) (x3 : Int) : run tt (AbsCalls Try.prog) I160 3000 true (stkAt 2 I160.body) ⟨(yEl x0 x3), [true, true, true, true, true, true], [], []⟩ = some (.done (yAt false) [(decide ((x3 : Int) < (List.length x0 : Int))) = true, (0 : Int) ≤ x3 ∧ x3 < (List.length x0), (decide ((((List.getD x0 (Int.toNat x3) 0).toNat : Int) : Int) ≥ 97)) = true, (0 : Int) ≤ x3 ∧ x3 < (List.length x0), (0 : Int) ≤ x3 ∧ x3 < (List.length x0), (decide ((((List.getD x0 (Int.toNat x3) 0).toNat : Int) : Int) ≥ 48)) = true, (0 : Int) ≤ x3 ∧ x3 < (List.length x0), (!(decide ((((List.getD x0 (Int.toNat x3) 0).toNat : Int) : Int) ≤ 122))) = true, ((x3 : Int) == 0) = true, true = true]) := by kernel_rfl
theorem p160_2_1 (x0 : Str) (x3 : Int) : run tt (AbsCalls Try.prog) I160 3000 true (stkAt 2 I160.body) ⟨(yEl x0 x3), [true, true, true, true, false, true], [], []⟩ = some (.done (yAt false) [(decide ((x3 : Int) < (List.length x0 : Int))) = true, (0 : Int) ≤ x3 ∧ x3 < (List.length x0), (decide ((((List.getD x0 (Int.toNat x3) 0).toNat : Int) : Int) ≥ 97)) = true, (0 : Int) ≤ x3 ∧ x3 < (List.length x0), (0 : Int) ≤ x3 ∧ x3 < (List.length x0), (decide ((((List.getD x0 (Int.toNat x3) 0).toNat : Int) : Int) ≥ 48)) = true, (0 : Int) ≤ x3 ∧ x3 < (List.length x0), (!(decide ((((List.getD x0 (Int.toNat x3) 0).toNat : Int) : Int) ≤ 122))) = true, ((x3 : Int) == 0) = false, (!(decide ((((List.getD x0 (Int.toNat x3) 0).toNat : Int) : Int) ≤ 57))) = true]) := by kernel_rfl
theorem p160_2_2 (x0 : Str) (x3 : Int) : run tt (AbsCalls Try.prog) I160 3000 true (stkAt 2 I160.body) ⟨(yEl x0 x3), [true, true, true, true, false, false], [], []⟩ = some (.stop (stkAt 2 I160.body) (yEl x0 (IntKind.i64.wrap (x3 + 1))) [(decide ((x3 : Int) < (List.length x0 : Int))) = true, (0 : Int) ≤ x3 ∧ x3 < (List.length x0), (decide ((((List.getD x0 (Int.toNat x3) 0).toNat : Int) : Int) ≥ 97)) = true, (0 : Int) ≤ x3 ∧ x3 < (List.length x0), (0 : Int) ≤ x3 ∧ x3 < (List.length x0), (decide ((((List.getD x0 (Int.toNat x3) 0).toNat : Int) : Int) ≥ 48)) = true, (0 : Int) ≤ x3 ∧ x3 < (List.length x0), (!(decide ((((List.getD x0 (Int.toNat x3) 0).toNat : Int) : Int) ≤ 122))) = true, ((x3 : Int) == 0) = false, (!(decide ((((List.getD x0 (Int.toNat x3) 0).toNat : Int) : Int) ≤ 57))) = false]) := by kernel_rfl
theorem p160_2_3 (x0 : Str) (x3 : Int) : run tt (AbsCalls Try.prog) I160 3000 true (stkAt 2 I160.body) ⟨(yEl x0 x3), [true, true, true, false, false], [], []⟩ = some (.stop (stkAt 2 I160.body) (yEl x0 (IntKind.i64.wrap (x3 + 1))) [(decide ((x3 : Int) < (List.length x0 : Int))) = true, (0 : Int) ≤ x3 ∧ x3 < (List.length x0), (decide ((((List.getD x0 (Int.toNat x3) 0).toNat : Int) : Int) ≥ 97)) = true, (0 : Int) ≤ x3 ∧ x3 < (List.length x0), (0 : Int) ≤ x3 ∧ x3 < (List.length x0), (decide ((((List.getD x0 (Int.toNat x3) 0).toNat : Int) : Int) ≥ 48)) = true, (0 : Int) ≤ x3 ∧ x3 < (List.length x0), (!(decide ((((List.getD x0 (Int.toNat x3) 0).toNat : Int) : Int) ≤ 122))) = false, false = false]) := by kernel_rfl
theorem p160_2_4 (x0 : Str) (x3 : Int) : run tt (AbsCalls Try.prog) I160 3000 true (stkAt 2 I160.body) ⟨(yEl x0 x3), [true, true, false, true, true, true], [], []⟩ = some (.done (yAt false) [(decide ((x3 : Int) < (List.length x0 : Int))) = true, (0 : Int) ≤ x3 ∧ x3 < (List.length x0), (decide ((((List.getD x0 (Int.toNat x3) 0).toNat : Int) : Int) ≥ 97)) = true, (0 : Int) ≤ x3 ∧ x3 < (List.length x0), (0 : Int) ≤ x3 ∧ x3 < (List.length x0), (decide ((((List.getD x0 (Int.toNat x3) 0).toNat : Int) : Int) ≥ 48)) = false, (!(decide ((((List.getD x0 (Int.toNat x3) 0).toNat : Int) : Int) ≤ 122))) = true, ((x3 : Int) == 0) = true, true = true]) := by kernel_rfl
theorem p160_2_5 (x0 : Str) (x3 : Int) : run tt (AbsCalls Try.prog) I160 3000 true (stkAt 2 I160.body) ⟨(yEl x0 x3), [true, true, false, true, false, true], [], []⟩ = some (.done (yAt false) [(decide ((x3 : Int) < (List.length x0 : Int))) = true, (0 : Int) ≤ x3 ∧ x3 < (List.length x0), (decide ((((List.getD x0 (Int.toNat x3) 0).toNat : Int) : Int) ≥ 97)) = true, (0 : Int) ≤ x3 ∧ x3 < (List.length x0), (0 : Int) ≤ x3 ∧ x3 < (List.length x0), (decide ((((List.getD x0 (Int.toNat x3) 0).toNat : Int) : Int) ≥ 48)) = false, (!(decide ((((List.getD x0 (Int.toNat x3) 0).toNat : Int) : Int) ≤ 122))) = true, ((x3 : Int) == 0) = false, (!false) = true]) := by kernel_rfl
theorem p160_2_6 (x0 : Str) (x3 : Int) : run tt (AbsCalls Try.prog) I160 3000 true (stkAt 2 I160.body) ⟨(yEl x0 x3), [true, true, false, false, false], [], []⟩ = some (.stop (stkAt 2 I160.body) (yEl x0 (IntKind.i64.wrap (x3 + 1))) [(decide ((x3 : Int) < (List.length x0 : Int))) = true, (0 : Int) ≤ x3 ∧ x3 < (List.length x0), (decide ((((List.getD x0 (Int.toNat x3) 0).toNat : Int) : Int) ≥ 97)) = true, (0 : Int) ≤ x3 ∧ x3 < (List.length x0), (0 : Int) ≤ x3 ∧ x3 < (List.length x0), (decide ((((List.getD x0 (Int.toNat x3) 0).toNat : Int) : Int) ≥ 48)) = false, (!(decide ((((List.getD x0 (Int.toNat x3) 0).toNat : Int) : Int) ≤ 122))) = false, false = false]) := by kernel_rfl
theorem p160_2_7 (x0 : Str) (x3 : Int) : run tt (AbsCalls Try.prog) I160 3000 true (stkAt 2 I160.body) ⟨(yEl x0 x3), [true, false, true, true, true, true], [], []⟩ = some (.done (yAt false) [(decide ((x3 : Int) < (List.length x0 : Int))) = true, (0 : Int) ≤ x3 ∧ x3 < (List.length x0), (decide ((((List.getD x0 (Int.toNat x3) 0).toNat : Int) : Int) ≥ 97)) = false, (0 : Int) ≤ x3 ∧ x3 < (List.length x0), (decide ((((List.getD x0 (Int.toNat x3) 0).toNat : Int) : Int) ≥ 48)) = true, (0 : Int) ≤ x3 ∧ x3 < (List.length x0), (!false) = true, ((x3 : Int) == 0) = true, true = true]) := by kernel_rfl
theorem p160_2_8 (x0 : Str) (x3 : Int) : run tt (AbsCalls Try.prog) I160 3000 true (stkAt 2 I160.body) ⟨(yEl x0 x3), [true, false, true, true, false, true], [], []⟩ = some (.done (yAt false) [(decide ((x3 : Int) < (List.length x0 : Int))) = true, (0 : Int) ≤ x3 ∧ x3 < (List.length x0), (decide ((((List.getD x0 (Int.toNat x3) 0).toNat : Int) : Int) ≥ 97)) = false, (0 : Int) ≤ x3 ∧ x3 < (List.length x0), (decide ((((List.getD x0 (Int.toNat x3) 0).toNat : Int) : Int) ≥ 48)) = true, (0 : Int) ≤ x3 ∧ x3 < (List.length x0), (!false) = true, ((x3 : Int) == 0) = false, (!(decide ((((List.getD x0 (Int.toNat x3) 0).toNat : Int) : Int) ≤ 57))) = true]) := by kernel_rfl
theorem p160_2_9 (x0 : Str) (x3 : Int) : run tt (AbsCalls Try.prog) I160 3000 true (stkAt 2 I160.body) ⟨(yEl x0 x3), [true, false, true, true, false, false], [], []⟩ = some (.stop (stkAt 2 I160.body) (yEl x0 (IntKind.i64.wrap (x3 + 1))) [(decide ((x3 : Int) < (List.length x0 : Int))) = true, (0 : Int) ≤ x3 ∧ x3 < (List.length x0), (decide ((((List.getD x0 (Int.toNat x3) 0).toNat : Int) : Int) ≥ 97)) = false, (0 : Int) ≤ x3 ∧ x3 < (List.length x0), (decide ((((List.getD x0 (Int.toNat x3) 0).toNat : Int) : Int) ≥ 48)) = true, (0 : Int) ≤ x3 ∧ x3 < (List.length x0), (!false) = true, ((x3 : Int) == 0) = false, (!(decide ((((List.getD x0 (Int.toNat x3) 0).toNat : Int) : Int) ≤ 57))) = false]) := by kernel_rfl
theorem p160_2_10 (x0 : Str) (x3 : Int) : run tt (AbsCalls Try.prog) I160 3000 true (stkAt 2 I160.body) ⟨(yEl x0 x3), [true, false, false, true, true, true], [], []⟩ = some (.done (yAt false) [(decide ((x3 : Int) < (List.length x0 : Int))) = true, (0 : Int) ≤ x3 ∧ x3 < (List.length x0), (decide ((((List.getD x0 (Int.toNat x3) 0).toNat : Int) : Int) ≥ 97)) = false, (0 : Int) ≤ x3 ∧ x3 < (List.length x0), (decide ((((List.getD x0 (Int.toNat x3) 0).toNat : Int) : Int) ≥ 48)) = false, (!false) = true, ((x3 : Int) == 0) = true, true = true]) := by kernel_rfl
theorem p160_2_11 (x0 : Str) (x3 : Int) : run tt (AbsCalls Try.prog) I160 3000 true (stkAt 2 I160.body) ⟨(yEl x0 x3), [true, false, false, true, false, true], [], []⟩ = some (.done (yAt false) [(decide ((x3 : Int) < (List.length x0 : Int))) = true, (0 : Int) ≤ x3 ∧ x3 < (List.length x0), (decide ((((List.getD x0 (Int.toNat x3) 0).toNat : Int) : Int) ≥ 97)) = false, (0 : Int) ≤ x3 ∧ x3 < (List.length x0), (decide ((((List.getD x0 (Int.toNat x3) 0).toNat : Int) : Int) ≥ 48)) = false, (!false) = true, ((x3 : Int) == 0) = false, (!false) = true]) := by kernel_rfl
theorem p160_2_12 (x0 : Str) (x3 : Int) : run tt (AbsCalls Try.prog) I160 3000 true (stkAt 2 I160.body) ⟨(yEl x0 x3), [false], [], []⟩ = some (.done (yAt (decide (((List.length x0 : Int) : Int) > 0))) [(decide ((x3 : Int) < (List.length x0 : Int))) = false]) := by kernel_rfl
theorem p160_e_13 (a0 : Str) : run tt (AbsCalls Try.prog) I160 3000 false [.code I160.body] ⟨(zBg 0 (yDa a0)), [], [], []⟩ = some (.stop (stkAt 2 I160.body) (yEl a0 0) []) := by kernel_rfl
theorem c160_2 {N : Nat} : ∀ n x0 x3 r, yBd N n x0 x3 = some r → Reach Try.prog Try.f160 I160 (stkAt 2 I160.body) (yEl x0 x3) (yAt r) := by
 intro n
 induction n with
 | zero => intro x0 x3 r h; have h' : (none : Option (Bool)) = some r := h; cases h'
 | succ n ih =>
  intro x0 x3 r h
  rw [yBd] at h
  rcases cond_inv h with ⟨h0, h⟩ | ⟨h0, h⟩
  ·obtain ⟨h1, h⟩ := ite_inv h
   rcases cond_inv h with ⟨h2, h⟩ | ⟨h2, h⟩
   ·rcases cond_inv h with ⟨h5, h⟩ | ⟨h5, h⟩
    ·rcases cond_inv h with ⟨h7, h⟩ | ⟨h7, h⟩
     ·rcases cond_inv h with ⟨h8, h⟩ | ⟨h8, h⟩
      ·obtain rfl := Option.some.inj h
       exact Reach.done ttok mix yF6 (p160_2_0 x0 x3) (obs_cons h0 (obs_cons h1 (obs_cons h2 (obs_cons h1 (obs_cons h1 (obs_cons h5 (obs_cons h1 (obs_cons h7 (obs_cons h8 (obs_cons rfl obs_nil))))))))))
      ·rcases cond_inv h with ⟨h9, h⟩ | ⟨h9, h⟩
       ·obtain rfl := Option.some.inj h
        exact Reach.done ttok mix yF6 (p160_2_1 x0 x3) (obs_cons h0 (obs_cons h1 (obs_cons h2 (obs_cons h1 (obs_cons h1 (obs_cons h5 (obs_cons h1 (obs_cons h7 (obs_cons h8 (obs_cons h9 obs_nil))))))))))
       ·exact Reach.stop ttok mix yF6 (p160_2_2 x0 x3) (obs_cons h0 (obs_cons h1 (obs_cons h2 (obs_cons h1 (obs_cons h1 (obs_cons h5 (obs_cons h1 (obs_cons h7 (obs_cons h8 (obs_cons h9 obs_nil)))))))))) (ih _ _ _ h)
     ·exact Reach.stop ttok mix yF6 (p160_2_3 x0 x3) (obs_cons h0 (obs_cons h1 (obs_cons h2 (obs_cons h1 (obs_cons h1 (obs_cons h5 (obs_cons h1 (obs_cons h7 (obs_cons rfl obs_nil))))))))) (ih _ _ _ h)
    ·rcases cond_inv h with ⟨h6, h⟩ | ⟨h6, h⟩
     ·rcases cond_inv h with ⟨h7, h⟩ | ⟨h7, h⟩
      ·obtain rfl := Option.some.inj h
       exact Reach.done ttok mix yF6 (p160_2_4 x0 x3) (obs_cons h0 (obs_cons h1 (obs_cons h2 (obs_cons h1 (obs_cons h1 (obs_cons h5 (obs_cons h6 (obs_cons h7 (obs_cons rfl obs_nil)))))))))
      ·obtain rfl := Option.some.inj h
       exact Reach.done ttok mix yF6 (p160_2_5 x0 x3) (obs_cons h0 (obs_cons h1 (obs_cons h2 (obs_cons h1 (obs_cons h1 (obs_cons h5 (obs_cons h6 (obs_cons h7 (obs_cons rfl obs_nil)))))))))
     ·exact Reach.stop ttok mix yF6 (p160_2_6 x0 x3) (obs_cons h0 (obs_cons h1 (obs_cons h2 (obs_cons h1 (obs_cons h1 (obs_cons h5 (obs_cons h6 (obs_cons rfl obs_nil)))))))) (ih _ _ _ h)
   ·rcases cond_inv h with ⟨h4, h⟩ | ⟨h4, h⟩
    ·rcases cond_inv h with ⟨h7, h⟩ | ⟨h7, h⟩
     ·obtain rfl := Option.some.inj h
      exact Reach.done ttok mix yF6 (p160_2_7 x0 x3) (obs_cons h0 (obs_cons h1 (obs_cons h2 (obs_cons h1 (obs_cons h4 (obs_cons h1 (obs_cons rfl (obs_cons h7 (obs_cons rfl obs_nil)))))))))
     ·rcases cond_inv h with ⟨h8, h⟩ | ⟨h8, h⟩
      ·obtain rfl := Option.some.inj h
       exact Reach.done ttok mix yF6 (p160_2_8 x0 x3) (obs_cons h0 (obs_cons h1 (obs_cons h2 (obs_cons h1 (obs_cons h4 (obs_cons h1 (obs_cons rfl (obs_cons h7 (obs_cons h8 obs_nil)))))))))
      ·exact Reach.stop ttok mix yF6 (p160_2_9 x0 x3) (obs_cons h0 (obs_cons h1 (obs_cons h2 (obs_cons h1 (obs_cons h4 (obs_cons h1 (obs_cons rfl (obs_cons h7 (obs_cons h8 obs_nil))))))))) (ih _ _ _ h)
    ·rcases cond_inv h with ⟨h6, h⟩ | ⟨h6, h⟩
     ·obtain rfl := Option.some.inj h
      exact Reach.done ttok mix yF6 (p160_2_10 x0 x3) (obs_cons h0 (obs_cons h1 (obs_cons h2 (obs_cons h1 (obs_cons h4 (obs_cons rfl (obs_cons h6 (obs_cons rfl obs_nil))))))))
     ·obtain rfl := Option.some.inj h
      exact Reach.done ttok mix yF6 (p160_2_11 x0 x3) (obs_cons h0 (obs_cons h1 (obs_cons h2 (obs_cons h1 (obs_cons h4 (obs_cons rfl (obs_cons h6 (obs_cons rfl obs_nil))))))))
  ·obtain rfl := Option.some.inj h
   exact Reach.done ttok mix yF6 (p160_2_12 x0 x3) (obs_cons h0 obs_nil)
theorem c160_e {N : Nat} : ∀ a0 r, yEO N a0 = some r → Reach Try.prog Try.f160 I160 [.code I160.body] (zBg 0 (yDa a0)) (yAt r) := by
 intro a0 r h
 unfold yEO at h
 exact Reach.stop ttok mix yF6 (p160_e_13 a0) obs_nil (c160_2   _ _ _ _ h)
theorem yE8 {N : Nat} {a0 : Str} {r : Bool} (h : yEO N  a0 = some r) : AbC 160 (yDa a0) (yAt r) :=
 AbsCalls.of_reach yF6 rfl rfl (Nat.le_of_ble_eq_true rfl) (c160_e a0 r h)
noncomputable def I165 : Info := { body := (Try.f165.body).getD .skip, nt := 2, results := [.tmp 0], keep := [0], live := [], modes := [], ext := [], lnt := [], casts := [], fcast := [] }
theorem fk165 : FnOk Try.prog 165 Try.f165 I165 := ⟨Try.func165, by kernel_rfl, by kernel_rfl, by kernel_rfl, by kernel_rfl⟩
theorem p165_e_0 : run tt (AbsCalls Try.prog) I165 3000 false [.code I165.body] ⟨(zBg 0 (yDM )), [], [], []⟩ = some (.done (yCW [[108, 101, 116], [105, 110], [105, 102], [116, 104, 101, 110], [101, 108, 115, 101], [102, 111, 114], [100, 111], [108, 101, 110], [115, 117, 109], [116, 97, 107, 101], [115, 107, 105, 112], [114, 97, 110, 103, 101], [110, 116, 104], [119, 104, 101, 114, 101], [107, 101, 101, 112], [97, 100, 100], [103, 114, 111, 117, 112], [106, 111, 105, 110], [99, 111, 108, 117, 109, 110], [114, 111, 119, 115], [99, 108, 111, 99, 107], [99, 104, 97, 110, 99, 101], [102, 105, 108, 101], [116, 97, 98, 108, 101]]) []) := by kernel_rfl
theorem c165_e {N : Nat} : ∀ r, yDR N = some r → Reach Try.prog Try.f165 I165 [.code I165.body] (zBg 0 (yDM )) (yCW r) := by
 intro r h
 unfold yDR at h
 obtain rfl := Option.some.inj h
 exact Reach.done ttok mix fk165 (p165_e_0) obs_nil
theorem spec_l2Reserved_ok {N : Nat} {r : (List Str)} (h : yDR N   = some r) : AbC 165 (yDM ) (yCW r) :=
 AbsCalls.of_reach fk165 rfl rfl (Nat.le_of_ble_eq_true rfl) (c165_e  r h)
noncomputable def I162 : Info := { body := (Try.f162.body).getD .skip, nt := 18, results := [.tmp 4], keep := [0, 2, 8, 10, 18, 34], live := [(2, [0, 2, 10])], modes := [], ext := [], lnt := [], casts := [], fcast := [] }
theorem fk162 : FnOk Try.prog 162 Try.f162 I162 := ⟨Try.func162, by kernel_rfl, by kernel_rfl, by kernel_rfl, by kernel_rfl⟩
def S162_2 (x0 : List Str) (x1 : Str) (x5 : Int) : St := [(0, .v false [.sl .ro .str x0]), (2, .v false [.str x1]), (10, .v false [.int .i64 x5])]
theorem p162_2_0 (x0 : List Str) (x1 : Str) (x5 : Int) : run tt (AbsCalls Try.prog) I162 3000 true (stkAt 2 I162.body) ⟨(S162_2 x0 x1 x5), [true, true], [], []⟩ = some (.done (yBM true) [(decide ((x5 : Int) < (List.length x0 : Int))) = true, (0 : Int) ≤ x5 ∧ x5 < (List.length x0), (((List.getD x0 (Int.toNat x5) Ty.str.dflt) : Str) == x1) = true]) := by kernel_rfl
theorem p162_2_1 (x0 : List Str) (x1 : Str) (x5 : Int) : run tt (AbsCalls Try.prog) I162 3000 true (stkAt 2 I162.body) ⟨(S162_2 x0 x1 x5), [true, false], [], []⟩ = some (.stop (stkAt 2 I162.body) (S162_2 x0 x1 (IntKind.i64.wrap (x5 + 1))) [(decide ((x5 : Int) < (List.length x0 : Int))) = true, (0 : Int) ≤ x5 ∧ x5 < (List.length x0), (((List.getD x0 (Int.toNat x5) Ty.str.dflt) : Str) == x1) = false]) := by kernel_rfl
theorem p162_2_2 (x0 : List Str) (x1 : Str) (x5 : Int) : run tt (AbsCalls Try.prog) I162 3000 true (stkAt 2 I162.body) ⟨(S162_2 x0 x1 x5), [false], [], []⟩ = some (.done (yBM false) [(decide ((x5 : Int) < (List.length x0 : Int))) = false]) := by kernel_rfl
theorem p162_e_3 (a0 : List Str) (a1 : Str) : run tt (AbsCalls Try.prog) I162 3000 false [.code I162.body] ⟨(zBg 0 (yD1 a0 a1)), [], [], []⟩ = some (.stop (stkAt 2 I162.body) (S162_2 a0 a1 0) []) := by kernel_rfl
theorem c162_2 {N : Nat} : ∀ n x0 x1 x5 r, yCV N n x0 x1 x5 = some r → Reach Try.prog Try.f162 I162 (stkAt 2 I162.body) (S162_2 x0 x1 x5) (yBM r) := by
 intro n
 induction n with
 | zero => intro x0 x1 x5 r h; have h' : (none : Option (Bool)) = some r := h; cases h'
 | succ n ih =>
  intro x0 x1 x5 r h
  rw [yCV] at h
  rcases cond_inv h with ⟨h0, h⟩ | ⟨h0, h⟩
  ·obtain ⟨h1, h⟩ := ite_inv h
   rcases cond_inv h with ⟨h2, h⟩ | ⟨h2, h⟩
   ·obtain rfl := Option.some.inj h
    exact Reach.done ttok mix fk162 (p162_2_0 x0 x1 x5) (obs_cons h0 (obs_cons h1 (obs_cons h2 obs_nil)))
   ·exact Reach.stop ttok mix fk162 (p162_2_1 x0 x1 x5) (obs_cons h0 (obs_cons h1 (obs_cons h2 obs_nil))) (ih _ _ _ _ h)
  ·obtain rfl := Option.some.inj h
   exact Reach.done ttok mix fk162 (p162_2_2 x0 x1 x5) (obs_cons h0 obs_nil)
theorem c162_e {N : Nat} : ∀ a0 a1 r, yEV N a0 a1 = some r → Reach Try.prog Try.f162 I162 [.code I162.body] (zBg 0 (yD1 a0 a1)) (yBM r) := by
 intro a0 a1 r h
 unfold yEV at h
 exact Reach.stop ttok mix fk162 (p162_e_3 a0 a1) obs_nil (c162_2   _ _ _ _ _ h)
theorem yFy {N : Nat} {a0 : List Str} {a1 : Str} {r : Bool} (h : yEV N  a0 a1 = some r) : AbC 162 (yD1 a0 a1) (yBM r) :=
 AbsCalls.of_reach fk162 rfl rfl (Nat.le_of_ble_eq_true rfl) (c162_e a0 a1 r h)
noncomputable def I161 : Info := { body := (Try.f161.body).getD .skip, nt := 6, results := [.tmp 2], keep := [0, 4], live := [], modes := [], ext := [], lnt := [], casts := [], fcast := [] }
theorem fk161 : FnOk Try.prog 161 Try.f161 I161 := ⟨Try.func161, by kernel_rfl, by kernel_rfl, by kernel_rfl, by kernel_rfl⟩
theorem p161_e_0 (a0 : Str) (r1 : (List Str)) (r2 : Bool) : run tt (AbsCalls Try.prog) I161 3000 false [.code I161.body] ⟨(zBg 0 (yDL a0)), [], [yCW r1, yBM r2], []⟩ = some (.done (yCU r2) [AbC 165 yDM (yCW r1), AbC 162 (yD1 r1 a0) (yBM r2)]) := by kernel_rfl
theorem c161_e {N : Nat} : ∀ a0 r, yC9 N a0 = some r → Reach Try.prog Try.f161 I161 [.code I161.body] (zBg 0 (yDL a0)) (yCU r) := by
 intro a0 r h
 unfold yC9 at h
 obtain ⟨r1, h0, h⟩ := bind_inv h
 obtain ⟨r2, h1, h⟩ := bind_inv h
 obtain rfl := Option.some.inj h
 exact Reach.done ttok mix fk161 (p161_e_0 a0 r1 r2) (obs_cons (spec_l2Reserved_ok h0) (obs_cons (yFy h1) obs_nil))
theorem spec_IsReserved_ok {N : Nat} {a0 : Str} {r : Bool} (h : yC9 N  a0 = some r) : AbC 161 (yDL a0) (yCU r) :=
 AbsCalls.of_reach fk161 rfl rfl (Nat.le_of_ble_eq_true rfl) (c161_e a0 r h)
noncomputable def I155 : Info := { body := (Try.f155.body).getD .skip, nt := 15, results := [.tmp 2], keep := [0, 4], live := [], modes := [(1, [(2, .take, false), (7, .take, false)])], ext := [], lnt := [], casts := [], fcast := [] }
theorem fk155 : FnOk Try.prog 155 Try.f155 I155 := ⟨Try.func155, by kernel_rfl, by kernel_rfl, by kernel_rfl, by kernel_rfl⟩
theorem p155_e_0 (a0 : Str) (r1 r2 : Bool) : run tt (AbsCalls Try.prog) I155 3000 false [.code I155.body] ⟨(zBg 0 (yBz a0)), [true, true], [yAt r1, yCU r2], []⟩ = some (.done (yA2 (!r2)) [AbC 160 (yDa a0) (yAt r1), r1 = true, (decide (((List.length a0 : Int) : Int) ≤ 8)) = true, AbC 161 (yDL a0) (yCU r2)]) := by kernel_rfl
theorem p155_e_1 (a0 : Str) (r1 : Bool) : run tt (AbsCalls Try.prog) I155 3000 false [.code I155.body] ⟨(zBg 0 (yBz a0)), [true, false], [yAt r1], []⟩ = some (.done (yA2 false) [AbC 160 (yDa a0) (yAt r1), r1 = true, (decide (((List.length a0 : Int) : Int) ≤ 8)) = false]) := by kernel_rfl
theorem p155_e_2 (a0 : Str) (r1 : Bool) : run tt (AbsCalls Try.prog) I155 3000 false [.code I155.body] ⟨(zBg 0 (yBz a0)), [false, false], [yAt r1], []⟩ = some (.done (yA2 false) [AbC 160 (yDa a0) (yAt r1), r1 = false, false = false]) := by kernel_rfl
theorem c155_e {N : Nat} : ∀ a0 r, yCP N a0 = some r → Reach Try.prog Try.f155 I155 [.code I155.body] (zBg 0 (yBz a0)) (yA2 r) := by
 intro a0 r h
 unfold yCP at h
 obtain ⟨r1, h0, h⟩ := bind_inv h
 rcases cond_inv h with ⟨h1, h⟩ | ⟨h1, h⟩
 ·rcases cond_inv h with ⟨h2, h⟩ | ⟨h2, h⟩
  ·obtain ⟨r2, h3, h⟩ := bind_inv h
   obtain rfl := Option.some.inj h
   exact Reach.done ttok mix fk155 (p155_e_0 a0 r1 r2) (obs_cons (yE8 h0) (obs_cons h1 (obs_cons h2 (obs_cons (spec_IsReserved_ok h3) obs_nil))))
  ·obtain rfl := Option.some.inj h
   exact Reach.done ttok mix fk155 (p155_e_1 a0 r1) (obs_cons (yE8 h0) (obs_cons h1 (obs_cons h2 obs_nil)))
 ·obtain rfl := Option.some.inj h
  exact Reach.done ttok mix fk155 (p155_e_2 a0 r1) (obs_cons (yE8 h0) (obs_cons h1 (obs_cons rfl obs_nil)))
theorem yE6 {N : Nat} {a0 : Str} {r : Bool} (h : yCP N  a0 = some r) : AbC 155 (yBz a0) (yA2 r) :=
 AbsCalls.of_reach fk155 rfl rfl (Nat.le_of_ble_eq_true rfl) (c155_e a0 r h)
noncomputable def I156 : Info := { body := (Try.f156.body).getD .skip, nt := 18, results := [.tmp 2], keep := [0, 4, 6, 14, 34], live := [(2, [0, 6])], modes := [], ext := [], lnt := [], casts := [], fcast := [] }
theorem fk156 : FnOk Try.prog 156 Try.f156 I156 := ⟨Try.func156, by kernel_rfl, by kernel_rfl, by kernel_rfl, by kernel_rfl⟩
def S156_2 (x0 : List Str) (x3 : Int) : St := [(0, .v false [.sl .ro .str x0]), (6, .v false [.int .i64 x3])]
theorem p156_2_0 (x0 : List Str) (x3 : Int) (r1 : Bool) : run tt (AbsCalls Try.prog) I156 3000 true (stkAt 2 I156.body) ⟨(S156_2 x0 x3), [true, true], [yBM r1], []⟩ = some (.done (yBy false) [(decide ((x3 : Int) < (List.length x0 : Int))) = true, (0 : Int) ≤ x3 ∧ x3 ≤ (List.length x0), (0 : Int) ≤ x3 ∧ x3 < (List.length x0), AbC 162 (yD1 (List.take (Int.toNat x3) x0) (List.getD x0 (Int.toNat x3) Ty.str.dflt)) (yBM r1), r1 = true]) := by kernel_rfl
theorem p156_2_1 (x0 : List Str) (x3 : Int) (r1 : Bool) : run tt (AbsCalls Try.prog) I156 3000 true (stkAt 2 I156.body) ⟨(S156_2 x0 x3), [true, false], [yBM r1], []⟩ = some (.stop (stkAt 2 I156.body) (S156_2 x0 (IntKind.i64.wrap (x3 + 1))) [(decide ((x3 : Int) < (List.length x0 : Int))) = true, (0 : Int) ≤ x3 ∧ x3 ≤ (List.length x0), (0 : Int) ≤ x3 ∧ x3 < (List.length x0), AbC 162 (yD1 (List.take (Int.toNat x3) x0) (List.getD x0 (Int.toNat x3) Ty.str.dflt)) (yBM r1), r1 = false]) := by kernel_rfl
theorem p156_2_2 (x0 : List Str) (x3 : Int) : run tt (AbsCalls Try.prog) I156 3000 true (stkAt 2 I156.body) ⟨(S156_2 x0 x3), [false], [], []⟩ = some (.done (yBy true) [(decide ((x3 : Int) < (List.length x0 : Int))) = false]) := by kernel_rfl
theorem p156_e_3 (a0 : List Str) : run tt (AbsCalls Try.prog) I156 3000 false [.code I156.body] ⟨(zBg 0 (yDk a0)), [], [], []⟩ = some (.stop (stkAt 2 I156.body) (S156_2 a0 0) []) := by kernel_rfl
theorem c156_2 {N : Nat} : ∀ n x0 x3 r, yBc N n x0 x3 = some r → Reach Try.prog Try.f156 I156 (stkAt 2 I156.body) (S156_2 x0 x3) (yBy r) := by
 intro n
 induction n with
 | zero => intro x0 x3 r h; have h' : (none : Option (Bool)) = some r := h; cases h'
 | succ n ih =>
  intro x0 x3 r h
  rw [yBc] at h
  rcases cond_inv h with ⟨h0, h⟩ | ⟨h0, h⟩
  ·obtain ⟨h1, h⟩ := ite_inv h
   obtain ⟨h2, h⟩ := ite_inv h
   obtain ⟨r1, h3, h⟩ := bind_inv h
   rcases cond_inv h with ⟨h4, h⟩ | ⟨h4, h⟩
   ·obtain rfl := Option.some.inj h
    exact Reach.done ttok mix fk156 (p156_2_0 x0 x3 r1) (obs_cons h0 (obs_cons h1 (obs_cons h2 (obs_cons (yFy h3) (obs_cons h4 obs_nil)))))
   ·exact Reach.stop ttok mix fk156 (p156_2_1 x0 x3 r1) (obs_cons h0 (obs_cons h1 (obs_cons h2 (obs_cons (yFy h3) (obs_cons h4 obs_nil))))) (ih _ _ _ h)
  ·obtain rfl := Option.some.inj h
   exact Reach.done ttok mix fk156 (p156_2_2 x0 x3) (obs_cons h0 obs_nil)
theorem c156_e {N : Nat} : ∀ a0 r, yDu N a0 = some r → Reach Try.prog Try.f156 I156 [.code I156.body] (zBg 0 (yDk a0)) (yBy r) := by
 intro a0 r h
 unfold yDu at h
 exact Reach.stop ttok mix fk156 (p156_e_3 a0) obs_nil (c156_2   _ _ _ _ h)
theorem yGi {N : Nat} {a0 : List Str} {r : Bool} (h : yDu N  a0 = some r) : AbC 156 (yDk a0) (yBy r) :=
 AbsCalls.of_reach fk156 rfl rfl (Nat.le_of_ble_eq_true rfl) (c156_e a0 r h)
end Go.Ab.T
end
section
open Go.Proofs
namespace Go.Ab.T
set_option linter.unusedVariables false
set_option maxRecDepth 100000
noncomputable def I151 : Info := { body := (Try.f151.body).getD .skip, nt := 23, results := [.tmp 2], keep := [0, 4, 6, 14, 30], live := [(2, [0, 6])], modes := [(6, [(3, .take, false)])], ext := [], lnt := [], casts := [], fcast := [] }
theorem fk151 : FnOk Try.prog 151 Try.f151 I151 := ⟨Try.func151, by kernel_rfl, by kernel_rfl, by kernel_rfl, by kernel_rfl⟩
def S151_2 (x0 : List Str) (x3 : Int) : St := [(0, .v false [.sl .ro .str x0]), (6, .v false [.int .i64 x3])]
theorem p151_2_0 (x0 : List Str) (x3 : Int) (r1 : Bool) : run tt (AbsCalls Try.prog) I151 3000 true (stkAt 2 I151.body) ⟨(S151_2 x0 x3), [true, true], [yA2 r1], []⟩ = some (.done (yAM false) [(decide ((x3 : Int) < (List.length x0 : Int))) = true, (0 : Int) ≤ x3 ∧ x3 < (List.length x0), AbC 155 (yBz (List.getD x0 (Int.toNat x3) Ty.str.dflt)) (yA2 r1), (!r1) = true]) := by kernel_rfl
theorem p151_2_1 (x0 : List Str) (x3 : Int) (r1 : Bool) : run tt (AbsCalls Try.prog) I151 3000 true (stkAt 2 I151.body) ⟨(S151_2 x0 x3), [true, false], [yA2 r1], []⟩ = some (.stop (stkAt 2 I151.body) (S151_2 x0 (IntKind.i64.wrap (x3 + 1))) [(decide ((x3 : Int) < (List.length x0 : Int))) = true, (0 : Int) ≤ x3 ∧ x3 < (List.length x0), AbC 155 (yBz (List.getD x0 (Int.toNat x3) Ty.str.dflt)) (yA2 r1), (!r1) = false]) := by kernel_rfl
theorem p151_2_2 (x0 : List Str) (x3 : Int) (r1 r2 : Bool) : run tt (AbsCalls Try.prog) I151 3000 true (stkAt 2 I151.body) ⟨(S151_2 x0 x3), [false, true], [yBQ r1, yBy r2], []⟩ = some (.done (yAM r2) [(decide ((x3 : Int) < (List.length x0 : Int))) = false, AbC 97 (yDd (List.length x0 : Int) 1 4) (yBQ r1), r1 = true, AbC 156 (yDk x0) (yBy r2)]) := by kernel_rfl
theorem p151_2_3 (x0 : List Str) (x3 : Int) (r1 : Bool) : run tt (AbsCalls Try.prog) I151 3000 true (stkAt 2 I151.body) ⟨(S151_2 x0 x3), [false, false], [yBQ r1], []⟩ = some (.done (yAM false) [(decide ((x3 : Int) < (List.length x0 : Int))) = false, AbC 97 (yDd (List.length x0 : Int) 1 4) (yBQ r1), r1 = false]) := by kernel_rfl
theorem p151_e_4 (a0 : List Str) : run tt (AbsCalls Try.prog) I151 3000 false [.code I151.body] ⟨(zBg 0 (yCz a0)), [], [], []⟩ = some (.stop (stkAt 2 I151.body) (S151_2 a0 0) []) := by kernel_rfl
theorem c151_2 {N : Nat} : ∀ n x0 x3 r, yB1 N n x0 x3 = some r → Reach Try.prog Try.f151 I151 (stkAt 2 I151.body) (S151_2 x0 x3) (yAM r) := by
 intro n
 induction n with
 | zero => intro x0 x3 r h; have h' : (none : Option (Bool)) = some r := h; cases h'
 | succ n ih =>
  intro x0 x3 r h
  rw [yB1] at h
  rcases cond_inv h with ⟨h0, h⟩ | ⟨h0, h⟩
  ·obtain ⟨h1, h⟩ := ite_inv h
   obtain ⟨r1, h2, h⟩ := bind_inv h
   rcases cond_inv h with ⟨h3, h⟩ | ⟨h3, h⟩
   ·obtain rfl := Option.some.inj h
    exact Reach.done ttok mix fk151 (p151_2_0 x0 x3 r1) (obs_cons h0 (obs_cons h1 (obs_cons (yE6 h2) (obs_cons h3 obs_nil))))
   ·exact Reach.stop ttok mix fk151 (p151_2_1 x0 x3 r1) (obs_cons h0 (obs_cons h1 (obs_cons (yE6 h2) (obs_cons h3 obs_nil)))) (ih _ _ _ h)
  ·obtain ⟨r1, h1, h⟩ := bind_inv h
   rcases cond_inv h with ⟨h2, h⟩ | ⟨h2, h⟩
   ·obtain ⟨r2, h3, h⟩ := bind_inv h
    obtain rfl := Option.some.inj h
    exact Reach.done ttok mix fk151 (p151_2_2 x0 x3 r1 r2) (obs_cons h0 (obs_cons (yFg h1) (obs_cons h2 (obs_cons (yGi h3) obs_nil))))
   ·obtain rfl := Option.some.inj h
    exact Reach.done ttok mix fk151 (p151_2_3 x0 x3 r1) (obs_cons h0 (obs_cons (yFg h1) (obs_cons h2 obs_nil)))
theorem c151_e {N : Nat} : ∀ a0 r, yEe N a0 = some r → Reach Try.prog Try.f151 I151 [.code I151.body] (zBg 0 (yCz a0)) (yAM r) := by
 intro a0 r h
 unfold yEe at h
 exact Reach.stop ttok mix fk151 (p151_e_4 a0) obs_nil (c151_2   _ _ _ _ h)
theorem yEE {N : Nat} {a0 : List Str} {r : Bool} (h : yEe N  a0 = some r) : AbC 151 (yCz a0) (yAM r) :=
 AbsCalls.of_reach fk151 rfl rfl (Nat.le_of_ble_eq_true rfl) (c151_e a0 r h)
noncomputable def I157 : Info := { body := (Try.f157.body).getD .skip, nt := 24, results := [.tmp 4], keep := [0, 2, 4, 6, 8, 5, 7], live := [], modes := [(1, [(5, .take, false), (11, .take, false)])], ext := [], lnt := [], casts := [], fcast := [] }
theorem fk157 : FnOk Try.prog 157 Try.f157 I157 := ⟨Try.func157, by kernel_rfl, by kernel_rfl, by kernel_rfl, by kernel_rfl⟩
theorem p157_e_0 (a0 a1 : Org) : run tt (AbsCalls Try.prog) I157 3000 false [.code I157.body] ⟨(zBg 0 (yCl a0 a1)), [true], [], []⟩ = some (.done (yBr true) [(decide (((Org.cell a0) : Int) < (Org.cell a1))) = true]) := by kernel_rfl
theorem p157_e_1 (a0 a1 : Org) : run tt (AbsCalls Try.prog) I157 3000 false [.code I157.body] ⟨(zBg 0 (yCl a0 a1)), [false, true], [], []⟩ = some (.done (yBr (decide (((Org.row a0) : Int) < (Org.row a1)))) [(decide (((Org.cell a0) : Int) < (Org.cell a1))) = false, (((Org.cell a0) : Int) == (Org.cell a1)) = true]) := by kernel_rfl
theorem p157_e_2 (a0 a1 : Org) : run tt (AbsCalls Try.prog) I157 3000 false [.code I157.body] ⟨(zBg 0 (yCl a0 a1)), [false, false], [], []⟩ = some (.done (yBr false) [(decide (((Org.cell a0) : Int) < (Org.cell a1))) = false, (((Org.cell a0) : Int) == (Org.cell a1)) = false]) := by kernel_rfl
theorem c157_e {N : Nat} : ∀ a0 a1 r, yD3 N a0 a1 = some r → Reach Try.prog Try.f157 I157 [.code I157.body] (zBg 0 (yCl a0 a1)) (yBr r) := by
 intro a0 a1 r h
 unfold yD3 at h
 rcases cond_inv h with ⟨h0, h⟩ | ⟨h0, h⟩
 ·obtain rfl := Option.some.inj h
  exact Reach.done ttok mix fk157 (p157_e_0 a0 a1) (obs_cons h0 obs_nil)
 ·rcases cond_inv h with ⟨h1, h⟩ | ⟨h1, h⟩
  ·obtain rfl := Option.some.inj h
   exact Reach.done ttok mix fk157 (p157_e_1 a0 a1) (obs_cons h0 (obs_cons h1 obs_nil))
  ·obtain rfl := Option.some.inj h
   exact Reach.done ttok mix fk157 (p157_e_2 a0 a1) (obs_cons h0 (obs_cons h1 obs_nil))
theorem yFE {N : Nat} {a0 : Org} {a1 : Org} {r : Bool} (h : yD3 N  a0 a1 = some r) : AbC 157 (yCl a0 a1) (yBr r) :=
 AbsCalls.of_reach fk157 rfl rfl (Nat.le_of_ble_eq_true rfl) (c157_e a0 a1 r h)
noncomputable def I152 : Info := { body := (Try.f152.body).getD .skip, nt := 41, results := [.tmp 2], keep := [0, 4, 6, 14, 80], live := [(2, [0, 6])], modes := [(4, [(6, .take, false), (14, .take, false), (17, .take, false)])], ext := [], lnt := [], casts := [], fcast := [] }
theorem fk152 : FnOk Try.prog 152 Try.f152 I152 := ⟨Try.func152, by kernel_rfl, by kernel_rfl, by kernel_rfl, by kernel_rfl⟩
def yFZ (x0 : List Org) (x3 : Int) : St := [(0, .v false [.sl .ro .org x0]), (6, .v false [.int .i64 x3])]
theorem p152_2_0 (x0 : List Org) (x3 : Int) : run tt (AbsCalls Try.prog) I152 3000 true (stkAt 2 I152.body) ⟨(yFZ x0 x3), [true, true, true, true], [], []⟩ = some (.done (yAH false) [(decide ((x3 : Int) < (List.length x0 : Int))) = true, (0 : Int) ≤ x3 ∧ x3 < (List.length x0), (decide (((Org.cell (List.getD x0 (Int.toNat x3) Ty.org.dflt)) : Int) < 0)) = true, true = true, true = true]) := by kernel_rfl
theorem p152_2_1 (x0 : List Org) (x3 : Int) : run tt (AbsCalls Try.prog) I152 3000 true (stkAt 2 I152.body) ⟨(yFZ x0 x3), [true, false, true, true], [], []⟩ = some (.done (yAH false) [(decide ((x3 : Int) < (List.length x0 : Int))) = true, (0 : Int) ≤ x3 ∧ x3 < (List.length x0), (decide (((Org.cell (List.getD x0 (Int.toNat x3) Ty.org.dflt)) : Int) < 0)) = false, (0 : Int) ≤ x3 ∧ x3 < (List.length x0), (decide (((Org.row (List.getD x0 (Int.toNat x3) Ty.org.dflt)) : Int) < 0)) = true, true = true]) := by kernel_rfl
theorem p152_2_2 (x0 : List Org) (x3 : Int) (r1 : Bool) : run tt (AbsCalls Try.prog) I152 3000 true (stkAt 2 I152.body) ⟨(yFZ x0 x3), [true, false, false, true, true], [yBr r1], []⟩ = some (.done (yAH false) [(decide ((x3 : Int) < (List.length x0 : Int))) = true, (0 : Int) ≤ x3 ∧ x3 < (List.length x0), (decide (((Org.cell (List.getD x0 (Int.toNat x3) Ty.org.dflt)) : Int) < 0)) = false, (0 : Int) ≤ x3 ∧ x3 < (List.length x0), (decide (((Org.row (List.getD x0 (Int.toNat x3) Ty.org.dflt)) : Int) < 0)) = false, (decide ((x3 : Int) > 0)) = true, (0 : Int) ≤ (IntKind.i64.wrap (x3 - 1)) ∧ (IntKind.i64.wrap (x3 - 1)) < (List.length x0), (0 : Int) ≤ x3 ∧ x3 < (List.length x0), AbC 157 (yCl (List.getD x0 (Int.toNat (IntKind.i64.wrap (x3 - 1))) Ty.org.dflt) (List.getD x0 (Int.toNat x3) Ty.org.dflt)) (yBr r1), (!r1) = true]) := by kernel_rfl
theorem p152_2_3 (x0 : List Org) (x3 : Int) (r1 : Bool) : run tt (AbsCalls Try.prog) I152 3000 true (stkAt 2 I152.body) ⟨(yFZ x0 x3), [true, false, false, true, false], [yBr r1], []⟩ = some (.stop (stkAt 2 I152.body) (yFZ x0 (IntKind.i64.wrap (x3 + 1))) [(decide ((x3 : Int) < (List.length x0 : Int))) = true, (0 : Int) ≤ x3 ∧ x3 < (List.length x0), (decide (((Org.cell (List.getD x0 (Int.toNat x3) Ty.org.dflt)) : Int) < 0)) = false, (0 : Int) ≤ x3 ∧ x3 < (List.length x0), (decide (((Org.row (List.getD x0 (Int.toNat x3) Ty.org.dflt)) : Int) < 0)) = false, (decide ((x3 : Int) > 0)) = true, (0 : Int) ≤ (IntKind.i64.wrap (x3 - 1)) ∧ (IntKind.i64.wrap (x3 - 1)) < (List.length x0), (0 : Int) ≤ x3 ∧ x3 < (List.length x0), AbC 157 (yCl (List.getD x0 (Int.toNat (IntKind.i64.wrap (x3 - 1))) Ty.org.dflt) (List.getD x0 (Int.toNat x3) Ty.org.dflt)) (yBr r1), (!r1) = false]) := by kernel_rfl
theorem p152_2_4 (x0 : List Org) (x3 : Int) : run tt (AbsCalls Try.prog) I152 3000 true (stkAt 2 I152.body) ⟨(yFZ x0 x3), [true, false, false, false, false], [], []⟩ = some (.stop (stkAt 2 I152.body) (yFZ x0 (IntKind.i64.wrap (x3 + 1))) [(decide ((x3 : Int) < (List.length x0 : Int))) = true, (0 : Int) ≤ x3 ∧ x3 < (List.length x0), (decide (((Org.cell (List.getD x0 (Int.toNat x3) Ty.org.dflt)) : Int) < 0)) = false, (0 : Int) ≤ x3 ∧ x3 < (List.length x0), (decide (((Org.row (List.getD x0 (Int.toNat x3) Ty.org.dflt)) : Int) < 0)) = false, (decide ((x3 : Int) > 0)) = false, false = false]) := by kernel_rfl
theorem p152_2_5 (x0 : List Org) (x3 : Int) : run tt (AbsCalls Try.prog) I152 3000 true (stkAt 2 I152.body) ⟨(yFZ x0 x3), [false], [], []⟩ = some (.done (yAH true) [(decide ((x3 : Int) < (List.length x0 : Int))) = false]) := by kernel_rfl
theorem p152_e_6 (a0 : List Org) : run tt (AbsCalls Try.prog) I152 3000 false [.code I152.body] ⟨(zBg 0 (yCI a0)), [], [], []⟩ = some (.stop (stkAt 2 I152.body) (yFZ a0 0) []) := by kernel_rfl
theorem c152_2 {N : Nat} : ∀ n x0 x3 r, yA5 N n x0 x3 = some r → Reach Try.prog Try.f152 I152 (stkAt 2 I152.body) (yFZ x0 x3) (yAH r) := by
 intro n
 induction n with
 | zero => intro x0 x3 r h; have h' : (none : Option (Bool)) = some r := h; cases h'
 | succ n ih =>
  intro x0 x3 r h
  rw [yA5] at h
  rcases cond_inv h with ⟨h0, h⟩ | ⟨h0, h⟩
  ·obtain ⟨h1, h⟩ := ite_inv h
   rcases cond_inv h with ⟨h2, h⟩ | ⟨h2, h⟩
   ·obtain rfl := Option.some.inj h
    exact Reach.done ttok mix fk152 (p152_2_0 x0 x3) (obs_cons h0 (obs_cons h1 (obs_cons h2 (obs_cons rfl (obs_cons rfl obs_nil)))))
   ·rcases cond_inv h with ⟨h4, h⟩ | ⟨h4, h⟩
    ·obtain rfl := Option.some.inj h
     exact Reach.done ttok mix fk152 (p152_2_1 x0 x3) (obs_cons h0 (obs_cons h1 (obs_cons h2 (obs_cons h1 (obs_cons h4 (obs_cons rfl obs_nil))))))
    ·rcases cond_inv h with ⟨h5, h⟩ | ⟨h5, h⟩
     ·obtain ⟨h6, h⟩ := ite_inv h
      obtain ⟨r1, h8, h⟩ := bind_inv h
      rcases cond_inv h with ⟨h9, h⟩ | ⟨h9, h⟩
      ·obtain rfl := Option.some.inj h
       exact Reach.done ttok mix fk152 (p152_2_2 x0 x3 r1) (obs_cons h0 (obs_cons h1 (obs_cons h2 (obs_cons h1 (obs_cons h4 (obs_cons h5 (obs_cons h6 (obs_cons h1 (obs_cons (yFE h8) (obs_cons h9 obs_nil))))))))))
      ·exact Reach.stop ttok mix fk152 (p152_2_3 x0 x3 r1) (obs_cons h0 (obs_cons h1 (obs_cons h2 (obs_cons h1 (obs_cons h4 (obs_cons h5 (obs_cons h6 (obs_cons h1 (obs_cons (yFE h8) (obs_cons h9 obs_nil)))))))))) (ih _ _ _ h)
     ·exact Reach.stop ttok mix fk152 (p152_2_4 x0 x3) (obs_cons h0 (obs_cons h1 (obs_cons h2 (obs_cons h1 (obs_cons h4 (obs_cons h5 (obs_cons rfl obs_nil))))))) (ih _ _ _ h)
  ·obtain rfl := Option.some.inj h
   exact Reach.done ttok mix fk152 (p152_2_5 x0 x3) (obs_cons h0 obs_nil)
theorem c152_e {N : Nat} : ∀ a0 r, yDw N a0 = some r → Reach Try.prog Try.f152 I152 [.code I152.body] (zBg 0 (yCI a0)) (yAH r) := by
 intro a0 r h
 unfold yDw at h
 exact Reach.stop ttok mix fk152 (p152_e_6 a0) obs_nil (c152_2   _ _ _ _ h)
theorem yE9 {N : Nat} {a0 : List Org} {r : Bool} (h : yDw N  a0 = some r) : AbC 152 (yCI a0) (yAH r) :=
 AbsCalls.of_reach fk152 rfl rfl (Nat.le_of_ble_eq_true rfl) (c152_e a0 r h)
noncomputable def I141 : Info := { body := (Try.f141.body).getD .skip, nt := 55, results := [.tmp 2], keep := [0, 2, 4, 6, 8, 10, 30, 40, 80, 90, 108, 3, 9], live := [(4, [2, 6, 3]), (10, [2, 6, 8, 10, 3, 9])], modes := [(1, [(4, .take, false)]), (7, [(7, .take, false)])], ext := [], lnt := [], casts := [], fcast := [] }
theorem fk141 : FnOk Try.prog 141 Try.f141 I141 := ⟨Try.func141, by kernel_rfl, by kernel_rfl, by kernel_rfl, by kernel_rfl⟩
def S141_4 (x3 : Int) (b1 : Val) : St := [(2, .v false [.ptr 1 0]), (6, .v false [.int .i64 x3]), (3, .v true [.int .i64 (Val.kind b1), .int .i64 (Val.n b1), .int .i64 (Val.step b1), .str (Val.text b1), .sl .ro .val (Val.list b1), .sl .ro .str (Val.columns b1), .sl .ro .row (Val.rows b1)])]
def S141_10 (x3 x5 : Int) (b1 : Val) (b4 : Rowd) : St := [(2, .v false [.ptr 1 0]), (6, .v false [.int .i64 x3]), (8, .v false [.ptr 4 0]), (10, .v false [.int .i64 x5]), (3, .v true [.int .i64 (Val.kind b1), .int .i64 (Val.n b1), .int .i64 (Val.step b1), .str (Val.text b1), .sl .ro .val (Val.list b1), .sl .ro .str (Val.columns b1), .sl .ro .row (Val.rows b1)]), (9, .v true [.sl .ro .int (Rowd.cells b4), .sl .ro .org (Rowd.frm b4)])]
theorem p141_10_0 (x3 x5 : Int) (b1 : Val) (b4 : Rowd) (r1 : Bool) : run tt (AbsCalls Try.prog) I141 3000 true (stkAt 10 I141.body) ⟨(S141_10 x3 x5 b1 b4), [true, true], [yAz r1], []⟩ = some (.done (yAW false) [(decide ((x5 : Int) < (List.length (Rowd.cells b4) : Int))) = true, (0 : Int) ≤ x5 ∧ x5 < (List.length (Rowd.cells b4)), AbC 95 (yBs (List.getD (Rowd.cells b4) (Int.toNat x5) Ty.int.dflt)) (yAz r1), (!r1) = true]) := by kernel_rfl
theorem p141_10_1 (x3 x5 : Int) (b1 : Val) (b4 : Rowd) (r1 : Bool) : run tt (AbsCalls Try.prog) I141 3000 true (stkAt 10 I141.body) ⟨(S141_10 x3 x5 b1 b4), [true, false], [yAz r1], []⟩ = some (.stop (stkAt 10 I141.body) (S141_10 x3 (IntKind.i64.wrap (x5 + 1)) b1 b4) [(decide ((x5 : Int) < (List.length (Rowd.cells b4) : Int))) = true, (0 : Int) ≤ x5 ∧ x5 < (List.length (Rowd.cells b4)), AbC 95 (yBs (List.getD (Rowd.cells b4) (Int.toNat x5) Ty.int.dflt)) (yAz r1), (!r1) = false]) := by kernel_rfl
theorem p141_10_2 (x3 x5 : Int) (b1 : Val) (b4 : Rowd) : run tt (AbsCalls Try.prog) I141 3000 true (stkAt 10 I141.body) ⟨(S141_10 x3 x5 b1 b4), [false], [], []⟩ = some (.stop (stkAt 4 I141.body) (S141_4 (IntKind.i64.wrap (x3 + 1)) b1) [(decide ((x5 : Int) < (List.length (Rowd.cells b4) : Int))) = false]) := by kernel_rfl
theorem p141_4_3 (x3 : Int) (b1 : Val) : run tt (AbsCalls Try.prog) I141 3000 true (stkAt 4 I141.body) ⟨(S141_4 x3 b1), [true, true, true], [], []⟩ = some (.done (yAW false) [(decide ((x3 : Int) < (List.length (Val.rows b1) : Int))) = true, (0 : Int) ≤ x3 ∧ x3 < (List.length (Val.rows b1)), (((List.length (Rowd.cells (List.getD (Val.rows b1) (Int.toNat x3) Ty.row.dflt)) : Int) : Int) != (List.length (Val.columns b1) : Int)) = true, true = true]) := by kernel_rfl
theorem p141_4_4 (x3 : Int) (b1 : Val) (r1 : Bool) : run tt (AbsCalls Try.prog) I141 3000 true (stkAt 4 I141.body) ⟨(S141_4 x3 b1), [true, false, true], [yAH r1], []⟩ = some (.done (yAW false) [(decide ((x3 : Int) < (List.length (Val.rows b1) : Int))) = true, (0 : Int) ≤ x3 ∧ x3 < (List.length (Val.rows b1)), (((List.length (Rowd.cells (List.getD (Val.rows b1) (Int.toNat x3) Ty.row.dflt)) : Int) : Int) != (List.length (Val.columns b1) : Int)) = false, AbC 152 (yCI (Rowd.frm (List.getD (Val.rows b1) (Int.toNat x3) Ty.row.dflt))) (yAH r1), (!r1) = true]) := by kernel_rfl
theorem p141_4_5 (x3 : Int) (b1 : Val) (r1 : Bool) : run tt (AbsCalls Try.prog) I141 3000 true (stkAt 4 I141.body) ⟨(S141_4 x3 b1), [true, false, false], [yAH r1], []⟩ = some (.stop (stkAt 10 I141.body) (S141_10 x3 0 b1 (List.getD (Val.rows b1) (Int.toNat x3) Ty.row.dflt)) [(decide ((x3 : Int) < (List.length (Val.rows b1) : Int))) = true, (0 : Int) ≤ x3 ∧ x3 < (List.length (Val.rows b1)), (((List.length (Rowd.cells (List.getD (Val.rows b1) (Int.toNat x3) Ty.row.dflt)) : Int) : Int) != (List.length (Val.columns b1) : Int)) = false, AbC 152 (yCI (Rowd.frm (List.getD (Val.rows b1) (Int.toNat x3) Ty.row.dflt))) (yAH r1), (!r1) = false]) := by kernel_rfl
theorem p141_4_6 (x3 : Int) (b1 : Val) : run tt (AbsCalls Try.prog) I141 3000 true (stkAt 4 I141.body) ⟨(S141_4 x3 b1), [false], [], []⟩ = some (.done (yAW true) [(decide ((x3 : Int) < (List.length (Val.rows b1) : Int))) = false]) := by kernel_rfl
theorem p141_e_7 (a0 : Val) (r1 : Bool) : run tt (AbsCalls Try.prog) I141 3000 false [.code I141.body] ⟨(zBg 0 (yDb a0)), [true, true], [yAM r1], []⟩ = some (.done (yAW false) [AbC 151 (yCz (Val.columns a0)) (yAM r1), (!r1) = true, true = true]) := by kernel_rfl
theorem p141_e_8 (a0 : Val) (r1 : Bool) : run tt (AbsCalls Try.prog) I141 3000 false [.code I141.body] ⟨(zBg 0 (yDb a0)), [false, true], [yAM r1], []⟩ = some (.done (yAW false) [AbC 151 (yCz (Val.columns a0)) (yAM r1), (!r1) = false, (decide (((List.length (Val.rows a0) : Int) : Int) > 12)) = true]) := by kernel_rfl
theorem p141_e_9 (a0 : Val) (r1 : Bool) : run tt (AbsCalls Try.prog) I141 3000 false [.code I141.body] ⟨(zBg 0 (yDb a0)), [false, false], [yAM r1], []⟩ = some (.stop (stkAt 4 I141.body) (S141_4 0 a0) [AbC 151 (yCz (Val.columns a0)) (yAM r1), (!r1) = false, (decide (((List.length (Val.rows a0) : Int) : Int) > 12)) = false]) := by kernel_rfl
theorem c141_10 {N : Nat} {k4 : Int → Val → Option (Bool)} (hk4 : ∀ z0 z1 r, k4 z0 z1 = some r → Reach Try.prog Try.f141 I141 (stkAt 4 I141.body) (S141_4 z0 z1) (yAW r)) : ∀ n x3 x5 b1 b4 r, yBR N k4 n x3 x5 b1 b4 = some r → Reach Try.prog Try.f141 I141 (stkAt 10 I141.body) (S141_10 x3 x5 b1 b4) (yAW r) := by
 intro n
 induction n with
 | zero => intro x3 x5 b1 b4 r h; have h' : (none : Option (Bool)) = some r := h; cases h'
 | succ n ih =>
  intro x3 x5 b1 b4 r h
  rw [yBR] at h
  rcases cond_inv h with ⟨h0, h⟩ | ⟨h0, h⟩
  ·obtain ⟨h1, h⟩ := ite_inv h
   obtain ⟨r1, h2, h⟩ := bind_inv h
   rcases cond_inv h with ⟨h3, h⟩ | ⟨h3, h⟩
   ·obtain rfl := Option.some.inj h
    exact Reach.done ttok mix fk141 (p141_10_0 x3 x5 b1 b4 r1) (obs_cons h0 (obs_cons h1 (obs_cons (yCQ h2) (obs_cons h3 obs_nil))))
   ·exact Reach.stop ttok mix fk141 (p141_10_1 x3 x5 b1 b4 r1) (obs_cons h0 (obs_cons h1 (obs_cons (yCQ h2) (obs_cons h3 obs_nil)))) (ih _ _ _ _ _ h)
  ·exact Reach.stop ttok mix fk141 (p141_10_2 x3 x5 b1 b4) (obs_cons h0 obs_nil) (hk4 _ _ _ h)
theorem c141_4 {N : Nat} : ∀ n x3 b1 r, yB7 N n x3 b1 = some r → Reach Try.prog Try.f141 I141 (stkAt 4 I141.body) (S141_4 x3 b1) (yAW r) := by
 intro n
 induction n with
 | zero => intro x3 b1 r h; have h' : (none : Option (Bool)) = some r := h; cases h'
 | succ n ih =>
  intro x3 b1 r h
  rw [yB7] at h
  rcases cond_inv h with ⟨h0, h⟩ | ⟨h0, h⟩
  ·obtain ⟨h1, h⟩ := ite_inv h
   rcases cond_inv h with ⟨h2, h⟩ | ⟨h2, h⟩
   ·obtain rfl := Option.some.inj h
    exact Reach.done ttok mix fk141 (p141_4_3 x3 b1) (obs_cons h0 (obs_cons h1 (obs_cons h2 (obs_cons rfl obs_nil))))
   ·obtain ⟨r1, h3, h⟩ := bind_inv h
    rcases cond_inv h with ⟨h4, h⟩ | ⟨h4, h⟩
    ·obtain rfl := Option.some.inj h
     exact Reach.done ttok mix fk141 (p141_4_4 x3 b1 r1) (obs_cons h0 (obs_cons h1 (obs_cons h2 (obs_cons (yE9 h3) (obs_cons h4 obs_nil)))))
    ·exact Reach.stop ttok mix fk141 (p141_4_5 x3 b1 r1) (obs_cons h0 (obs_cons h1 (obs_cons h2 (obs_cons (yE9 h3) (obs_cons h4 obs_nil))))) (c141_10  ih _ _ _ _ _ _ h)
  ·obtain rfl := Option.some.inj h
   exact Reach.done ttok mix fk141 (p141_4_6 x3 b1) (obs_cons h0 obs_nil)
theorem c141_e {N : Nat} : ∀ a0 r, yEk N a0 = some r → Reach Try.prog Try.f141 I141 [.code I141.body] (zBg 0 (yDb a0)) (yAW r) := by
 intro a0 r h
 unfold yEk at h
 obtain ⟨r1, h0, h⟩ := bind_inv h
 rcases cond_inv h with ⟨h1, h⟩ | ⟨h1, h⟩
 ·obtain rfl := Option.some.inj h
  exact Reach.done ttok mix fk141 (p141_e_7 a0 r1) (obs_cons (yEE h0) (obs_cons h1 (obs_cons rfl obs_nil)))
 ·rcases cond_inv h with ⟨h2, h⟩ | ⟨h2, h⟩
  ·obtain rfl := Option.some.inj h
   exact Reach.done ttok mix fk141 (p141_e_8 a0 r1) (obs_cons (yEE h0) (obs_cons h1 (obs_cons h2 obs_nil)))
  ·exact Reach.stop ttok mix fk141 (p141_e_9 a0 r1) (obs_cons (yEE h0) (obs_cons h1 (obs_cons h2 obs_nil))) (c141_4   _ _ _ _ h)
theorem spec_l3Table_ok {N : Nat} {a0 : Val} {r : Bool} (h : yEk N  a0 = some r) : AbC 141 (yDb a0) (yAW r) :=
 AbsCalls.of_reach fk141 rfl rfl (Nat.le_of_ble_eq_true rfl) (c141_e a0 r h)
noncomputable def I108 : Info := { body := (Try.f108.body).getD .skip, nt := 95, results := [.tmp 2], keep := [0, 2, 4, 52, 88, 92, 94, 104, 124, 142, 162, 180, 3], live := [], modes := [(1, [(3, .take, false), (9, .take, false), (13, .take, false)]), (3, [(3, .take, false), (8, .take, false), (12, .take, false)]), (9, [(3, .take, false)]), (11, [(3, .take, false)]), (13, [(3, .take, false)]), (15, [(3, .take, false)])], ext := [], lnt := [], casts := [], fcast := [] }
theorem yFc : FnOk Try.prog 108 Try.f108 I108 := ⟨Try.func108, by kernel_rfl, by kernel_rfl, by kernel_rfl, by kernel_rfl⟩
theorem p108_e_0 (a0 : Val) : run tt (AbsCalls Try.prog) I108 3000 false [.code I108.body] ⟨(zBg 0 (yAd a0)), [true, true, true], [], []⟩ = some (.done (yAc false) [(((Val.kind a0) : Int) != 3) = true, (decide (((List.length (Val.list a0) : Int) : Int) > 0)) = true, true = true]) := by kernel_rfl
theorem p108_e_1 (a0 : Val) : run tt (AbsCalls Try.prog) I108 3000 false [.code I108.body] ⟨(zBg 0 (yAd a0)), [true, false, true, true], [], []⟩ = some (.done (yAc false) [(((Val.kind a0) : Int) != 3) = true, (decide (((List.length (Val.list a0) : Int) : Int) > 0)) = false, (((Val.kind a0) : Int) != 5) = true, (decide (((IntKind.i64.wrap ((List.length (Val.columns a0) : Int) + (List.length (Val.rows a0) : Int))) : Int) > 0)) = true]) := by kernel_rfl
theorem p108_e_2 (a0 : Val) : run tt (AbsCalls Try.prog) I108 3000 false [.code I108.body] ⟨(zBg 0 (yAd a0)), [true, false, true, false, true, true, true], [], []⟩ = some (.done (yAc false) [(((Val.kind a0) : Int) != 3) = true, (decide (((List.length (Val.list a0) : Int) : Int) > 0)) = false, (((Val.kind a0) : Int) != 5) = true, (decide (((IntKind.i64.wrap ((List.length (Val.columns a0) : Int) + (List.length (Val.rows a0) : Int))) : Int) > 0)) = false, (((Val.kind a0) : Int) != 2) = true, (!(((Val.text a0) : Str) == [])) = true, true = true]) := by kernel_rfl
theorem p108_e_3 (a0 : Val) : run tt (AbsCalls Try.prog) I108 3000 false [.code I108.body] ⟨(zBg 0 (yAd a0)), [true, false, true, false, true, false, true, true], [], []⟩ = some (.done (yAc false) [(((Val.kind a0) : Int) != 3) = true, (decide (((List.length (Val.list a0) : Int) : Int) > 0)) = false, (((Val.kind a0) : Int) != 5) = true, (decide (((IntKind.i64.wrap ((List.length (Val.columns a0) : Int) + (List.length (Val.rows a0) : Int))) : Int) > 0)) = false, (((Val.kind a0) : Int) != 2) = true, (!(((Val.text a0) : Str) == [])) = false, (((Val.kind a0) : Int) != 4) = true, (((Val.step a0) : Int) != 0) = true]) := by kernel_rfl
theorem p108_e_4 (a0 : Val) (r1 : Bool) : run tt (AbsCalls Try.prog) I108 3000 false [.code I108.body] ⟨(zBg 0 (yAd a0)), [true, false, true, false, true, false, true, false, true], [yAz r1], []⟩ = some (.done (yAc r1) [(((Val.kind a0) : Int) != 3) = true, (decide (((List.length (Val.list a0) : Int) : Int) > 0)) = false, (((Val.kind a0) : Int) != 5) = true, (decide (((IntKind.i64.wrap ((List.length (Val.columns a0) : Int) + (List.length (Val.rows a0) : Int))) : Int) > 0)) = false, (((Val.kind a0) : Int) != 2) = true, (!(((Val.text a0) : Str) == [])) = false, (((Val.kind a0) : Int) != 4) = true, (((Val.step a0) : Int) != 0) = false, (((Val.kind a0) : Int) == 1) = true, AbC 95 (yBs (Val.n a0)) (yAz r1)]) := by kernel_rfl
theorem p108_e_5 (a0 : Val) (r1 : Bool) : run tt (AbsCalls Try.prog) I108 3000 false [.code I108.body] ⟨(zBg 0 (yAd a0)), [true, false, true, false, true, false, true, false, false, false, false, false, false, true], [yBQ r1], []⟩ = some (.done (yAc r1) [(((Val.kind a0) : Int) != 3) = true, (decide (((List.length (Val.list a0) : Int) : Int) > 0)) = false, (((Val.kind a0) : Int) != 5) = true, (decide (((IntKind.i64.wrap ((List.length (Val.columns a0) : Int) + (List.length (Val.rows a0) : Int))) : Int) > 0)) = false, (((Val.kind a0) : Int) != 2) = true, (!(((Val.text a0) : Str) == [])) = false, (((Val.kind a0) : Int) != 4) = true, (((Val.step a0) : Int) != 0) = false, (((Val.kind a0) : Int) == 1) = false, (((Val.kind a0) : Int) == 2) = false, (((Val.kind a0) : Int) == 3) = false, (((Val.kind a0) : Int) == 4) = false, (((Val.kind a0) : Int) == 5) = false, (((Val.kind a0) : Int) == 6) = true, AbC 97 (yDd (Val.n a0) 1 8) (yBQ r1)]) := by kernel_rfl
theorem p108_e_6 (a0 : Val) : run tt (AbsCalls Try.prog) I108 3000 false [.code I108.body] ⟨(zBg 0 (yAd a0)), [true, false, true, false, true, false, true, false, false, false, false, false, false, false], [], []⟩ = some (.done (yAc false) [(((Val.kind a0) : Int) != 3) = true, (decide (((List.length (Val.list a0) : Int) : Int) > 0)) = false, (((Val.kind a0) : Int) != 5) = true, (decide (((IntKind.i64.wrap ((List.length (Val.columns a0) : Int) + (List.length (Val.rows a0) : Int))) : Int) > 0)) = false, (((Val.kind a0) : Int) != 2) = true, (!(((Val.text a0) : Str) == [])) = false, (((Val.kind a0) : Int) != 4) = true, (((Val.step a0) : Int) != 0) = false, (((Val.kind a0) : Int) == 1) = false, (((Val.kind a0) : Int) == 2) = false, (((Val.kind a0) : Int) == 3) = false, (((Val.kind a0) : Int) == 4) = false, (((Val.kind a0) : Int) == 5) = false, (((Val.kind a0) : Int) == 6) = false]) := by kernel_rfl
theorem p108_e_7 (a0 : Val) (r1 r2 : Bool) : run tt (AbsCalls Try.prog) I108 3000 false [.code I108.body] ⟨(zBg 0 (yAd a0)), [true, false, true, false, true, false, false, false, false, false, false, true, true], [yAz r1, yAz r2], []⟩ = some (.done (yAc r2) [(((Val.kind a0) : Int) != 3) = true, (decide (((List.length (Val.list a0) : Int) : Int) > 0)) = false, (((Val.kind a0) : Int) != 5) = true, (decide (((IntKind.i64.wrap ((List.length (Val.columns a0) : Int) + (List.length (Val.rows a0) : Int))) : Int) > 0)) = false, (((Val.kind a0) : Int) != 2) = true, (!(((Val.text a0) : Str) == [])) = false, (((Val.kind a0) : Int) != 4) = false, false = false, (((Val.kind a0) : Int) == 1) = false, (((Val.kind a0) : Int) == 2) = false, (((Val.kind a0) : Int) == 3) = false, (((Val.kind a0) : Int) == 4) = true, AbC 95 (yBs (Val.n a0)) (yAz r1), r1 = true, AbC 95 (yBs (Val.step a0)) (yAz r2)]) := by kernel_rfl
theorem p108_e_8 (a0 : Val) (r1 : Bool) : run tt (AbsCalls Try.prog) I108 3000 false [.code I108.body] ⟨(zBg 0 (yAd a0)), [true, false, true, false, true, false, false, false, false, false, false, true, false], [yAz r1], []⟩ = some (.done (yAc false) [(((Val.kind a0) : Int) != 3) = true, (decide (((List.length (Val.list a0) : Int) : Int) > 0)) = false, (((Val.kind a0) : Int) != 5) = true, (decide (((IntKind.i64.wrap ((List.length (Val.columns a0) : Int) + (List.length (Val.rows a0) : Int))) : Int) > 0)) = false, (((Val.kind a0) : Int) != 2) = true, (!(((Val.text a0) : Str) == [])) = false, (((Val.kind a0) : Int) != 4) = false, false = false, (((Val.kind a0) : Int) == 1) = false, (((Val.kind a0) : Int) == 2) = false, (((Val.kind a0) : Int) == 3) = false, (((Val.kind a0) : Int) == 4) = true, AbC 95 (yBs (Val.n a0)) (yAz r1), r1 = false]) := by kernel_rfl
theorem p108_e_9 (a0 : Val) : run tt (AbsCalls Try.prog) I108 3000 false [.code I108.body] ⟨(zBg 0 (yAd a0)), [true, false, true, false, false, false, true, true], [], []⟩ = some (.done (yAc false) [(((Val.kind a0) : Int) != 3) = true, (decide (((List.length (Val.list a0) : Int) : Int) > 0)) = false, (((Val.kind a0) : Int) != 5) = true, (decide (((IntKind.i64.wrap ((List.length (Val.columns a0) : Int) + (List.length (Val.rows a0) : Int))) : Int) > 0)) = false, (((Val.kind a0) : Int) != 2) = false, false = false, (((Val.kind a0) : Int) != 4) = true, (((Val.step a0) : Int) != 0) = true]) := by kernel_rfl
theorem p108_e_10 (a0 : Val) (r1 : Bool) : run tt (AbsCalls Try.prog) I108 3000 false [.code I108.body] ⟨(zBg 0 (yAd a0)), [true, false, true, false, false, false, true, false, false, true, true], [yA4 r1], []⟩ = some (.done (yAc r1) [(((Val.kind a0) : Int) != 3) = true, (decide (((List.length (Val.list a0) : Int) : Int) > 0)) = false, (((Val.kind a0) : Int) != 5) = true, (decide (((IntKind.i64.wrap ((List.length (Val.columns a0) : Int) + (List.length (Val.rows a0) : Int))) : Int) > 0)) = false, (((Val.kind a0) : Int) != 2) = false, false = false, (((Val.kind a0) : Int) != 4) = true, (((Val.step a0) : Int) != 0) = false, (((Val.kind a0) : Int) == 1) = false, (((Val.kind a0) : Int) == 2) = true, (((Val.n a0) : Int) == 0) = true, AbC 139 (yDl (Val.text a0)) (yA4 r1)]) := by kernel_rfl
theorem p108_e_11 (a0 : Val) : run tt (AbsCalls Try.prog) I108 3000 false [.code I108.body] ⟨(zBg 0 (yAd a0)), [true, false, true, false, false, false, true, false, false, true, false], [], []⟩ = some (.done (yAc false) [(((Val.kind a0) : Int) != 3) = true, (decide (((List.length (Val.list a0) : Int) : Int) > 0)) = false, (((Val.kind a0) : Int) != 5) = true, (decide (((IntKind.i64.wrap ((List.length (Val.columns a0) : Int) + (List.length (Val.rows a0) : Int))) : Int) > 0)) = false, (((Val.kind a0) : Int) != 2) = false, false = false, (((Val.kind a0) : Int) != 4) = true, (((Val.step a0) : Int) != 0) = false, (((Val.kind a0) : Int) == 1) = false, (((Val.kind a0) : Int) == 2) = true, (((Val.n a0) : Int) == 0) = false]) := by kernel_rfl
theorem p108_e_12 (a0 : Val) : run tt (AbsCalls Try.prog) I108 3000 false [.code I108.body] ⟨(zBg 0 (yAd a0)), [true, false, false, false, true, true, true], [], []⟩ = some (.done (yAc false) [(((Val.kind a0) : Int) != 3) = true, (decide (((List.length (Val.list a0) : Int) : Int) > 0)) = false, (((Val.kind a0) : Int) != 5) = false, false = false, (((Val.kind a0) : Int) != 2) = true, (!(((Val.text a0) : Str) == [])) = true, true = true]) := by kernel_rfl
theorem p108_e_13 (a0 : Val) : run tt (AbsCalls Try.prog) I108 3000 false [.code I108.body] ⟨(zBg 0 (yAd a0)), [true, false, false, false, true, false, true, true], [], []⟩ = some (.done (yAc false) [(((Val.kind a0) : Int) != 3) = true, (decide (((List.length (Val.list a0) : Int) : Int) > 0)) = false, (((Val.kind a0) : Int) != 5) = false, false = false, (((Val.kind a0) : Int) != 2) = true, (!(((Val.text a0) : Str) == [])) = false, (((Val.kind a0) : Int) != 4) = true, (((Val.step a0) : Int) != 0) = true]) := by kernel_rfl
theorem p108_e_14 (a0 : Val) (r1 : Bool) : run tt (AbsCalls Try.prog) I108 3000 false [.code I108.body] ⟨(zBg 0 (yAd a0)), [true, false, false, false, true, false, true, false, false, false, false, false, true, true], [yAW r1], []⟩ = some (.done (yAc r1) [(((Val.kind a0) : Int) != 3) = true, (decide (((List.length (Val.list a0) : Int) : Int) > 0)) = false, (((Val.kind a0) : Int) != 5) = false, false = false, (((Val.kind a0) : Int) != 2) = true, (!(((Val.text a0) : Str) == [])) = false, (((Val.kind a0) : Int) != 4) = true, (((Val.step a0) : Int) != 0) = false, (((Val.kind a0) : Int) == 1) = false, (((Val.kind a0) : Int) == 2) = false, (((Val.kind a0) : Int) == 3) = false, (((Val.kind a0) : Int) == 4) = false, (((Val.kind a0) : Int) == 5) = true, (((Val.n a0) : Int) == 0) = true, AbC 141 (yDb a0) (yAW r1)]) := by kernel_rfl
theorem p108_e_15 (a0 : Val) : run tt (AbsCalls Try.prog) I108 3000 false [.code I108.body] ⟨(zBg 0 (yAd a0)), [true, false, false, false, true, false, true, false, false, false, false, false, true, false], [], []⟩ = some (.done (yAc false) [(((Val.kind a0) : Int) != 3) = true, (decide (((List.length (Val.list a0) : Int) : Int) > 0)) = false, (((Val.kind a0) : Int) != 5) = false, false = false, (((Val.kind a0) : Int) != 2) = true, (!(((Val.text a0) : Str) == [])) = false, (((Val.kind a0) : Int) != 4) = true, (((Val.step a0) : Int) != 0) = false, (((Val.kind a0) : Int) == 1) = false, (((Val.kind a0) : Int) == 2) = false, (((Val.kind a0) : Int) == 3) = false, (((Val.kind a0) : Int) == 4) = false, (((Val.kind a0) : Int) == 5) = true, (((Val.n a0) : Int) == 0) = false]) := by kernel_rfl
theorem p108_e_16 (a0 : Val) : run tt (AbsCalls Try.prog) I108 3000 false [.code I108.body] ⟨(zBg 0 (yAd a0)), [false, false, true, true], [], []⟩ = some (.done (yAc false) [(((Val.kind a0) : Int) != 3) = false, false = false, (((Val.kind a0) : Int) != 5) = true, (decide (((IntKind.i64.wrap ((List.length (Val.columns a0) : Int) + (List.length (Val.rows a0) : Int))) : Int) > 0)) = true]) := by kernel_rfl
theorem p108_e_17 (a0 : Val) : run tt (AbsCalls Try.prog) I108 3000 false [.code I108.body] ⟨(zBg 0 (yAd a0)), [false, false, true, false, true, true, true], [], []⟩ = some (.done (yAc false) [(((Val.kind a0) : Int) != 3) = false, false = false, (((Val.kind a0) : Int) != 5) = true, (decide (((IntKind.i64.wrap ((List.length (Val.columns a0) : Int) + (List.length (Val.rows a0) : Int))) : Int) > 0)) = false, (((Val.kind a0) : Int) != 2) = true, (!(((Val.text a0) : Str) == [])) = true, true = true]) := by kernel_rfl
theorem p108_e_18 (a0 : Val) : run tt (AbsCalls Try.prog) I108 3000 false [.code I108.body] ⟨(zBg 0 (yAd a0)), [false, false, true, false, true, false, true, true], [], []⟩ = some (.done (yAc false) [(((Val.kind a0) : Int) != 3) = false, false = false, (((Val.kind a0) : Int) != 5) = true, (decide (((IntKind.i64.wrap ((List.length (Val.columns a0) : Int) + (List.length (Val.rows a0) : Int))) : Int) > 0)) = false, (((Val.kind a0) : Int) != 2) = true, (!(((Val.text a0) : Str) == [])) = false, (((Val.kind a0) : Int) != 4) = true, (((Val.step a0) : Int) != 0) = true]) := by kernel_rfl
theorem p108_e_19 (a0 : Val) (r1 : Bool) : run tt (AbsCalls Try.prog) I108 3000 false [.code I108.body] ⟨(zBg 0 (yAd a0)), [false, false, true, false, true, false, true, false, false, false, true, true], [yAP r1], []⟩ = some (.done (yAc r1) [(((Val.kind a0) : Int) != 3) = false, false = false, (((Val.kind a0) : Int) != 5) = true, (decide (((IntKind.i64.wrap ((List.length (Val.columns a0) : Int) + (List.length (Val.rows a0) : Int))) : Int) > 0)) = false, (((Val.kind a0) : Int) != 2) = true, (!(((Val.text a0) : Str) == [])) = false, (((Val.kind a0) : Int) != 4) = true, (((Val.step a0) : Int) != 0) = false, (((Val.kind a0) : Int) == 1) = false, (((Val.kind a0) : Int) == 2) = false, (((Val.kind a0) : Int) == 3) = true, (((Val.n a0) : Int) == 0) = true, AbC 140 (yBG a0) (yAP r1)]) := by kernel_rfl
theorem p108_e_20 (a0 : Val) : run tt (AbsCalls Try.prog) I108 3000 false [.code I108.body] ⟨(zBg 0 (yAd a0)), [false, false, true, false, true, false, true, false, false, false, true, false], [], []⟩ = some (.done (yAc false) [(((Val.kind a0) : Int) != 3) = false, false = false, (((Val.kind a0) : Int) != 5) = true, (decide (((IntKind.i64.wrap ((List.length (Val.columns a0) : Int) + (List.length (Val.rows a0) : Int))) : Int) > 0)) = false, (((Val.kind a0) : Int) != 2) = true, (!(((Val.text a0) : Str) == [])) = false, (((Val.kind a0) : Int) != 4) = true, (((Val.step a0) : Int) != 0) = false, (((Val.kind a0) : Int) == 1) = false, (((Val.kind a0) : Int) == 2) = false, (((Val.kind a0) : Int) == 3) = true, (((Val.n a0) : Int) == 0) = false]) := by kernel_rfl
theorem c108_e {N : Nat} {rc_spec_IsValidValue : Val → Option (Bool)} (hrc_spec_IsValidValue : ∀ a0 r, rc_spec_IsValidValue a0 = some r → AbC 108 (yAd a0) (yAc r)) {rc_spec_l3List : Val → Option (Bool)} (hrc_spec_l3List : ∀ a0 r, rc_spec_l3List a0 = some r → AbC 140 (yBG a0) (yAP r)) : ∀ a0 r, yBj N rc_spec_IsValidValue rc_spec_l3List a0 = some r → Reach Try.prog Try.f108 I108 [.code I108.body] (zBg 0 (yAd a0)) (yAc r) := by
 intro a0 r h
 unfold yBj at h
 rcases cond_inv h with ⟨h0, h⟩ | ⟨h0, h⟩
 ·rcases cond_inv h with ⟨h1, h⟩ | ⟨h1, h⟩
  ·obtain rfl := Option.some.inj h
   exact Reach.done ttok mix yFc (p108_e_0 a0) (obs_cons h0 (obs_cons h1 (obs_cons rfl obs_nil)))
  ·rcases cond_inv h with ⟨h2, h⟩ | ⟨h2, h⟩
   ·rcases cond_inv h with ⟨h3, h⟩ | ⟨h3, h⟩
    ·obtain rfl := Option.some.inj h
     exact Reach.done ttok mix yFc (p108_e_1 a0) (obs_cons h0 (obs_cons h1 (obs_cons h2 (obs_cons h3 obs_nil))))
    ·rcases cond_inv h with ⟨h4, h⟩ | ⟨h4, h⟩
     ·rcases cond_inv h with ⟨h5, h⟩ | ⟨h5, h⟩
      ·obtain rfl := Option.some.inj h
       exact Reach.done ttok mix yFc (p108_e_2 a0) (obs_cons h0 (obs_cons h1 (obs_cons h2 (obs_cons h3 (obs_cons h4 (obs_cons h5 (obs_cons rfl obs_nil)))))))
      ·rcases cond_inv h with ⟨h6, h⟩ | ⟨h6, h⟩
       ·rcases cond_inv h with ⟨h7, h⟩ | ⟨h7, h⟩
        ·obtain rfl := Option.some.inj h
         exact Reach.done ttok mix yFc (p108_e_3 a0) (obs_cons h0 (obs_cons h1 (obs_cons h2 (obs_cons h3 (obs_cons h4 (obs_cons h5 (obs_cons h6 (obs_cons h7 obs_nil))))))))
        ·rcases cond_inv h with ⟨h8, h⟩ | ⟨h8, h⟩
         ·obtain ⟨r1, h9, h⟩ := bind_inv h
          obtain rfl := Option.some.inj h
          exact Reach.done ttok mix yFc (p108_e_4 a0 r1) (obs_cons h0 (obs_cons h1 (obs_cons h2 (obs_cons h3 (obs_cons h4 (obs_cons h5 (obs_cons h6 (obs_cons h7 (obs_cons h8 (obs_cons (yCQ h9) obs_nil))))))))))
         ·rcases cond_inv h with ⟨h13, h⟩ | ⟨h13, h⟩
          ·obtain ⟨r1, h14, h⟩ := bind_inv h
           obtain rfl := Option.some.inj h
           exact Reach.done ttok mix yFc (p108_e_5 a0 r1) (obs_cons h0 (obs_cons h1 (obs_cons h2 (obs_cons h3 (obs_cons h4 (obs_cons h5 (obs_cons h6 (obs_cons h7 (obs_cons h8 (obs_cons (of_not h4) (obs_cons (of_not h0) (obs_cons (of_not h6) (obs_cons (of_not h2) (obs_cons h13 (obs_cons (yFg h14) obs_nil)))))))))))))))
          ·obtain rfl := Option.some.inj h
           exact Reach.done ttok mix yFc (p108_e_6 a0) (obs_cons h0 (obs_cons h1 (obs_cons h2 (obs_cons h3 (obs_cons h4 (obs_cons h5 (obs_cons h6 (obs_cons h7 (obs_cons h8 (obs_cons (of_not h4) (obs_cons (of_not h0) (obs_cons (of_not h6) (obs_cons (of_not h2) (obs_cons h13 obs_nil))))))))))))))
       ·obtain ⟨r1, h12, h⟩ := bind_inv h
        rcases cond_inv h with ⟨h13, h⟩ | ⟨h13, h⟩
        ·obtain ⟨r2, h14, h⟩ := bind_inv h
         obtain rfl := Option.some.inj h
         exact Reach.done ttok mix yFc (p108_e_7 a0 r1 r2) (obs_cons h0 (obs_cons h1 (obs_cons h2 (obs_cons h3 (obs_cons h4 (obs_cons h5 (obs_cons h6 (obs_cons rfl (obs_cons (eq_ne (of_not h6) rfl) (obs_cons (of_not h4) (obs_cons (of_not h0) (obs_cons (of_not h6) (obs_cons (yCQ h12) (obs_cons h13 (obs_cons (yCQ h14) obs_nil)))))))))))))))
        ·obtain rfl := Option.some.inj h
         exact Reach.done ttok mix yFc (p108_e_8 a0 r1) (obs_cons h0 (obs_cons h1 (obs_cons h2 (obs_cons h3 (obs_cons h4 (obs_cons h5 (obs_cons h6 (obs_cons rfl (obs_cons (eq_ne (of_not h6) rfl) (obs_cons (of_not h4) (obs_cons (of_not h0) (obs_cons (of_not h6) (obs_cons (yCQ h12) (obs_cons h13 obs_nil))))))))))))))
     ·rcases cond_inv h with ⟨h7, h⟩ | ⟨h7, h⟩
      ·obtain rfl := Option.some.inj h
       exact Reach.done ttok mix yFc (p108_e_9 a0) (obs_cons h0 (obs_cons h1 (obs_cons h2 (obs_cons h3 (obs_cons h4 (obs_cons rfl (obs_cons (not_of (eq_ne (of_not h4) rfl)) (obs_cons h7 obs_nil))))))))
      ·rcases cond_inv h with ⟨h10, h⟩ | ⟨h10, h⟩
       ·obtain ⟨r1, h11, h⟩ := bind_inv h
        obtain rfl := Option.some.inj h
        exact Reach.done ttok mix yFc (p108_e_10 a0 r1) (obs_cons h0 (obs_cons h1 (obs_cons h2 (obs_cons h3 (obs_cons h4 (obs_cons rfl (obs_cons (not_of (eq_ne (of_not h4) rfl)) (obs_cons h7 (obs_cons (eq_ne (of_not h4) rfl) (obs_cons (of_not h4) (obs_cons h10 (obs_cons (yGl h11) obs_nil))))))))))))
       ·obtain rfl := Option.some.inj h
        exact Reach.done ttok mix yFc (p108_e_11 a0) (obs_cons h0 (obs_cons h1 (obs_cons h2 (obs_cons h3 (obs_cons h4 (obs_cons rfl (obs_cons (not_of (eq_ne (of_not h4) rfl)) (obs_cons h7 (obs_cons (eq_ne (of_not h4) rfl) (obs_cons (of_not h4) (obs_cons h10 obs_nil)))))))))))
   ·rcases cond_inv h with ⟨h5, h⟩ | ⟨h5, h⟩
    ·obtain rfl := Option.some.inj h
     exact Reach.done ttok mix yFc (p108_e_12 a0) (obs_cons h0 (obs_cons h1 (obs_cons h2 (obs_cons rfl (obs_cons (not_of (eq_ne (of_not h2) rfl)) (obs_cons h5 (obs_cons rfl obs_nil)))))))
    ·rcases cond_inv h with ⟨h7, h⟩ | ⟨h7, h⟩
     ·obtain rfl := Option.some.inj h
      exact Reach.done ttok mix yFc (p108_e_13 a0) (obs_cons h0 (obs_cons h1 (obs_cons h2 (obs_cons rfl (obs_cons (not_of (eq_ne (of_not h2) rfl)) (obs_cons h5 (obs_cons (not_of (eq_ne (of_not h2) rfl)) (obs_cons h7 obs_nil))))))))
     ·rcases cond_inv h with ⟨h13, h⟩ | ⟨h13, h⟩
      ·obtain ⟨r1, h14, h⟩ := bind_inv h
       obtain rfl := Option.some.inj h
       exact Reach.done ttok mix yFc (p108_e_14 a0 r1) (obs_cons h0 (obs_cons h1 (obs_cons h2 (obs_cons rfl (obs_cons (not_of (eq_ne (of_not h2) rfl)) (obs_cons h5 (obs_cons (not_of (eq_ne (of_not h2) rfl)) (obs_cons h7 (obs_cons (eq_ne (of_not h2) rfl) (obs_cons (eq_ne (of_not h2) rfl) (obs_cons (of_not h0) (obs_cons (eq_ne (of_not h2) rfl) (obs_cons (of_not h2) (obs_cons h13 (obs_cons (spec_l3Table_ok h14) obs_nil)))))))))))))))
      ·obtain rfl := Option.some.inj h
       exact Reach.done ttok mix yFc (p108_e_15 a0) (obs_cons h0 (obs_cons h1 (obs_cons h2 (obs_cons rfl (obs_cons (not_of (eq_ne (of_not h2) rfl)) (obs_cons h5 (obs_cons (not_of (eq_ne (of_not h2) rfl)) (obs_cons h7 (obs_cons (eq_ne (of_not h2) rfl) (obs_cons (eq_ne (of_not h2) rfl) (obs_cons (of_not h0) (obs_cons (eq_ne (of_not h2) rfl) (obs_cons (of_not h2) (obs_cons h13 obs_nil))))))))))))))
 ·rcases cond_inv h with ⟨h3, h⟩ | ⟨h3, h⟩
  ·obtain rfl := Option.some.inj h
   exact Reach.done ttok mix yFc (p108_e_16 a0) (obs_cons h0 (obs_cons rfl (obs_cons (not_of (eq_ne (of_not h0) rfl)) (obs_cons h3 obs_nil))))
  ·rcases cond_inv h with ⟨h5, h⟩ | ⟨h5, h⟩
   ·obtain rfl := Option.some.inj h
    exact Reach.done ttok mix yFc (p108_e_17 a0) (obs_cons h0 (obs_cons rfl (obs_cons (not_of (eq_ne (of_not h0) rfl)) (obs_cons h3 (obs_cons (not_of (eq_ne (of_not h0) rfl)) (obs_cons h5 (obs_cons rfl obs_nil)))))))
   ·rcases cond_inv h with ⟨h7, h⟩ | ⟨h7, h⟩
    ·obtain rfl := Option.some.inj h
     exact Reach.done ttok mix yFc (p108_e_18 a0) (obs_cons h0 (obs_cons rfl (obs_cons (not_of (eq_ne (of_not h0) rfl)) (obs_cons h3 (obs_cons (not_of (eq_ne (of_not h0) rfl)) (obs_cons h5 (obs_cons (not_of (eq_ne (of_not h0) rfl)) (obs_cons h7 obs_nil))))))))
    ·rcases cond_inv h with ⟨h11, h⟩ | ⟨h11, h⟩
     ·obtain ⟨r1, h12, h⟩ := bind_inv h
      obtain rfl := Option.some.inj h
      exact Reach.done ttok mix yFc (p108_e_19 a0 r1) (obs_cons h0 (obs_cons rfl (obs_cons (not_of (eq_ne (of_not h0) rfl)) (obs_cons h3 (obs_cons (not_of (eq_ne (of_not h0) rfl)) (obs_cons h5 (obs_cons (not_of (eq_ne (of_not h0) rfl)) (obs_cons h7 (obs_cons (eq_ne (of_not h0) rfl) (obs_cons (eq_ne (of_not h0) rfl) (obs_cons (of_not h0) (obs_cons h11 (obs_cons (hrc_spec_l3List _ _ h12) obs_nil)))))))))))))
     ·obtain rfl := Option.some.inj h
      exact Reach.done ttok mix yFc (p108_e_20 a0) (obs_cons h0 (obs_cons rfl (obs_cons (not_of (eq_ne (of_not h0) rfl)) (obs_cons h3 (obs_cons (not_of (eq_ne (of_not h0) rfl)) (obs_cons h5 (obs_cons (not_of (eq_ne (of_not h0) rfl)) (obs_cons h7 (obs_cons (eq_ne (of_not h0) rfl) (obs_cons (eq_ne (of_not h0) rfl) (obs_cons (of_not h0) (obs_cons h11 obs_nil))))))))))))
theorem yFn {N : Nat} {rc_spec_IsValidValue : Val → Option (Bool)} (hrc_spec_IsValidValue : ∀ a0 r, rc_spec_IsValidValue a0 = some r → AbC 108 (yAd a0) (yAc r)) {rc_spec_l3List : Val → Option (Bool)} (hrc_spec_l3List : ∀ a0 r, rc_spec_l3List a0 = some r → AbC 140 (yBG a0) (yAP r)) {a0 : Val} {r : Bool} (h : yBj N rc_spec_IsValidValue rc_spec_l3List a0 = some r) : AbC 108 (yAd a0) (yAc r) :=
 AbsCalls.of_reach yFc rfl rfl (Nat.le_of_ble_eq_true rfl) (c108_e hrc_spec_IsValidValue hrc_spec_l3List a0 r h)
noncomputable def I140 : Info := { body := (Try.f140.body).getD .skip, nt := 36, results := [.tmp 2], keep := [0, 2, 4, 6, 16, 52, 3], live := [(2, [2, 6, 3])], modes := [(4, [(7, .take, false)]), (6, [(4, .take, false)])], ext := [], lnt := [], casts := [], fcast := [] }
theorem fk140 : FnOk Try.prog 140 Try.f140 I140 := ⟨Try.func140, by kernel_rfl, by kernel_rfl, by kernel_rfl, by kernel_rfl⟩
def S140_2 (x3 : Int) (b1 : Val) : St := [(2, .v false [.ptr 1 0]), (6, .v false [.int .i64 x3]), (3, .v true [.int .i64 (Val.kind b1), .int .i64 (Val.n b1), .int .i64 (Val.step b1), .str (Val.text b1), .sl .ro .val (Val.list b1), .sl .ro .str (Val.columns b1), .sl .ro .row (Val.rows b1)])]
theorem p140_2_0 (x3 : Int) (b1 : Val) (r1 : Bool) : run tt (AbsCalls Try.prog) I140 3000 true (stkAt 2 I140.body) ⟨(S140_2 x3 b1), [true, true, true], [yAV r1], []⟩ = some (.done (yAP false) [(decide ((x3 : Int) < (List.length (Val.list b1) : Int))) = true, (0 : Int) ≤ x3 ∧ x3 < (List.length (Val.list b1)), AbC 123 (yBB (List.getD (Val.list b1) (Int.toNat x3) Ty.val.dflt)) (yAV r1), (!r1) = true, true = true]) := by kernel_rfl
theorem p140_2_1 (x3 : Int) (b1 : Val) (r1 r2 : Bool) : run tt (AbsCalls Try.prog) I140 3000 true (stkAt 2 I140.body) ⟨(S140_2 x3 b1), [true, false, true], [yAV r1, yAc r2], []⟩ = some (.done (yAP false) [(decide ((x3 : Int) < (List.length (Val.list b1) : Int))) = true, (0 : Int) ≤ x3 ∧ x3 < (List.length (Val.list b1)), AbC 123 (yBB (List.getD (Val.list b1) (Int.toNat x3) Ty.val.dflt)) (yAV r1), (!r1) = false, (0 : Int) ≤ x3 ∧ x3 < (List.length (Val.list b1)), AbC 108 (yAd (List.getD (Val.list b1) (Int.toNat x3) Ty.val.dflt)) (yAc r2), (!r2) = true]) := by kernel_rfl
theorem p140_2_2 (x3 : Int) (b1 : Val) (r1 r2 : Bool) : run tt (AbsCalls Try.prog) I140 3000 true (stkAt 2 I140.body) ⟨(S140_2 x3 b1), [true, false, false], [yAV r1, yAc r2], []⟩ = some (.stop (stkAt 2 I140.body) (S140_2 (IntKind.i64.wrap (x3 + 1)) b1) [(decide ((x3 : Int) < (List.length (Val.list b1) : Int))) = true, (0 : Int) ≤ x3 ∧ x3 < (List.length (Val.list b1)), AbC 123 (yBB (List.getD (Val.list b1) (Int.toNat x3) Ty.val.dflt)) (yAV r1), (!r1) = false, (0 : Int) ≤ x3 ∧ x3 < (List.length (Val.list b1)), AbC 108 (yAd (List.getD (Val.list b1) (Int.toNat x3) Ty.val.dflt)) (yAc r2), (!r2) = false]) := by kernel_rfl
theorem p140_2_3 (x3 : Int) (b1 : Val) (r1 : Int) : run tt (AbsCalls Try.prog) I140 3000 true (stkAt 2 I140.body) ⟨(S140_2 x3 b1), [false, true], [yAU r1], []⟩ = some (.done (yAP (decide ((r1 : Int) ≤ 3))) [(decide ((x3 : Int) < (List.length (Val.list b1) : Int))) = false, (decide (((List.length (Val.list b1) : Int) : Int) ≤ 8)) = true, AbC 125 (yBm b1) (yAU r1)]) := by kernel_rfl
theorem p140_2_4 (x3 : Int) (b1 : Val) : run tt (AbsCalls Try.prog) I140 3000 true (stkAt 2 I140.body) ⟨(S140_2 x3 b1), [false, false], [], []⟩ = some (.done (yAP false) [(decide ((x3 : Int) < (List.length (Val.list b1) : Int))) = false, (decide (((List.length (Val.list b1) : Int) : Int) ≤ 8)) = false]) := by kernel_rfl
theorem p140_e_5 (a0 : Val) : run tt (AbsCalls Try.prog) I140 3000 false [.code I140.body] ⟨(zBg 0 (yBG a0)), [], [], []⟩ = some (.stop (stkAt 2 I140.body) (S140_2 0 a0) []) := by kernel_rfl
theorem c140_2 {N : Nat} {rc_spec_IsValidValue : Val → Option (Bool)} (hrc_spec_IsValidValue : ∀ a0 r, rc_spec_IsValidValue a0 = some r → AbC 108 (yAd a0) (yAc r)) {rc_spec_l3List : Val → Option (Bool)} (hrc_spec_l3List : ∀ a0 r, rc_spec_l3List a0 = some r → AbC 140 (yBG a0) (yAP r)) : ∀ n x3 b1 r, yB3 N rc_spec_IsValidValue rc_spec_l3List n x3 b1 = some r → Reach Try.prog Try.f140 I140 (stkAt 2 I140.body) (S140_2 x3 b1) (yAP r) := by
 intro n
 induction n with
 | zero => intro x3 b1 r h; have h' : (none : Option (Bool)) = some r := h; cases h'
 | succ n ih =>
  intro x3 b1 r h
  rw [yB3] at h
  rcases cond_inv h with ⟨h0, h⟩ | ⟨h0, h⟩
  ·obtain ⟨h1, h⟩ := ite_inv h
   obtain ⟨r1, h2, h⟩ := bind_inv h
   rcases cond_inv h with ⟨h3, h⟩ | ⟨h3, h⟩
   ·obtain rfl := Option.some.inj h
    exact Reach.done ttok mix fk140 (p140_2_0 x3 b1 r1) (obs_cons h0 (obs_cons h1 (obs_cons (yEF h2) (obs_cons h3 (obs_cons rfl obs_nil)))))
   ·obtain ⟨r2, h5, h⟩ := bind_inv h
    rcases cond_inv h with ⟨h6, h⟩ | ⟨h6, h⟩
    ·obtain rfl := Option.some.inj h
     exact Reach.done ttok mix fk140 (p140_2_1 x3 b1 r1 r2) (obs_cons h0 (obs_cons h1 (obs_cons (yEF h2) (obs_cons h3 (obs_cons h1 (obs_cons (hrc_spec_IsValidValue _ _ h5) (obs_cons h6 obs_nil)))))))
    ·exact Reach.stop ttok mix fk140 (p140_2_2 x3 b1 r1 r2) (obs_cons h0 (obs_cons h1 (obs_cons (yEF h2) (obs_cons h3 (obs_cons h1 (obs_cons (hrc_spec_IsValidValue _ _ h5) (obs_cons h6 obs_nil))))))) (ih _ _ _ h)
  ·rcases cond_inv h with ⟨h1, h⟩ | ⟨h1, h⟩
   ·obtain ⟨r1, h2, h⟩ := bind_inv h
    obtain rfl := Option.some.inj h
    exact Reach.done ttok mix fk140 (p140_2_3 x3 b1 r1) (obs_cons h0 (obs_cons h1 (obs_cons (spec_DepthOf_ok h2) obs_nil)))
   ·obtain rfl := Option.some.inj h
    exact Reach.done ttok mix fk140 (p140_2_4 x3 b1) (obs_cons h0 (obs_cons h1 obs_nil))
theorem c140_e {N : Nat} {rc_spec_IsValidValue : Val → Option (Bool)} (hrc_spec_IsValidValue : ∀ a0 r, rc_spec_IsValidValue a0 = some r → AbC 108 (yAd a0) (yAc r)) {rc_spec_l3List : Val → Option (Bool)} (hrc_spec_l3List : ∀ a0 r, rc_spec_l3List a0 = some r → AbC 140 (yBG a0) (yAP r)) : ∀ a0 r, yEj N rc_spec_IsValidValue rc_spec_l3List a0 = some r → Reach Try.prog Try.f140 I140 [.code I140.body] (zBg 0 (yBG a0)) (yAP r) := by
 intro a0 r h
 unfold yEj at h
 exact Reach.stop ttok mix fk140 (p140_e_5 a0) obs_nil (c140_2 hrc_spec_IsValidValue hrc_spec_l3List  _ _ _ _ h)
theorem yGn {N : Nat} {rc_spec_IsValidValue : Val → Option (Bool)} (hrc_spec_IsValidValue : ∀ a0 r, rc_spec_IsValidValue a0 = some r → AbC 108 (yAd a0) (yAc r)) {rc_spec_l3List : Val → Option (Bool)} (hrc_spec_l3List : ∀ a0 r, rc_spec_l3List a0 = some r → AbC 140 (yBG a0) (yAP r)) {a0 : Val} {r : Bool} (h : yEj N rc_spec_IsValidValue rc_spec_l3List a0 = some r) : AbC 140 (yBG a0) (yAP r) :=
 AbsCalls.of_reach fk140 rfl rfl (Nat.le_of_ble_eq_true rfl) (c140_e hrc_spec_IsValidValue hrc_spec_l3List a0 r h)
theorem yFs {N : Nat} : ∀ d, (∀ a0 r, (yAh N d).c_spec_IsValidValue a0 = some r → AbC 108 (yAd a0) (yAc r)) ∧ (∀ a0 r, (yAh N d).c_spec_l3List a0 = some r → AbC 140 (yBG a0) (yAP r)) := by
 intro d
 induction d with
 | zero =>
  refine ⟨?_, ?_⟩ <;> (intros; rename_i h; cases h)
 | succ d ih =>
  obtain ⟨ih0, ih1⟩ := ih
  refine ⟨?_, ?_⟩
  ·intro _ r h; exact yFn (N := N) ih0 ih1 h
  ·intro _ r h; exact yGn (N := N) ih0 ih1 h
theorem yD6 {N : Nat} {a0 : Val} {r : Bool} (h : yED N a0 = some r) : AbC 108 (yAd a0) (yAc r) := (yFs N).1 _ r h
noncomputable def I142 : Info := { body := (Try.f142.body).getD .skip, nt := 29, results := [.tmp 2], keep := [0, 4, 6, 14, 50], live := [(2, [0, 6])], modes := [(4, [(4, .take, false), (10, .take, false)])], ext := [], lnt := [], casts := [], fcast := [] }
theorem fk142 : FnOk Try.prog 142 Try.f142 I142 := ⟨Try.func142, by kernel_rfl, by kernel_rfl, by kernel_rfl, by kernel_rfl⟩
def S142_2 (x0 : Str) (x3 : Int) : St := [(0, .v false [.str x0]), (6, .v false [.int .i64 x3])]
theorem p142_2_0 (x0 : Str) (x3 : Int) : run tt (AbsCalls Try.prog) I142 3000 true (stkAt 2 I142.body) ⟨(S142_2 x0 x3), [true, true, true, true], [], []⟩ = some (.done (yA0 false) [(decide ((x3 : Int) < (List.length x0 : Int))) = true, (0 : Int) ≤ x3 ∧ x3 < (List.length x0), (decide ((((List.getD x0 (Int.toNat x3) 0).toNat : Int) : Int) < 32)) = true, true = true, true = true]) := by kernel_rfl
theorem p142_2_1 (x0 : Str) (x3 : Int) : run tt (AbsCalls Try.prog) I142 3000 true (stkAt 2 I142.body) ⟨(S142_2 x0 x3), [true, false, true, true], [], []⟩ = some (.done (yA0 false) [(decide ((x3 : Int) < (List.length x0 : Int))) = true, (0 : Int) ≤ x3 ∧ x3 < (List.length x0), (decide ((((List.getD x0 (Int.toNat x3) 0).toNat : Int) : Int) < 32)) = false, (0 : Int) ≤ x3 ∧ x3 < (List.length x0), (decide ((((List.getD x0 (Int.toNat x3) 0).toNat : Int) : Int) > 126)) = true, true = true]) := by kernel_rfl
theorem p142_2_2 (x0 : Str) (x3 : Int) : run tt (AbsCalls Try.prog) I142 3000 true (stkAt 2 I142.body) ⟨(S142_2 x0 x3), [true, false, false, true], [], []⟩ = some (.done (yA0 false) [(decide ((x3 : Int) < (List.length x0 : Int))) = true, (0 : Int) ≤ x3 ∧ x3 < (List.length x0), (decide ((((List.getD x0 (Int.toNat x3) 0).toNat : Int) : Int) < 32)) = false, (0 : Int) ≤ x3 ∧ x3 < (List.length x0), (decide ((((List.getD x0 (Int.toNat x3) 0).toNat : Int) : Int) > 126)) = false, (0 : Int) ≤ x3 ∧ x3 < (List.length x0), ((((List.getD x0 (Int.toNat x3) 0).toNat : Int) : Int) == 34) = true]) := by kernel_rfl
theorem p142_2_3 (x0 : Str) (x3 : Int) : run tt (AbsCalls Try.prog) I142 3000 true (stkAt 2 I142.body) ⟨(S142_2 x0 x3), [true, false, false, false], [], []⟩ = some (.stop (stkAt 2 I142.body) (S142_2 x0 (IntKind.i64.wrap (x3 + 1))) [(decide ((x3 : Int) < (List.length x0 : Int))) = true, (0 : Int) ≤ x3 ∧ x3 < (List.length x0), (decide ((((List.getD x0 (Int.toNat x3) 0).toNat : Int) : Int) < 32)) = false, (0 : Int) ≤ x3 ∧ x3 < (List.length x0), (decide ((((List.getD x0 (Int.toNat x3) 0).toNat : Int) : Int) > 126)) = false, (0 : Int) ≤ x3 ∧ x3 < (List.length x0), ((((List.getD x0 (Int.toNat x3) 0).toNat : Int) : Int) == 34) = false]) := by kernel_rfl
theorem p142_2_4 (x0 : Str) (x3 : Int) : run tt (AbsCalls Try.prog) I142 3000 true (stkAt 2 I142.body) ⟨(S142_2 x0 x3), [false], [], []⟩ = some (.done (yA0 (decide (((List.length x0 : Int) : Int) ≤ 20))) [(decide ((x3 : Int) < (List.length x0 : Int))) = false]) := by kernel_rfl
theorem p142_e_5 (a0 : Str) : run tt (AbsCalls Try.prog) I142 3000 false [.code I142.body] ⟨(zBg 0 (yDf a0)), [], [], []⟩ = some (.stop (stkAt 2 I142.body) (S142_2 a0 0) []) := by kernel_rfl
theorem c142_2 {N : Nat} : ∀ n x0 x3 r, yBU N n x0 x3 = some r → Reach Try.prog Try.f142 I142 (stkAt 2 I142.body) (S142_2 x0 x3) (yA0 r) := by
 intro n
 induction n with
 | zero => intro x0 x3 r h; have h' : (none : Option (Bool)) = some r := h; cases h'
 | succ n ih =>
  intro x0 x3 r h
  rw [yBU] at h
  rcases cond_inv h with ⟨h0, h⟩ | ⟨h0, h⟩
  ·obtain ⟨h1, h⟩ := ite_inv h
   rcases cond_inv h with ⟨h2, h⟩ | ⟨h2, h⟩
   ·obtain rfl := Option.some.inj h
    exact Reach.done ttok mix fk142 (p142_2_0 x0 x3) (obs_cons h0 (obs_cons h1 (obs_cons h2 (obs_cons rfl (obs_cons rfl obs_nil)))))
   ·rcases cond_inv h with ⟨h4, h⟩ | ⟨h4, h⟩
    ·obtain rfl := Option.some.inj h
     exact Reach.done ttok mix fk142 (p142_2_1 x0 x3) (obs_cons h0 (obs_cons h1 (obs_cons h2 (obs_cons h1 (obs_cons h4 (obs_cons rfl obs_nil))))))
    ·rcases cond_inv h with ⟨h6, h⟩ | ⟨h6, h⟩
     ·obtain rfl := Option.some.inj h
      exact Reach.done ttok mix fk142 (p142_2_2 x0 x3) (obs_cons h0 (obs_cons h1 (obs_cons h2 (obs_cons h1 (obs_cons h4 (obs_cons h1 (obs_cons h6 obs_nil)))))))
     ·exact Reach.stop ttok mix fk142 (p142_2_3 x0 x3) (obs_cons h0 (obs_cons h1 (obs_cons h2 (obs_cons h1 (obs_cons h4 (obs_cons h1 (obs_cons h6 obs_nil))))))) (ih _ _ _ h)
  ·obtain rfl := Option.some.inj h
   exact Reach.done ttok mix fk142 (p142_2_4 x0 x3) (obs_cons h0 obs_nil)
theorem c142_e {N : Nat} : ∀ a0 r, yDn N a0 = some r → Reach Try.prog Try.f142 I142 [.code I142.body] (zBg 0 (yDf a0)) (yA0 r) := by
 intro a0 r h
 unfold yDn at h
 exact Reach.stop ttok mix fk142 (p142_e_5 a0) obs_nil (c142_2   _ _ _ _ h)
theorem yGc {N : Nat} {a0 : Str} {r : Bool} (h : yDn N  a0 = some r) : AbC 142 (yDf a0) (yA0 r) :=
 AbsCalls.of_reach fk142 rfl rfl (Nat.le_of_ble_eq_true rfl) (c142_e a0 r h)
noncomputable def I163 : Info := { body := (Try.f163.body).getD .skip, nt := 42, results := [.tmp 2], keep := [0, 4, 6, 8, 16, 76], live := [(2, [0, 6])], modes := [(4, [(4, .take, false)]), (5, [(0, .take, false), (2, .take, false), (5, .take, false), (11, .take, false)])], ext := [], lnt := [], casts := [], fcast := [] }
theorem fk163 : FnOk Try.prog 163 Try.f163 I163 := ⟨Try.func163, by kernel_rfl, by kernel_rfl, by kernel_rfl, by kernel_rfl⟩
def yEX (x0 : Str) (x3 : Int) : St := [(0, .v false [.str x0]), (6, .v false [.int .i64 x3])]
theorem p163_2_0 (x0 : Str) (x3 : Int) : run tt (AbsCalls Try.prog) I163 3000 true (stkAt 2 I163.body) ⟨(yEX x0 x3), [true, true, true, true, true, true], [], []⟩ = some (.done (yAX false) [(decide ((x3 : Int) < (List.length x0 : Int))) = true, (0 : Int) ≤ x3 ∧ x3 < (List.length x0), (decide ((((List.getD x0 (Int.toNat x3) 0).toNat : Int) : Int) ≥ 97)) = true, (0 : Int) ≤ x3 ∧ x3 < (List.length x0), (!(decide ((((List.getD x0 (Int.toNat x3) 0).toNat : Int) : Int) ≤ 122))) = true, ((x3 : Int) == 0) = true, true = true, true = true]) := by kernel_rfl
theorem p163_2_1 (x0 : Str) (x3 : Int) : run tt (AbsCalls Try.prog) I163 3000 true (stkAt 2 I163.body) ⟨(yEX x0 x3), [true, true, true, false, true, true], [], []⟩ = some (.done (yAX false) [(decide ((x3 : Int) < (List.length x0 : Int))) = true, (0 : Int) ≤ x3 ∧ x3 < (List.length x0), (decide ((((List.getD x0 (Int.toNat x3) 0).toNat : Int) : Int) ≥ 97)) = true, (0 : Int) ≤ x3 ∧ x3 < (List.length x0), (!(decide ((((List.getD x0 (Int.toNat x3) 0).toNat : Int) : Int) ≤ 122))) = true, ((x3 : Int) == 0) = false, (0 : Int) ≤ x3 ∧ x3 < (List.length x0), (decide ((((List.getD x0 (Int.toNat x3) 0).toNat : Int) : Int) < 48)) = true, true = true]) := by kernel_rfl
theorem p163_2_2 (x0 : Str) (x3 : Int) : run tt (AbsCalls Try.prog) I163 3000 true (stkAt 2 I163.body) ⟨(yEX x0 x3), [true, true, true, false, false, true], [], []⟩ = some (.done (yAX false) [(decide ((x3 : Int) < (List.length x0 : Int))) = true, (0 : Int) ≤ x3 ∧ x3 < (List.length x0), (decide ((((List.getD x0 (Int.toNat x3) 0).toNat : Int) : Int) ≥ 97)) = true, (0 : Int) ≤ x3 ∧ x3 < (List.length x0), (!(decide ((((List.getD x0 (Int.toNat x3) 0).toNat : Int) : Int) ≤ 122))) = true, ((x3 : Int) == 0) = false, (0 : Int) ≤ x3 ∧ x3 < (List.length x0), (decide ((((List.getD x0 (Int.toNat x3) 0).toNat : Int) : Int) < 48)) = false, (0 : Int) ≤ x3 ∧ x3 < (List.length x0), (decide ((((List.getD x0 (Int.toNat x3) 0).toNat : Int) : Int) > 57)) = true]) := by kernel_rfl
theorem p163_2_3 (x0 : Str) (x3 : Int) : run tt (AbsCalls Try.prog) I163 3000 true (stkAt 2 I163.body) ⟨(yEX x0 x3), [true, true, true, false, false, false], [], []⟩ = some (.stop (stkAt 2 I163.body) (yEX x0 (IntKind.i64.wrap (x3 + 1))) [(decide ((x3 : Int) < (List.length x0 : Int))) = true, (0 : Int) ≤ x3 ∧ x3 < (List.length x0), (decide ((((List.getD x0 (Int.toNat x3) 0).toNat : Int) : Int) ≥ 97)) = true, (0 : Int) ≤ x3 ∧ x3 < (List.length x0), (!(decide ((((List.getD x0 (Int.toNat x3) 0).toNat : Int) : Int) ≤ 122))) = true, ((x3 : Int) == 0) = false, (0 : Int) ≤ x3 ∧ x3 < (List.length x0), (decide ((((List.getD x0 (Int.toNat x3) 0).toNat : Int) : Int) < 48)) = false, (0 : Int) ≤ x3 ∧ x3 < (List.length x0), (decide ((((List.getD x0 (Int.toNat x3) 0).toNat : Int) : Int) > 57)) = false]) := by kernel_rfl
theorem p163_2_4 (x0 : Str) (x3 : Int) : run tt (AbsCalls Try.prog) I163 3000 true (stkAt 2 I163.body) ⟨(yEX x0 x3), [true, true, false, false], [], []⟩ = some (.stop (stkAt 2 I163.body) (yEX x0 (IntKind.i64.wrap (x3 + 1))) [(decide ((x3 : Int) < (List.length x0 : Int))) = true, (0 : Int) ≤ x3 ∧ x3 < (List.length x0), (decide ((((List.getD x0 (Int.toNat x3) 0).toNat : Int) : Int) ≥ 97)) = true, (0 : Int) ≤ x3 ∧ x3 < (List.length x0), (!(decide ((((List.getD x0 (Int.toNat x3) 0).toNat : Int) : Int) ≤ 122))) = false, false = false]) := by kernel_rfl
theorem p163_2_5 (x0 : Str) (x3 : Int) : run tt (AbsCalls Try.prog) I163 3000 true (stkAt 2 I163.body) ⟨(yEX x0 x3), [true, false, true, true, true, true], [], []⟩ = some (.done (yAX false) [(decide ((x3 : Int) < (List.length x0 : Int))) = true, (0 : Int) ≤ x3 ∧ x3 < (List.length x0), (decide ((((List.getD x0 (Int.toNat x3) 0).toNat : Int) : Int) ≥ 97)) = false, (!false) = true, ((x3 : Int) == 0) = true, true = true, true = true]) := by kernel_rfl
theorem p163_2_6 (x0 : Str) (x3 : Int) : run tt (AbsCalls Try.prog) I163 3000 true (stkAt 2 I163.body) ⟨(yEX x0 x3), [true, false, true, false, true, true], [], []⟩ = some (.done (yAX false) [(decide ((x3 : Int) < (List.length x0 : Int))) = true, (0 : Int) ≤ x3 ∧ x3 < (List.length x0), (decide ((((List.getD x0 (Int.toNat x3) 0).toNat : Int) : Int) ≥ 97)) = false, (!false) = true, ((x3 : Int) == 0) = false, (0 : Int) ≤ x3 ∧ x3 < (List.length x0), (decide ((((List.getD x0 (Int.toNat x3) 0).toNat : Int) : Int) < 48)) = true, true = true]) := by kernel_rfl
theorem p163_2_7 (x0 : Str) (x3 : Int) : run tt (AbsCalls Try.prog) I163 3000 true (stkAt 2 I163.body) ⟨(yEX x0 x3), [true, false, true, false, false, true], [], []⟩ = some (.done (yAX false) [(decide ((x3 : Int) < (List.length x0 : Int))) = true, (0 : Int) ≤ x3 ∧ x3 < (List.length x0), (decide ((((List.getD x0 (Int.toNat x3) 0).toNat : Int) : Int) ≥ 97)) = false, (!false) = true, ((x3 : Int) == 0) = false, (0 : Int) ≤ x3 ∧ x3 < (List.length x0), (decide ((((List.getD x0 (Int.toNat x3) 0).toNat : Int) : Int) < 48)) = false, (0 : Int) ≤ x3 ∧ x3 < (List.length x0), (decide ((((List.getD x0 (Int.toNat x3) 0).toNat : Int) : Int) > 57)) = true]) := by kernel_rfl
theorem p163_2_8 (x0 : Str) (x3 : Int) : run tt (AbsCalls Try.prog) I163 3000 true (stkAt 2 I163.body) ⟨(yEX x0 x3), [true, false, true, false, false, false], [], []⟩ = some (.stop (stkAt 2 I163.body) (yEX x0 (IntKind.i64.wrap (x3 + 1))) [(decide ((x3 : Int) < (List.length x0 : Int))) = true, (0 : Int) ≤ x3 ∧ x3 < (List.length x0), (decide ((((List.getD x0 (Int.toNat x3) 0).toNat : Int) : Int) ≥ 97)) = false, (!false) = true, ((x3 : Int) == 0) = false, (0 : Int) ≤ x3 ∧ x3 < (List.length x0), (decide ((((List.getD x0 (Int.toNat x3) 0).toNat : Int) : Int) < 48)) = false, (0 : Int) ≤ x3 ∧ x3 < (List.length x0), (decide ((((List.getD x0 (Int.toNat x3) 0).toNat : Int) : Int) > 57)) = false]) := by kernel_rfl
theorem p163_2_9 (x0 : Str) (x3 : Int) (r1 : Bool) : run tt (AbsCalls Try.prog) I163 3000 true (stkAt 2 I163.body) ⟨(yEX x0 x3), [false], [yAY r1], []⟩ = some (.done (yAX r1) [(decide ((x3 : Int) < (List.length x0 : Int))) = false, AbC 101 (yB2 (List.length x0 : Int) 1 8) (yAY r1)]) := by kernel_rfl
theorem p163_e_10 (a0 : Str) : run tt (AbsCalls Try.prog) I163 3000 false [.code I163.body] ⟨(zBg 0 (yD7 a0)), [], [], []⟩ = some (.stop (stkAt 2 I163.body) (yEX a0 0) []) := by kernel_rfl
theorem c163_2 {N : Nat} : ∀ n x0 x3 r, yBC N n x0 x3 = some r → Reach Try.prog Try.f163 I163 (stkAt 2 I163.body) (yEX x0 x3) (yAX r) := by
 intro n
 induction n with
 | zero => intro x0 x3 r h; have h' : (none : Option (Bool)) = some r := h; cases h'
 | succ n ih =>
  intro x0 x3 r h
  rw [yBC] at h
  rcases cond_inv h with ⟨h0, h⟩ | ⟨h0, h⟩
  ·obtain ⟨h1, h⟩ := ite_inv h
   rcases cond_inv h with ⟨h2, h⟩ | ⟨h2, h⟩
   ·rcases cond_inv h with ⟨h4, h⟩ | ⟨h4, h⟩
    ·rcases cond_inv h with ⟨h5, h⟩ | ⟨h5, h⟩
     ·obtain rfl := Option.some.inj h
      exact Reach.done ttok mix fk163 (p163_2_0 x0 x3) (obs_cons h0 (obs_cons h1 (obs_cons h2 (obs_cons h1 (obs_cons h4 (obs_cons h5 (obs_cons rfl (obs_cons rfl obs_nil))))))))
     ·rcases cond_inv h with ⟨h7, h⟩ | ⟨h7, h⟩
      ·obtain rfl := Option.some.inj h
       exact Reach.done ttok mix fk163 (p163_2_1 x0 x3) (obs_cons h0 (obs_cons h1 (obs_cons h2 (obs_cons h1 (obs_cons h4 (obs_cons h5 (obs_cons h1 (obs_cons h7 (obs_cons rfl obs_nil)))))))))
      ·rcases cond_inv h with ⟨h9, h⟩ | ⟨h9, h⟩
       ·obtain rfl := Option.some.inj h
        exact Reach.done ttok mix fk163 (p163_2_2 x0 x3) (obs_cons h0 (obs_cons h1 (obs_cons h2 (obs_cons h1 (obs_cons h4 (obs_cons h5 (obs_cons h1 (obs_cons h7 (obs_cons h1 (obs_cons h9 obs_nil))))))))))
       ·exact Reach.stop ttok mix fk163 (p163_2_3 x0 x3) (obs_cons h0 (obs_cons h1 (obs_cons h2 (obs_cons h1 (obs_cons h4 (obs_cons h5 (obs_cons h1 (obs_cons h7 (obs_cons h1 (obs_cons h9 obs_nil)))))))))) (ih _ _ _ h)
    ·exact Reach.stop ttok mix fk163 (p163_2_4 x0 x3) (obs_cons h0 (obs_cons h1 (obs_cons h2 (obs_cons h1 (obs_cons h4 (obs_cons rfl obs_nil)))))) (ih _ _ _ h)
   ·rcases cond_inv h with ⟨h4, h⟩ | ⟨h4, h⟩
    ·obtain rfl := Option.some.inj h
     exact Reach.done ttok mix fk163 (p163_2_5 x0 x3) (obs_cons h0 (obs_cons h1 (obs_cons h2 (obs_cons rfl (obs_cons h4 (obs_cons rfl (obs_cons rfl obs_nil)))))))
    ·rcases cond_inv h with ⟨h6, h⟩ | ⟨h6, h⟩
     ·obtain rfl := Option.some.inj h
      exact Reach.done ttok mix fk163 (p163_2_6 x0 x3) (obs_cons h0 (obs_cons h1 (obs_cons h2 (obs_cons rfl (obs_cons h4 (obs_cons h1 (obs_cons h6 (obs_cons rfl obs_nil))))))))
     ·rcases cond_inv h with ⟨h8, h⟩ | ⟨h8, h⟩
      ·obtain rfl := Option.some.inj h
       exact Reach.done ttok mix fk163 (p163_2_7 x0 x3) (obs_cons h0 (obs_cons h1 (obs_cons h2 (obs_cons rfl (obs_cons h4 (obs_cons h1 (obs_cons h6 (obs_cons h1 (obs_cons h8 obs_nil)))))))))
      ·exact Reach.stop ttok mix fk163 (p163_2_8 x0 x3) (obs_cons h0 (obs_cons h1 (obs_cons h2 (obs_cons rfl (obs_cons h4 (obs_cons h1 (obs_cons h6 (obs_cons h1 (obs_cons h8 obs_nil))))))))) (ih _ _ _ h)
  ·obtain ⟨r1, h1, h⟩ := bind_inv h
   obtain rfl := Option.some.inj h
   exact Reach.done ttok mix fk163 (p163_2_9 x0 x3 r1) (obs_cons h0 (obs_cons (yD8 h1) obs_nil))
theorem c163_e {N : Nat} : ∀ a0 r, yEZ N a0 = some r → Reach Try.prog Try.f163 I163 [.code I163.body] (zBg 0 (yD7 a0)) (yAX r) := by
 intro a0 r h
 unfold yEZ at h
 exact Reach.stop ttok mix fk163 (p163_e_10 a0) obs_nil (c163_2   _ _ _ _ h)
theorem yF1 {N : Nat} {a0 : Str} {r : Bool} (h : yEZ N  a0 = some r) : AbC 163 (yD7 a0) (yAX r) :=
 AbsCalls.of_reach fk163 rfl rfl (Nat.le_of_ble_eq_true rfl) (c163_e a0 r h)
noncomputable def I166 : Info := { body := (Try.f166.body).getD .skip, nt := 26, results := [.tmp 2], keep := [0, 4, 6, 8, 12, 24, 40, 48], live := [], modes := [], ext := [], lnt := [], casts := [], fcast := [] }
theorem yFt : FnOk Try.prog 166 Try.f166 I166 := ⟨Try.func166, by kernel_rfl, by kernel_rfl, by kernel_rfl, by kernel_rfl⟩
theorem p166_e_0 (a0 : Str) : run tt (AbsCalls Try.prog) I166 3000 false [.code I166.body] ⟨(zBg 0 (yAg a0)), [true], [], []⟩ = some (.done (yAf 0) [((a0 : Str) == [99, 108, 111, 99, 107]) = true]) := by kernel_rfl
theorem p166_e_1 (a0 : Str) : run tt (AbsCalls Try.prog) I166 3000 false [.code I166.body] ⟨(zBg 0 (yAg a0)), [false, true, true], [], []⟩ = some (.done (yAf 1) [((a0 : Str) == [99, 108, 111, 99, 107]) = false, ((a0 : Str) == [108, 101, 110]) = true, ((a0 : Str) == [108, 101, 110]) = true]) := by kernel_rfl
theorem p166_e_2 (a0 : Str) : run tt (AbsCalls Try.prog) I166 3000 false [.code I166.body] ⟨(zBg 0 (yAg a0)), [false, false, true, true], [], []⟩ = some (.done (yAf 1) [((a0 : Str) == [99, 108, 111, 99, 107]) = false, ((a0 : Str) == [108, 101, 110]) = false, ((a0 : Str) == [115, 117, 109]) = true, ((a0 : Str) == [115, 117, 109]) = true]) := by kernel_rfl
theorem p166_e_3 (a0 : Str) : run tt (AbsCalls Try.prog) I166 3000 false [.code I166.body] ⟨(zBg 0 (yAg a0)), [false, false, false, true, true], [], []⟩ = some (.done (yAf 1) [((a0 : Str) == [99, 108, 111, 99, 107]) = false, ((a0 : Str) == [108, 101, 110]) = false, ((a0 : Str) == [115, 117, 109]) = false, ((a0 : Str) == [114, 111, 119, 115]) = true, ((a0 : Str) == [114, 111, 119, 115]) = true]) := by kernel_rfl
theorem p166_e_4 (a0 : Str) : run tt (AbsCalls Try.prog) I166 3000 false [.code I166.body] ⟨(zBg 0 (yAg a0)), [false, false, false, false, true, true], [], []⟩ = some (.done (yAf 1) [((a0 : Str) == [99, 108, 111, 99, 107]) = false, ((a0 : Str) == [108, 101, 110]) = false, ((a0 : Str) == [115, 117, 109]) = false, ((a0 : Str) == [114, 111, 119, 115]) = false, ((a0 : Str) == [99, 104, 97, 110, 99, 101]) = true, ((a0 : Str) == [99, 104, 97, 110, 99, 101]) = true]) := by kernel_rfl
theorem p166_e_5 (a0 : Str) : run tt (AbsCalls Try.prog) I166 3000 false [.code I166.body] ⟨(zBg 0 (yAg a0)), [false, false, false, false, false, true], [], []⟩ = some (.done (yAf 1) [((a0 : Str) == [99, 108, 111, 99, 107]) = false, ((a0 : Str) == [108, 101, 110]) = false, ((a0 : Str) == [115, 117, 109]) = false, ((a0 : Str) == [114, 111, 119, 115]) = false, ((a0 : Str) == [99, 104, 97, 110, 99, 101]) = false, ((a0 : Str) == [102, 105, 108, 101]) = true]) := by kernel_rfl
theorem p166_e_6 (a0 : Str) : run tt (AbsCalls Try.prog) I166 3000 false [.code I166.body] ⟨(zBg 0 (yAg a0)), [false, false, false, false, false, false, true, true], [], []⟩ = some (.done (yAf 2) [((a0 : Str) == [99, 108, 111, 99, 107]) = false, ((a0 : Str) == [108, 101, 110]) = false, ((a0 : Str) == [115, 117, 109]) = false, ((a0 : Str) == [114, 111, 119, 115]) = false, ((a0 : Str) == [99, 104, 97, 110, 99, 101]) = false, ((a0 : Str) == [102, 105, 108, 101]) = false, ((a0 : Str) == [116, 97, 107, 101]) = true, ((a0 : Str) == [116, 97, 107, 101]) = true]) := by kernel_rfl
theorem p166_e_7 (a0 : Str) : run tt (AbsCalls Try.prog) I166 3000 false [.code I166.body] ⟨(zBg 0 (yAg a0)), [false, false, false, false, false, false, false, true, true], [], []⟩ = some (.done (yAf 2) [((a0 : Str) == [99, 108, 111, 99, 107]) = false, ((a0 : Str) == [108, 101, 110]) = false, ((a0 : Str) == [115, 117, 109]) = false, ((a0 : Str) == [114, 111, 119, 115]) = false, ((a0 : Str) == [99, 104, 97, 110, 99, 101]) = false, ((a0 : Str) == [102, 105, 108, 101]) = false, ((a0 : Str) == [116, 97, 107, 101]) = false, ((a0 : Str) == [115, 107, 105, 112]) = true, ((a0 : Str) == [115, 107, 105, 112]) = true]) := by kernel_rfl
theorem p166_e_8 (a0 : Str) : run tt (AbsCalls Try.prog) I166 3000 false [.code I166.body] ⟨(zBg 0 (yAg a0)), [false, false, false, false, false, false, false, false, true, true], [], []⟩ = some (.done (yAf 2) [((a0 : Str) == [99, 108, 111, 99, 107]) = false, ((a0 : Str) == [108, 101, 110]) = false, ((a0 : Str) == [115, 117, 109]) = false, ((a0 : Str) == [114, 111, 119, 115]) = false, ((a0 : Str) == [99, 104, 97, 110, 99, 101]) = false, ((a0 : Str) == [102, 105, 108, 101]) = false, ((a0 : Str) == [116, 97, 107, 101]) = false, ((a0 : Str) == [115, 107, 105, 112]) = false, ((a0 : Str) == [114, 97, 110, 103, 101]) = true, ((a0 : Str) == [114, 97, 110, 103, 101]) = true]) := by kernel_rfl
theorem p166_e_9 (a0 : Str) : run tt (AbsCalls Try.prog) I166 3000 false [.code I166.body] ⟨(zBg 0 (yAg a0)), [false, false, false, false, false, false, false, false, false, true, true], [], []⟩ = some (.done (yAf 2) [((a0 : Str) == [99, 108, 111, 99, 107]) = false, ((a0 : Str) == [108, 101, 110]) = false, ((a0 : Str) == [115, 117, 109]) = false, ((a0 : Str) == [114, 111, 119, 115]) = false, ((a0 : Str) == [99, 104, 97, 110, 99, 101]) = false, ((a0 : Str) == [102, 105, 108, 101]) = false, ((a0 : Str) == [116, 97, 107, 101]) = false, ((a0 : Str) == [115, 107, 105, 112]) = false, ((a0 : Str) == [114, 97, 110, 103, 101]) = false, ((a0 : Str) == [110, 116, 104]) = true, ((a0 : Str) == [110, 116, 104]) = true]) := by kernel_rfl
theorem p166_e_10 (a0 : Str) : run tt (AbsCalls Try.prog) I166 3000 false [.code I166.body] ⟨(zBg 0 (yAg a0)), [false, false, false, false, false, false, false, false, false, false, true, true], [], []⟩ = some (.done (yAf 2) [((a0 : Str) == [99, 108, 111, 99, 107]) = false, ((a0 : Str) == [108, 101, 110]) = false, ((a0 : Str) == [115, 117, 109]) = false, ((a0 : Str) == [114, 111, 119, 115]) = false, ((a0 : Str) == [99, 104, 97, 110, 99, 101]) = false, ((a0 : Str) == [102, 105, 108, 101]) = false, ((a0 : Str) == [116, 97, 107, 101]) = false, ((a0 : Str) == [115, 107, 105, 112]) = false, ((a0 : Str) == [114, 97, 110, 103, 101]) = false, ((a0 : Str) == [110, 116, 104]) = false, ((a0 : Str) == [107, 101, 101, 112]) = true, ((a0 : Str) == [107, 101, 101, 112]) = true]) := by kernel_rfl
theorem p166_e_11 (a0 : Str) : run tt (AbsCalls Try.prog) I166 3000 false [.code I166.body] ⟨(zBg 0 (yAg a0)), [false, false, false, false, false, false, false, false, false, false, false, true, true], [], []⟩ = some (.done (yAf 2) [((a0 : Str) == [99, 108, 111, 99, 107]) = false, ((a0 : Str) == [108, 101, 110]) = false, ((a0 : Str) == [115, 117, 109]) = false, ((a0 : Str) == [114, 111, 119, 115]) = false, ((a0 : Str) == [99, 104, 97, 110, 99, 101]) = false, ((a0 : Str) == [102, 105, 108, 101]) = false, ((a0 : Str) == [116, 97, 107, 101]) = false, ((a0 : Str) == [115, 107, 105, 112]) = false, ((a0 : Str) == [114, 97, 110, 103, 101]) = false, ((a0 : Str) == [110, 116, 104]) = false, ((a0 : Str) == [107, 101, 101, 112]) = false, ((a0 : Str) == [99, 111, 108, 117, 109, 110]) = true, ((a0 : Str) == [99, 111, 108, 117, 109, 110]) = true]) := by kernel_rfl
theorem p166_e_12 (a0 : Str) : run tt (AbsCalls Try.prog) I166 3000 false [.code I166.body] ⟨(zBg 0 (yAg a0)), [false, false, false, false, false, false, false, false, false, false, false, false, true], [], []⟩ = some (.done (yAf 2) [((a0 : Str) == [99, 108, 111, 99, 107]) = false, ((a0 : Str) == [108, 101, 110]) = false, ((a0 : Str) == [115, 117, 109]) = false, ((a0 : Str) == [114, 111, 119, 115]) = false, ((a0 : Str) == [99, 104, 97, 110, 99, 101]) = false, ((a0 : Str) == [102, 105, 108, 101]) = false, ((a0 : Str) == [116, 97, 107, 101]) = false, ((a0 : Str) == [115, 107, 105, 112]) = false, ((a0 : Str) == [114, 97, 110, 103, 101]) = false, ((a0 : Str) == [110, 116, 104]) = false, ((a0 : Str) == [107, 101, 101, 112]) = false, ((a0 : Str) == [99, 111, 108, 117, 109, 110]) = false, ((a0 : Str) == [116, 97, 98, 108, 101]) = true]) := by kernel_rfl
theorem p166_e_13 (a0 : Str) : run tt (AbsCalls Try.prog) I166 3000 false [.code I166.body] ⟨(zBg 0 (yAg a0)), [false, false, false, false, false, false, false, false, false, false, false, false, false, true, true], [], []⟩ = some (.done (yAf 3) [((a0 : Str) == [99, 108, 111, 99, 107]) = false, ((a0 : Str) == [108, 101, 110]) = false, ((a0 : Str) == [115, 117, 109]) = false, ((a0 : Str) == [114, 111, 119, 115]) = false, ((a0 : Str) == [99, 104, 97, 110, 99, 101]) = false, ((a0 : Str) == [102, 105, 108, 101]) = false, ((a0 : Str) == [116, 97, 107, 101]) = false, ((a0 : Str) == [115, 107, 105, 112]) = false, ((a0 : Str) == [114, 97, 110, 103, 101]) = false, ((a0 : Str) == [110, 116, 104]) = false, ((a0 : Str) == [107, 101, 101, 112]) = false, ((a0 : Str) == [99, 111, 108, 117, 109, 110]) = false, ((a0 : Str) == [116, 97, 98, 108, 101]) = false, ((a0 : Str) == [119, 104, 101, 114, 101]) = true, ((a0 : Str) == [119, 104, 101, 114, 101]) = true]) := by kernel_rfl
theorem p166_e_14 (a0 : Str) : run tt (AbsCalls Try.prog) I166 3000 false [.code I166.body] ⟨(zBg 0 (yAg a0)), [false, false, false, false, false, false, false, false, false, false, false, false, false, false, true, true], [], []⟩ = some (.done (yAf 3) [((a0 : Str) == [99, 108, 111, 99, 107]) = false, ((a0 : Str) == [108, 101, 110]) = false, ((a0 : Str) == [115, 117, 109]) = false, ((a0 : Str) == [114, 111, 119, 115]) = false, ((a0 : Str) == [99, 104, 97, 110, 99, 101]) = false, ((a0 : Str) == [102, 105, 108, 101]) = false, ((a0 : Str) == [116, 97, 107, 101]) = false, ((a0 : Str) == [115, 107, 105, 112]) = false, ((a0 : Str) == [114, 97, 110, 103, 101]) = false, ((a0 : Str) == [110, 116, 104]) = false, ((a0 : Str) == [107, 101, 101, 112]) = false, ((a0 : Str) == [99, 111, 108, 117, 109, 110]) = false, ((a0 : Str) == [116, 97, 98, 108, 101]) = false, ((a0 : Str) == [119, 104, 101, 114, 101]) = false, ((a0 : Str) == [103, 114, 111, 117, 112]) = true, ((a0 : Str) == [103, 114, 111, 117, 112]) = true]) := by kernel_rfl
theorem p166_e_15 (a0 : Str) : run tt (AbsCalls Try.prog) I166 3000 false [.code I166.body] ⟨(zBg 0 (yAg a0)), [false, false, false, false, false, false, false, false, false, false, false, false, false, false, false, true], [], []⟩ = some (.done (yAf 3) [((a0 : Str) == [99, 108, 111, 99, 107]) = false, ((a0 : Str) == [108, 101, 110]) = false, ((a0 : Str) == [115, 117, 109]) = false, ((a0 : Str) == [114, 111, 119, 115]) = false, ((a0 : Str) == [99, 104, 97, 110, 99, 101]) = false, ((a0 : Str) == [102, 105, 108, 101]) = false, ((a0 : Str) == [116, 97, 107, 101]) = false, ((a0 : Str) == [115, 107, 105, 112]) = false, ((a0 : Str) == [114, 97, 110, 103, 101]) = false, ((a0 : Str) == [110, 116, 104]) = false, ((a0 : Str) == [107, 101, 101, 112]) = false, ((a0 : Str) == [99, 111, 108, 117, 109, 110]) = false, ((a0 : Str) == [116, 97, 98, 108, 101]) = false, ((a0 : Str) == [119, 104, 101, 114, 101]) = false, ((a0 : Str) == [103, 114, 111, 117, 112]) = false, ((a0 : Str) == [106, 111, 105, 110]) = true]) := by kernel_rfl
theorem p166_e_16 (a0 : Str) : run tt (AbsCalls Try.prog) I166 3000 false [.code I166.body] ⟨(zBg 0 (yAg a0)), [false, false, false, false, false, false, false, false, false, false, false, false, false, false, false, false, true], [], []⟩ = some (.done (yAf 4) [((a0 : Str) == [99, 108, 111, 99, 107]) = false, ((a0 : Str) == [108, 101, 110]) = false, ((a0 : Str) == [115, 117, 109]) = false, ((a0 : Str) == [114, 111, 119, 115]) = false, ((a0 : Str) == [99, 104, 97, 110, 99, 101]) = false, ((a0 : Str) == [102, 105, 108, 101]) = false, ((a0 : Str) == [116, 97, 107, 101]) = false, ((a0 : Str) == [115, 107, 105, 112]) = false, ((a0 : Str) == [114, 97, 110, 103, 101]) = false, ((a0 : Str) == [110, 116, 104]) = false, ((a0 : Str) == [107, 101, 101, 112]) = false, ((a0 : Str) == [99, 111, 108, 117, 109, 110]) = false, ((a0 : Str) == [116, 97, 98, 108, 101]) = false, ((a0 : Str) == [119, 104, 101, 114, 101]) = false, ((a0 : Str) == [103, 114, 111, 117, 112]) = false, ((a0 : Str) == [106, 111, 105, 110]) = false, ((a0 : Str) == [97, 100, 100]) = true]) := by kernel_rfl
theorem p166_e_17 (a0 : Str) : run tt (AbsCalls Try.prog) I166 3000 false [.code I166.body] ⟨(zBg 0 (yAg a0)), [false, false, false, false, false, false, false, false, false, false, false, false, false, false, false, false, false], [], []⟩ = some (.done (yAf (-1)) [((a0 : Str) == [99, 108, 111, 99, 107]) = false, ((a0 : Str) == [108, 101, 110]) = false, ((a0 : Str) == [115, 117, 109]) = false, ((a0 : Str) == [114, 111, 119, 115]) = false, ((a0 : Str) == [99, 104, 97, 110, 99, 101]) = false, ((a0 : Str) == [102, 105, 108, 101]) = false, ((a0 : Str) == [116, 97, 107, 101]) = false, ((a0 : Str) == [115, 107, 105, 112]) = false, ((a0 : Str) == [114, 97, 110, 103, 101]) = false, ((a0 : Str) == [110, 116, 104]) = false, ((a0 : Str) == [107, 101, 101, 112]) = false, ((a0 : Str) == [99, 111, 108, 117, 109, 110]) = false, ((a0 : Str) == [116, 97, 98, 108, 101]) = false, ((a0 : Str) == [119, 104, 101, 114, 101]) = false, ((a0 : Str) == [103, 114, 111, 117, 112]) = false, ((a0 : Str) == [106, 111, 105, 110]) = false, ((a0 : Str) == [97, 100, 100]) = false]) := by kernel_rfl
theorem c166_e {N : Nat} : ∀ a0 r, yCR N a0 = some r → Reach Try.prog Try.f166 I166 [.code I166.body] (zBg 0 (yAg a0)) (yAf r) := by
 intro a0 r h
 unfold yCR at h
 rcases cond_inv h with ⟨h0, h⟩ | ⟨h0, h⟩
 ·obtain rfl := Option.some.inj h
  exact Reach.done ttok mix yFt (p166_e_0 a0) (obs_cons h0 obs_nil)
 ·rcases cond_inv h with ⟨h1, h⟩ | ⟨h1, h⟩
  ·obtain rfl := Option.some.inj h
   exact Reach.done ttok mix yFt (p166_e_1 a0) (obs_cons h0 (obs_cons h1 (obs_cons h1 obs_nil)))
  ·rcases cond_inv h with ⟨h2, h⟩ | ⟨h2, h⟩
   ·obtain rfl := Option.some.inj h
    exact Reach.done ttok mix yFt (p166_e_2 a0) (obs_cons h0 (obs_cons h1 (obs_cons h2 (obs_cons h2 obs_nil))))
   ·rcases cond_inv h with ⟨h3, h⟩ | ⟨h3, h⟩
    ·obtain rfl := Option.some.inj h
     exact Reach.done ttok mix yFt (p166_e_3 a0) (obs_cons h0 (obs_cons h1 (obs_cons h2 (obs_cons h3 (obs_cons h3 obs_nil)))))
    ·rcases cond_inv h with ⟨h4, h⟩ | ⟨h4, h⟩
     ·obtain rfl := Option.some.inj h
      exact Reach.done ttok mix yFt (p166_e_4 a0) (obs_cons h0 (obs_cons h1 (obs_cons h2 (obs_cons h3 (obs_cons h4 (obs_cons h4 obs_nil))))))
     ·rcases cond_inv h with ⟨h5, h⟩ | ⟨h5, h⟩
      ·obtain rfl := Option.some.inj h
       exact Reach.done ttok mix yFt (p166_e_5 a0) (obs_cons h0 (obs_cons h1 (obs_cons h2 (obs_cons h3 (obs_cons h4 (obs_cons h5 obs_nil))))))
      ·rcases cond_inv h with ⟨h6, h⟩ | ⟨h6, h⟩
       ·obtain rfl := Option.some.inj h
        exact Reach.done ttok mix yFt (p166_e_6 a0) (obs_cons h0 (obs_cons h1 (obs_cons h2 (obs_cons h3 (obs_cons h4 (obs_cons h5 (obs_cons h6 (obs_cons h6 obs_nil))))))))
       ·rcases cond_inv h with ⟨h7, h⟩ | ⟨h7, h⟩
        ·obtain rfl := Option.some.inj h
         exact Reach.done ttok mix yFt (p166_e_7 a0) (obs_cons h0 (obs_cons h1 (obs_cons h2 (obs_cons h3 (obs_cons h4 (obs_cons h5 (obs_cons h6 (obs_cons h7 (obs_cons h7 obs_nil)))))))))
        ·rcases cond_inv h with ⟨h8, h⟩ | ⟨h8, h⟩
         ·obtain rfl := Option.some.inj h
          exact Reach.done ttok mix yFt (p166_e_8 a0) (obs_cons h0 (obs_cons h1 (obs_cons h2 (obs_cons h3 (obs_cons h4 (obs_cons h5 (obs_cons h6 (obs_cons h7 (obs_cons h8 (obs_cons h8 obs_nil))))))))))
         ·rcases cond_inv h with ⟨h9, h⟩ | ⟨h9, h⟩
          ·obtain rfl := Option.some.inj h
           exact Reach.done ttok mix yFt (p166_e_9 a0) (obs_cons h0 (obs_cons h1 (obs_cons h2 (obs_cons h3 (obs_cons h4 (obs_cons h5 (obs_cons h6 (obs_cons h7 (obs_cons h8 (obs_cons h9 (obs_cons h9 obs_nil)))))))))))
          ·rcases cond_inv h with ⟨h10, h⟩ | ⟨h10, h⟩
           ·obtain rfl := Option.some.inj h
            exact Reach.done ttok mix yFt (p166_e_10 a0) (obs_cons h0 (obs_cons h1 (obs_cons h2 (obs_cons h3 (obs_cons h4 (obs_cons h5 (obs_cons h6 (obs_cons h7 (obs_cons h8 (obs_cons h9 (obs_cons h10 (obs_cons h10 obs_nil))))))))))))
           ·rcases cond_inv h with ⟨h11, h⟩ | ⟨h11, h⟩
            ·obtain rfl := Option.some.inj h
             exact Reach.done ttok mix yFt (p166_e_11 a0) (obs_cons h0 (obs_cons h1 (obs_cons h2 (obs_cons h3 (obs_cons h4 (obs_cons h5 (obs_cons h6 (obs_cons h7 (obs_cons h8 (obs_cons h9 (obs_cons h10 (obs_cons h11 (obs_cons h11 obs_nil)))))))))))))
            ·rcases cond_inv h with ⟨h12, h⟩ | ⟨h12, h⟩
             ·obtain rfl := Option.some.inj h
              exact Reach.done ttok mix yFt (p166_e_12 a0) (obs_cons h0 (obs_cons h1 (obs_cons h2 (obs_cons h3 (obs_cons h4 (obs_cons h5 (obs_cons h6 (obs_cons h7 (obs_cons h8 (obs_cons h9 (obs_cons h10 (obs_cons h11 (obs_cons h12 obs_nil)))))))))))))
             ·rcases cond_inv h with ⟨h13, h⟩ | ⟨h13, h⟩
              ·obtain rfl := Option.some.inj h
               exact Reach.done ttok mix yFt (p166_e_13 a0) (obs_cons h0 (obs_cons h1 (obs_cons h2 (obs_cons h3 (obs_cons h4 (obs_cons h5 (obs_cons h6 (obs_cons h7 (obs_cons h8 (obs_cons h9 (obs_cons h10 (obs_cons h11 (obs_cons h12 (obs_cons h13 (obs_cons h13 obs_nil)))))))))))))))
              ·rcases cond_inv h with ⟨h14, h⟩ | ⟨h14, h⟩
               ·obtain rfl := Option.some.inj h
                exact Reach.done ttok mix yFt (p166_e_14 a0) (obs_cons h0 (obs_cons h1 (obs_cons h2 (obs_cons h3 (obs_cons h4 (obs_cons h5 (obs_cons h6 (obs_cons h7 (obs_cons h8 (obs_cons h9 (obs_cons h10 (obs_cons h11 (obs_cons h12 (obs_cons h13 (obs_cons h14 (obs_cons h14 obs_nil))))))))))))))))
               ·rcases cond_inv h with ⟨h15, h⟩ | ⟨h15, h⟩
                ·obtain rfl := Option.some.inj h
                 exact Reach.done ttok mix yFt (p166_e_15 a0) (obs_cons h0 (obs_cons h1 (obs_cons h2 (obs_cons h3 (obs_cons h4 (obs_cons h5 (obs_cons h6 (obs_cons h7 (obs_cons h8 (obs_cons h9 (obs_cons h10 (obs_cons h11 (obs_cons h12 (obs_cons h13 (obs_cons h14 (obs_cons h15 obs_nil))))))))))))))))
                ·rcases cond_inv h with ⟨h16, h⟩ | ⟨h16, h⟩
                 ·obtain rfl := Option.some.inj h
                  exact Reach.done ttok mix yFt (p166_e_16 a0) (obs_cons h0 (obs_cons h1 (obs_cons h2 (obs_cons h3 (obs_cons h4 (obs_cons h5 (obs_cons h6 (obs_cons h7 (obs_cons h8 (obs_cons h9 (obs_cons h10 (obs_cons h11 (obs_cons h12 (obs_cons h13 (obs_cons h14 (obs_cons h15 (obs_cons h16 obs_nil)))))))))))))))))
                 ·obtain rfl := Option.some.inj h
                  exact Reach.done ttok mix yFt (p166_e_17 a0) (obs_cons h0 (obs_cons h1 (obs_cons h2 (obs_cons h3 (obs_cons h4 (obs_cons h5 (obs_cons h6 (obs_cons h7 (obs_cons h8 (obs_cons h9 (obs_cons h10 (obs_cons h11 (obs_cons h12 (obs_cons h13 (obs_cons h14 (obs_cons h15 (obs_cons h16 obs_nil)))))))))))))))))
theorem yFK {N : Nat} {a0 : Str} {r : Int} (h : yCR N  a0 = some r) : AbC 166 (yAg a0) (yAf r) :=
 AbsCalls.of_reach yFt rfl rfl (Nat.le_of_ble_eq_true rfl) (c166_e a0 r h)
noncomputable def I164 : Info := { body := (Try.f164.body).getD .skip, nt := 15, results := [.tmp 2], keep := [0, 4, 6, 8], live := [], modes := [], ext := [], lnt := [], casts := [], fcast := [] }
theorem fk164 : FnOk Try.prog 164 Try.f164 I164 := ⟨Try.func164, by kernel_rfl, by kernel_rfl, by kernel_rfl, by kernel_rfl⟩
theorem p164_e_0 (a0 : Str) : run tt (AbsCalls Try.prog) I164 3000 false [.code I164.body] ⟨(zBg 0 (yAN a0)), [true, true], [], []⟩ = some (.done (yAA true) [((a0 : Str) == [108, 101, 116]) = true, ((a0 : Str) == [108, 101, 116]) = true]) := by kernel_rfl
theorem p164_e_1 (a0 : Str) : run tt (AbsCalls Try.prog) I164 3000 false [.code I164.body] ⟨(zBg 0 (yAN a0)), [false, true, true], [], []⟩ = some (.done (yAA true) [((a0 : Str) == [108, 101, 116]) = false, ((a0 : Str) == [105, 110]) = true, ((a0 : Str) == [105, 110]) = true]) := by kernel_rfl
theorem p164_e_2 (a0 : Str) : run tt (AbsCalls Try.prog) I164 3000 false [.code I164.body] ⟨(zBg 0 (yAN a0)), [false, false, true, true], [], []⟩ = some (.done (yAA true) [((a0 : Str) == [108, 101, 116]) = false, ((a0 : Str) == [105, 110]) = false, ((a0 : Str) == [105, 102]) = true, ((a0 : Str) == [105, 102]) = true]) := by kernel_rfl
theorem p164_e_3 (a0 : Str) : run tt (AbsCalls Try.prog) I164 3000 false [.code I164.body] ⟨(zBg 0 (yAN a0)), [false, false, false, true, true], [], []⟩ = some (.done (yAA true) [((a0 : Str) == [108, 101, 116]) = false, ((a0 : Str) == [105, 110]) = false, ((a0 : Str) == [105, 102]) = false, ((a0 : Str) == [116, 104, 101, 110]) = true, ((a0 : Str) == [116, 104, 101, 110]) = true]) := by kernel_rfl
theorem p164_e_4 (a0 : Str) : run tt (AbsCalls Try.prog) I164 3000 false [.code I164.body] ⟨(zBg 0 (yAN a0)), [false, false, false, false, true, true], [], []⟩ = some (.done (yAA true) [((a0 : Str) == [108, 101, 116]) = false, ((a0 : Str) == [105, 110]) = false, ((a0 : Str) == [105, 102]) = false, ((a0 : Str) == [116, 104, 101, 110]) = false, ((a0 : Str) == [101, 108, 115, 101]) = true, ((a0 : Str) == [101, 108, 115, 101]) = true]) := by kernel_rfl
theorem p164_e_5 (a0 : Str) : run tt (AbsCalls Try.prog) I164 3000 false [.code I164.body] ⟨(zBg 0 (yAN a0)), [false, false, false, false, false, true, true], [], []⟩ = some (.done (yAA true) [((a0 : Str) == [108, 101, 116]) = false, ((a0 : Str) == [105, 110]) = false, ((a0 : Str) == [105, 102]) = false, ((a0 : Str) == [116, 104, 101, 110]) = false, ((a0 : Str) == [101, 108, 115, 101]) = false, ((a0 : Str) == [102, 111, 114]) = true, ((a0 : Str) == [102, 111, 114]) = true]) := by kernel_rfl
theorem p164_e_6 (a0 : Str) : run tt (AbsCalls Try.prog) I164 3000 false [.code I164.body] ⟨(zBg 0 (yAN a0)), [false, false, false, false, false, false, true], [], []⟩ = some (.done (yAA true) [((a0 : Str) == [108, 101, 116]) = false, ((a0 : Str) == [105, 110]) = false, ((a0 : Str) == [105, 102]) = false, ((a0 : Str) == [116, 104, 101, 110]) = false, ((a0 : Str) == [101, 108, 115, 101]) = false, ((a0 : Str) == [102, 111, 114]) = false, ((a0 : Str) == [100, 111]) = true]) := by kernel_rfl
theorem p164_e_7 (a0 : Str) (r1 : Int) : run tt (AbsCalls Try.prog) I164 3000 false [.code I164.body] ⟨(zBg 0 (yAN a0)), [false, false, false, false, false, false, false], [yAf r1], []⟩ = some (.done (yAA (decide ((r1 : Int) ≥ 0))) [((a0 : Str) == [108, 101, 116]) = false, ((a0 : Str) == [105, 110]) = false, ((a0 : Str) == [105, 102]) = false, ((a0 : Str) == [116, 104, 101, 110]) = false, ((a0 : Str) == [101, 108, 115, 101]) = false, ((a0 : Str) == [102, 111, 114]) = false, ((a0 : Str) == [100, 111]) = false, AbC 166 (yAg a0) (yAf r1)]) := by kernel_rfl
theorem c164_e {N : Nat} : ∀ a0 r, yC4 N a0 = some r → Reach Try.prog Try.f164 I164 [.code I164.body] (zBg 0 (yAN a0)) (yAA r) := by
 intro a0 r h
 unfold yC4 at h
 rcases cond_inv h with ⟨h0, h⟩ | ⟨h0, h⟩
 ·obtain rfl := Option.some.inj h
  exact Reach.done ttok mix fk164 (p164_e_0 a0) (obs_cons h0 (obs_cons h0 obs_nil))
 ·rcases cond_inv h with ⟨h1, h⟩ | ⟨h1, h⟩
  ·obtain rfl := Option.some.inj h
   exact Reach.done ttok mix fk164 (p164_e_1 a0) (obs_cons h0 (obs_cons h1 (obs_cons h1 obs_nil)))
  ·rcases cond_inv h with ⟨h2, h⟩ | ⟨h2, h⟩
   ·obtain rfl := Option.some.inj h
    exact Reach.done ttok mix fk164 (p164_e_2 a0) (obs_cons h0 (obs_cons h1 (obs_cons h2 (obs_cons h2 obs_nil))))
   ·rcases cond_inv h with ⟨h3, h⟩ | ⟨h3, h⟩
    ·obtain rfl := Option.some.inj h
     exact Reach.done ttok mix fk164 (p164_e_3 a0) (obs_cons h0 (obs_cons h1 (obs_cons h2 (obs_cons h3 (obs_cons h3 obs_nil)))))
    ·rcases cond_inv h with ⟨h4, h⟩ | ⟨h4, h⟩
     ·obtain rfl := Option.some.inj h
      exact Reach.done ttok mix fk164 (p164_e_4 a0) (obs_cons h0 (obs_cons h1 (obs_cons h2 (obs_cons h3 (obs_cons h4 (obs_cons h4 obs_nil))))))
     ·rcases cond_inv h with ⟨h5, h⟩ | ⟨h5, h⟩
      ·obtain rfl := Option.some.inj h
       exact Reach.done ttok mix fk164 (p164_e_5 a0) (obs_cons h0 (obs_cons h1 (obs_cons h2 (obs_cons h3 (obs_cons h4 (obs_cons h5 (obs_cons h5 obs_nil)))))))
      ·rcases cond_inv h with ⟨h6, h⟩ | ⟨h6, h⟩
       ·obtain rfl := Option.some.inj h
        exact Reach.done ttok mix fk164 (p164_e_6 a0) (obs_cons h0 (obs_cons h1 (obs_cons h2 (obs_cons h3 (obs_cons h4 (obs_cons h5 (obs_cons h6 obs_nil)))))))
       ·obtain ⟨r1, h7, h⟩ := bind_inv h
        obtain rfl := Option.some.inj h
        exact Reach.done ttok mix fk164 (p164_e_7 a0 r1) (obs_cons h0 (obs_cons h1 (obs_cons h2 (obs_cons h3 (obs_cons h4 (obs_cons h5 (obs_cons h6 (obs_cons (yFK h7) obs_nil))))))))
theorem impl_IsReserved_ok {N : Nat} {a0 : Str} {r : Bool} (h : yC4 N  a0 = some r) : AbC 164 (yAN a0) (yAA r) :=
 AbsCalls.of_reach fk164 rfl rfl (Nat.le_of_ble_eq_true rfl) (c164_e a0 r h)
noncomputable def I158 : Info := { body := (Try.f158.body).getD .skip, nt := 10, results := [.tmp 2], keep := [0, 4], live := [], modes := [(1, [(2, .take, false)])], ext := [], lnt := [], casts := [], fcast := [] }
theorem fk158 : FnOk Try.prog 158 Try.f158 I158 := ⟨Try.func158, by kernel_rfl, by kernel_rfl, by kernel_rfl, by kernel_rfl⟩
theorem p158_e_0 (a0 : Str) (r1 r2 : Bool) : run tt (AbsCalls Try.prog) I158 3000 false [.code I158.body] ⟨(zBg 0 (yBT a0)), [true], [yAX r1, yAA r2], []⟩ = some (.done (yA9 (!r2)) [AbC 163 (yD7 a0) (yAX r1), r1 = true, AbC 164 (yAN a0) (yAA r2)]) := by kernel_rfl
theorem p158_e_1 (a0 : Str) (r1 : Bool) : run tt (AbsCalls Try.prog) I158 3000 false [.code I158.body] ⟨(zBg 0 (yBT a0)), [false], [yAX r1], []⟩ = some (.done (yA9 false) [AbC 163 (yD7 a0) (yAX r1), r1 = false]) := by kernel_rfl
theorem c158_e {N : Nat} : ∀ a0 r, yCJ N a0 = some r → Reach Try.prog Try.f158 I158 [.code I158.body] (zBg 0 (yBT a0)) (yA9 r) := by
 intro a0 r h
 unfold yCJ at h
 obtain ⟨r1, h0, h⟩ := bind_inv h
 rcases cond_inv h with ⟨h1, h⟩ | ⟨h1, h⟩
 ·obtain ⟨r2, h2, h⟩ := bind_inv h
  obtain rfl := Option.some.inj h
  exact Reach.done ttok mix fk158 (p158_e_0 a0 r1 r2) (obs_cons (yF1 h0) (obs_cons h1 (obs_cons (impl_IsReserved_ok h2) obs_nil)))
 ·obtain rfl := Option.some.inj h
  exact Reach.done ttok mix fk158 (p158_e_1 a0 r1) (obs_cons (yF1 h0) (obs_cons h1 obs_nil))
theorem yEY {N : Nat} {a0 : Str} {r : Bool} (h : yCJ N  a0 = some r) : AbC 158 (yBT a0) (yA9 r) :=
 AbsCalls.of_reach fk158 rfl rfl (Nat.le_of_ble_eq_true rfl) (c158_e a0 r h)
noncomputable def I146 : Info := { body := (Try.f146.body).getD .skip, nt := 19, results := [.tmp 4], keep := [0, 2, 8, 10, 12, 14, 16, 18, 20, 32], live := [(2, [2, 14, 16, 18])], modes := [(4, [(0, .take, false)]), (5, [(0, .take, false)]), (6, [(1, .take, false)])], ext := [], lnt := [], casts := [], fcast := [] }
theorem fk146 : FnOk Try.prog 146 Try.f146 I146 := ⟨Try.func146, by kernel_rfl, by kernel_rfl, by kernel_rfl, by kernel_rfl⟩
def S146_2 (x1 : Str) (x7 : List Str) (x8 x9 : Int) : St := [(2, .v false [.str x1]), (14, .v false [.sl .ro .str x7]), (16, .v false [.int .i64 x8]), (18, .v false [.int .i64 x9])]
theorem p146_2_0 (x1 : Str) (x7 : List Str) (x8 x9 : Int) : run tt (AbsCalls Try.prog) I146 3000 true (stkAt 2 I146.body) ⟨(S146_2 x1 x7 x8 x9), [true, true], [], []⟩ = some (.done (yBH x9) [(decide ((x9 : Int) < x8)) = true, (0 : Int) ≤ x9 ∧ x9 < (List.length x7), (((List.getD x7 (Int.toNat x9) Ty.str.dflt) : Str) == x1) = true]) := by kernel_rfl
theorem p146_2_1 (x1 : Str) (x7 : List Str) (x8 x9 : Int) : run tt (AbsCalls Try.prog) I146 3000 true (stkAt 2 I146.body) ⟨(S146_2 x1 x7 x8 x9), [true, false], [], []⟩ = some (.stop (stkAt 2 I146.body) (S146_2 x1 x7 x8 (IntKind.i64.wrap (x9 + 1))) [(decide ((x9 : Int) < x8)) = true, (0 : Int) ≤ x9 ∧ x9 < (List.length x7), (((List.getD x7 (Int.toNat x9) Ty.str.dflt) : Str) == x1) = false]) := by kernel_rfl
theorem p146_2_2 (x1 : Str) (x7 : List Str) (x8 x9 : Int) : run tt (AbsCalls Try.prog) I146 3000 true (stkAt 2 I146.body) ⟨(S146_2 x1 x7 x8 x9), [false], [], []⟩ = some (.done (yBH (-1)) [(decide ((x9 : Int) < x8)) = false]) := by kernel_rfl
theorem p146_e_3 (a0 : List Str) (a1 : Str) : run tt (AbsCalls Try.prog) I146 3000 false [.code I146.body] ⟨(zBg 0 (yDO a0 a1)), [], [], []⟩ = some (.stop (stkAt 2 I146.body) (S146_2 a1 a0 (List.length a0 : Int) 0) []) := by kernel_rfl
theorem c146_2 {N : Nat} : ∀ n x1 x7 x8 x9 r, yB4 N n x1 x7 x8 x9 = some r → Reach Try.prog Try.f146 I146 (stkAt 2 I146.body) (S146_2 x1 x7 x8 x9) (yBH r) := by
 intro n
 induction n with
 | zero => intro x1 x7 x8 x9 r h; have h' : (none : Option (Int)) = some r := h; cases h'
 | succ n ih =>
  intro x1 x7 x8 x9 r h
  rw [yB4] at h
  rcases cond_inv h with ⟨h0, h⟩ | ⟨h0, h⟩
  ·obtain ⟨h1, h⟩ := ite_inv h
   rcases cond_inv h with ⟨h2, h⟩ | ⟨h2, h⟩
   ·obtain rfl := Option.some.inj h
    exact Reach.done ttok mix fk146 (p146_2_0 x1 x7 x8 x9) (obs_cons h0 (obs_cons h1 (obs_cons h2 obs_nil)))
   ·exact Reach.stop ttok mix fk146 (p146_2_1 x1 x7 x8 x9) (obs_cons h0 (obs_cons h1 (obs_cons h2 obs_nil))) (ih _ _ _ _ _ h)
  ·obtain rfl := Option.some.inj h
   exact Reach.done ttok mix fk146 (p146_2_2 x1 x7 x8 x9) (obs_cons h0 obs_nil)
theorem c146_e {N : Nat} : ∀ a0 a1 r, yEK N a0 a1 = some r → Reach Try.prog Try.f146 I146 [.code I146.body] (zBg 0 (yDO a0 a1)) (yBH r) := by
 intro a0 a1 r h
 unfold yEK at h
 exact Reach.stop ttok mix fk146 (p146_e_3 a0 a1) obs_nil (c146_2   _ _ _ _ _ _ h)
theorem yFL {N : Nat} {a0 : List Str} {a1 : Str} {r : Int} (h : yEK N  a0 a1 = some r) : AbC 146 (yDO a0 a1) (yBH r) :=
 AbsCalls.of_reach fk146 rfl rfl (Nat.le_of_ble_eq_true rfl) (c146_e a0 a1 r h)
noncomputable def I159 : Info := { body := (Try.f159.body).getD .skip, nt := 18, results := [.tmp 2], keep := [0, 4, 6, 8, 10, 12, 14, 16, 32], live := [(2, [0, 10, 12, 14])], modes := [(4, [(1, .take, false), (3, .take, false)]), (6, [(1, .take, false)])], ext := [], lnt := [], casts := [], fcast := [] }
theorem fk159 : FnOk Try.prog 159 Try.f159 I159 := ⟨Try.func159, by kernel_rfl, by kernel_rfl, by kernel_rfl, by kernel_rfl⟩
def S159_2 (x0 x5 : List Str) (x6 x7 : Int) : St := [(0, .v false [.sl .ro .str x0]), (10, .v false [.sl .ro .str x5]), (12, .v false [.int .i64 x6]), (14, .v false [.int .i64 x7])]
theorem p159_2_0 (x0 x5 : List Str) (x6 x7 r1 : Int) : run tt (AbsCalls Try.prog) I159 3000 true (stkAt 2 I159.body) ⟨(S159_2 x0 x5 x6 x7), [true, true], [yBH r1], []⟩ = some (.done (yBt false) [(decide ((x7 : Int) < x6)) = true, (0 : Int) ≤ x7 ∧ x7 < (List.length x5), AbC 146 (yDO x0 (List.getD x5 (Int.toNat x7) Ty.str.dflt)) (yBH r1), ((r1 : Int) != x7) = true]) := by kernel_rfl
theorem p159_2_1 (x0 x5 : List Str) (x6 x7 r1 : Int) : run tt (AbsCalls Try.prog) I159 3000 true (stkAt 2 I159.body) ⟨(S159_2 x0 x5 x6 x7), [true, false], [yBH r1], []⟩ = some (.stop (stkAt 2 I159.body) (S159_2 x0 x5 x6 (IntKind.i64.wrap (x7 + 1))) [(decide ((x7 : Int) < x6)) = true, (0 : Int) ≤ x7 ∧ x7 < (List.length x5), AbC 146 (yDO x0 (List.getD x5 (Int.toNat x7) Ty.str.dflt)) (yBH r1), ((r1 : Int) != x7) = false]) := by kernel_rfl
theorem p159_2_2 (x0 x5 : List Str) (x6 x7 : Int) : run tt (AbsCalls Try.prog) I159 3000 true (stkAt 2 I159.body) ⟨(S159_2 x0 x5 x6 x7), [false], [], []⟩ = some (.done (yBt true) [(decide ((x7 : Int) < x6)) = false]) := by kernel_rfl
theorem p159_e_3 (a0 : List Str) : run tt (AbsCalls Try.prog) I159 3000 false [.code I159.body] ⟨(zBg 0 (yDe a0)), [], [], []⟩ = some (.stop (stkAt 2 I159.body) (S159_2 a0 a0 (List.length a0 : Int) 0) []) := by kernel_rfl
theorem c159_2 {N : Nat} : ∀ n x0 x5 x6 x7 r, yA8 N n x0 x5 x6 x7 = some r → Reach Try.prog Try.f159 I159 (stkAt 2 I159.body) (S159_2 x0 x5 x6 x7) (yBt r) := by
 intro n
 induction n with
 | zero => intro x0 x5 x6 x7 r h; have h' : (none : Option (Bool)) = some r := h; cases h'
 | succ n ih =>
  intro x0 x5 x6 x7 r h
  rw [yA8] at h
  rcases cond_inv h with ⟨h0, h⟩ | ⟨h0, h⟩
  ·obtain ⟨h1, h⟩ := ite_inv h
   obtain ⟨r1, h2, h⟩ := bind_inv h
   rcases cond_inv h with ⟨h3, h⟩ | ⟨h3, h⟩
   ·obtain rfl := Option.some.inj h
    exact Reach.done ttok mix fk159 (p159_2_0 x0 x5 x6 x7 r1) (obs_cons h0 (obs_cons h1 (obs_cons (yFL h2) (obs_cons h3 obs_nil))))
   ·exact Reach.stop ttok mix fk159 (p159_2_1 x0 x5 x6 x7 r1) (obs_cons h0 (obs_cons h1 (obs_cons (yFL h2) (obs_cons h3 obs_nil)))) (ih _ _ _ _ _ h)
  ·obtain rfl := Option.some.inj h
   exact Reach.done ttok mix fk159 (p159_2_2 x0 x5 x6 x7) (obs_cons h0 obs_nil)
theorem c159_e {N : Nat} : ∀ a0 r, yDm N a0 = some r → Reach Try.prog Try.f159 I159 [.code I159.body] (zBg 0 (yDe a0)) (yBt r) := by
 intro a0 r h
 unfold yDm at h
 exact Reach.stop ttok mix fk159 (p159_e_3 a0) obs_nil (c159_2   _ _ _ _ _ _ h)
theorem yF8 {N : Nat} {a0 : List Str} {r : Bool} (h : yDm N  a0 = some r) : AbC 159 (yDe a0) (yBt r) :=
 AbsCalls.of_reach fk159 rfl rfl (Nat.le_of_ble_eq_true rfl) (c159_e a0 r h)
noncomputable def I153 : Info := { body := (Try.f153.body).getD .skip, nt := 22, results := [.tmp 2], keep := [0, 4, 8, 10, 12, 14, 16, 26], live := [(2, [0, 10, 12, 14])], modes := [(4, [(0, .take, false)]), (6, [(1, .take, false)]), (7, [(3, .take, false)])], ext := [], lnt := [], casts := [], fcast := [] }
theorem fk153 : FnOk Try.prog 153 Try.f153 I153 := ⟨Try.func153, by kernel_rfl, by kernel_rfl, by kernel_rfl, by kernel_rfl⟩
def S153_2 (x0 x5 : List Str) (x6 x7 : Int) : St := [(0, .v false [.sl .ro .str x0]), (10, .v false [.sl .ro .str x5]), (12, .v false [.int .i64 x6]), (14, .v false [.int .i64 x7])]
theorem p153_2_0 (x0 x5 : List Str) (x6 x7 : Int) (r1 : Bool) : run tt (AbsCalls Try.prog) I153 3000 true (stkAt 2 I153.body) ⟨(S153_2 x0 x5 x6 x7), [true, true], [yA9 r1], []⟩ = some (.done (yAB false) [(decide ((x7 : Int) < x6)) = true, (0 : Int) ≤ x7 ∧ x7 < (List.length x5), AbC 158 (yBT (List.getD x5 (Int.toNat x7) Ty.str.dflt)) (yA9 r1), (!r1) = true]) := by kernel_rfl
theorem p153_2_1 (x0 x5 : List Str) (x6 x7 : Int) (r1 : Bool) : run tt (AbsCalls Try.prog) I153 3000 true (stkAt 2 I153.body) ⟨(S153_2 x0 x5 x6 x7), [true, false], [yA9 r1], []⟩ = some (.stop (stkAt 2 I153.body) (S153_2 x0 x5 x6 (IntKind.i64.wrap (x7 + 1))) [(decide ((x7 : Int) < x6)) = true, (0 : Int) ≤ x7 ∧ x7 < (List.length x5), AbC 158 (yBT (List.getD x5 (Int.toNat x7) Ty.str.dflt)) (yA9 r1), (!r1) = false]) := by kernel_rfl
theorem p153_2_2 (x0 x5 : List Str) (x6 x7 : Int) (r1 r2 : Bool) : run tt (AbsCalls Try.prog) I153 3000 true (stkAt 2 I153.body) ⟨(S153_2 x0 x5 x6 x7), [false, true], [yAY r1, yBt r2], []⟩ = some (.done (yAB r2) [(decide ((x7 : Int) < x6)) = false, AbC 101 (yB2 (List.length x0 : Int) 1 4) (yAY r1), r1 = true, AbC 159 (yDe x0) (yBt r2)]) := by kernel_rfl
theorem p153_2_3 (x0 x5 : List Str) (x6 x7 : Int) (r1 : Bool) : run tt (AbsCalls Try.prog) I153 3000 true (stkAt 2 I153.body) ⟨(S153_2 x0 x5 x6 x7), [false, false], [yAY r1], []⟩ = some (.done (yAB false) [(decide ((x7 : Int) < x6)) = false, AbC 101 (yB2 (List.length x0 : Int) 1 4) (yAY r1), r1 = false]) := by kernel_rfl
theorem p153_e_4 (a0 : List Str) : run tt (AbsCalls Try.prog) I153 3000 false [.code I153.body] ⟨(zBg 0 (yB8 a0)), [], [], []⟩ = some (.stop (stkAt 2 I153.body) (S153_2 a0 a0 (List.length a0 : Int) 0) []) := by kernel_rfl
theorem c153_2 {N : Nat} : ∀ n x0 x5 x6 x7 r, yBI N n x0 x5 x6 x7 = some r → Reach Try.prog Try.f153 I153 (stkAt 2 I153.body) (S153_2 x0 x5 x6 x7) (yAB r) := by
 intro n
 induction n with
 | zero => intro x0 x5 x6 x7 r h; have h' : (none : Option (Bool)) = some r := h; cases h'
 | succ n ih =>
  intro x0 x5 x6 x7 r h
  rw [yBI] at h
  rcases cond_inv h with ⟨h0, h⟩ | ⟨h0, h⟩
  ·obtain ⟨h1, h⟩ := ite_inv h
   obtain ⟨r1, h2, h⟩ := bind_inv h
   rcases cond_inv h with ⟨h3, h⟩ | ⟨h3, h⟩
   ·obtain rfl := Option.some.inj h
    exact Reach.done ttok mix fk153 (p153_2_0 x0 x5 x6 x7 r1) (obs_cons h0 (obs_cons h1 (obs_cons (yEY h2) (obs_cons h3 obs_nil))))
   ·exact Reach.stop ttok mix fk153 (p153_2_1 x0 x5 x6 x7 r1) (obs_cons h0 (obs_cons h1 (obs_cons (yEY h2) (obs_cons h3 obs_nil)))) (ih _ _ _ _ _ h)
  ·obtain ⟨r1, h1, h⟩ := bind_inv h
   rcases cond_inv h with ⟨h2, h⟩ | ⟨h2, h⟩
   ·obtain ⟨r2, h3, h⟩ := bind_inv h
    obtain rfl := Option.some.inj h
    exact Reach.done ttok mix fk153 (p153_2_2 x0 x5 x6 x7 r1 r2) (obs_cons h0 (obs_cons (yD8 h1) (obs_cons h2 (obs_cons (yF8 h3) obs_nil))))
   ·obtain rfl := Option.some.inj h
    exact Reach.done ttok mix fk153 (p153_2_3 x0 x5 x6 x7 r1) (obs_cons h0 (obs_cons (yD8 h1) (obs_cons h2 obs_nil)))
theorem c153_e {N : Nat} : ∀ a0 r, yDP N a0 = some r → Reach Try.prog Try.f153 I153 [.code I153.body] (zBg 0 (yB8 a0)) (yAB r) := by
 intro a0 r h
 unfold yDP at h
 exact Reach.stop ttok mix fk153 (p153_e_4 a0) obs_nil (c153_2   _ _ _ _ _ _ h)
theorem yEm {N : Nat} {a0 : List Str} {r : Bool} (h : yDP N  a0 = some r) : AbC 153 (yB8 a0) (yAB r) :=
 AbsCalls.of_reach fk153 rfl rfl (Nat.le_of_ble_eq_true rfl) (c153_e a0 r h)
noncomputable def I154 : Info := { body := (Try.f154.body).getD .skip, nt := 24, results := [.tmp 4], keep := [0, 2, 4, 6, 8, 5, 7], live := [], modes := [(1, [(5, .take, false), (11, .take, false)])], ext := [], lnt := [], casts := [], fcast := [] }
theorem fk154 : FnOk Try.prog 154 Try.f154 I154 := ⟨Try.func154, by kernel_rfl, by kernel_rfl, by kernel_rfl, by kernel_rfl⟩
theorem p154_e_0 (a0 a1 : Org) : run tt (AbsCalls Try.prog) I154 3000 false [.code I154.body] ⟨(zBg 0 (yBh a0 a1)), [true], [], []⟩ = some (.done (yAR true) [(decide (((Org.cell a0) : Int) < (Org.cell a1))) = true]) := by kernel_rfl
theorem p154_e_1 (a0 a1 : Org) : run tt (AbsCalls Try.prog) I154 3000 false [.code I154.body] ⟨(zBg 0 (yBh a0 a1)), [false, true], [], []⟩ = some (.done (yAR (decide (((Org.row a0) : Int) < (Org.row a1)))) [(decide (((Org.cell a0) : Int) < (Org.cell a1))) = false, (((Org.cell a0) : Int) == (Org.cell a1)) = true]) := by kernel_rfl
theorem p154_e_2 (a0 a1 : Org) : run tt (AbsCalls Try.prog) I154 3000 false [.code I154.body] ⟨(zBg 0 (yBh a0 a1)), [false, false], [], []⟩ = some (.done (yAR false) [(decide (((Org.cell a0) : Int) < (Org.cell a1))) = false, (((Org.cell a0) : Int) == (Org.cell a1)) = false]) := by kernel_rfl
theorem c154_e {N : Nat} : ∀ a0 a1 r, yC5 N a0 a1 = some r → Reach Try.prog Try.f154 I154 [.code I154.body] (zBg 0 (yBh a0 a1)) (yAR r) := by
 intro a0 a1 r h
 unfold yC5 at h
 rcases cond_inv h with ⟨h0, h⟩ | ⟨h0, h⟩
 ·obtain rfl := Option.some.inj h
  exact Reach.done ttok mix fk154 (p154_e_0 a0 a1) (obs_cons h0 obs_nil)
 ·rcases cond_inv h with ⟨h1, h⟩ | ⟨h1, h⟩
  ·obtain rfl := Option.some.inj h
   exact Reach.done ttok mix fk154 (p154_e_1 a0 a1) (obs_cons h0 (obs_cons h1 obs_nil))
  ·obtain rfl := Option.some.inj h
   exact Reach.done ttok mix fk154 (p154_e_2 a0 a1) (obs_cons h0 (obs_cons h1 obs_nil))
theorem yER {N : Nat} {a0 : Org} {a1 : Org} {r : Bool} (h : yC5 N  a0 a1 = some r) : AbC 154 (yBh a0 a1) (yAR r) :=
 AbsCalls.of_reach fk154 rfl rfl (Nat.le_of_ble_eq_true rfl) (c154_e a0 a1 r h)
noncomputable def I143 : Info := { body := (Try.f143.body).getD .skip, nt := 77, results := [.tmp 2], keep := [0, 2, 4, 8, 12, 14, 16, 36, 40, 42, 44, 46, 64, 68, 70, 72, 74, 84, 90, 92, 94, 96, 148, 3, 9, 17], live := [(4, [2, 40, 42, 44, 3]), (9, [2, 8, 40, 42, 44, 68, 70, 72, 3, 9]), (15, [2, 8, 40, 42, 44, 90, 92, 94, 3, 9])], modes := [(1, [(4, .take, false)]), (11, [(0, .take, false)]), (13, [(1, .take, false)]), (17, [(3, .take, false), (8, .take, false), (11, .take, false)]), (19, [(1, .take, false)]), (20, [(1, .take, false)])], ext := [], lnt := [], casts := [], fcast := [] }
theorem yFS : FnOk Try.prog 143 Try.f143 I143 := ⟨Try.func143, by kernel_rfl, by kernel_rfl, by kernel_rfl, by kernel_rfl⟩
def S143_4 (x20 : List Rowd) (x21 x22 : Int) (b1 : Val) : St := [(2, .v false [.ptr 1 0]), (40, .v false [.sl .ro .row x20]), (42, .v false [.int .i64 x21]), (44, .v false [.int .i64 x22]), (3, .v true [.int .i64 (Val.kind b1), .int .i64 (Val.n b1), .int .i64 (Val.step b1), .str (Val.text b1), .sl .ro .val (Val.list b1), .sl .ro .str (Val.columns b1), .sl .ro .row (Val.rows b1)])]
def S143_9 (x20 : List Rowd) (x21 x22 : Int) (x34 : List Int) (x35 x36 : Int) (b1 : Val) (b4 : Rowd) : St := [(2, .v false [.ptr 1 0]), (8, .v false [.ptr 4 0]), (40, .v false [.sl .ro .row x20]), (42, .v false [.int .i64 x21]), (44, .v false [.int .i64 x22]), (68, .v false [.sl .ro .int x34]), (70, .v false [.int .i64 x35]), (72, .v false [.int .i64 x36]), (3, .v true [.int .i64 (Val.kind b1), .int .i64 (Val.n b1), .int .i64 (Val.step b1), .str (Val.text b1), .sl .ro .val (Val.list b1), .sl .ro .str (Val.columns b1), .sl .ro .row (Val.rows b1)]), (9, .v true [.sl .ro .int (Rowd.cells b4), .sl .ro .org (Rowd.frm b4)])]
def yFi (x20 : List Rowd) (x21 x22 : Int) (x45 : List Org) (x46 x47 : Int) (b1 : Val) (b4 : Rowd) : St := [(2, .v false [.ptr 1 0]), (8, .v false [.ptr 4 0]), (40, .v false [.sl .ro .row x20]), (42, .v false [.int .i64 x21]), (44, .v false [.int .i64 x22]), (90, .v false [.sl .ro .org x45]), (92, .v false [.int .i64 x46]), (94, .v false [.int .i64 x47]), (3, .v true [.int .i64 (Val.kind b1), .int .i64 (Val.n b1), .int .i64 (Val.step b1), .str (Val.text b1), .sl .ro .val (Val.list b1), .sl .ro .str (Val.columns b1), .sl .ro .row (Val.rows b1)]), (9, .v true [.sl .ro .int (Rowd.cells b4), .sl .ro .org (Rowd.frm b4)])]
theorem p143_15_0 (x20 : List Rowd) (x21 x22 : Int) (x45 : List Org) (x46 x47 : Int) (b1 : Val) (b4 : Rowd) : run tt (AbsCalls Try.prog) I143 3000 true (stkAt 15 I143.body) ⟨(yFi x20 x21 x22 x45 x46 x47 b1 b4), [true, true, true, true], [], []⟩ = some (.done (yAq false) [(decide ((x47 : Int) < x46)) = true, (0 : Int) ≤ x47 ∧ x47 < (List.length x45), (decide (((Org.cell (List.getD x45 (Int.toNat x47) Ty.org.dflt)) : Int) < 0)) = true, true = true, true = true]) := by kernel_rfl
theorem p143_15_1 (x20 : List Rowd) (x21 x22 : Int) (x45 : List Org) (x46 x47 : Int) (b1 : Val) (b4 : Rowd) : run tt (AbsCalls Try.prog) I143 3000 true (stkAt 15 I143.body) ⟨(yFi x20 x21 x22 x45 x46 x47 b1 b4), [true, false, true, true], [], []⟩ = some (.done (yAq false) [(decide ((x47 : Int) < x46)) = true, (0 : Int) ≤ x47 ∧ x47 < (List.length x45), (decide (((Org.cell (List.getD x45 (Int.toNat x47) Ty.org.dflt)) : Int) < 0)) = false, (decide (((Org.row (List.getD x45 (Int.toNat x47) Ty.org.dflt)) : Int) < 0)) = true, true = true]) := by kernel_rfl
theorem p143_15_2 (x20 : List Rowd) (x21 x22 : Int) (x45 : List Org) (x46 x47 : Int) (b1 : Val) (b4 : Rowd) (r1 : Bool) : run tt (AbsCalls Try.prog) I143 3000 true (stkAt 15 I143.body) ⟨(yFi x20 x21 x22 x45 x46 x47 b1 b4), [true, false, false, true, true], [yAR r1], []⟩ = some (.done (yAq false) [(decide ((x47 : Int) < x46)) = true, (0 : Int) ≤ x47 ∧ x47 < (List.length x45), (decide (((Org.cell (List.getD x45 (Int.toNat x47) Ty.org.dflt)) : Int) < 0)) = false, (decide (((Org.row (List.getD x45 (Int.toNat x47) Ty.org.dflt)) : Int) < 0)) = false, (decide ((x47 : Int) > 0)) = true, (0 : Int) ≤ (IntKind.i64.wrap (x47 - 1)) ∧ (IntKind.i64.wrap (x47 - 1)) < (List.length (Rowd.frm b4)), AbC 154 (yBh (List.getD (Rowd.frm b4) (Int.toNat (IntKind.i64.wrap (x47 - 1))) Ty.org.dflt) (List.getD x45 (Int.toNat x47) Ty.org.dflt)) (yAR r1), (!r1) = true]) := by kernel_rfl
theorem p143_15_3 (x20 : List Rowd) (x21 x22 : Int) (x45 : List Org) (x46 x47 : Int) (b1 : Val) (b4 : Rowd) (r1 : Bool) : run tt (AbsCalls Try.prog) I143 3000 true (stkAt 15 I143.body) ⟨(yFi x20 x21 x22 x45 x46 x47 b1 b4), [true, false, false, true, false], [yAR r1], []⟩ = some (.stop (stkAt 15 I143.body) (yFi x20 x21 x22 x45 x46 (IntKind.i64.wrap (x47 + 1)) b1 b4) [(decide ((x47 : Int) < x46)) = true, (0 : Int) ≤ x47 ∧ x47 < (List.length x45), (decide (((Org.cell (List.getD x45 (Int.toNat x47) Ty.org.dflt)) : Int) < 0)) = false, (decide (((Org.row (List.getD x45 (Int.toNat x47) Ty.org.dflt)) : Int) < 0)) = false, (decide ((x47 : Int) > 0)) = true, (0 : Int) ≤ (IntKind.i64.wrap (x47 - 1)) ∧ (IntKind.i64.wrap (x47 - 1)) < (List.length (Rowd.frm b4)), AbC 154 (yBh (List.getD (Rowd.frm b4) (Int.toNat (IntKind.i64.wrap (x47 - 1))) Ty.org.dflt) (List.getD x45 (Int.toNat x47) Ty.org.dflt)) (yAR r1), (!r1) = false]) := by kernel_rfl
theorem p143_15_4 (x20 : List Rowd) (x21 x22 : Int) (x45 : List Org) (x46 x47 : Int) (b1 : Val) (b4 : Rowd) : run tt (AbsCalls Try.prog) I143 3000 true (stkAt 15 I143.body) ⟨(yFi x20 x21 x22 x45 x46 x47 b1 b4), [true, false, false, false, false], [], []⟩ = some (.stop (stkAt 15 I143.body) (yFi x20 x21 x22 x45 x46 (IntKind.i64.wrap (x47 + 1)) b1 b4) [(decide ((x47 : Int) < x46)) = true, (0 : Int) ≤ x47 ∧ x47 < (List.length x45), (decide (((Org.cell (List.getD x45 (Int.toNat x47) Ty.org.dflt)) : Int) < 0)) = false, (decide (((Org.row (List.getD x45 (Int.toNat x47) Ty.org.dflt)) : Int) < 0)) = false, (decide ((x47 : Int) > 0)) = false, false = false]) := by kernel_rfl
theorem p143_15_5 (x20 : List Rowd) (x21 x22 : Int) (x45 : List Org) (x46 x47 : Int) (b1 : Val) (b4 : Rowd) : run tt (AbsCalls Try.prog) I143 3000 true (stkAt 15 I143.body) ⟨(yFi x20 x21 x22 x45 x46 x47 b1 b4), [false], [], []⟩ = some (.stop (stkAt 4 I143.body) (S143_4 x20 x21 (IntKind.i64.wrap (x22 + 1)) b1) [(decide ((x47 : Int) < x46)) = false]) := by kernel_rfl
theorem p143_9_6 (x20 : List Rowd) (x21 x22 : Int) (x34 : List Int) (x35 x36 : Int) (b1 : Val) (b4 : Rowd) (r1 : Bool) : run tt (AbsCalls Try.prog) I143 3000 true (stkAt 9 I143.body) ⟨(S143_9 x20 x21 x22 x34 x35 x36 b1 b4), [true, true], [yAy r1], []⟩ = some (.done (yAq false) [(decide ((x36 : Int) < x35)) = true, (0 : Int) ≤ x36 ∧ x36 < (List.length x34), AbC 104 (yBn (List.getD x34 (Int.toNat x36) Ty.int.dflt)) (yAy r1), (!r1) = true]) := by kernel_rfl
theorem p143_9_7 (x20 : List Rowd) (x21 x22 : Int) (x34 : List Int) (x35 x36 : Int) (b1 : Val) (b4 : Rowd) (r1 : Bool) : run tt (AbsCalls Try.prog) I143 3000 true (stkAt 9 I143.body) ⟨(S143_9 x20 x21 x22 x34 x35 x36 b1 b4), [true, false], [yAy r1], []⟩ = some (.stop (stkAt 9 I143.body) (S143_9 x20 x21 x22 x34 x35 (IntKind.i64.wrap (x36 + 1)) b1 b4) [(decide ((x36 : Int) < x35)) = true, (0 : Int) ≤ x36 ∧ x36 < (List.length x34), AbC 104 (yBn (List.getD x34 (Int.toNat x36) Ty.int.dflt)) (yAy r1), (!r1) = false]) := by kernel_rfl
theorem p143_9_8 (x20 : List Rowd) (x21 x22 : Int) (x34 : List Int) (x35 x36 : Int) (b1 : Val) (b4 : Rowd) : run tt (AbsCalls Try.prog) I143 3000 true (stkAt 9 I143.body) ⟨(S143_9 x20 x21 x22 x34 x35 x36 b1 b4), [false], [], []⟩ = some (.stop (stkAt 15 I143.body) (yFi x20 x21 x22 (Rowd.frm b4) (List.length (Rowd.frm b4) : Int) 0 b1 b4) [(decide ((x36 : Int) < x35)) = false]) := by kernel_rfl
theorem p143_4_9 (x20 : List Rowd) (x21 x22 : Int) (b1 : Val) : run tt (AbsCalls Try.prog) I143 3000 true (stkAt 4 I143.body) ⟨(S143_4 x20 x21 x22 b1), [true, true], [], []⟩ = some (.done (yAq false) [(decide ((x22 : Int) < x21)) = true, (0 : Int) ≤ x22 ∧ x22 < (List.length x20), (((List.length (Rowd.cells (List.getD x20 (Int.toNat x22) Ty.row.dflt)) : Int) : Int) != (List.length (Val.columns b1) : Int)) = true]) := by kernel_rfl
theorem p143_4_10 (x20 : List Rowd) (x21 x22 : Int) (b1 : Val) : run tt (AbsCalls Try.prog) I143 3000 true (stkAt 4 I143.body) ⟨(S143_4 x20 x21 x22 b1), [true, false], [], []⟩ = some (.stop (stkAt 9 I143.body) (S143_9 x20 x21 x22 (Rowd.cells (List.getD x20 (Int.toNat x22) Ty.row.dflt)) (List.length (Rowd.cells (List.getD x20 (Int.toNat x22) Ty.row.dflt)) : Int) 0 b1 (List.getD x20 (Int.toNat x22) Ty.row.dflt)) [(decide ((x22 : Int) < x21)) = true, (0 : Int) ≤ x22 ∧ x22 < (List.length x20), (((List.length (Rowd.cells (List.getD x20 (Int.toNat x22) Ty.row.dflt)) : Int) : Int) != (List.length (Val.columns b1) : Int)) = false]) := by kernel_rfl
theorem p143_4_11 (x20 : List Rowd) (x21 x22 : Int) (b1 : Val) : run tt (AbsCalls Try.prog) I143 3000 true (stkAt 4 I143.body) ⟨(S143_4 x20 x21 x22 b1), [false], [], []⟩ = some (.done (yAq true) [(decide ((x22 : Int) < x21)) = false]) := by kernel_rfl
theorem p143_e_12 (a0 : Val) (r1 : Bool) : run tt (AbsCalls Try.prog) I143 3000 false [.code I143.body] ⟨(zBg 0 (yCB a0)), [true, true], [yAB r1], []⟩ = some (.done (yAq false) [AbC 153 (yB8 (Val.columns a0)) (yAB r1), (!r1) = true, true = true]) := by kernel_rfl
theorem p143_e_13 (a0 : Val) (r1 : Bool) : run tt (AbsCalls Try.prog) I143 3000 false [.code I143.body] ⟨(zBg 0 (yCB a0)), [false, true], [yAB r1], []⟩ = some (.done (yAq false) [AbC 153 (yB8 (Val.columns a0)) (yAB r1), (!r1) = false, (decide (((List.length (Val.rows a0) : Int) : Int) > 12)) = true]) := by kernel_rfl
theorem p143_e_14 (a0 : Val) (r1 : Bool) : run tt (AbsCalls Try.prog) I143 3000 false [.code I143.body] ⟨(zBg 0 (yCB a0)), [false, false], [yAB r1], []⟩ = some (.stop (stkAt 4 I143.body) (S143_4 (Val.rows a0) (List.length (Val.rows a0) : Int) 0 a0) [AbC 153 (yB8 (Val.columns a0)) (yAB r1), (!r1) = false, (decide (((List.length (Val.rows a0) : Int) : Int) > 12)) = false]) := by kernel_rfl
theorem c143_15 {N : Nat} {k4 : (List Rowd) → Int → Int → Val → Option (Bool)} (hk4 : ∀ z0 z1 z2 z3 r, k4 z0 z1 z2 z3 = some r → Reach Try.prog Try.f143 I143 (stkAt 4 I143.body) (S143_4 z0 z1 z2 z3) (yAq r)) : ∀ n x20 x21 x22 x45 x46 x47 b1 b4 r, yBo N k4 n x20 x21 x22 x45 x46 x47 b1 b4 = some r → Reach Try.prog Try.f143 I143 (stkAt 15 I143.body) (yFi x20 x21 x22 x45 x46 x47 b1 b4) (yAq r) := by
 intro n
 induction n with
 | zero => intro x20 x21 x22 x45 x46 x47 b1 b4 r h; have h' : (none : Option (Bool)) = some r := h; cases h'
 | succ n ih =>
  intro x20 x21 x22 x45 x46 x47 b1 b4 r h
  rw [yBo] at h
  rcases cond_inv h with ⟨h0, h⟩ | ⟨h0, h⟩
  ·obtain ⟨h1, h⟩ := ite_inv h
   rcases cond_inv h with ⟨h2, h⟩ | ⟨h2, h⟩
   ·obtain rfl := Option.some.inj h
    exact Reach.done ttok mix yFS (p143_15_0 x20 x21 x22 x45 x46 x47 b1 b4) (obs_cons h0 (obs_cons h1 (obs_cons h2 (obs_cons rfl (obs_cons rfl obs_nil)))))
   ·rcases cond_inv h with ⟨h3, h⟩ | ⟨h3, h⟩
    ·obtain rfl := Option.some.inj h
     exact Reach.done ttok mix yFS (p143_15_1 x20 x21 x22 x45 x46 x47 b1 b4) (obs_cons h0 (obs_cons h1 (obs_cons h2 (obs_cons h3 (obs_cons rfl obs_nil)))))
    ·rcases cond_inv h with ⟨h4, h⟩ | ⟨h4, h⟩
     ·obtain ⟨h5, h⟩ := ite_inv h
      obtain ⟨r1, h6, h⟩ := bind_inv h
      rcases cond_inv h with ⟨h7, h⟩ | ⟨h7, h⟩
      ·obtain rfl := Option.some.inj h
       exact Reach.done ttok mix yFS (p143_15_2 x20 x21 x22 x45 x46 x47 b1 b4 r1) (obs_cons h0 (obs_cons h1 (obs_cons h2 (obs_cons h3 (obs_cons h4 (obs_cons h5 (obs_cons (yER h6) (obs_cons h7 obs_nil))))))))
      ·exact Reach.stop ttok mix yFS (p143_15_3 x20 x21 x22 x45 x46 x47 b1 b4 r1) (obs_cons h0 (obs_cons h1 (obs_cons h2 (obs_cons h3 (obs_cons h4 (obs_cons h5 (obs_cons (yER h6) (obs_cons h7 obs_nil)))))))) (ih _ _ _ _ _ _ _ _ _ h)
     ·exact Reach.stop ttok mix yFS (p143_15_4 x20 x21 x22 x45 x46 x47 b1 b4) (obs_cons h0 (obs_cons h1 (obs_cons h2 (obs_cons h3 (obs_cons h4 (obs_cons rfl obs_nil)))))) (ih _ _ _ _ _ _ _ _ _ h)
  ·exact Reach.stop ttok mix yFS (p143_15_5 x20 x21 x22 x45 x46 x47 b1 b4) (obs_cons h0 obs_nil) (hk4 _ _ _ _ _ h)
theorem c143_9 {N : Nat} {k4 : (List Rowd) → Int → Int → Val → Option (Bool)} (hk4 : ∀ z0 z1 z2 z3 r, k4 z0 z1 z2 z3 = some r → Reach Try.prog Try.f143 I143 (stkAt 4 I143.body) (S143_4 z0 z1 z2 z3) (yAq r)) : ∀ n x20 x21 x22 x34 x35 x36 b1 b4 r, yB6 N k4 n x20 x21 x22 x34 x35 x36 b1 b4 = some r → Reach Try.prog Try.f143 I143 (stkAt 9 I143.body) (S143_9 x20 x21 x22 x34 x35 x36 b1 b4) (yAq r) := by
 intro n
 induction n with
 | zero => intro x20 x21 x22 x34 x35 x36 b1 b4 r h; have h' : (none : Option (Bool)) = some r := h; cases h'
 | succ n ih =>
  intro x20 x21 x22 x34 x35 x36 b1 b4 r h
  rw [yB6] at h
  rcases cond_inv h with ⟨h0, h⟩ | ⟨h0, h⟩
  ·obtain ⟨h1, h⟩ := ite_inv h
   obtain ⟨r1, h2, h⟩ := bind_inv h
   rcases cond_inv h with ⟨h3, h⟩ | ⟨h3, h⟩
   ·obtain rfl := Option.some.inj h
    exact Reach.done ttok mix yFS (p143_9_6 x20 x21 x22 x34 x35 x36 b1 b4 r1) (obs_cons h0 (obs_cons h1 (obs_cons (yCK h2) (obs_cons h3 obs_nil))))
   ·exact Reach.stop ttok mix yFS (p143_9_7 x20 x21 x22 x34 x35 x36 b1 b4 r1) (obs_cons h0 (obs_cons h1 (obs_cons (yCK h2) (obs_cons h3 obs_nil)))) (ih _ _ _ _ _ _ _ _ _ h)
  ·exact Reach.stop ttok mix yFS (p143_9_8 x20 x21 x22 x34 x35 x36 b1 b4) (obs_cons h0 obs_nil) (c143_15  hk4 _ _ _ _ _ _ _ _ _ _ h)
theorem c143_4 {N : Nat} : ∀ n x20 x21 x22 b1 r, yB5 N n x20 x21 x22 b1 = some r → Reach Try.prog Try.f143 I143 (stkAt 4 I143.body) (S143_4 x20 x21 x22 b1) (yAq r) := by
 intro n
 induction n with
 | zero => intro x20 x21 x22 b1 r h; have h' : (none : Option (Bool)) = some r := h; cases h'
 | succ n ih =>
  intro x20 x21 x22 b1 r h
  rw [yB5] at h
  rcases cond_inv h with ⟨h0, h⟩ | ⟨h0, h⟩
  ·obtain ⟨h1, h⟩ := ite_inv h
   rcases cond_inv h with ⟨h2, h⟩ | ⟨h2, h⟩
   ·obtain rfl := Option.some.inj h
    exact Reach.done ttok mix yFS (p143_4_9 x20 x21 x22 b1) (obs_cons h0 (obs_cons h1 (obs_cons h2 obs_nil)))
   ·exact Reach.stop ttok mix yFS (p143_4_10 x20 x21 x22 b1) (obs_cons h0 (obs_cons h1 (obs_cons h2 obs_nil))) (c143_9  ih _ _ _ _ _ _ _ _ _ _ h)
  ·obtain rfl := Option.some.inj h
   exact Reach.done ttok mix yFS (p143_4_11 x20 x21 x22 b1) (obs_cons h0 obs_nil)
theorem c143_e {N : Nat} : ∀ a0 r, yDQ N a0 = some r → Reach Try.prog Try.f143 I143 [.code I143.body] (zBg 0 (yCB a0)) (yAq r) := by
 intro a0 r h
 unfold yDQ at h
 obtain ⟨r1, h0, h⟩ := bind_inv h
 rcases cond_inv h with ⟨h1, h⟩ | ⟨h1, h⟩
 ·obtain rfl := Option.some.inj h
  exact Reach.done ttok mix yFS (p143_e_12 a0 r1) (obs_cons (yEm h0) (obs_cons h1 (obs_cons rfl obs_nil)))
 ·rcases cond_inv h with ⟨h2, h⟩ | ⟨h2, h⟩
  ·obtain rfl := Option.some.inj h
   exact Reach.done ttok mix yFS (p143_e_13 a0 r1) (obs_cons (yEm h0) (obs_cons h1 (obs_cons h2 obs_nil)))
  ·exact Reach.stop ttok mix yFS (p143_e_14 a0 r1) (obs_cons (yEm h0) (obs_cons h1 (obs_cons h2 obs_nil))) (c143_4   _ _ _ _ _ _ h)
theorem yFM {N : Nat} {a0 : Val} {r : Bool} (h : yDQ N  a0 = some r) : AbC 143 (yCB a0) (yAq r) :=
 AbsCalls.of_reach yFS rfl rfl (Nat.le_of_ble_eq_true rfl) (c143_e a0 r h)
noncomputable def I127 : Info := { body := (Try.f127.body).getD .skip, nt := 20, results := [.tmp 2], keep := [0, 2, 4, 6, 10, 14, 16, 18, 20, 3, 11], live := [(3, [6, 14, 16, 18])], modes := [(6, [(1, .take, false)])], ext := [], lnt := [], casts := [], fcast := [] }
theorem fk127 : FnOk Try.prog 127 Try.f127 I127 := ⟨Try.func127, by kernel_rfl, by kernel_rfl, by kernel_rfl, by kernel_rfl⟩
def S127_3 (x3 : Int) (x7 : List Val) (x8 x9 : Int) : St := [(6, .v false [.int .i64 x3]), (14, .v false [.sl .ro .val x7]), (16, .v false [.int .i64 x8]), (18, .v false [.int .i64 x9])]
theorem p127_3_0 (x3 : Int) (x7 : List Val) (x8 x9 r1 : Int) : run tt (AbsCalls Try.prog) I127 3000 true (stkAt 3 I127.body) ⟨(S127_3 x3 x7 x8 x9), [true], [yAT r1], []⟩ = some (.stop (stkAt 3 I127.body) (S127_3 (if (r1 : Int) > x3 then r1 else x3) x7 x8 (IntKind.i64.wrap (x9 + 1))) [(decide ((x9 : Int) < x8)) = true, (0 : Int) ≤ x9 ∧ x9 < (List.length x7), AbC 127 (yBk (List.getD x7 (Int.toNat x9) Ty.val.dflt)) (yAT r1)]) := by kernel_rfl
theorem p127_3_1 (x3 : Int) (x7 : List Val) (x8 x9 : Int) : run tt (AbsCalls Try.prog) I127 3000 true (stkAt 3 I127.body) ⟨(S127_3 x3 x7 x8 x9), [false], [], []⟩ = some (.done (yAT (IntKind.i64.wrap (x3 + 1))) [(decide ((x9 : Int) < x8)) = false]) := by kernel_rfl
theorem p127_e_2 (a0 : Val) : run tt (AbsCalls Try.prog) I127 3000 false [.code I127.body] ⟨(zBg 0 (yBk a0)), [], [], []⟩ = some (.stop (stkAt 3 I127.body) (S127_3 0 (Val.list a0) (List.length (Val.list a0) : Int) 0) []) := by kernel_rfl
theorem c127_3 {N : Nat} {rc_impl_DepthOf : Val → Option (Int)} (hrc_impl_DepthOf : ∀ a0 r, rc_impl_DepthOf a0 = some r → AbC 127 (yBk a0) (yAT r)) : ∀ n x3 x7 x8 x9 r, yCA N rc_impl_DepthOf n x3 x7 x8 x9 = some r → Reach Try.prog Try.f127 I127 (stkAt 3 I127.body) (S127_3 x3 x7 x8 x9) (yAT r) := by
 intro n
 induction n with
 | zero => intro x3 x7 x8 x9 r h; have h' : (none : Option (Int)) = some r := h; cases h'
 | succ n ih =>
  intro x3 x7 x8 x9 r h
  rw [yCA] at h
  rcases cond_inv h with ⟨h0, h⟩ | ⟨h0, h⟩
  ·obtain ⟨h1, h⟩ := ite_inv h
   obtain ⟨r1, h2, h⟩ := bind_inv h
   exact Reach.stop ttok mix fk127 (p127_3_0 x3 x7 x8 x9 r1) (obs_cons h0 (obs_cons h1 (obs_cons (hrc_impl_DepthOf _ _ h2) obs_nil))) (ih _ _ _ _ _ h)
  ·obtain rfl := Option.some.inj h
   exact Reach.done ttok mix fk127 (p127_3_1 x3 x7 x8 x9) (obs_cons h0 obs_nil)
theorem c127_e {N : Nat} {rc_impl_DepthOf : Val → Option (Int)} (hrc_impl_DepthOf : ∀ a0 r, rc_impl_DepthOf a0 = some r → AbC 127 (yBk a0) (yAT r)) : ∀ a0 r, yDS N rc_impl_DepthOf a0 = some r → Reach Try.prog Try.f127 I127 [.code I127.body] (zBg 0 (yBk a0)) (yAT r) := by
 intro a0 r h
 unfold yDS at h
 exact Reach.stop ttok mix fk127 (p127_e_2 a0) obs_nil (c127_3 hrc_impl_DepthOf  _ _ _ _ _ _ h)
theorem yFT {N : Nat} {rc_impl_DepthOf : Val → Option (Int)} (hrc_impl_DepthOf : ∀ a0 r, rc_impl_DepthOf a0 = some r → AbC 127 (yBk a0) (yAT r)) {a0 : Val} {r : Int} (h : yDS N rc_impl_DepthOf a0 = some r) : AbC 127 (yBk a0) (yAT r) :=
 AbsCalls.of_reach fk127 rfl rfl (Nat.le_of_ble_eq_true rfl) (c127_e hrc_impl_DepthOf a0 r h)
theorem yF9 {N : Nat} : ∀ d, (∀ a0 r, yCb N d a0 = some r → AbC 127 (yBk a0) (yAT r)) := by
 intro d
 induction d with
 | zero => intro _ r h; have h' : (none : Option (Int)) = some r := h; cases h'
 | succ d ih => intro _ r h; exact yFT (N := N) ih h
theorem impl_DepthOf_ok {N : Nat} {a0 : Val} {r : Int} (h : yEJ N a0 = some r) : AbC 127 (yBk a0) (yAT r) := yF9 N _ r h
end Go.Ab.T
end
section
open Go.Proofs
namespace Go.Ab.T
set_option linter.unusedVariables false
set_option maxRecDepth 100000
noncomputable def I109 : Info := { body := (Try.f109.body).getD .skip, nt := 185, results := [.tmp 2], keep := [0, 2, 4, 6, 10, 46, 48, 84, 120, 156, 192, 242, 248, 250, 252, 254, 294, 3, 11], live := [(15, [2, 248, 250, 252, 3])], modes := [(1, [(4, .take, false), (10, .take, false)]), (4, [(1, .take, false), (6, .take, false), (11, .take, false)]), (6, [(1, .take, false), (6, .take, false), (11, .take, false)]), (8, [(1, .take, false), (6, .take, false), (11, .take, false)]), (10, [(1, .take, false), (6, .take, false), (11, .take, false)]), (12, [(3, .take, false), (8, .take, false), (13, .take, false), (19, .take, false)]), (17, [(3, .take, false), (8, .take, false), (13, .take, false)]), (19, [(1, .take, false)]), (20, [(3, .take, false), (8, .take, false), (13, .take, false), (19, .take, false), (25, .take, false), (31, .take, false)])], ext := [], lnt := [], casts := [], fcast := [] }
theorem yBS : FnOk Try.prog 109 Try.f109 I109 := ⟨Try.func109, by kernel_rfl, by kernel_rfl, by kernel_rfl, by kernel_rfl⟩
def yCX (x124 : List Val) (x125 x126 : Int) (b1 : Val) : St := [(2, .v false [.ptr 1 0]), (248, .v false [.sl .ro .val x124]), (250, .v false [.int .i64 x125]), (252, .v false [.int .i64 x126]), (3, .v true [.int .i64 (Val.kind b1), .int .i64 (Val.n b1), .int .i64 (Val.step b1), .str (Val.text b1), .sl .ro .val (Val.list b1), .sl .ro .str (Val.columns b1), .sl .ro .row (Val.rows b1)])]
theorem p109_15_0 (x124 : List Val) (x125 x126 : Int) (b1 : Val) : run tt (AbsCalls Try.prog) I109 3000 true (stkAt 15 I109.body) ⟨(yCX x124 x125 x126 b1), [true, true, true, true, true], [], []⟩ = some (.done (yAa false) [(decide ((x126 : Int) < x125)) = true, (0 : Int) ≤ x126 ∧ x126 < (List.length x124), (((Val.kind (List.getD x124 (Int.toNat x126) Ty.val.dflt)) : Int) != 1) = true, (((Val.kind (List.getD x124 (Int.toNat x126) Ty.val.dflt)) : Int) != 2) = true, (((Val.kind (List.getD x124 (Int.toNat x126) Ty.val.dflt)) : Int) != 3) = true, true = true]) := by kernel_rfl
theorem p109_15_1 (x124 : List Val) (x125 x126 : Int) (b1 : Val) (r1 : Bool) : run tt (AbsCalls Try.prog) I109 3000 true (stkAt 15 I109.body) ⟨(yCX x124 x125 x126 b1), [true, true, true, false, true], [yAa r1], []⟩ = some (.done (yAa false) [(decide ((x126 : Int) < x125)) = true, (0 : Int) ≤ x126 ∧ x126 < (List.length x124), (((Val.kind (List.getD x124 (Int.toNat x126) Ty.val.dflt)) : Int) != 1) = true, (((Val.kind (List.getD x124 (Int.toNat x126) Ty.val.dflt)) : Int) != 2) = true, (((Val.kind (List.getD x124 (Int.toNat x126) Ty.val.dflt)) : Int) != 3) = false, AbC 109 (yAb (List.getD x124 (Int.toNat x126) Ty.val.dflt)) (yAa r1), (!r1) = true]) := by kernel_rfl
theorem p109_15_2 (x124 : List Val) (x125 x126 : Int) (b1 : Val) (r1 : Bool) : run tt (AbsCalls Try.prog) I109 3000 true (stkAt 15 I109.body) ⟨(yCX x124 x125 x126 b1), [true, true, true, false, false], [yAa r1], []⟩ = some (.stop (stkAt 15 I109.body) (yCX x124 x125 (IntKind.i64.wrap (x126 + 1)) b1) [(decide ((x126 : Int) < x125)) = true, (0 : Int) ≤ x126 ∧ x126 < (List.length x124), (((Val.kind (List.getD x124 (Int.toNat x126) Ty.val.dflt)) : Int) != 1) = true, (((Val.kind (List.getD x124 (Int.toNat x126) Ty.val.dflt)) : Int) != 2) = true, (((Val.kind (List.getD x124 (Int.toNat x126) Ty.val.dflt)) : Int) != 3) = false, AbC 109 (yAb (List.getD x124 (Int.toNat x126) Ty.val.dflt)) (yAa r1), (!r1) = false]) := by kernel_rfl
theorem p109_15_3 (x124 : List Val) (x125 x126 : Int) (b1 : Val) (r1 : Bool) : run tt (AbsCalls Try.prog) I109 3000 true (stkAt 15 I109.body) ⟨(yCX x124 x125 x126 b1), [true, true, false, false, true], [yAa r1], []⟩ = some (.done (yAa false) [(decide ((x126 : Int) < x125)) = true, (0 : Int) ≤ x126 ∧ x126 < (List.length x124), (((Val.kind (List.getD x124 (Int.toNat x126) Ty.val.dflt)) : Int) != 1) = true, (((Val.kind (List.getD x124 (Int.toNat x126) Ty.val.dflt)) : Int) != 2) = false, false = false, AbC 109 (yAb (List.getD x124 (Int.toNat x126) Ty.val.dflt)) (yAa r1), (!r1) = true]) := by kernel_rfl
theorem p109_15_4 (x124 : List Val) (x125 x126 : Int) (b1 : Val) (r1 : Bool) : run tt (AbsCalls Try.prog) I109 3000 true (stkAt 15 I109.body) ⟨(yCX x124 x125 x126 b1), [true, true, false, false, false], [yAa r1], []⟩ = some (.stop (stkAt 15 I109.body) (yCX x124 x125 (IntKind.i64.wrap (x126 + 1)) b1) [(decide ((x126 : Int) < x125)) = true, (0 : Int) ≤ x126 ∧ x126 < (List.length x124), (((Val.kind (List.getD x124 (Int.toNat x126) Ty.val.dflt)) : Int) != 1) = true, (((Val.kind (List.getD x124 (Int.toNat x126) Ty.val.dflt)) : Int) != 2) = false, false = false, AbC 109 (yAb (List.getD x124 (Int.toNat x126) Ty.val.dflt)) (yAa r1), (!r1) = false]) := by kernel_rfl
theorem p109_15_5 (x124 : List Val) (x125 x126 : Int) (b1 : Val) (r1 : Bool) : run tt (AbsCalls Try.prog) I109 3000 true (stkAt 15 I109.body) ⟨(yCX x124 x125 x126 b1), [true, false, false, false, true], [yAa r1], []⟩ = some (.done (yAa false) [(decide ((x126 : Int) < x125)) = true, (0 : Int) ≤ x126 ∧ x126 < (List.length x124), (((Val.kind (List.getD x124 (Int.toNat x126) Ty.val.dflt)) : Int) != 1) = false, false = false, false = false, AbC 109 (yAb (List.getD x124 (Int.toNat x126) Ty.val.dflt)) (yAa r1), (!r1) = true]) := by kernel_rfl
theorem p109_15_6 (x124 : List Val) (x125 x126 : Int) (b1 : Val) (r1 : Bool) : run tt (AbsCalls Try.prog) I109 3000 true (stkAt 15 I109.body) ⟨(yCX x124 x125 x126 b1), [true, false, false, false, false], [yAa r1], []⟩ = some (.stop (stkAt 15 I109.body) (yCX x124 x125 (IntKind.i64.wrap (x126 + 1)) b1) [(decide ((x126 : Int) < x125)) = true, (0 : Int) ≤ x126 ∧ x126 < (List.length x124), (((Val.kind (List.getD x124 (Int.toNat x126) Ty.val.dflt)) : Int) != 1) = false, false = false, false = false, AbC 109 (yAb (List.getD x124 (Int.toNat x126) Ty.val.dflt)) (yAa r1), (!r1) = false]) := by kernel_rfl
theorem p109_15_7 (x124 : List Val) (x125 x126 : Int) (b1 : Val) (r1 : Int) : run tt (AbsCalls Try.prog) I109 3000 true (stkAt 15 I109.body) ⟨(yCX x124 x125 x126 b1), [false, true, true, true, true, true, true], [yAT r1], []⟩ = some (.done (yAa (decide ((r1 : Int) ≤ 3))) [(decide ((x126 : Int) < x125)) = false, (((Val.n b1) : Int) == 0) = true, (((Val.step b1) : Int) == 0) = true, (((Val.text b1) : Str) == []) = true, (((List.length (Val.columns b1) : Int) : Int) == 0) = true, (((List.length (Val.rows b1) : Int) : Int) == 0) = true, (decide (((List.length (Val.list b1) : Int) : Int) ≤ 8)) = true, AbC 127 (yBk b1) (yAT r1)]) := by kernel_rfl
theorem p109_15_8 (x124 : List Val) (x125 x126 : Int) (b1 : Val) : run tt (AbsCalls Try.prog) I109 3000 true (stkAt 15 I109.body) ⟨(yCX x124 x125 x126 b1), [false, true, true, true, true, true, false], [], []⟩ = some (.done (yAa false) [(decide ((x126 : Int) < x125)) = false, (((Val.n b1) : Int) == 0) = true, (((Val.step b1) : Int) == 0) = true, (((Val.text b1) : Str) == []) = true, (((List.length (Val.columns b1) : Int) : Int) == 0) = true, (((List.length (Val.rows b1) : Int) : Int) == 0) = true, (decide (((List.length (Val.list b1) : Int) : Int) ≤ 8)) = false]) := by kernel_rfl
theorem p109_15_9 (x124 : List Val) (x125 x126 : Int) (b1 : Val) : run tt (AbsCalls Try.prog) I109 3000 true (stkAt 15 I109.body) ⟨(yCX x124 x125 x126 b1), [false, true, true, true, true, false, false], [], []⟩ = some (.done (yAa false) [(decide ((x126 : Int) < x125)) = false, (((Val.n b1) : Int) == 0) = true, (((Val.step b1) : Int) == 0) = true, (((Val.text b1) : Str) == []) = true, (((List.length (Val.columns b1) : Int) : Int) == 0) = true, (((List.length (Val.rows b1) : Int) : Int) == 0) = false, false = false]) := by kernel_rfl
theorem p109_15_10 (x124 : List Val) (x125 x126 : Int) (b1 : Val) : run tt (AbsCalls Try.prog) I109 3000 true (stkAt 15 I109.body) ⟨(yCX x124 x125 x126 b1), [false, true, true, true, false, false, false], [], []⟩ = some (.done (yAa false) [(decide ((x126 : Int) < x125)) = false, (((Val.n b1) : Int) == 0) = true, (((Val.step b1) : Int) == 0) = true, (((Val.text b1) : Str) == []) = true, (((List.length (Val.columns b1) : Int) : Int) == 0) = false, false = false, false = false]) := by kernel_rfl
theorem p109_15_11 (x124 : List Val) (x125 x126 : Int) (b1 : Val) : run tt (AbsCalls Try.prog) I109 3000 true (stkAt 15 I109.body) ⟨(yCX x124 x125 x126 b1), [false, true, true, false, false, false, false], [], []⟩ = some (.done (yAa false) [(decide ((x126 : Int) < x125)) = false, (((Val.n b1) : Int) == 0) = true, (((Val.step b1) : Int) == 0) = true, (((Val.text b1) : Str) == []) = false, false = false, false = false, false = false]) := by kernel_rfl
theorem p109_15_12 (x124 : List Val) (x125 x126 : Int) (b1 : Val) : run tt (AbsCalls Try.prog) I109 3000 true (stkAt 15 I109.body) ⟨(yCX x124 x125 x126 b1), [false, true, false, false, false, false, false], [], []⟩ = some (.done (yAa false) [(decide ((x126 : Int) < x125)) = false, (((Val.n b1) : Int) == 0) = true, (((Val.step b1) : Int) == 0) = false, false = false, false = false, false = false, false = false]) := by kernel_rfl
theorem p109_15_13 (x124 : List Val) (x125 x126 : Int) (b1 : Val) : run tt (AbsCalls Try.prog) I109 3000 true (stkAt 15 I109.body) ⟨(yCX x124 x125 x126 b1), [false, false, false, false, false, false, false], [], []⟩ = some (.done (yAa false) [(decide ((x126 : Int) < x125)) = false, (((Val.n b1) : Int) == 0) = false, false = false, false = false, false = false, false = false, false = false]) := by kernel_rfl
theorem p109_e_14 (a0 : Val) (r1 : Bool) : run tt (AbsCalls Try.prog) I109 3000 false [.code I109.body] ⟨(zBg 0 (yAb a0)), [true, true, true, true, true, true], [yAy r1], []⟩ = some (.done (yAa r1) [(((List.length (Val.list a0) : Int) : Int) == 0) = true, (((List.length (Val.columns a0) : Int) : Int) == 0) = true, (((Val.kind a0) : Int) == 1) = true, (((List.length (Val.rows a0) : Int) : Int) == 0) = true, (((Val.step a0) : Int) == 0) = true, (((Val.text a0) : Str) == []) = true, AbC 104 (yBn (Val.n a0)) (yAy r1)]) := by kernel_rfl
theorem p109_e_15 (a0 : Val) : run tt (AbsCalls Try.prog) I109 3000 false [.code I109.body] ⟨(zBg 0 (yAb a0)), [true, true, true, true, true, false], [], []⟩ = some (.done (yAa false) [(((List.length (Val.list a0) : Int) : Int) == 0) = true, (((List.length (Val.columns a0) : Int) : Int) == 0) = true, (((Val.kind a0) : Int) == 1) = true, (((List.length (Val.rows a0) : Int) : Int) == 0) = true, (((Val.step a0) : Int) == 0) = true, (((Val.text a0) : Str) == []) = false]) := by kernel_rfl
theorem p109_e_16 (a0 : Val) : run tt (AbsCalls Try.prog) I109 3000 false [.code I109.body] ⟨(zBg 0 (yAb a0)), [true, true, true, true, false, false], [], []⟩ = some (.done (yAa false) [(((List.length (Val.list a0) : Int) : Int) == 0) = true, (((List.length (Val.columns a0) : Int) : Int) == 0) = true, (((Val.kind a0) : Int) == 1) = true, (((List.length (Val.rows a0) : Int) : Int) == 0) = true, (((Val.step a0) : Int) == 0) = false, false = false]) := by kernel_rfl
theorem p109_e_17 (a0 : Val) : run tt (AbsCalls Try.prog) I109 3000 false [.code I109.body] ⟨(zBg 0 (yAb a0)), [true, true, true, false, false, false], [], []⟩ = some (.done (yAa false) [(((List.length (Val.list a0) : Int) : Int) == 0) = true, (((List.length (Val.columns a0) : Int) : Int) == 0) = true, (((Val.kind a0) : Int) == 1) = true, (((List.length (Val.rows a0) : Int) : Int) == 0) = false, false = false, false = false]) := by kernel_rfl
theorem p109_e_18 (a0 : Val) (r1 : Bool) : run tt (AbsCalls Try.prog) I109 3000 false [.code I109.body] ⟨(zBg 0 (yAb a0)), [true, true, false, true, true, true, true], [yA0 r1], []⟩ = some (.done (yAa r1) [(((List.length (Val.list a0) : Int) : Int) == 0) = true, (((List.length (Val.columns a0) : Int) : Int) == 0) = true, (((Val.kind a0) : Int) == 1) = false, (((Val.kind a0) : Int) == 2) = true, (((List.length (Val.rows a0) : Int) : Int) == 0) = true, (((Val.n a0) : Int) == 0) = true, (((Val.step a0) : Int) == 0) = true, AbC 142 (yDf (Val.text a0)) (yA0 r1)]) := by kernel_rfl
theorem p109_e_19 (a0 : Val) : run tt (AbsCalls Try.prog) I109 3000 false [.code I109.body] ⟨(zBg 0 (yAb a0)), [true, true, false, true, true, true, false], [], []⟩ = some (.done (yAa false) [(((List.length (Val.list a0) : Int) : Int) == 0) = true, (((List.length (Val.columns a0) : Int) : Int) == 0) = true, (((Val.kind a0) : Int) == 1) = false, (((Val.kind a0) : Int) == 2) = true, (((List.length (Val.rows a0) : Int) : Int) == 0) = true, (((Val.n a0) : Int) == 0) = true, (((Val.step a0) : Int) == 0) = false]) := by kernel_rfl
theorem p109_e_20 (a0 : Val) : run tt (AbsCalls Try.prog) I109 3000 false [.code I109.body] ⟨(zBg 0 (yAb a0)), [true, true, false, true, true, false, false], [], []⟩ = some (.done (yAa false) [(((List.length (Val.list a0) : Int) : Int) == 0) = true, (((List.length (Val.columns a0) : Int) : Int) == 0) = true, (((Val.kind a0) : Int) == 1) = false, (((Val.kind a0) : Int) == 2) = true, (((List.length (Val.rows a0) : Int) : Int) == 0) = true, (((Val.n a0) : Int) == 0) = false, false = false]) := by kernel_rfl
theorem p109_e_21 (a0 : Val) : run tt (AbsCalls Try.prog) I109 3000 false [.code I109.body] ⟨(zBg 0 (yAb a0)), [true, true, false, true, false, false, false], [], []⟩ = some (.done (yAa false) [(((List.length (Val.list a0) : Int) : Int) == 0) = true, (((List.length (Val.columns a0) : Int) : Int) == 0) = true, (((Val.kind a0) : Int) == 1) = false, (((Val.kind a0) : Int) == 2) = true, (((List.length (Val.rows a0) : Int) : Int) == 0) = false, false = false, false = false]) := by kernel_rfl
theorem p109_e_22 (a0 : Val) (r1 r2 : Bool) : run tt (AbsCalls Try.prog) I109 3000 false [.code I109.body] ⟨(zBg 0 (yAb a0)), [true, true, false, false, true, true, true, true], [yAy r1, yAy r2], []⟩ = some (.done (yAa r2) [(((List.length (Val.list a0) : Int) : Int) == 0) = true, (((List.length (Val.columns a0) : Int) : Int) == 0) = true, (((Val.kind a0) : Int) == 1) = false, (((Val.kind a0) : Int) == 2) = false, (((Val.kind a0) : Int) == 4) = true, (((List.length (Val.rows a0) : Int) : Int) == 0) = true, (((Val.text a0) : Str) == []) = true, AbC 104 (yBn (Val.n a0)) (yAy r1), r1 = true, AbC 104 (yBn (Val.step a0)) (yAy r2)]) := by kernel_rfl
theorem p109_e_23 (a0 : Val) (r1 : Bool) : run tt (AbsCalls Try.prog) I109 3000 false [.code I109.body] ⟨(zBg 0 (yAb a0)), [true, true, false, false, true, true, true, false], [yAy r1], []⟩ = some (.done (yAa false) [(((List.length (Val.list a0) : Int) : Int) == 0) = true, (((List.length (Val.columns a0) : Int) : Int) == 0) = true, (((Val.kind a0) : Int) == 1) = false, (((Val.kind a0) : Int) == 2) = false, (((Val.kind a0) : Int) == 4) = true, (((List.length (Val.rows a0) : Int) : Int) == 0) = true, (((Val.text a0) : Str) == []) = true, AbC 104 (yBn (Val.n a0)) (yAy r1), r1 = false]) := by kernel_rfl
theorem p109_e_24 (a0 : Val) : run tt (AbsCalls Try.prog) I109 3000 false [.code I109.body] ⟨(zBg 0 (yAb a0)), [true, true, false, false, true, true, false, false], [], []⟩ = some (.done (yAa false) [(((List.length (Val.list a0) : Int) : Int) == 0) = true, (((List.length (Val.columns a0) : Int) : Int) == 0) = true, (((Val.kind a0) : Int) == 1) = false, (((Val.kind a0) : Int) == 2) = false, (((Val.kind a0) : Int) == 4) = true, (((List.length (Val.rows a0) : Int) : Int) == 0) = true, (((Val.text a0) : Str) == []) = false, false = false]) := by kernel_rfl
theorem p109_e_25 (a0 : Val) : run tt (AbsCalls Try.prog) I109 3000 false [.code I109.body] ⟨(zBg 0 (yAb a0)), [true, true, false, false, true, false, false, false], [], []⟩ = some (.done (yAa false) [(((List.length (Val.list a0) : Int) : Int) == 0) = true, (((List.length (Val.columns a0) : Int) : Int) == 0) = true, (((Val.kind a0) : Int) == 1) = false, (((Val.kind a0) : Int) == 2) = false, (((Val.kind a0) : Int) == 4) = true, (((List.length (Val.rows a0) : Int) : Int) == 0) = false, false = false, false = false]) := by kernel_rfl
theorem p109_e_26 (a0 : Val) (r1 : Bool) : run tt (AbsCalls Try.prog) I109 3000 false [.code I109.body] ⟨(zBg 0 (yAb a0)), [true, true, false, false, false, true, true, true, true], [yAY r1], []⟩ = some (.done (yAa r1) [(((List.length (Val.list a0) : Int) : Int) == 0) = true, (((List.length (Val.columns a0) : Int) : Int) == 0) = true, (((Val.kind a0) : Int) == 1) = false, (((Val.kind a0) : Int) == 2) = false, (((Val.kind a0) : Int) == 4) = false, (((Val.kind a0) : Int) == 6) = true, (((List.length (Val.rows a0) : Int) : Int) == 0) = true, (((Val.step a0) : Int) == 0) = true, (((Val.text a0) : Str) == []) = true, AbC 101 (yB2 (Val.n a0) 1 8) (yAY r1)]) := by kernel_rfl
theorem p109_e_27 (a0 : Val) : run tt (AbsCalls Try.prog) I109 3000 false [.code I109.body] ⟨(zBg 0 (yAb a0)), [true, true, false, false, false, true, true, true, false], [], []⟩ = some (.done (yAa false) [(((List.length (Val.list a0) : Int) : Int) == 0) = true, (((List.length (Val.columns a0) : Int) : Int) == 0) = true, (((Val.kind a0) : Int) == 1) = false, (((Val.kind a0) : Int) == 2) = false, (((Val.kind a0) : Int) == 4) = false, (((Val.kind a0) : Int) == 6) = true, (((List.length (Val.rows a0) : Int) : Int) == 0) = true, (((Val.step a0) : Int) == 0) = true, (((Val.text a0) : Str) == []) = false]) := by kernel_rfl
theorem p109_e_28 (a0 : Val) : run tt (AbsCalls Try.prog) I109 3000 false [.code I109.body] ⟨(zBg 0 (yAb a0)), [true, true, false, false, false, true, true, false, false], [], []⟩ = some (.done (yAa false) [(((List.length (Val.list a0) : Int) : Int) == 0) = true, (((List.length (Val.columns a0) : Int) : Int) == 0) = true, (((Val.kind a0) : Int) == 1) = false, (((Val.kind a0) : Int) == 2) = false, (((Val.kind a0) : Int) == 4) = false, (((Val.kind a0) : Int) == 6) = true, (((List.length (Val.rows a0) : Int) : Int) == 0) = true, (((Val.step a0) : Int) == 0) = false, false = false]) := by kernel_rfl
theorem p109_e_29 (a0 : Val) : run tt (AbsCalls Try.prog) I109 3000 false [.code I109.body] ⟨(zBg 0 (yAb a0)), [true, true, false, false, false, true, false, false, false], [], []⟩ = some (.done (yAa false) [(((List.length (Val.list a0) : Int) : Int) == 0) = true, (((List.length (Val.columns a0) : Int) : Int) == 0) = true, (((Val.kind a0) : Int) == 1) = false, (((Val.kind a0) : Int) == 2) = false, (((Val.kind a0) : Int) == 4) = false, (((Val.kind a0) : Int) == 6) = true, (((List.length (Val.rows a0) : Int) : Int) == 0) = false, false = false, false = false]) := by kernel_rfl
theorem p109_e_30 (a0 : Val) (r1 : Bool) : run tt (AbsCalls Try.prog) I109 3000 false [.code I109.body] ⟨(zBg 0 (yAb a0)), [true, true, false, false, false, false, true, true, true, true, true], [yAq r1], []⟩ = some (.done (yAa r1) [(((List.length (Val.list a0) : Int) : Int) == 0) = true, (((List.length (Val.columns a0) : Int) : Int) == 0) = true, (((Val.kind a0) : Int) == 1) = false, (((Val.kind a0) : Int) == 2) = false, (((Val.kind a0) : Int) == 4) = false, (((Val.kind a0) : Int) == 6) = false, (((Val.kind a0) : Int) == 5) = true, (((Val.n a0) : Int) == 0) = true, (((Val.step a0) : Int) == 0) = true, (((Val.text a0) : Str) == []) = true, (((List.length (Val.list a0) : Int) : Int) == 0) = true, AbC 143 (yCB a0) (yAq r1)]) := by kernel_rfl
theorem p109_e_31 (a0 : Val) : run tt (AbsCalls Try.prog) I109 3000 false [.code I109.body] ⟨(zBg 0 (yAb a0)), [true, true, false, false, false, false, true, true, true, false, false], [], []⟩ = some (.done (yAa false) [(((List.length (Val.list a0) : Int) : Int) == 0) = true, (((List.length (Val.columns a0) : Int) : Int) == 0) = true, (((Val.kind a0) : Int) == 1) = false, (((Val.kind a0) : Int) == 2) = false, (((Val.kind a0) : Int) == 4) = false, (((Val.kind a0) : Int) == 6) = false, (((Val.kind a0) : Int) == 5) = true, (((Val.n a0) : Int) == 0) = true, (((Val.step a0) : Int) == 0) = true, (((Val.text a0) : Str) == []) = false, false = false]) := by kernel_rfl
theorem p109_e_32 (a0 : Val) : run tt (AbsCalls Try.prog) I109 3000 false [.code I109.body] ⟨(zBg 0 (yAb a0)), [true, true, false, false, false, false, true, true, false, false, false], [], []⟩ = some (.done (yAa false) [(((List.length (Val.list a0) : Int) : Int) == 0) = true, (((List.length (Val.columns a0) : Int) : Int) == 0) = true, (((Val.kind a0) : Int) == 1) = false, (((Val.kind a0) : Int) == 2) = false, (((Val.kind a0) : Int) == 4) = false, (((Val.kind a0) : Int) == 6) = false, (((Val.kind a0) : Int) == 5) = true, (((Val.n a0) : Int) == 0) = true, (((Val.step a0) : Int) == 0) = false, false = false, false = false]) := by kernel_rfl
theorem p109_e_33 (a0 : Val) : run tt (AbsCalls Try.prog) I109 3000 false [.code I109.body] ⟨(zBg 0 (yAb a0)), [true, true, false, false, false, false, true, false, false, false, false], [], []⟩ = some (.done (yAa false) [(((List.length (Val.list a0) : Int) : Int) == 0) = true, (((List.length (Val.columns a0) : Int) : Int) == 0) = true, (((Val.kind a0) : Int) == 1) = false, (((Val.kind a0) : Int) == 2) = false, (((Val.kind a0) : Int) == 4) = false, (((Val.kind a0) : Int) == 6) = false, (((Val.kind a0) : Int) == 5) = true, (((Val.n a0) : Int) == 0) = false, false = false, false = false, false = false]) := by kernel_rfl
theorem p109_e_34 (a0 : Val) : run tt (AbsCalls Try.prog) I109 3000 false [.code I109.body] ⟨(zBg 0 (yAb a0)), [true, true, false, false, false, false, false, true], [], []⟩ = some (.stop (stkAt 15 I109.body) (yCX (Val.list a0) (List.length (Val.list a0) : Int) 0 a0) [(((List.length (Val.list a0) : Int) : Int) == 0) = true, (((List.length (Val.columns a0) : Int) : Int) == 0) = true, (((Val.kind a0) : Int) == 1) = false, (((Val.kind a0) : Int) == 2) = false, (((Val.kind a0) : Int) == 4) = false, (((Val.kind a0) : Int) == 6) = false, (((Val.kind a0) : Int) == 5) = false, (((Val.kind a0) : Int) == 3) = true]) := by kernel_rfl
theorem p109_e_35 (a0 : Val) : run tt (AbsCalls Try.prog) I109 3000 false [.code I109.body] ⟨(zBg 0 (yAb a0)), [true, true, false, false, false, false, false, false], [], []⟩ = some (.done (yAa false) [(((List.length (Val.list a0) : Int) : Int) == 0) = true, (((List.length (Val.columns a0) : Int) : Int) == 0) = true, (((Val.kind a0) : Int) == 1) = false, (((Val.kind a0) : Int) == 2) = false, (((Val.kind a0) : Int) == 4) = false, (((Val.kind a0) : Int) == 6) = false, (((Val.kind a0) : Int) == 5) = false, (((Val.kind a0) : Int) == 3) = false]) := by kernel_rfl
theorem p109_e_36 (a0 : Val) : run tt (AbsCalls Try.prog) I109 3000 false [.code I109.body] ⟨(zBg 0 (yAb a0)), [true, false, true, false, false, false], [], []⟩ = some (.done (yAa false) [(((List.length (Val.list a0) : Int) : Int) == 0) = true, (((List.length (Val.columns a0) : Int) : Int) == 0) = false, (((Val.kind a0) : Int) == 1) = true, false = false, false = false, false = false]) := by kernel_rfl
theorem p109_e_37 (a0 : Val) : run tt (AbsCalls Try.prog) I109 3000 false [.code I109.body] ⟨(zBg 0 (yAb a0)), [true, false, false, true, false, false, false], [], []⟩ = some (.done (yAa false) [(((List.length (Val.list a0) : Int) : Int) == 0) = true, (((List.length (Val.columns a0) : Int) : Int) == 0) = false, (((Val.kind a0) : Int) == 1) = false, (((Val.kind a0) : Int) == 2) = true, false = false, false = false, false = false]) := by kernel_rfl
theorem p109_e_38 (a0 : Val) : run tt (AbsCalls Try.prog) I109 3000 false [.code I109.body] ⟨(zBg 0 (yAb a0)), [true, false, false, false, true, false, false, false], [], []⟩ = some (.done (yAa false) [(((List.length (Val.list a0) : Int) : Int) == 0) = true, (((List.length (Val.columns a0) : Int) : Int) == 0) = false, (((Val.kind a0) : Int) == 1) = false, (((Val.kind a0) : Int) == 2) = false, (((Val.kind a0) : Int) == 4) = true, false = false, false = false, false = false]) := by kernel_rfl
theorem p109_e_39 (a0 : Val) : run tt (AbsCalls Try.prog) I109 3000 false [.code I109.body] ⟨(zBg 0 (yAb a0)), [true, false, false, false, false, true, false, false, false], [], []⟩ = some (.done (yAa false) [(((List.length (Val.list a0) : Int) : Int) == 0) = true, (((List.length (Val.columns a0) : Int) : Int) == 0) = false, (((Val.kind a0) : Int) == 1) = false, (((Val.kind a0) : Int) == 2) = false, (((Val.kind a0) : Int) == 4) = false, (((Val.kind a0) : Int) == 6) = true, false = false, false = false, false = false]) := by kernel_rfl
theorem p109_e_40 (a0 : Val) (r1 : Bool) : run tt (AbsCalls Try.prog) I109 3000 false [.code I109.body] ⟨(zBg 0 (yAb a0)), [true, false, false, false, false, false, true, true, true, true, true], [yAq r1], []⟩ = some (.done (yAa r1) [(((List.length (Val.list a0) : Int) : Int) == 0) = true, (((List.length (Val.columns a0) : Int) : Int) == 0) = false, (((Val.kind a0) : Int) == 1) = false, (((Val.kind a0) : Int) == 2) = false, (((Val.kind a0) : Int) == 4) = false, (((Val.kind a0) : Int) == 6) = false, (((Val.kind a0) : Int) == 5) = true, (((Val.n a0) : Int) == 0) = true, (((Val.step a0) : Int) == 0) = true, (((Val.text a0) : Str) == []) = true, (((List.length (Val.list a0) : Int) : Int) == 0) = true, AbC 143 (yCB a0) (yAq r1)]) := by kernel_rfl
theorem p109_e_41 (a0 : Val) : run tt (AbsCalls Try.prog) I109 3000 false [.code I109.body] ⟨(zBg 0 (yAb a0)), [true, false, false, false, false, false, true, true, true, false, false], [], []⟩ = some (.done (yAa false) [(((List.length (Val.list a0) : Int) : Int) == 0) = true, (((List.length (Val.columns a0) : Int) : Int) == 0) = false, (((Val.kind a0) : Int) == 1) = false, (((Val.kind a0) : Int) == 2) = false, (((Val.kind a0) : Int) == 4) = false, (((Val.kind a0) : Int) == 6) = false, (((Val.kind a0) : Int) == 5) = true, (((Val.n a0) : Int) == 0) = true, (((Val.step a0) : Int) == 0) = true, (((Val.text a0) : Str) == []) = false, false = false]) := by kernel_rfl
theorem p109_e_42 (a0 : Val) : run tt (AbsCalls Try.prog) I109 3000 false [.code I109.body] ⟨(zBg 0 (yAb a0)), [true, false, false, false, false, false, true, true, false, false, false], [], []⟩ = some (.done (yAa false) [(((List.length (Val.list a0) : Int) : Int) == 0) = true, (((List.length (Val.columns a0) : Int) : Int) == 0) = false, (((Val.kind a0) : Int) == 1) = false, (((Val.kind a0) : Int) == 2) = false, (((Val.kind a0) : Int) == 4) = false, (((Val.kind a0) : Int) == 6) = false, (((Val.kind a0) : Int) == 5) = true, (((Val.n a0) : Int) == 0) = true, (((Val.step a0) : Int) == 0) = false, false = false, false = false]) := by kernel_rfl
theorem p109_e_43 (a0 : Val) : run tt (AbsCalls Try.prog) I109 3000 false [.code I109.body] ⟨(zBg 0 (yAb a0)), [true, false, false, false, false, false, true, false, false, false, false], [], []⟩ = some (.done (yAa false) [(((List.length (Val.list a0) : Int) : Int) == 0) = true, (((List.length (Val.columns a0) : Int) : Int) == 0) = false, (((Val.kind a0) : Int) == 1) = false, (((Val.kind a0) : Int) == 2) = false, (((Val.kind a0) : Int) == 4) = false, (((Val.kind a0) : Int) == 6) = false, (((Val.kind a0) : Int) == 5) = true, (((Val.n a0) : Int) == 0) = false, false = false, false = false, false = false]) := by kernel_rfl
theorem p109_e_44 (a0 : Val) : run tt (AbsCalls Try.prog) I109 3000 false [.code I109.body] ⟨(zBg 0 (yAb a0)), [true, false, false, false, false, false, false, true], [], []⟩ = some (.stop (stkAt 15 I109.body) (yCX (Val.list a0) (List.length (Val.list a0) : Int) 0 a0) [(((List.length (Val.list a0) : Int) : Int) == 0) = true, (((List.length (Val.columns a0) : Int) : Int) == 0) = false, (((Val.kind a0) : Int) == 1) = false, (((Val.kind a0) : Int) == 2) = false, (((Val.kind a0) : Int) == 4) = false, (((Val.kind a0) : Int) == 6) = false, (((Val.kind a0) : Int) == 5) = false, (((Val.kind a0) : Int) == 3) = true]) := by kernel_rfl
theorem p109_e_45 (a0 : Val) : run tt (AbsCalls Try.prog) I109 3000 false [.code I109.body] ⟨(zBg 0 (yAb a0)), [true, false, false, false, false, false, false, false], [], []⟩ = some (.done (yAa false) [(((List.length (Val.list a0) : Int) : Int) == 0) = true, (((List.length (Val.columns a0) : Int) : Int) == 0) = false, (((Val.kind a0) : Int) == 1) = false, (((Val.kind a0) : Int) == 2) = false, (((Val.kind a0) : Int) == 4) = false, (((Val.kind a0) : Int) == 6) = false, (((Val.kind a0) : Int) == 5) = false, (((Val.kind a0) : Int) == 3) = false]) := by kernel_rfl
theorem p109_e_46 (a0 : Val) : run tt (AbsCalls Try.prog) I109 3000 false [.code I109.body] ⟨(zBg 0 (yAb a0)), [false, false, true, false, false, false], [], []⟩ = some (.done (yAa false) [(((List.length (Val.list a0) : Int) : Int) == 0) = false, false = false, (((Val.kind a0) : Int) == 1) = true, false = false, false = false, false = false]) := by kernel_rfl
theorem p109_e_47 (a0 : Val) : run tt (AbsCalls Try.prog) I109 3000 false [.code I109.body] ⟨(zBg 0 (yAb a0)), [false, false, false, true, false, false, false], [], []⟩ = some (.done (yAa false) [(((List.length (Val.list a0) : Int) : Int) == 0) = false, false = false, (((Val.kind a0) : Int) == 1) = false, (((Val.kind a0) : Int) == 2) = true, false = false, false = false, false = false]) := by kernel_rfl
theorem p109_e_48 (a0 : Val) : run tt (AbsCalls Try.prog) I109 3000 false [.code I109.body] ⟨(zBg 0 (yAb a0)), [false, false, false, false, true, false, false, false], [], []⟩ = some (.done (yAa false) [(((List.length (Val.list a0) : Int) : Int) == 0) = false, false = false, (((Val.kind a0) : Int) == 1) = false, (((Val.kind a0) : Int) == 2) = false, (((Val.kind a0) : Int) == 4) = true, false = false, false = false, false = false]) := by kernel_rfl
theorem p109_e_49 (a0 : Val) : run tt (AbsCalls Try.prog) I109 3000 false [.code I109.body] ⟨(zBg 0 (yAb a0)), [false, false, false, false, false, true, false, false, false], [], []⟩ = some (.done (yAa false) [(((List.length (Val.list a0) : Int) : Int) == 0) = false, false = false, (((Val.kind a0) : Int) == 1) = false, (((Val.kind a0) : Int) == 2) = false, (((Val.kind a0) : Int) == 4) = false, (((Val.kind a0) : Int) == 6) = true, false = false, false = false, false = false]) := by kernel_rfl
theorem p109_e_50 (a0 : Val) : run tt (AbsCalls Try.prog) I109 3000 false [.code I109.body] ⟨(zBg 0 (yAb a0)), [false, false, false, false, false, false, true, true, true, true, false], [], []⟩ = some (.done (yAa false) [(((List.length (Val.list a0) : Int) : Int) == 0) = false, false = false, (((Val.kind a0) : Int) == 1) = false, (((Val.kind a0) : Int) == 2) = false, (((Val.kind a0) : Int) == 4) = false, (((Val.kind a0) : Int) == 6) = false, (((Val.kind a0) : Int) == 5) = true, (((Val.n a0) : Int) == 0) = true, (((Val.step a0) : Int) == 0) = true, (((Val.text a0) : Str) == []) = true, (((List.length (Val.list a0) : Int) : Int) == 0) = false]) := by kernel_rfl
theorem p109_e_51 (a0 : Val) : run tt (AbsCalls Try.prog) I109 3000 false [.code I109.body] ⟨(zBg 0 (yAb a0)), [false, false, false, false, false, false, true, true, true, false, false], [], []⟩ = some (.done (yAa false) [(((List.length (Val.list a0) : Int) : Int) == 0) = false, false = false, (((Val.kind a0) : Int) == 1) = false, (((Val.kind a0) : Int) == 2) = false, (((Val.kind a0) : Int) == 4) = false, (((Val.kind a0) : Int) == 6) = false, (((Val.kind a0) : Int) == 5) = true, (((Val.n a0) : Int) == 0) = true, (((Val.step a0) : Int) == 0) = true, (((Val.text a0) : Str) == []) = false, false = false]) := by kernel_rfl
theorem p109_e_52 (a0 : Val) : run tt (AbsCalls Try.prog) I109 3000 false [.code I109.body] ⟨(zBg 0 (yAb a0)), [false, false, false, false, false, false, true, true, false, false, false], [], []⟩ = some (.done (yAa false) [(((List.length (Val.list a0) : Int) : Int) == 0) = false, false = false, (((Val.kind a0) : Int) == 1) = false, (((Val.kind a0) : Int) == 2) = false, (((Val.kind a0) : Int) == 4) = false, (((Val.kind a0) : Int) == 6) = false, (((Val.kind a0) : Int) == 5) = true, (((Val.n a0) : Int) == 0) = true, (((Val.step a0) : Int) == 0) = false, false = false, false = false]) := by kernel_rfl
theorem p109_e_53 (a0 : Val) : run tt (AbsCalls Try.prog) I109 3000 false [.code I109.body] ⟨(zBg 0 (yAb a0)), [false, false, false, false, false, false, true, false, false, false, false], [], []⟩ = some (.done (yAa false) [(((List.length (Val.list a0) : Int) : Int) == 0) = false, false = false, (((Val.kind a0) : Int) == 1) = false, (((Val.kind a0) : Int) == 2) = false, (((Val.kind a0) : Int) == 4) = false, (((Val.kind a0) : Int) == 6) = false, (((Val.kind a0) : Int) == 5) = true, (((Val.n a0) : Int) == 0) = false, false = false, false = false, false = false]) := by kernel_rfl
theorem p109_e_54 (a0 : Val) : run tt (AbsCalls Try.prog) I109 3000 false [.code I109.body] ⟨(zBg 0 (yAb a0)), [false, false, false, false, false, false, false, true], [], []⟩ = some (.stop (stkAt 15 I109.body) (yCX (Val.list a0) (List.length (Val.list a0) : Int) 0 a0) [(((List.length (Val.list a0) : Int) : Int) == 0) = false, false = false, (((Val.kind a0) : Int) == 1) = false, (((Val.kind a0) : Int) == 2) = false, (((Val.kind a0) : Int) == 4) = false, (((Val.kind a0) : Int) == 6) = false, (((Val.kind a0) : Int) == 5) = false, (((Val.kind a0) : Int) == 3) = true]) := by kernel_rfl
theorem p109_e_55 (a0 : Val) : run tt (AbsCalls Try.prog) I109 3000 false [.code I109.body] ⟨(zBg 0 (yAb a0)), [false, false, false, false, false, false, false, false], [], []⟩ = some (.done (yAa false) [(((List.length (Val.list a0) : Int) : Int) == 0) = false, false = false, (((Val.kind a0) : Int) == 1) = false, (((Val.kind a0) : Int) == 2) = false, (((Val.kind a0) : Int) == 4) = false, (((Val.kind a0) : Int) == 6) = false, (((Val.kind a0) : Int) == 5) = false, (((Val.kind a0) : Int) == 3) = false]) := by kernel_rfl
theorem c109_15 {N : Nat} {rc_impl_IsValidValue : Val → Option (Bool)} (hrc_impl_IsValidValue : ∀ a0 r, rc_impl_IsValidValue a0 = some r → AbC 109 (yAb a0) (yAa r)) : ∀ n x124 x125 x126 b1 r, yAo N rc_impl_IsValidValue n x124 x125 x126 b1 = some r → Reach Try.prog Try.f109 I109 (stkAt 15 I109.body) (yCX x124 x125 x126 b1) (yAa r) := by
 intro n
 induction n with
 | zero => intro x124 x125 x126 b1 r h; have h' : (none : Option (Bool)) = some r := h; cases h'
 | succ n ih =>
  intro x124 x125 x126 b1 r h
  rw [yAo] at h
  rcases cond_inv h with ⟨h0, h⟩ | ⟨h0, h⟩
  ·obtain ⟨h1, h⟩ := ite_inv h
   rcases cond_inv h with ⟨h2, h⟩ | ⟨h2, h⟩
   ·rcases cond_inv h with ⟨h3, h⟩ | ⟨h3, h⟩
    ·rcases cond_inv h with ⟨h4, h⟩ | ⟨h4, h⟩
     ·obtain rfl := Option.some.inj h
      exact Reach.done ttok mix yBS (p109_15_0 x124 x125 x126 b1) (obs_cons h0 (obs_cons h1 (obs_cons h2 (obs_cons h3 (obs_cons h4 (obs_cons rfl obs_nil))))))
     ·obtain ⟨r1, h5, h⟩ := bind_inv h
      rcases cond_inv h with ⟨h6, h⟩ | ⟨h6, h⟩
      ·obtain rfl := Option.some.inj h
       exact Reach.done ttok mix yBS (p109_15_1 x124 x125 x126 b1 r1) (obs_cons h0 (obs_cons h1 (obs_cons h2 (obs_cons h3 (obs_cons h4 (obs_cons (hrc_impl_IsValidValue _ _ h5) (obs_cons h6 obs_nil)))))))
      ·exact Reach.stop ttok mix yBS (p109_15_2 x124 x125 x126 b1 r1) (obs_cons h0 (obs_cons h1 (obs_cons h2 (obs_cons h3 (obs_cons h4 (obs_cons (hrc_impl_IsValidValue _ _ h5) (obs_cons h6 obs_nil))))))) (ih _ _ _ _ _ h)
    ·obtain ⟨r1, h5, h⟩ := bind_inv h
     rcases cond_inv h with ⟨h6, h⟩ | ⟨h6, h⟩
     ·obtain rfl := Option.some.inj h
      exact Reach.done ttok mix yBS (p109_15_3 x124 x125 x126 b1 r1) (obs_cons h0 (obs_cons h1 (obs_cons h2 (obs_cons h3 (obs_cons rfl (obs_cons (hrc_impl_IsValidValue _ _ h5) (obs_cons h6 obs_nil)))))))
     ·exact Reach.stop ttok mix yBS (p109_15_4 x124 x125 x126 b1 r1) (obs_cons h0 (obs_cons h1 (obs_cons h2 (obs_cons h3 (obs_cons rfl (obs_cons (hrc_impl_IsValidValue _ _ h5) (obs_cons h6 obs_nil))))))) (ih _ _ _ _ _ h)
   ·obtain ⟨r1, h5, h⟩ := bind_inv h
    rcases cond_inv h with ⟨h6, h⟩ | ⟨h6, h⟩
    ·obtain rfl := Option.some.inj h
     exact Reach.done ttok mix yBS (p109_15_5 x124 x125 x126 b1 r1) (obs_cons h0 (obs_cons h1 (obs_cons h2 (obs_cons rfl (obs_cons rfl (obs_cons (hrc_impl_IsValidValue _ _ h5) (obs_cons h6 obs_nil)))))))
    ·exact Reach.stop ttok mix yBS (p109_15_6 x124 x125 x126 b1 r1) (obs_cons h0 (obs_cons h1 (obs_cons h2 (obs_cons rfl (obs_cons rfl (obs_cons (hrc_impl_IsValidValue _ _ h5) (obs_cons h6 obs_nil))))))) (ih _ _ _ _ _ h)
  ·rcases cond_inv h with ⟨h1, h⟩ | ⟨h1, h⟩
   ·rcases cond_inv h with ⟨h2, h⟩ | ⟨h2, h⟩
    ·rcases cond_inv h with ⟨h3, h⟩ | ⟨h3, h⟩
     ·rcases cond_inv h with ⟨h4, h⟩ | ⟨h4, h⟩
      ·rcases cond_inv h with ⟨h5, h⟩ | ⟨h5, h⟩
       ·rcases cond_inv h with ⟨h6, h⟩ | ⟨h6, h⟩
        ·obtain ⟨r1, h7, h⟩ := bind_inv h
         obtain rfl := Option.some.inj h
         exact Reach.done ttok mix yBS (p109_15_7 x124 x125 x126 b1 r1) (obs_cons h0 (obs_cons h1 (obs_cons h2 (obs_cons h3 (obs_cons h4 (obs_cons h5 (obs_cons h6 (obs_cons (impl_DepthOf_ok h7) obs_nil))))))))
        ·obtain rfl := Option.some.inj h
         exact Reach.done ttok mix yBS (p109_15_8 x124 x125 x126 b1) (obs_cons h0 (obs_cons h1 (obs_cons h2 (obs_cons h3 (obs_cons h4 (obs_cons h5 (obs_cons h6 obs_nil)))))))
       ·obtain rfl := Option.some.inj h
        exact Reach.done ttok mix yBS (p109_15_9 x124 x125 x126 b1) (obs_cons h0 (obs_cons h1 (obs_cons h2 (obs_cons h3 (obs_cons h4 (obs_cons h5 (obs_cons rfl obs_nil)))))))
      ·obtain rfl := Option.some.inj h
       exact Reach.done ttok mix yBS (p109_15_10 x124 x125 x126 b1) (obs_cons h0 (obs_cons h1 (obs_cons h2 (obs_cons h3 (obs_cons h4 (obs_cons rfl (obs_cons rfl obs_nil)))))))
     ·obtain rfl := Option.some.inj h
      exact Reach.done ttok mix yBS (p109_15_11 x124 x125 x126 b1) (obs_cons h0 (obs_cons h1 (obs_cons h2 (obs_cons h3 (obs_cons rfl (obs_cons rfl (obs_cons rfl obs_nil)))))))
    ·obtain rfl := Option.some.inj h
     exact Reach.done ttok mix yBS (p109_15_12 x124 x125 x126 b1) (obs_cons h0 (obs_cons h1 (obs_cons h2 (obs_cons rfl (obs_cons rfl (obs_cons rfl (obs_cons rfl obs_nil)))))))
   ·obtain rfl := Option.some.inj h
    exact Reach.done ttok mix yBS (p109_15_13 x124 x125 x126 b1) (obs_cons h0 (obs_cons h1 (obs_cons rfl (obs_cons rfl (obs_cons rfl (obs_cons rfl (obs_cons rfl obs_nil)))))))
theorem c109_e {N : Nat} {rc_impl_IsValidValue : Val → Option (Bool)} (hrc_impl_IsValidValue : ∀ a0 r, rc_impl_IsValidValue a0 = some r → AbC 109 (yAb a0) (yAa r)) : ∀ a0 r, yBi N rc_impl_IsValidValue a0 = some r → Reach Try.prog Try.f109 I109 [.code I109.body] (zBg 0 (yAb a0)) (yAa r) := by
 intro a0 r h
 unfold yBi at h
 rcases cond_inv h with ⟨h0, h⟩ | ⟨h0, h⟩
 ·rcases cond_inv h with ⟨h1, h⟩ | ⟨h1, h⟩
  ·rcases cond_inv h with ⟨h2, h⟩ | ⟨h2, h⟩
   ·rcases cond_inv h with ⟨h3, h⟩ | ⟨h3, h⟩
    ·rcases cond_inv h with ⟨h4, h⟩ | ⟨h4, h⟩
     ·rcases cond_inv h with ⟨h5, h⟩ | ⟨h5, h⟩
      ·obtain ⟨r1, h6, h⟩ := bind_inv h
       obtain rfl := Option.some.inj h
       exact Reach.done ttok mix yBS (p109_e_14 a0 r1) (obs_cons h0 (obs_cons h1 (obs_cons h2 (obs_cons h3 (obs_cons h4 (obs_cons h5 (obs_cons (yCK h6) obs_nil)))))))
      ·obtain rfl := Option.some.inj h
       exact Reach.done ttok mix yBS (p109_e_15 a0) (obs_cons h0 (obs_cons h1 (obs_cons h2 (obs_cons h3 (obs_cons h4 (obs_cons h5 obs_nil))))))
     ·obtain rfl := Option.some.inj h
      exact Reach.done ttok mix yBS (p109_e_16 a0) (obs_cons h0 (obs_cons h1 (obs_cons h2 (obs_cons h3 (obs_cons h4 (obs_cons rfl obs_nil))))))
    ·obtain rfl := Option.some.inj h
     exact Reach.done ttok mix yBS (p109_e_17 a0) (obs_cons h0 (obs_cons h1 (obs_cons h2 (obs_cons h3 (obs_cons rfl (obs_cons rfl obs_nil))))))
   ·rcases cond_inv h with ⟨h3, h⟩ | ⟨h3, h⟩
    ·rcases cond_inv h with ⟨h4, h⟩ | ⟨h4, h⟩
     ·rcases cond_inv h with ⟨h5, h⟩ | ⟨h5, h⟩
      ·rcases cond_inv h with ⟨h6, h⟩ | ⟨h6, h⟩
       ·obtain ⟨r1, h7, h⟩ := bind_inv h
        obtain rfl := Option.some.inj h
        exact Reach.done ttok mix yBS (p109_e_18 a0 r1) (obs_cons h0 (obs_cons h1 (obs_cons h2 (obs_cons h3 (obs_cons h4 (obs_cons h5 (obs_cons h6 (obs_cons (yGc h7) obs_nil))))))))
       ·obtain rfl := Option.some.inj h
        exact Reach.done ttok mix yBS (p109_e_19 a0) (obs_cons h0 (obs_cons h1 (obs_cons h2 (obs_cons h3 (obs_cons h4 (obs_cons h5 (obs_cons h6 obs_nil)))))))
      ·obtain rfl := Option.some.inj h
       exact Reach.done ttok mix yBS (p109_e_20 a0) (obs_cons h0 (obs_cons h1 (obs_cons h2 (obs_cons h3 (obs_cons h4 (obs_cons h5 (obs_cons rfl obs_nil)))))))
     ·obtain rfl := Option.some.inj h
      exact Reach.done ttok mix yBS (p109_e_21 a0) (obs_cons h0 (obs_cons h1 (obs_cons h2 (obs_cons h3 (obs_cons h4 (obs_cons rfl (obs_cons rfl obs_nil)))))))
    ·rcases cond_inv h with ⟨h4, h⟩ | ⟨h4, h⟩
     ·rcases cond_inv h with ⟨h5, h⟩ | ⟨h5, h⟩
      ·rcases cond_inv h with ⟨h6, h⟩ | ⟨h6, h⟩
       ·obtain ⟨r1, h7, h⟩ := bind_inv h
        rcases cond_inv h with ⟨h8, h⟩ | ⟨h8, h⟩
        ·obtain ⟨r2, h9, h⟩ := bind_inv h
         obtain rfl := Option.some.inj h
         exact Reach.done ttok mix yBS (p109_e_22 a0 r1 r2) (obs_cons h0 (obs_cons h1 (obs_cons h2 (obs_cons h3 (obs_cons h4 (obs_cons h5 (obs_cons h6 (obs_cons (yCK h7) (obs_cons h8 (obs_cons (yCK h9) obs_nil))))))))))
        ·obtain rfl := Option.some.inj h
         exact Reach.done ttok mix yBS (p109_e_23 a0 r1) (obs_cons h0 (obs_cons h1 (obs_cons h2 (obs_cons h3 (obs_cons h4 (obs_cons h5 (obs_cons h6 (obs_cons (yCK h7) (obs_cons h8 obs_nil)))))))))
       ·obtain rfl := Option.some.inj h
        exact Reach.done ttok mix yBS (p109_e_24 a0) (obs_cons h0 (obs_cons h1 (obs_cons h2 (obs_cons h3 (obs_cons h4 (obs_cons h5 (obs_cons h6 (obs_cons rfl obs_nil))))))))
      ·obtain rfl := Option.some.inj h
       exact Reach.done ttok mix yBS (p109_e_25 a0) (obs_cons h0 (obs_cons h1 (obs_cons h2 (obs_cons h3 (obs_cons h4 (obs_cons h5 (obs_cons rfl (obs_cons rfl obs_nil))))))))
     ·rcases cond_inv h with ⟨h5, h⟩ | ⟨h5, h⟩
      ·rcases cond_inv h with ⟨h6, h⟩ | ⟨h6, h⟩
       ·rcases cond_inv h with ⟨h7, h⟩ | ⟨h7, h⟩
        ·rcases cond_inv h with ⟨h8, h⟩ | ⟨h8, h⟩
         ·obtain ⟨r1, h9, h⟩ := bind_inv h
          obtain rfl := Option.some.inj h
          exact Reach.done ttok mix yBS (p109_e_26 a0 r1) (obs_cons h0 (obs_cons h1 (obs_cons h2 (obs_cons h3 (obs_cons h4 (obs_cons h5 (obs_cons h6 (obs_cons h7 (obs_cons h8 (obs_cons (yD8 h9) obs_nil))))))))))
         ·obtain rfl := Option.some.inj h
          exact Reach.done ttok mix yBS (p109_e_27 a0) (obs_cons h0 (obs_cons h1 (obs_cons h2 (obs_cons h3 (obs_cons h4 (obs_cons h5 (obs_cons h6 (obs_cons h7 (obs_cons h8 obs_nil)))))))))
        ·obtain rfl := Option.some.inj h
         exact Reach.done ttok mix yBS (p109_e_28 a0) (obs_cons h0 (obs_cons h1 (obs_cons h2 (obs_cons h3 (obs_cons h4 (obs_cons h5 (obs_cons h6 (obs_cons h7 (obs_cons rfl obs_nil)))))))))
       ·obtain rfl := Option.some.inj h
        exact Reach.done ttok mix yBS (p109_e_29 a0) (obs_cons h0 (obs_cons h1 (obs_cons h2 (obs_cons h3 (obs_cons h4 (obs_cons h5 (obs_cons h6 (obs_cons rfl (obs_cons rfl obs_nil)))))))))
      ·rcases cond_inv h with ⟨h6, h⟩ | ⟨h6, h⟩
       ·rcases cond_inv h with ⟨h7, h⟩ | ⟨h7, h⟩
        ·rcases cond_inv h with ⟨h8, h⟩ | ⟨h8, h⟩
         ·rcases cond_inv h with ⟨h9, h⟩ | ⟨h9, h⟩
          ·obtain ⟨r1, h11, h⟩ := bind_inv h
           obtain rfl := Option.some.inj h
           exact Reach.done ttok mix yBS (p109_e_30 a0 r1) (obs_cons h0 (obs_cons h1 (obs_cons h2 (obs_cons h3 (obs_cons h4 (obs_cons h5 (obs_cons h6 (obs_cons h7 (obs_cons h8 (obs_cons h9 (obs_cons h0 (obs_cons (yFM h11) obs_nil))))))))))))
          ·obtain rfl := Option.some.inj h
           exact Reach.done ttok mix yBS (p109_e_31 a0) (obs_cons h0 (obs_cons h1 (obs_cons h2 (obs_cons h3 (obs_cons h4 (obs_cons h5 (obs_cons h6 (obs_cons h7 (obs_cons h8 (obs_cons h9 (obs_cons rfl obs_nil)))))))))))
         ·obtain rfl := Option.some.inj h
          exact Reach.done ttok mix yBS (p109_e_32 a0) (obs_cons h0 (obs_cons h1 (obs_cons h2 (obs_cons h3 (obs_cons h4 (obs_cons h5 (obs_cons h6 (obs_cons h7 (obs_cons h8 (obs_cons rfl (obs_cons rfl obs_nil)))))))))))
        ·obtain rfl := Option.some.inj h
         exact Reach.done ttok mix yBS (p109_e_33 a0) (obs_cons h0 (obs_cons h1 (obs_cons h2 (obs_cons h3 (obs_cons h4 (obs_cons h5 (obs_cons h6 (obs_cons h7 (obs_cons rfl (obs_cons rfl (obs_cons rfl obs_nil)))))))))))
       ·rcases cond_inv h with ⟨h7, h⟩ | ⟨h7, h⟩
        ·exact Reach.stop ttok mix yBS (p109_e_34 a0) (obs_cons h0 (obs_cons h1 (obs_cons h2 (obs_cons h3 (obs_cons h4 (obs_cons h5 (obs_cons h6 (obs_cons h7 obs_nil)))))))) (c109_15 hrc_impl_IsValidValue  _ _ _ _ _ _ h)
        ·obtain rfl := Option.some.inj h
         exact Reach.done ttok mix yBS (p109_e_35 a0) (obs_cons h0 (obs_cons h1 (obs_cons h2 (obs_cons h3 (obs_cons h4 (obs_cons h5 (obs_cons h6 (obs_cons h7 obs_nil))))))))
  ·rcases cond_inv h with ⟨h2, h⟩ | ⟨h2, h⟩
   ·obtain rfl := Option.some.inj h
    exact Reach.done ttok mix yBS (p109_e_36 a0) (obs_cons h0 (obs_cons h1 (obs_cons h2 (obs_cons rfl (obs_cons rfl (obs_cons rfl obs_nil))))))
   ·rcases cond_inv h with ⟨h3, h⟩ | ⟨h3, h⟩
    ·obtain rfl := Option.some.inj h
     exact Reach.done ttok mix yBS (p109_e_37 a0) (obs_cons h0 (obs_cons h1 (obs_cons h2 (obs_cons h3 (obs_cons rfl (obs_cons rfl (obs_cons rfl obs_nil)))))))
    ·rcases cond_inv h with ⟨h4, h⟩ | ⟨h4, h⟩
     ·obtain rfl := Option.some.inj h
      exact Reach.done ttok mix yBS (p109_e_38 a0) (obs_cons h0 (obs_cons h1 (obs_cons h2 (obs_cons h3 (obs_cons h4 (obs_cons rfl (obs_cons rfl (obs_cons rfl obs_nil))))))))
     ·rcases cond_inv h with ⟨h5, h⟩ | ⟨h5, h⟩
      ·obtain rfl := Option.some.inj h
       exact Reach.done ttok mix yBS (p109_e_39 a0) (obs_cons h0 (obs_cons h1 (obs_cons h2 (obs_cons h3 (obs_cons h4 (obs_cons h5 (obs_cons rfl (obs_cons rfl (obs_cons rfl obs_nil)))))))))
      ·rcases cond_inv h with ⟨h6, h⟩ | ⟨h6, h⟩
       ·rcases cond_inv h with ⟨h7, h⟩ | ⟨h7, h⟩
        ·rcases cond_inv h with ⟨h8, h⟩ | ⟨h8, h⟩
         ·rcases cond_inv h with ⟨h9, h⟩ | ⟨h9, h⟩
          ·obtain ⟨r1, h11, h⟩ := bind_inv h
           obtain rfl := Option.some.inj h
           exact Reach.done ttok mix yBS (p109_e_40 a0 r1) (obs_cons h0 (obs_cons h1 (obs_cons h2 (obs_cons h3 (obs_cons h4 (obs_cons h5 (obs_cons h6 (obs_cons h7 (obs_cons h8 (obs_cons h9 (obs_cons h0 (obs_cons (yFM h11) obs_nil))))))))))))
          ·obtain rfl := Option.some.inj h
           exact Reach.done ttok mix yBS (p109_e_41 a0) (obs_cons h0 (obs_cons h1 (obs_cons h2 (obs_cons h3 (obs_cons h4 (obs_cons h5 (obs_cons h6 (obs_cons h7 (obs_cons h8 (obs_cons h9 (obs_cons rfl obs_nil)))))))))))
         ·obtain rfl := Option.some.inj h
          exact Reach.done ttok mix yBS (p109_e_42 a0) (obs_cons h0 (obs_cons h1 (obs_cons h2 (obs_cons h3 (obs_cons h4 (obs_cons h5 (obs_cons h6 (obs_cons h7 (obs_cons h8 (obs_cons rfl (obs_cons rfl obs_nil)))))))))))
        ·obtain rfl := Option.some.inj h
         exact Reach.done ttok mix yBS (p109_e_43 a0) (obs_cons h0 (obs_cons h1 (obs_cons h2 (obs_cons h3 (obs_cons h4 (obs_cons h5 (obs_cons h6 (obs_cons h7 (obs_cons rfl (obs_cons rfl (obs_cons rfl obs_nil)))))))))))
       ·rcases cond_inv h with ⟨h7, h⟩ | ⟨h7, h⟩
        ·exact Reach.stop ttok mix yBS (p109_e_44 a0) (obs_cons h0 (obs_cons h1 (obs_cons h2 (obs_cons h3 (obs_cons h4 (obs_cons h5 (obs_cons h6 (obs_cons h7 obs_nil)))))))) (c109_15 hrc_impl_IsValidValue  _ _ _ _ _ _ h)
        ·obtain rfl := Option.some.inj h
         exact Reach.done ttok mix yBS (p109_e_45 a0) (obs_cons h0 (obs_cons h1 (obs_cons h2 (obs_cons h3 (obs_cons h4 (obs_cons h5 (obs_cons h6 (obs_cons h7 obs_nil))))))))
 ·rcases cond_inv h with ⟨h2, h⟩ | ⟨h2, h⟩
  ·obtain rfl := Option.some.inj h
   exact Reach.done ttok mix yBS (p109_e_46 a0) (obs_cons h0 (obs_cons rfl (obs_cons h2 (obs_cons rfl (obs_cons rfl (obs_cons rfl obs_nil))))))
  ·rcases cond_inv h with ⟨h3, h⟩ | ⟨h3, h⟩
   ·obtain rfl := Option.some.inj h
    exact Reach.done ttok mix yBS (p109_e_47 a0) (obs_cons h0 (obs_cons rfl (obs_cons h2 (obs_cons h3 (obs_cons rfl (obs_cons rfl (obs_cons rfl obs_nil)))))))
   ·rcases cond_inv h with ⟨h4, h⟩ | ⟨h4, h⟩
    ·obtain rfl := Option.some.inj h
     exact Reach.done ttok mix yBS (p109_e_48 a0) (obs_cons h0 (obs_cons rfl (obs_cons h2 (obs_cons h3 (obs_cons h4 (obs_cons rfl (obs_cons rfl (obs_cons rfl obs_nil))))))))
    ·rcases cond_inv h with ⟨h5, h⟩ | ⟨h5, h⟩
     ·obtain rfl := Option.some.inj h
      exact Reach.done ttok mix yBS (p109_e_49 a0) (obs_cons h0 (obs_cons rfl (obs_cons h2 (obs_cons h3 (obs_cons h4 (obs_cons h5 (obs_cons rfl (obs_cons rfl (obs_cons rfl obs_nil)))))))))
     ·rcases cond_inv h with ⟨h6, h⟩ | ⟨h6, h⟩
      ·rcases cond_inv h with ⟨h7, h⟩ | ⟨h7, h⟩
       ·rcases cond_inv h with ⟨h8, h⟩ | ⟨h8, h⟩
        ·rcases cond_inv h with ⟨h9, h⟩ | ⟨h9, h⟩
         ·obtain rfl := Option.some.inj h
          exact Reach.done ttok mix yBS (p109_e_50 a0) (obs_cons h0 (obs_cons rfl (obs_cons h2 (obs_cons h3 (obs_cons h4 (obs_cons h5 (obs_cons h6 (obs_cons h7 (obs_cons h8 (obs_cons h9 (obs_cons h0 obs_nil)))))))))))
         ·obtain rfl := Option.some.inj h
          exact Reach.done ttok mix yBS (p109_e_51 a0) (obs_cons h0 (obs_cons rfl (obs_cons h2 (obs_cons h3 (obs_cons h4 (obs_cons h5 (obs_cons h6 (obs_cons h7 (obs_cons h8 (obs_cons h9 (obs_cons rfl obs_nil)))))))))))
        ·obtain rfl := Option.some.inj h
         exact Reach.done ttok mix yBS (p109_e_52 a0) (obs_cons h0 (obs_cons rfl (obs_cons h2 (obs_cons h3 (obs_cons h4 (obs_cons h5 (obs_cons h6 (obs_cons h7 (obs_cons h8 (obs_cons rfl (obs_cons rfl obs_nil)))))))))))
       ·obtain rfl := Option.some.inj h
        exact Reach.done ttok mix yBS (p109_e_53 a0) (obs_cons h0 (obs_cons rfl (obs_cons h2 (obs_cons h3 (obs_cons h4 (obs_cons h5 (obs_cons h6 (obs_cons h7 (obs_cons rfl (obs_cons rfl (obs_cons rfl obs_nil)))))))))))
      ·rcases cond_inv h with ⟨h7, h⟩ | ⟨h7, h⟩
       ·exact Reach.stop ttok mix yBS (p109_e_54 a0) (obs_cons h0 (obs_cons rfl (obs_cons h2 (obs_cons h3 (obs_cons h4 (obs_cons h5 (obs_cons h6 (obs_cons h7 obs_nil)))))))) (c109_15 hrc_impl_IsValidValue  _ _ _ _ _ _ h)
       ·obtain rfl := Option.some.inj h
        exact Reach.done ttok mix yBS (p109_e_55 a0) (obs_cons h0 (obs_cons rfl (obs_cons h2 (obs_cons h3 (obs_cons h4 (obs_cons h5 (obs_cons h6 (obs_cons h7 obs_nil))))))))
theorem yFk {N : Nat} {rc_impl_IsValidValue : Val → Option (Bool)} (hrc_impl_IsValidValue : ∀ a0 r, rc_impl_IsValidValue a0 = some r → AbC 109 (yAb a0) (yAa r)) {a0 : Val} {r : Bool} (h : yBi N rc_impl_IsValidValue a0 = some r) : AbC 109 (yAb a0) (yAa r) :=
 AbsCalls.of_reach yBS rfl rfl (Nat.le_of_ble_eq_true rfl) (c109_e hrc_impl_IsValidValue a0 r h)
theorem yFo {N : Nat} : ∀ d, (∀ a0 r, yAs N d a0 = some r → AbC 109 (yAb a0) (yAa r)) := by
 intro d
 induction d with
 | zero => intro _ r h; have h' : (none : Option (Bool)) = some r := h; cases h'
 | succ d ih => intro _ r h; exact yFk (N := N) ih h
theorem yD4 {N : Nat} {a0 : Val} {r : Bool} (h : yEt N a0 = some r) : AbC 109 (yAb a0) (yAa r) := yFo N _ r h
noncomputable def I112 : Info := { body := (Try.f112.body).getD .skip, nt := 31, results := [.cell 2 28, .tmp 3], keep := [0, 4, 6, 8, 16, 32, 46, 5], live := [(2, [0, 4, 8, 5])], modes := [], ext := [], lnt := [], casts := [], fcast := [] }
theorem fk112 : FnOk Try.prog 112 Try.f112 I112 := ⟨Try.func112, by kernel_rfl, by kernel_rfl, by kernel_rfl, by kernel_rfl⟩
def S112_2 (x0 : List Val) (x4 : Int) (b2 : Val) : St := [(0, .v false [.sl .ro .val x0]), (4, .v false [.ptr 2 0]), (8, .v false [.int .i64 x4]), (5, .v true [.int .i64 (Val.kind b2), .int .i64 (Val.n b2), .int .i64 (Val.step b2), .str (Val.text b2), .sl .own .val (Val.list b2), .sl .own .str (Val.columns b2), .sl .own .row (Val.rows b2)])]
theorem p112_2_0 (x0 : List Val) (x4 : Int) (b2 : Val) (r1 : Bool) (r2 : Val) : run tt (AbsCalls Try.prog) I112 3000 true (stkAt 2 I112.body) ⟨(S112_2 x0 x4 b2), [true, true], [yAc r1, yBL r2], []⟩ = some (.done (yDc (r2, true)) [(decide ((x4 : Int) < (List.length x0 : Int))) = true, (0 : Int) ≤ x4 ∧ x4 < (List.length x0), AbC 108 (yAd (List.getD x0 (Int.toNat x4) Ty.val.dflt)) (yAc r1), (!r1) = true, AbC 72 (yCT 4) (yBL r2)]) := by kernel_rfl
theorem p112_2_1 (x0 : List Val) (x4 : Int) (b2 : Val) (r1 : Bool) (r2 : Val) : run tt (AbsCalls Try.prog) I112 3000 true (stkAt 2 I112.body) ⟨(S112_2 x0 x4 b2), [true, false, true], [yAc r1, yBL r2], []⟩ = some (.done (yDc (r2, true)) [(decide ((x4 : Int) < (List.length x0 : Int))) = true, (0 : Int) ≤ x4 ∧ x4 < (List.length x0), AbC 108 (yAd (List.getD x0 (Int.toNat x4) Ty.val.dflt)) (yAc r1), (!r1) = false, (0 : Int) ≤ x4 ∧ x4 < (List.length x0), (((Val.kind (List.getD x0 (Int.toNat x4) Ty.val.dflt)) : Int) == 6) = true, (0 : Int) ≤ x4 ∧ x4 < (List.length x0), AbC 72 (yCT (Val.n (List.getD x0 (Int.toNat x4) Ty.val.dflt))) (yBL r2)]) := by kernel_rfl
theorem p112_2_2 (x0 : List Val) (x4 : Int) (b2 : Val) (r1 : Bool) : run tt (AbsCalls Try.prog) I112 3000 true (stkAt 2 I112.body) ⟨(S112_2 x0 x4 b2), [true, false, false], [yAc r1], []⟩ = some (.stop (stkAt 2 I112.body) (S112_2 x0 (IntKind.i64.wrap (x4 + 1)) b2) [(decide ((x4 : Int) < (List.length x0 : Int))) = true, (0 : Int) ≤ x4 ∧ x4 < (List.length x0), AbC 108 (yAd (List.getD x0 (Int.toNat x4) Ty.val.dflt)) (yAc r1), (!r1) = false, (0 : Int) ≤ x4 ∧ x4 < (List.length x0), (((Val.kind (List.getD x0 (Int.toNat x4) Ty.val.dflt)) : Int) == 6) = false]) := by kernel_rfl
theorem p112_2_3 (x0 : List Val) (x4 : Int) (b2 : Val) : run tt (AbsCalls Try.prog) I112 3000 true (stkAt 2 I112.body) ⟨(S112_2 x0 x4 b2), [false], [], []⟩ = some (.done (yDc ((Val.mk 0 0 0 [] [] [] []), false)) [(decide ((x4 : Int) < (List.length x0 : Int))) = false]) := by kernel_rfl
theorem p112_e_4 (a0 : List Val) : run tt (AbsCalls Try.prog) I112 3000 false [.code I112.body] ⟨(zBg 0 (yFa a0)), [], [], []⟩ = some (.stop (stkAt 2 I112.body) (S112_2 a0 0 (Val.mk 0 0 0 [] [] [] [])) []) := by kernel_rfl
theorem c112_2 {N : Nat} : ∀ n x0 x4 b2 r, yBN N n x0 x4 b2 = some r → Reach Try.prog Try.f112 I112 (stkAt 2 I112.body) (S112_2 x0 x4 b2) (yDc r) := by
 intro n
 induction n with
 | zero => intro x0 x4 b2 r h; have h' : (none : Option (Val × Bool)) = some r := h; cases h'
 | succ n ih =>
  intro x0 x4 b2 r h
  rw [yBN] at h
  rcases cond_inv h with ⟨h0, h⟩ | ⟨h0, h⟩
  ·obtain ⟨h1, h⟩ := ite_inv h
   obtain ⟨r1, h2, h⟩ := bind_inv h
   rcases cond_inv h with ⟨h3, h⟩ | ⟨h3, h⟩
   ·obtain ⟨r2, h4, h⟩ := bind_inv h
    obtain rfl := Option.some.inj h
    exact Reach.done ttok mix fk112 (p112_2_0 x0 x4 b2 r1 r2) (obs_cons h0 (obs_cons h1 (obs_cons (yD6 h2) (obs_cons h3 (obs_cons (yFf h4) obs_nil)))))
   ·rcases cond_inv h with ⟨h5, h⟩ | ⟨h5, h⟩
    ·obtain ⟨r2, h7, h⟩ := bind_inv h
     obtain rfl := Option.some.inj h
     exact Reach.done ttok mix fk112 (p112_2_1 x0 x4 b2 r1 r2) (obs_cons h0 (obs_cons h1 (obs_cons (yD6 h2) (obs_cons h3 (obs_cons h1 (obs_cons h5 (obs_cons h1 (obs_cons (yFf h7) obs_nil))))))))
    ·exact Reach.stop ttok mix fk112 (p112_2_2 x0 x4 b2 r1) (obs_cons h0 (obs_cons h1 (obs_cons (yD6 h2) (obs_cons h3 (obs_cons h1 (obs_cons h5 obs_nil)))))) (ih _ _ _ _ h)
  ·obtain rfl := Option.some.inj h
   exact Reach.done ttok mix fk112 (p112_2_3 x0 x4 b2) (obs_cons h0 obs_nil)
theorem c112_e {N : Nat} : ∀ a0 r, yFh N a0 = some r → Reach Try.prog Try.f112 I112 [.code I112.body] (zBg 0 (yFa a0)) (yDc r) := by
 intro a0 r h
 unfold yFh at h
 exact Reach.stop ttok mix fk112 (p112_e_4 a0) obs_nil (c112_2   _ _ _ _ _ h)
theorem spec_l5First_ok {N : Nat} {a0 : List Val} {r : Val × Bool} (h : yFh N  a0 = some r) : AbC 112 (yFa a0) (yDc r) :=
 AbsCalls.of_reach fk112 rfl rfl (Nat.le_of_ble_eq_true rfl) (c112_e a0 r h)
theorem impl_operandError_toR {P : Program} {f : FuncId} {ags : List Arg} {r : Val × Bool × Bool} (h : AbsCalls P f ags (yAI r)) (ht : r.2.2 = true) : AbsCalls P f ags (yEM r) := by
 unfold yAI at h; rw [ht] at h; exact h
theorem impl_operandError_toO {P : Program} {f : FuncId} {ags : List Arg} {r : Val × Bool × Bool} (h : AbsCalls P f ags (yAI r)) (ht : r.2.2 = false) : AbsCalls P f ags (yEL r) := by
 unfold yAI at h; rw [ht] at h; exact h
noncomputable def I114 : Info := { body := (Try.f114.body).getD .skip, nt := 22, results := [.cell 2 28, .tmp 3], keep := [0, 4, 6, 10, 12, 14, 16, 18, 28, 36, 5, 11], live := [(2, [4, 12, 14, 16, 5])], modes := [(8, [(1, .take, false)])], ext := [], lnt := [], casts := [], fcast := [] }
theorem fk114 : FnOk Try.prog 114 Try.f114 I114 := ⟨Try.func114, by kernel_rfl, by kernel_rfl, by kernel_rfl, by kernel_rfl⟩
def S114_2 (x6 : List Val) (x7 x8 : Int) (b2 : Val) : St := [(4, .v false [.ptr 2 0]), (12, .v false [.sl .ro .val x6]), (14, .v false [.int .i64 x7]), (16, .v false [.int .i64 x8]), (5, .v true [.int .i64 (Val.kind b2), .int .i64 (Val.n b2), .int .i64 (Val.step b2), .str (Val.text b2), .sl .own .val (Val.list b2), .sl .own .str (Val.columns b2), .sl .own .row (Val.rows b2)])]
theorem p114_2_0 (x6 : List Val) (x7 x8 : Int) (b2 : Val) (r1 : Bool) (r2 : Val) : run tt (AbsCalls Try.prog) I114 3000 true (stkAt 2 I114.body) ⟨(S114_2 x6 x7 x8 b2), [true, true], [yAa r1, yCS r2], []⟩ = some (.done (yAI (r2, true, false)) [(decide ((x8 : Int) < x7)) = true, (0 : Int) ≤ x8 ∧ x8 < (List.length x6), AbC 109 (yAb (List.getD x6 (Int.toNat x8) Ty.val.dflt)) (yAa r1), (!r1) = true, AbC 75 (yDI 4) (yCS r2)]) := by kernel_rfl
theorem p114_2_1 (x6 : List Val) (x7 x8 : Int) (b2 : Val) (r1 : Bool) : run tt (AbsCalls Try.prog) I114 3000 true (stkAt 2 I114.body) ⟨(S114_2 x6 x7 x8 b2), [true, false, true], [yAa r1], []⟩ = some (.done (yAI ((List.getD x6 (Int.toNat x8) Ty.val.dflt), true, true)) [(decide ((x8 : Int) < x7)) = true, (0 : Int) ≤ x8 ∧ x8 < (List.length x6), AbC 109 (yAb (List.getD x6 (Int.toNat x8) Ty.val.dflt)) (yAa r1), (!r1) = false, (((Val.kind (List.getD x6 (Int.toNat x8) Ty.val.dflt)) : Int) == 6) = true]) := by kernel_rfl
theorem p114_2_2 (x6 : List Val) (x7 x8 : Int) (b2 : Val) (r1 : Bool) : run tt (AbsCalls Try.prog) I114 3000 true (stkAt 2 I114.body) ⟨(S114_2 x6 x7 x8 b2), [true, false, false], [yAa r1], []⟩ = some (.stop (stkAt 2 I114.body) (S114_2 x6 x7 (IntKind.i64.wrap (x8 + 1)) b2) [(decide ((x8 : Int) < x7)) = true, (0 : Int) ≤ x8 ∧ x8 < (List.length x6), AbC 109 (yAb (List.getD x6 (Int.toNat x8) Ty.val.dflt)) (yAa r1), (!r1) = false, (((Val.kind (List.getD x6 (Int.toNat x8) Ty.val.dflt)) : Int) == 6) = false]) := by kernel_rfl
theorem p114_2_3 (x6 : List Val) (x7 x8 : Int) (b2 : Val) : run tt (AbsCalls Try.prog) I114 3000 true (stkAt 2 I114.body) ⟨(S114_2 x6 x7 x8 b2), [false], [], []⟩ = some (.done (yAI ((Val.mk 0 0 0 [] [] [] []), false, false)) [(decide ((x8 : Int) < x7)) = false]) := by kernel_rfl
theorem p114_e_4 (a0 : List Val) : run tt (AbsCalls Try.prog) I114 3000 false [.code I114.body] ⟨(zBg 0 (yD5 a0)), [], [], []⟩ = some (.stop (stkAt 2 I114.body) (S114_2 a0 (List.length a0 : Int) 0 (Val.mk 0 0 0 [] [] [] [])) []) := by kernel_rfl
theorem c114_2 {N : Nat} : ∀ n x6 x7 x8 b2 r, yAQ N n x6 x7 x8 b2 = some r → Reach Try.prog Try.f114 I114 (stkAt 2 I114.body) (S114_2 x6 x7 x8 b2) (yAI r) := by
 intro n
 induction n with
 | zero => intro x6 x7 x8 b2 r h; have h' : (none : Option (Val × Bool × Bool)) = some r := h; cases h'
 | succ n ih =>
  intro x6 x7 x8 b2 r h
  rw [yAQ] at h
  rcases cond_inv h with ⟨h0, h⟩ | ⟨h0, h⟩
  ·obtain ⟨h1, h⟩ := ite_inv h
   obtain ⟨r1, h2, h⟩ := bind_inv h
   rcases cond_inv h with ⟨h3, h⟩ | ⟨h3, h⟩
   ·obtain ⟨r2, h4, h⟩ := bind_inv h
    obtain rfl := Option.some.inj h
    exact Reach.done ttok mix fk114 (p114_2_0 x6 x7 x8 b2 r1 r2) (obs_cons h0 (obs_cons h1 (obs_cons (yD4 h2) (obs_cons h3 (obs_cons (impl_ErrorValue_ok h4) obs_nil)))))
   ·rcases cond_inv h with ⟨h4, h⟩ | ⟨h4, h⟩
    ·obtain rfl := Option.some.inj h
     exact Reach.done ttok mix fk114 (p114_2_1 x6 x7 x8 b2 r1) (obs_cons h0 (obs_cons h1 (obs_cons (yD4 h2) (obs_cons h3 (obs_cons h4 obs_nil)))))
    ·exact Reach.stop ttok mix fk114 (p114_2_2 x6 x7 x8 b2 r1) (obs_cons h0 (obs_cons h1 (obs_cons (yD4 h2) (obs_cons h3 (obs_cons h4 obs_nil))))) (ih _ _ _ _ _ h)
  ·obtain rfl := Option.some.inj h
   exact Reach.done ttok mix fk114 (p114_2_3 x6 x7 x8 b2) (obs_cons h0 obs_nil)
theorem c114_e {N : Nat} : ∀ a0 r, yDT N a0 = some r → Reach Try.prog Try.f114 I114 [.code I114.body] (zBg 0 (yD5 a0)) (yAI r) := by
 intro a0 r h
 unfold yDT at h
 exact Reach.stop ttok mix fk114 (p114_e_4 a0) obs_nil (c114_2   _ _ _ _ _ _ h)
theorem impl_operandError_ok {N : Nat} {a0 : List Val} {r : Val × Bool × Bool} (h : yDT N  a0 = some r) : AbC 114 (yD5 a0) (yAI r) :=
 AbsCalls.of_reach fk114 rfl rfl (Nat.le_of_ble_eq_true rfl) (c114_e a0 r h)
end Go.Ab.T
end
section
namespace Go.Ab
set_option linter.unusedVariables false
def Big (p : Nat → Prop) : Prop := ∃ k, ∀ N, k ≤ N → p N
def Big2 (p : Nat → Nat → Prop) : Prop := ∃ k, ∀ N n, k ≤ N → k ≤ n → p N n
theorem Big.imp {p q : Nat → Prop} (h : Big p) (f : ∀ N, p N → q N) : Big q := h.elim fun k hk => ⟨k, fun N hN => f N (hk N hN)⟩
theorem Big2.imp {p q : Nat → Nat → Prop} (h : Big2 p) (f : ∀ N n, p N n → q N n) : Big2 q := h.elim fun k hk => ⟨k, fun N n h1 h2 => f N n (hk N n h1 h2)⟩
theorem Big.of {p : Nat → Prop} (h : ∀ N, p N) : Big p := ⟨0, fun N _ => h N⟩
theorem Big2.of {p : Nat → Nat → Prop} (h : ∀ N n, p N n) : Big2 p := ⟨0, fun N n _ _ => h N n⟩
theorem Big.and {p q : Nat → Prop} (h : Big p) (h' : Big q) : Big fun N => p N ∧ q N := by
  obtain ⟨a, ha⟩ := h; obtain ⟨b, hb⟩ := h'
  exact ⟨max a b, fun N hN => ⟨ha N (by omega), hb N (by omega)⟩⟩
theorem Big2.and {p q : Nat → Nat → Prop} (h : Big2 p) (h' : Big2 q) : Big2 fun N n => p N n ∧ q N n := by
  obtain ⟨a, ha⟩ := h; obtain ⟨b, hb⟩ := h'
  exact ⟨max a b, fun N n h1 h2 => ⟨ha N n (by omega) (by omega), hb N n (by omega) (by omega)⟩⟩
theorem Big.two {p : Nat → Prop} (h : Big p) : Big2 fun N _ => p N := h.elim fun k hk => ⟨k, fun N _ h _ => hk N h⟩
theorem Big2.diag {p : Nat → Nat → Prop} (h : Big2 p) : Big fun N => p N N := h.elim fun k hk => ⟨k, fun N h => hk N N h h⟩
theorem Big2.succ {p : Nat → Nat → Prop} (h : Big2 fun N n => p N (n + 1)) : Big2 p := by
  obtain ⟨k, hk⟩ := h
  refine ⟨k + 1, fun N n h1 h2 => ?_⟩
  obtain ⟨m, rfl⟩ : ∃ m, n = m + 1 := ⟨n - 1, by omega⟩
  exact hk N m (by omega) (by omega)
theorem Big.list {α : Type} {p : α → Nat → Prop} {l : List α} (h : ∀ x ∈ l, Big (p x)) : Big fun N => ∀ x ∈ l, p x N := by
  induction l with
  | nil => exact .of fun N x hx => by cases hx
  | cons a l ih =>
    refine ((h a List.mem_cons_self).and (ih fun x hx => h x (List.mem_cons_of_mem _ hx))).imp fun N ⟨h1, h2⟩ x hx => ?_
    rcases List.mem_cons.1 hx with rfl | hx
    · exact h1
    · exact h2 x hx
theorem Big2.list {α : Type} {p : α → Nat → Nat → Prop} {l : List α} (h : ∀ x ∈ l, Big2 (p x)) : Big2 fun N n => ∀ x ∈ l, p x N n := by
  induction l with
  | nil => exact .of fun N n x hx => by cases hx
  | cons a l ih =>
    refine ((h a List.mem_cons_self).and (ih fun x hx => h x (List.mem_cons_of_mem _ hx))).imp fun N n ⟨h1, h2⟩ x hx => ?_
    rcases List.mem_cons.1 hx with rfl | hx
    · exact h1
    · exact h2 x hx
theorem Big.get {p : Nat → Prop} (h : Big p) : ∃ N, p N := h.elim fun k hk => ⟨k, hk k (Nat.le_refl k)⟩
def I64 (x : Int) : Prop := -9223372036854775808 ≤ x ∧ x ≤ 9223372036854775807
theorem wrap_i64_def (x : Int) : IntKind.i64.wrap x = if x % 18446744073709551616 ≥ 9223372036854775808 then x % 18446744073709551616 - 18446744073709551616 else x % 18446744073709551616 := by
  show (if (true && decide (x % 18446744073709551616 ≥ 9223372036854775808)) = true then x % 18446744073709551616 - 18446744073709551616 else x % 18446744073709551616) = _
  simp only [Bool.true_and, decide_eq_true_eq]
theorem yBO {x : Int} (h1 : -9223372036854775808 ≤ x) (h2 : x ≤ 9223372036854775807) : IntKind.i64.wrap x = x := by
  rw [wrap_i64_def]
  split <;> omega
theorem drop_cons {α : Type} {xs : List α} {i : Nat} {x : α} {l : List α} (h : xs.drop i = x :: l) : i < xs.length ∧ xs[i]? = some x ∧ xs.drop (i + 1) = l := by
  have h1 : i < xs.length := by
    rcases Nat.lt_or_ge i xs.length with h1 | h1
    · exact h1
    · rw [List.drop_eq_nil_of_le h1] at h; cases h
  rw [List.drop_eq_getElem_cons h1] at h
  cases h
  exact ⟨h1, by simp [h1], rfl⟩
theorem drop_nil {α : Type} {xs : List α} {i : Nat} (h : xs.drop i = []) : xs.length ≤ i := by simpa using h
end Go.Ab
end
section
namespace Go.Ab
set_option linter.unusedVariables false
inductive DK (K : Nat) : D → Prop where
  | int {k n} (h : (Lit.int k n).wf = true) : DK K (.int k n)
  | bool (b) : DK K (.bool b)
  | str {s : Str} (h : s.length ≤ K) : DK K (.str s)
  | sl {sz rows} (h : rows.length ≤ K) (hr : ∀ r ∈ rows, ∀ x ∈ r, DK K x) : DK K (.sl sz rows)
theorem DFit.dk {d : D} (h : DFit d) : DK maxLen d := by
  induction h with
  | int h => exact .int h
  | bool b => exact .bool b
  | str h => exact .str h
  | sl h _ ih => exact .sl h ih
theorem wf_i64 {n : Int} : (Lit.int .i64 n).wf = true ↔ I64 n := by
  show (decide (_ ≤ n) && decide (n ≤ _)) = true ↔ _
  rw [Bool.and_eq_true, decide_eq_true_eq, decide_eq_true_eq]
  exact Iff.rfl
theorem DK.i64 {K : Nat} {n : Int} : DK K (.int .i64 n) ↔ I64 n := ⟨fun h => by cases h with | int h => exact wf_i64.1 h, fun h => .int (wf_i64.2 h)⟩
theorem DK.str_iff {K : Nat} {s : Str} : DK K (.str s) ↔ s.length ≤ K := ⟨fun h => by cases h; assumption, .str⟩
theorem DK.sl_iff {K sz : Nat} {α : Type} {f : α → List D} {xs : List α} : DK K (.sl sz (xs.map f)) ↔ xs.length ≤ K ∧ ∀ x ∈ xs, ∀ d ∈ f x, DK K d := by
  constructor
  · intro h
    cases h with
    | sl h hr => exact ⟨by simpa using h, fun x hx => hr _ (List.mem_map_of_mem hx)⟩
  · rintro ⟨h, hr⟩
    refine .sl (by simpa using h) fun r hr' => ?_
    obtain ⟨x, hx, rfl⟩ := List.mem_map.1 hr'
    exact hr x hx
def LFit {α : Type} (K : Nat) (p : α → Prop) (l : List α) : Prop := l.length ≤ K ∧ ∀ x ∈ l, p x
def Ty.Fit (K : Nat) (T : Ty) (x : T.den) : Prop := ∀ d ∈ T.toD x, DK K d
def Org.Fit (o : Org) : Prop := I64 o.cell ∧ I64 o.row
def Rowd.Fit (K : Nat) (r : Rowd) : Prop := LFit K I64 r.cells ∧ LFit K Org.Fit r.frm
def Str.Fit (K : Nat) (s : Str) : Prop := s.length ≤ K
def Val.Fit (K : Nat) (v : Val) : Prop := ∀ d ∈ Val.toD v, DK K d
def Fil.Fit (K : Nat) (v : Fil) : Prop := Str.Fit K v.name ∧ I64 v.n
theorem rowd_fit {K : Nat} {r : Rowd} : (∀ d ∈ Rowd.toD r, DK K d) ↔ r.Fit K := by
  simp only [Rowd.toD, List.mem_cons, List.not_mem_nil, or_false, forall_eq_or_imp, forall_eq, DK.sl_iff, DK.i64, Rowd.Fit, LFit, Org.Fit]
theorem fil_fit {K : Nat} {r : Fil} : Ty.Fit K .fil r ↔ r.Fit K := by
  simp only [Ty.Fit, Ty.toD, List.mem_cons, List.not_mem_nil, or_false, forall_eq_or_imp, forall_eq, DK.str_iff, DK.i64, Fil.Fit, Str.Fit]
theorem Val.fit_iff {K : Nat} {v : Val} : v.Fit K ↔ I64 v.kind ∧ I64 v.n ∧ I64 v.step ∧ Str.Fit K v.text ∧ LFit K (Val.Fit K) v.list ∧ LFit K (Str.Fit K) v.columns ∧ LFit K (Rowd.Fit K) v.rows := by
  cases v
  simp only [Val.Fit, Val.toD, Val.toDs_eq, List.mem_cons, List.not_mem_nil, or_false, forall_eq_or_imp, forall_eq, DK.sl_iff, DK.i64, DK.str_iff, Str.Fit, LFit, Val.kind, Val.n, Val.step, Val.text, Val.list, Val.columns, Val.rows, rowd_fit]
theorem sizeOf_mem_list {l : List Val} {x : Val} (h : x ∈ l) (k n s : Int) (t : Str) (c : List Str) (r : List Rowd) : SizeOf.sizeOf x < SizeOf.sizeOf (Val.mk k n s t l c r) := by
  have := List.sizeOf_lt_of_mem h
  simp only [Val.mk.sizeOf_spec]
  omega
theorem Val.ind {p : Val → Prop} (h : ∀ k n s t l c r, (∀ x ∈ l, p x) → p (.mk k n s t l c r)) : ∀ v, p v
  | .mk k n s t l c r => h k n s t l c r fun x hx => Val.ind h x
termination_by v => SizeOf.sizeOf v
decreasing_by exact sizeOf_mem_list hx k n s t c r
theorem cell_sl {T : Ty} {f : Fl} {xs : List T.den} (h : DK maxLen (CV.sl f T xs).toD) : LFit maxLen (T.Fit maxLen) xs := DK.sl_iff.1 h
end Go.Ab
end
section
namespace Go.Ab
set_option linter.unusedVariables false
theorem whileLoop {σ ρ : Type} {L : Nat → σ → Option ρ} (m : σ → Nat) (Inv : σ → Prop) (Post : ρ → Prop)
    (hstep : ∀ s, Inv s → (∃ s', Inv s' ∧ m s' < m s ∧ ∀ n, L (n + 1) s = L n s') ∨ (∃ r, Post r ∧ ∀ n, L (n + 1) s = some r)) :
    ∀ n s, Inv s → m s < n → ∃ r, Post r ∧ L n s = some r := by
  intro n
  induction n with
  | zero => intro s _ h; omega
  | succ n ih =>
    intro s hs hn
    rcases hstep s hs with ⟨s', h1, h2, h3⟩ | ⟨r, h1, h2⟩
    · obtain ⟨r, h4, h5⟩ := ih s' h1 (by omega)
      exact ⟨r, h4, by rw [h3]; exact h5⟩
    · exact ⟨r, h1, h2 n⟩
theorem yEP {α σ ρ : Type} {L : Nat → Int → σ → Option ρ} (x0 : List α) (g : List α → σ → ρ) (Inv : Nat → σ → Prop)
    (hnil : ∀ n s, Inv x0.length s → L (n + 1) (x0.length : Nat) s = some (g [] s))
    (hcons : ∀ i x l s, x0.drop i = x :: l → i < x0.length → x0[i]? = some x → Inv i s →
      (∃ s', Inv (i + 1) s' ∧ g (x :: l) s = g l s' ∧ ∀ n, L (n + 1) (i : Nat) s = L n ((i + 1 : Nat) : Int) s') ∨ (∀ n, L (n + 1) (i : Nat) s = some (g (x :: l) s))) :
    ∀ n i s, Inv i s → i ≤ x0.length → x0.length < n + i → L n (i : Nat) s = some (g (x0.drop i) s) := by
  intro n
  induction n with
  | zero => intro i s _ h1 h2; omega
  | succ n ih =>
    intro i s hs hi hn
    cases hd : x0.drop i with
    | nil =>
      have := drop_nil hd
      obtain rfl : i = x0.length := by omega
      exact hnil n s hs
    | cons x l =>
      obtain ⟨h1, h2, h3⟩ := drop_cons hd
      rcases hcons i x l s hd h1 h2 hs with ⟨s', h4, h5, h6⟩ | h
      · rw [h6, ih (i + 1) s' h4 (by omega) (by omega), h3, h5]
      · exact h n
theorem yAF {α : Type} {xs : List α} {i : Nat} {x : α} (h : xs[i]? = some x) (d : α) : xs.getD i d = x := by simp [List.getD, h]
theorem yAp {i : Nat} {len : Nat} (h : i < len) (hl : len ≤ 9223372036854775807) : IntKind.i64.wrap ((i : Int) + 1) = ((i + 1 : Nat) : Int) := by
  rw [yBO (by omega) (by omega)]; omega
def left (s : Nat) (l : Int) : Int := if (s : Int) ≤ l then l - s else -1
theorem left_of {s : Nat} {l : Int} (h : (s : Int) ≤ l) : left s l = l - s := by unfold left; rw [if_pos h]
theorem left_not {s : Nat} {l : Int} (h : ¬ (s : Int) ≤ l) : left s l = -1 := by unfold left; rw [if_neg h]
theorem szThen {s b : Nat} {F : Option Int} {R : Int → Option Int} {l : Int} (hl : s ≤ 9223372036854775807) (h0 : 0 ≤ l) (h1 : l ≤ 1048576)
    (hF : F = bif decide (IntKind.i64.wrap (l - (s : Int)) < 0) then some (-1) else R (IntKind.i64.wrap (l - (s : Int))))
    (hR : ∀ m, 0 ≤ m → m ≤ 1048576 → R m = some (left b m)) : F = some (left (s + b) l) := by
  rw [hF, yBO (by omega) (by omega)]
  by_cases h : (s : Int) ≤ l
  · rw [decide_eq_false (by omega), cond_false, hR _ (by omega) (by omega)]
    unfold left
    split <;> split <;> first | rfl | omega | (congr 1; omega)
  · rw [decide_eq_true (by omega), cond_true, left_not (by omega)]
theorem szLast {s : Nat} {l : Int} (hl : s ≤ 9223372036854775807) (h0 : 0 ≤ l) (h1 : l ≤ 1048576) :
    (bif decide (IntKind.i64.wrap (l - (s : Int)) < 0) then some (-1) else some (IntKind.i64.wrap (l - (s : Int)))) = some (left s l) := by
  rw [yBO (by omega) (by omega)]
  unfold left
  by_cases h : (s : Int) ≤ l
  · rw [decide_eq_false (by omega), if_pos h]; rfl
  · rw [decide_eq_true (by omega), if_neg h]; rfl
theorem szBind {a b : Nat} {l : Int} {x : Option Int} {R : Int → Option Int} (h0 : 0 ≤ l) (h1 : l ≤ 1048576) (h : x = some (left a l)) (hR : ∀ m, 0 ≤ m → m ≤ 1048576 → R m = some (left b m)) :
    (x.bind fun r1 => bif decide (r1 < 0) then (some (-1) : Option Int) else R r1) = some (left (a + b) l) := by
  rw [h, Option.bind_some]
  by_cases h : (a : Int) ≤ l
  · rw [left_of h, decide_eq_false (by omega), cond_false, hR _ (by omega) (by omega)]
    unfold left
    split <;> split <;> first | rfl | omega | (congr 1; omega)
  · rw [left_not h, left_not (by omega)]; rfl
theorem left_two {a : Nat} {l : Int} {x : Option Int} (h : x = some (left a l)) : (x.bind fun r1 => bif decide (r1 < 0) then (some (-1) : Option Int) else some r1) = some (left a l) := by
  rw [h, Option.bind_some]
  unfold left
  split
  · rw [decide_eq_false (by omega)]; rfl
  · rfl
section
variable {α : Type} {d : α}
theorem szLoop {L : Nat → List α → Int → Int → Option Int} {sz : α → Int → Option Int} {size : α → Nat} {x0 : List α}
    (hL : ∀ n x1 x5, L (n + 1) x0 x1 x5 = bif decide (x5 < (x0.length : Int)) then (if (0 : Int) ≤ x5 ∧ x5 < (x0.length : Int) then Option.bind (sz (x0.getD x5.toNat d) x1) fun r1 => bif decide (r1 < 0) then some (-1) else L n x0 r1 (IntKind.i64.wrap (x5 + 1)) else none) else some x1)
    (hlen : x0.length ≤ 9223372036854775807) (hsz : ∀ x ∈ x0, ∀ l, 0 ≤ l → l ≤ 1048576 → sz x l = some (left (size x) l)) {n : Nat} (hn : x0.length < n) {l : Int} (h0 : 0 ≤ l) (h1 : l ≤ 1048576) :
    L n x0 l 0 = some (left (x0.map size).sum l) := by
  have key := yEP (L := fun n i s => L n x0 s i) x0 (fun l s => left (l.map size).sum s) (fun _ s => 0 ≤ s ∧ s ≤ 1048576) (fun n s hs => by
      have hs : 0 ≤ s ∧ s ≤ 1048576 := hs
      simp only [hL]; simp [left]; omega)
    (fun i x r s hd hi hx hs => by
      have hs : 0 ≤ s ∧ s ≤ 1048576 := hs
      have hi' : (i : Int) < (x0.length : Int) := by omega
      have hm : x ∈ x0 := List.mem_of_getElem? hx
      by_cases hle : (size x : Int) ≤ s
      · refine .inl ⟨s - size x, by omega, ?_, fun n => ?_⟩
        · simp only [List.map_cons, List.sum_cons, left]
          split <;> split <;> omega
        · simp only [hL, decide_eq_true hi', cond_true, Int.toNat_natCast, yAF hx, hsz x hm s hs.1 hs.2, left_of hle, Option.bind_some, yAp hi hlen]
          rw [if_pos (by omega), decide_eq_false (by omega), cond_false]
      · refine .inr fun n => ?_
        simp only [hL, decide_eq_true hi', cond_true, Int.toNat_natCast, yAF hx, hsz x hm s hs.1 hs.2, left_not hle, Option.bind_some]
        rw [if_pos (by omega), decide_eq_true (by omega), cond_true]
        simp only [List.map_cons, List.sum_cons, left]
        rw [if_neg (by omega)])
    n 0 l ⟨h0, h1⟩ (by omega) (by omega)
  simpa using key
theorem szLoopG {L : Nat → List α → Int → Int → Option Int} {sz : α → Int → Option Int} {size : α → Nat} {x0 : List α}
    (hL : ∀ n x1 x5, L (n + 1) x0 x1 x5 = bif decide (x5 < (x0.length : Int)) then (if (0 : Int) ≤ x5 ∧ x5 < (x0.length : Int) then Option.bind (sz (x0.getD x5.toNat d) x1) fun r1 => bif decide (r1 < 0) then some (-1) else L n x0 r1 (IntKind.i64.wrap (x5 + 1)) else none) else some x1)
    (hlen : x0.length ≤ 9223372036854775807) (hsz : ∀ x ∈ x0, ∀ l, 0 ≤ l → l ≤ 1048576 → ∃ r, sz x l = some r ∧ ((size x : Int) ≤ l → r = l - size x) ∧ (¬ (size x : Int) ≤ l → r < 0)) {n : Nat} (hn : x0.length < n) {l : Int} (h0 : 0 ≤ l) (h1 : l ≤ 1048576) :
    L n x0 l 0 = some (left (x0.map size).sum l) := by
  have key := yEP (L := fun n i s => L n x0 s i) x0 (fun l s => left (l.map size).sum s) (fun _ s => 0 ≤ s ∧ s ≤ 1048576) (fun n s hs => by
      have hs : 0 ≤ s ∧ s ≤ 1048576 := hs
      simp only [hL]; simp [left]; omega)
    (fun i x r s hd hi hx hs => by
      have hs : 0 ≤ s ∧ s ≤ 1048576 := hs
      have hi' : (i : Int) < (x0.length : Int) := by omega
      have hm : x ∈ x0 := List.mem_of_getElem? hx
      obtain ⟨q, hq, hq1, hq2⟩ := hsz x hm s hs.1 hs.2
      by_cases hle : (size x : Int) ≤ s
      · refine .inl ⟨s - size x, by omega, ?_, fun n => ?_⟩
        · simp only [List.map_cons, List.sum_cons, left]
          split <;> split <;> omega
        · simp only [hL, decide_eq_true hi', cond_true, Int.toNat_natCast, yAF hx, hq, hq1 hle, Option.bind_some, yAp hi hlen]
          rw [if_pos (by omega), decide_eq_false (by omega), cond_false]
      · refine .inr fun n => ?_
        simp only [hL, decide_eq_true hi', cond_true, Int.toNat_natCast, yAF hx, hq, Option.bind_some]
        have := hq2 hle
        rw [if_pos (by omega), decide_eq_true (by omega), cond_true]
        simp only [List.map_cons, List.sum_cons, left]
        rw [if_neg (by omega)])
    n 0 l ⟨h0, h1⟩ (by omega) (by omega)
  simpa using key
theorem toLoop {L : Nat → List α → List α → Int → Option (List α)} {to : α → Option α} {re : α → α} {x0 : List α}
    (hL : ∀ n x3 x4, L (n + 1) x0 x3 x4 = bif decide (x4 < (x0.length : Int)) then (if (0 : Int) ≤ x4 ∧ x4 < (x0.length : Int) then Option.bind (to (x0.getD x4.toNat d)) fun r1 => (if (0 : Int) ≤ x4 ∧ x4 < (x3.length : Int) then L n x0 (x3.set x4.toNat (re r1)) (IntKind.i64.wrap (x4 + 1)) else none) else none) else some x3)
    (hlen : x0.length ≤ 9223372036854775807) (hto : ∀ x ∈ x0, ∃ y, to x = some y ∧ re y = x) {n : Nat} (hn : x0.length < n) :
    L n x0 (List.replicate x0.length d) 0 = some x0 := by
  have key := yEP (L := fun n i s => L n x0 s i) x0 (fun _ _ => x0) (fun i s => s = x0.take i ++ List.replicate (x0.length - i) d) (fun n s hs => by
      have hs : s = x0.take x0.length ++ List.replicate (x0.length - x0.length) d := hs
      simp only [hL]; simp [hs])
    (fun i x r s hd hi hx hs => by
      have hs : s = x0.take i ++ List.replicate (x0.length - i) d := hs
      have hi' : (i : Int) < (x0.length : Int) := by omega
      have hm : x ∈ x0 := List.mem_of_getElem? hx
      obtain ⟨y, h1, h2⟩ := hto x hm
      have hsl : s.length = x0.length := by rw [hs]; simp; omega
      refine .inl ⟨s.set i x, ?_, rfl, fun n => ?_⟩
      · show s.set i x = x0.take (i + 1) ++ List.replicate (x0.length - (i + 1)) d
        rw [hs, List.set_append]
        have : (x0.take i).length = i := by simp; omega
        rw [this, if_neg (by omega), List.take_add_one, hx, Option.toList_some, List.append_assoc, Nat.sub_self]
        rw [show x0.length - i = (x0.length - (i + 1)) + 1 from by omega, List.replicate_succ, List.set_cons_zero]
        rfl
      · simp only [hL, decide_eq_true hi', cond_true, Int.toNat_natCast, yAF hx, h1, h2, Option.bind_some, yAp hi hlen, hsl]
        rw [if_pos (by omega), if_pos (by omega)])
    n 0 (List.replicate x0.length d) (by simp) (by omega) (by omega)
  exact key
theorem eqLoop {L : Nat → Int → Option Bool} {x0 : List α} (hend : ∀ n, L (n + 1) (x0.length : Nat) = some true)
    (hcons : ∀ (i : Nat) x n, i < x0.length → x0[i]? = some x → x ∈ x0 → L (n + 1) (i : Nat) = L n ((i + 1 : Nat) : Int)) {n : Nat} (hn : x0.length < n) : L n 0 = some true := by
  have key := yEP (σ := Unit) (L := fun n i _ => L n i) x0 (fun _ _ => true) (fun _ _ => True) (fun n _ _ => hend n)
    (fun i x r s hd hi hx _ => .inl ⟨(), trivial, rfl, fun n => hcons i x n hi hx (List.mem_of_getElem? hx)⟩) n 0 () trivial (by omega) (by omega)
  exact key
end
end Go.Ab
end
section
namespace Go.Ab
set_option linter.unusedVariables false
theorem vk (a b c : Int) (t : Str) (l : List Val) (k : List Str) (r : List Rowd) : (Val.mk a b c t l k r).kind = a := rfl
theorem vn (a b c : Int) (t : Str) (l : List Val) (k : List Str) (r : List Rowd) : (Val.mk a b c t l k r).n = b := rfl
theorem vs (a b c : Int) (t : Str) (l : List Val) (k : List Str) (r : List Rowd) : (Val.mk a b c t l k r).step = c := rfl
theorem vt (a b c : Int) (t : Str) (l : List Val) (k : List Str) (r : List Rowd) : (Val.mk a b c t l k r).text = t := rfl
theorem vl (a b c : Int) (t : Str) (l : List Val) (k : List Str) (r : List Rowd) : (Val.mk a b c t l k r).list = l := rfl
theorem vc (a b c : Int) (t : Str) (l : List Val) (k : List Str) (r : List Rowd) : (Val.mk a b c t l k r).columns = k := rfl
theorem vr (a b c : Int) (t : Str) (l : List Val) (k : List Str) (r : List Rowd) : (Val.mk a b c t l k r).rows = r := rfl
theorem ek (a b : Int) (t : Str) (l : List Exp) : (Exp.mk a b t l).kind = a := rfl
theorem ea (a b : Int) (t : Str) (l : List Exp) : (Exp.mk a b t l).args = l := rfl
def Rowd.size (r : Rowd) : Nat := r.cells.length + r.frm.length
mutual
def Val.size : Val → Nat
  | .mk _ _ _ t l c r => t.length + (l.length + Val.sizes l) + (c.length + (c.map List.length).sum) + (r.length + (r.map Rowd.size).sum)
def Val.sizes : List Val → Nat
  | [] => 0
  | x :: r => Val.size x + Val.sizes r
end
theorem Val.sizes_eq (l : List Val) : Val.sizes l = (l.map Val.size).sum := by
  induction l with
  | nil => rfl
  | cons x l ih => simp [Val.sizes, ih]
theorem size_mem {α : Type} {f : α → Nat} {l : List α} {x : α} (h : x ∈ l) : f x ≤ (l.map f).sum := by
  induction l with
  | nil => cases h
  | cons a l ih =>
    simp only [List.map_cons, List.sum_cons]
    rcases List.mem_cons.1 h with rfl | h
    · omega
    · have := ih h; omega
theorem Val.size_eq (e : Val) : e.size = e.text.length + (e.list.length + (e.list.map Val.size).sum) + (e.columns.length + (e.columns.map List.length).sum) + (e.rows.length + (e.rows.map Rowd.size).sum) := by
  cases e; simp [Val.size, Val.sizes_eq, Val.text, Val.list, Val.columns, Val.rows]
theorem lfit_size {α : Type} {K M : Nat} {p q : α → Prop} {f : α → Nat} {l : List α} (h : LFit M p l) (hs : l.length + (l.map f).sum ≤ K) (hpq : ∀ x ∈ l, p x → f x ≤ K → q x) : LFit K q l :=
  ⟨by omega, fun x hx => hpq x hx (h.2 x hx) (by have := size_mem (f := f) hx; omega)⟩
theorem Rowd.fit_size {K M : Nat} {r : Rowd} (h : r.Fit M) (hs : r.size ≤ K) : r.Fit K := by
  unfold Rowd.size at hs
  exact ⟨⟨by omega, h.1.2⟩, ⟨by omega, h.2.2⟩⟩
theorem Val.fit_size {K M : Nat} : ∀ e : Val, e.Fit M → e.size ≤ K → e.Fit K := by
  refine Val.ind fun k n s t l c r ih h hs => ?_
  rw [Val.fit_iff] at h ⊢
  obtain ⟨h1, h2, h3, h4, h5, h6, h7⟩ := h
  have hs := hs
  rw [Val.size_eq] at hs
  exact ⟨h1, h2, h3, show List.length _ ≤ K from by omega, lfit_size h5 (by omega) fun x hx => ih x hx, lfit_size (f := List.length) h6 (by omega) fun x hx _ h => h, lfit_size (f := Rowd.size) h7 (by omega) fun x hx => Rowd.fit_size⟩
theorem yF0 (n : Nat) : Big fun N => n < N := ⟨n + 1, fun N h => by omega⟩
end Go.Ab
end
section
namespace Go.Ab
set_option linter.unusedVariables false
theorem markHeld {α : Type} {Lm : Nat → List α → Int → Int → Option (Int × List α)} {Lh : Nat → List α → Int → Int → Option Int} {c : α → Nat} {x0 : List α} {k0 B : Int} {n : Nat}
    (hm : ∀ n xs k, xs.length = x0.length → Lm (n + 1) xs k (xs.length : Nat) = some (k, xs)) (hh : ∀ n ys k, ys.length = x0.length → Lh (n + 1) ys k (ys.length : Nat) = some k)
    (hx : ∀ x ∈ x0, ∀ k, k0 ≤ k → k + c x ≤ B → ∃ y, (∀ n xs (i : Nat), xs.length = x0.length → xs[i]? = some x → Lm (n + 1) xs k i = Lm n (xs.set i y) (k + c x) ((i + 1 : Nat) : Int)) ∧
      (∀ n ys (i : Nat), ys.length = x0.length → ys[i]? = some y → Lh (n + 1) ys k i = Lh n ys (k + c x) ((i + 1 : Nat) : Int)))
    (hk : k0 + (x0.map c).sum ≤ B) (hn : x0.length < n) : ∃ ys, ys.length = x0.length ∧ Lm n x0 k0 0 = some (k0 + (x0.map c).sum, ys) ∧ Lh n ys k0 0 = some (k0 + (x0.map c).sum) := by
  have key : ∀ (l pre : List α) (k : Int) (n : Nat), pre.length + l.length = x0.length → (∀ x ∈ l, x ∈ x0) → k0 ≤ k → k + (l.map c).sum ≤ B → l.length < n →
      ∃ ys, ys.length = l.length ∧ Lm n (pre ++ l) k (pre.length : Nat) = some (k + (l.map c).sum, pre ++ ys) ∧ ∀ pre' : List α, pre'.length = pre.length → Lh n (pre' ++ ys) k (pre.length : Nat) = some (k + (l.map c).sum) := by
    intro l
    induction l with
    | nil =>
      intro pre k n hl hmem h0 hB hn
      obtain ⟨n, rfl⟩ : ∃ m, n = m + 1 := ⟨n - 1, by simp at hn; omega⟩
      refine ⟨[], rfl, ?_, fun pre' hp => ?_⟩
      · have := hm n (pre ++ []) k (by simpa using hl)
        simpa using this
      · have := hh n (pre' ++ []) k (by simp [hp]; simpa using hl)
        simp only [List.append_nil, hp] at this
        simpa using this
    | cons x l ih =>
      intro pre k n hl hmem h0 hB hn
      obtain ⟨n, rfl⟩ : ∃ m, n = m + 1 := ⟨n - 1, by simp at hn; omega⟩
      simp only [List.map_cons, List.sum_cons, List.length_cons] at hB hl hn
      obtain ⟨y, h1, h2⟩ := hx x (hmem x List.mem_cons_self) k h0 (by omega)
      obtain ⟨ys, g1, g2, g3⟩ := ih (pre ++ [y]) (k + c x) n (by simp; omega) (fun z hz => hmem z (List.mem_cons_of_mem _ hz)) (by omega) (by omega) (by omega)
      refine ⟨y :: ys, by simp [g1], ?_, fun pre' hp => ?_⟩
      · rw [h1 n (pre ++ x :: l) pre.length (by simp; omega) (by simp)]
        rw [List.set_append, if_neg (by omega), Nat.sub_self, List.set_cons_zero]
        have e : ((pre.length + 1 : Nat) : Int) = ((pre ++ [y]).length : Nat) := by simp
        rw [e, show pre ++ y :: l = (pre ++ [y]) ++ l from by simp, g2]
        simp only [List.map_cons, List.sum_cons, List.append_assoc, List.cons_append, List.nil_append]
        congr 2
        omega
      · rw [h2 n (pre' ++ y :: ys) pre.length (by simp [hp, g1]; omega) (by rw [← hp]; simp)]
        have e : ((pre.length + 1 : Nat) : Int) = ((pre ++ [y]).length : Nat) := by simp
        rw [e, show pre' ++ y :: ys = (pre' ++ [y]) ++ ys from by simp, g3 (pre' ++ [y]) (by simp [hp])]
        simp only [List.map_cons, List.sum_cons]
        congr 1
        omega
  obtain ⟨ys, h1, h2, h3⟩ := key x0 [] k0 n (by simp) (fun x h => h) (Int.le_refl _) hk hn
  exact ⟨ys, h1, h2, by simpa using h3 [] rfl⟩
theorem sum_le_mul {α : Type} {f g : α → Nat} {l : List α} {a : Nat} (h : ∀ x ∈ l, f x ≤ a + a * g x) : (l.map f).sum ≤ a * (l.length + (l.map g).sum) := by
  induction l with
  | nil => simp
  | cons x l ih =>
    have h1 := h x List.mem_cons_self
    have h2 := ih fun y hy => h y (List.mem_cons_of_mem _ hy)
    simp only [List.map_cons, List.sum_cons, List.length_cons, Nat.mul_add] at h2 ⊢
    omega
theorem yFu {α : Type} {xs : List α} {i : Nat} (h : i < xs.length) (y d : α) : (xs.set i y).getD i d = y := by simp [List.getD, h]
end Go.Ab
end
section
namespace Go.Ab
set_option linter.unusedVariables false
set_option linter.unusedSimpArgs false
def yGg (c : UInt8) : Bool := decide ((c.toNat : Int) ≥ 97) && decide ((c.toNat : Int) ≤ 122)
def digitC (c : UInt8) : Bool := decide ((c.toNat : Int) ≥ 48) && decide ((c.toNat : Int) ≤ 57)
def yFd : List UInt8 → Bool → Bool
  | [], _ => true
  | x :: r, f => (yGg x || (!f && digitC x)) && yFd r false
theorem spec_l2Shape_eq {N : Nat} {s : Str} (hl : s.length ≤ 9223372036854775807) (hn : s.length < N) : yEO N s = some (yFd s true && decide ((s.length : Int) > 0)) :=
  yEP (L := fun n i _ => yBd N n s i) s (fun l f => yFd l f && decide ((s.length : Int) > 0)) (fun i f => f = (i == 0)) (fun n _ _ => by simp [yBd, yFd])
    (fun i x l f hd hi hx hf => by
      have hi' : (i : Int) < (s.length : Int) := by omega
      have hi0 : ((i : Int) == 0) = f := by rw [hf]; cases i <;> simp <;> omega
      by_cases h1 : (yGg x || (!f && digitC x)) = true
      · refine .inl ⟨false, by simp, by simp [yFd, h1], fun n => ?_⟩
        simp only [yBd, decide_eq_true hi', cond_true, Int.toNat_natCast, yAF hx, yAp hi hl, hi0]
        rw [if_pos (by omega)]
        unfold yGg digitC at h1
        by_cases c1 : (x.toNat : Int) ≥ 97 <;> by_cases c2 : (x.toNat : Int) ≤ 122 <;> by_cases c3 : (x.toNat : Int) ≥ 48 <;> by_cases c4 : (x.toNat : Int) ≤ 57 <;> cases f <;>
          simp only [c1, c2, c3, c4, decide_true, decide_false, cond_true, cond_false, Bool.not_true, Bool.not_false, Bool.and_true, Bool.and_false, Bool.or_true, Bool.or_false, Bool.false_and, Bool.true_and, Bool.false_or, Bool.false_eq_true] at h1 ⊢
      · refine .inr fun n => ?_
        have h1 := Bool.eq_false_iff.2 h1
        simp only [yBd, decide_eq_true hi', cond_true, Int.toNat_natCast, yAF hx, yAp hi hl, hi0, yFd, h1, Bool.false_and]
        rw [if_pos (by omega)]
        unfold yGg digitC at h1
        by_cases c1 : (x.toNat : Int) ≥ 97 <;> by_cases c2 : (x.toNat : Int) ≤ 122 <;> by_cases c3 : (x.toNat : Int) ≥ 48 <;> by_cases c4 : (x.toNat : Int) ≤ 57 <;> cases f <;>
          simp only [c1, c2, c3, c4, decide_true, decide_false, cond_true, cond_false, Bool.not_true, Bool.not_false, Bool.and_true, Bool.and_false, Bool.or_true, Bool.or_false, Bool.false_and, Bool.true_and, Bool.false_or, Bool.true_eq_false] at h1 ⊢) N 0 true rfl (by omega) (by omega)
theorem yEG (N : Nat) (a b c : Int) : yDg N a b c = some (decide (b ≤ a) && decide (a ≤ c)) := by
  unfold yDg
  cases h : decide (b ≤ a) <;> simp
theorem yFQ (N : Nat) (a b c : Int) : yEN N a b c = some (decide (b ≤ a) && decide (a ≤ c)) := by
  unfold yEN
  cases h : decide (b ≤ a)
  · rfl
  · rfl
theorem impl_isWord_eq {N : Nat} {s : Str} (hl : s.length ≤ 9223372036854775807) (hn : s.length < N) : yEZ N s = some (yFd s true && (decide ((1 : Int) ≤ s.length) && decide ((s.length : Int) ≤ 8))) :=
  yEP (L := fun n i _ => yBC N n s i) s (fun l f => yFd l f && (decide ((1 : Int) ≤ s.length) && decide ((s.length : Int) ≤ 8))) (fun i f => f = (i == 0)) (fun n _ _ => by simp [yBC, yFd, yEG])
    (fun i x l f hd hi hx hf => by
      have hi' : (i : Int) < (s.length : Int) := by omega
      have hi0 : ((i : Int) == 0) = f := by rw [hf]; cases i <;> simp <;> omega
      have e1 : decide ((x.toNat : Int) < 48) = !decide ((x.toNat : Int) ≥ 48) := by by_cases c : (x.toNat : Int) ≥ 48 <;> simp [c] <;> omega
      have e2 : decide ((x.toNat : Int) > 57) = !decide ((x.toNat : Int) ≤ 57) := by by_cases c : (x.toNat : Int) ≤ 57 <;> simp [c] <;> omega
      by_cases h1 : (yGg x || (!f && digitC x)) = true
      · refine .inl ⟨false, by simp, by simp [yFd, h1], fun n => ?_⟩
        simp only [yBC, decide_eq_true hi', cond_true, Int.toNat_natCast, yAF hx, yAp hi hl, hi0, e1, e2]
        rw [if_pos (by omega)]
        unfold yGg digitC at h1
        by_cases c1 : (x.toNat : Int) ≥ 97 <;> by_cases c2 : (x.toNat : Int) ≤ 122 <;> by_cases c3 : (x.toNat : Int) ≥ 48 <;> by_cases c4 : (x.toNat : Int) ≤ 57 <;> cases f <;>
          simp only [c1, c2, c3, c4, decide_true, decide_false, cond_true, cond_false, Bool.not_true, Bool.not_false, Bool.and_true, Bool.and_false, Bool.or_true, Bool.or_false, Bool.false_and, Bool.true_and, Bool.false_or, Bool.false_eq_true] at h1 ⊢
      · refine .inr fun n => ?_
        have h1 := Bool.eq_false_iff.2 h1
        simp only [yBC, decide_eq_true hi', cond_true, Int.toNat_natCast, yAF hx, yAp hi hl, hi0, e1, e2, yFd, h1, Bool.false_and]
        rw [if_pos (by omega)]
        unfold yGg digitC at h1
        by_cases c1 : (x.toNat : Int) ≥ 97 <;> by_cases c2 : (x.toNat : Int) ≤ 122 <;> by_cases c3 : (x.toNat : Int) ≥ 48 <;> by_cases c4 : (x.toNat : Int) ≤ 57 <;> cases f <;>
          simp only [c1, c2, c3, c4, decide_true, decide_false, cond_true, cond_false, Bool.not_true, Bool.not_false, Bool.and_true, Bool.and_false, Bool.or_true, Bool.or_false, Bool.false_and, Bool.true_and, Bool.false_or, Bool.true_eq_false] at h1 ⊢) N 0 true rfl (by omega) (by omega)
def yFr : List Str := [[108, 101, 116], [105, 110], [105, 102], [116, 104, 101, 110], [101, 108, 115, 101], [102, 111, 114], [100, 111], [108, 101, 110], [115, 117, 109], [116, 97, 107, 101], [115, 107, 105, 112], [114, 97, 110, 103, 101], [110, 116, 104], [119, 104, 101, 114, 101], [107, 101, 101, 112], [97, 100, 100], [103, 114, 111, 117, 112], [106, 111, 105, 110], [99, 111, 108, 117, 109, 110], [114, 111, 119, 115], [99, 108, 111, 99, 107], [99, 104, 97, 110, 99, 101], [102, 105, 108, 101], [116, 97, 98, 108, 101]]
theorem spec_l1Has_eq {N : Nat} {xs : List Str} {s : Str} (hl : xs.length ≤ 9223372036854775807) (hn : xs.length < N) : yEV N xs s = some (xs.any (· == s)) :=
  yEP (σ := Unit) (L := fun n i _ => yCV N n xs s i) xs (fun l _ => l.any (· == s)) (fun _ _ => True) (fun n _ _ => by simp [yCV])
    (fun i x l _ hd hi hx _ => by
      have hi' : (i : Int) < (xs.length : Int) := by omega
      cases h1 : x == s
      · refine .inl ⟨(), trivial, by simp [h1], fun n => ?_⟩
        simp only [yCV, decide_eq_true hi', cond_true, Int.toNat_natCast, yAF hx, h1, cond_false, yAp hi hl]
        rw [if_pos (by omega)]
      · refine .inr fun n => ?_
        simp only [yCV, decide_eq_true hi', cond_true, Int.toNat_natCast, yAF hx, h1]
        rw [if_pos (by omega)]
        simp [h1]) N 0 () trivial (by omega) (by omega)
def yFR (s : Str) : Bool := yFr.any (· == s)
theorem spec_IsReserved_eq {N : Nat} {s : Str} (hn : 24 < N) : yC9 N s = some (yFR s) := by
  unfold yC9 yDR
  rw [Option.bind_some, show ([[108, 101, 116], [105, 110], [105, 102], [116, 104, 101, 110], [101, 108, 115, 101], [102, 111, 114], [100, 111], [108, 101, 110], [115, 117, 109], [116, 97, 107, 101], [115, 107, 105, 112], [114, 97, 110, 103, 101], [110, 116, 104], [119, 104, 101, 114, 101], [107, 101, 101, 112], [97, 100, 100], [103, 114, 111, 117, 112], [106, 111, 105, 110], [99, 111, 108, 117, 109, 110], [114, 111, 119, 115], [99, 108, 111, 99, 107], [99, 104, 97, 110, 99, 101], [102, 105, 108, 101], [116, 97, 98, 108, 101]] : List Str) = yFr from rfl, spec_l1Has_eq (by decide) hn]
  rfl
theorem impl_IsReserved_eq (N : Nat) (s : Str) : yC4 N s = some (yFR s) := by
  by_cases h : s ∈ yFr
  · have h' : yFR s = true := List.any_eq_true.2 ⟨s, h, by simp⟩
    rw [h']
    simp only [yFr, List.mem_cons, List.not_mem_nil, or_false] at h
    rcases h with h | h | h | h | h | h | h | h | h | h | h | h | h | h | h | h | h | h | h | h | h | h | h | h <;> subst h <;> rfl
  · have h' : yFR s = false := by
      unfold yFR
      rw [List.any_eq_false]
      intro x hx hxs
      exact h (by rw [← eq_of_beq hxs]; exact hx)
    rw [h']
    have hne : ∀ x ∈ yFr, (s == x) = false := by
      intro x hx
      cases hb : s == x
      · rfl
      · exact absurd (by rw [eq_of_beq hb]; exact hx) h
    simp only [yFr, List.mem_cons, List.not_mem_nil, or_false, forall_eq_or_imp, forall_eq] at hne
    simp only [yC4, yCR, hne, cond_false, Option.bind_some]
    rfl
def yFb (s : Str) : Bool := yFd s true && (decide ((1 : Int) ≤ s.length) && decide ((s.length : Int) ≤ 8)) && !yFR s
theorem yGa {N : Nat} {s : Str} (hl : s.length ≤ 9223372036854775807) (hn : s.length < N) : yCJ N s = some (yFb s) := by
  unfold yCJ yFb
  rw [impl_isWord_eq hl hn, Option.bind_some]
  cases (yFd s true && (decide ((1 : Int) ≤ s.length) && decide ((s.length : Int) ≤ 8)))
  · rfl
  · rw [impl_IsReserved_eq]; rfl
theorem yGk {N : Nat} {s : Str} (hl : s.length ≤ 9223372036854775807) (hn : s.length < N) (hn2 : 24 < N) : yCP N s = some (yFb s) := by
  unfold yCP yFb
  rw [spec_l2Shape_eq hl hn, Option.bind_some, spec_IsReserved_eq hn2]
  have : decide ((s.length : Int) > 0) = decide ((1 : Int) ≤ s.length) := by by_cases c : (s.length : Int) > 0 <;> simp [c] <;> omega
  rw [this]
  cases yFd s true <;> cases decide ((1 : Int) ≤ s.length) <;> cases decide ((s.length : Int) ≤ 8) <;> rfl
end Go.Ab
end
section
namespace Go.Ab
set_option linter.unusedVariables false
set_option linter.unusedSimpArgs false
def yFx (n : Int) : Bool := decide ((-1000000000 : Int) ≤ n) && decide (n ≤ 1000000000)
theorem yFF (N : Nat) (n : Int) : yCq N n = some (yFx n) := by simp [yCq, yFQ, yFx]
theorem yFz (N : Nat) (n : Int) : yCm N n = some (yFx n) := by simp [yCm, yEG, yFx]
theorem wrap_pred {i len : Nat} (h0 : i ≠ 0) (h : i < len) (hl : len ≤ 9223372036854775807) : IntKind.i64.wrap ((i : Int) - 1) = ((i - 1 : Nat) : Int) := by
  rw [yBO (by omega) (by omega)]; omega
theorem markText_some {N : Nat} (hN : 274877906944 < N) {k : Int} (h0 : 0 ≤ k) (h1 : k ≤ 137438953472) : ∃ t, yCo N k = some t := by
  unfold yCo
  cases decide (k ≤ 0)
  · rw [cond_false]
    obtain ⟨r, _, hr⟩ := whileLoop (L := fun n (s : Int × Str) => yCj N n s.1 s.2) (fun s => s.1.toNat) (fun s => 0 ≤ s.1 ∧ (s.2.length : Int) + s.1 ≤ 137438953472) (fun _ => True) (fun s hs => by
      obtain ⟨x, t⟩ := s
      obtain ⟨g0, g1⟩ := hs
      have g0 : 0 ≤ x := g0
      have g1 : (t.length : Int) + x ≤ 137438953472 := g1
      by_cases hx : x > 0
      · have hq : Int.tdiv x 10 = x / 10 := Int.tdiv_eq_ediv_of_nonneg g0
        refine .inl ⟨(IntKind.i64.wrap (Int.tdiv x 10), (List.map (fun n => UInt8.ofNat (Int.toNat n)) [(IntKind.u8.wrap ((IntKind.i64.wrap (48 + (Int.tmod x 10)))))]) ++ t), ?_, ?_, fun n => ?_⟩
        · show 0 ≤ IntKind.i64.wrap (Int.tdiv x 10) ∧ _
          rw [hq, yBO (by omega) (by omega)]
          simp only [List.map_cons, List.map_nil, List.cons_append, List.nil_append, List.length_cons]
          omega
        · show (IntKind.i64.wrap (Int.tdiv x 10)).toNat < x.toNat
          rw [hq, yBO (by omega) (by omega)]
          omega
        · simp only [yCj, decide_eq_true hx, cond_true]
          rw [if_pos (by simp only [List.map_cons, List.map_nil, List.length_cons, List.length_nil]; unfold Lim; omega)]
      · refine .inr ⟨[109] ++ t, trivial, fun n => ?_⟩
        simp only [yCj, decide_eq_false hx, cond_false]
        rw [if_pos (by simp only [List.length_cons, List.length_nil]; unfold Lim; omega)]) N (k, []) ⟨h0, by simpa using h1⟩ (by show k.toNat < N; omega)
    exact ⟨r, hr⟩
  · exact ⟨_, rfl⟩
end Go.Ab
end
