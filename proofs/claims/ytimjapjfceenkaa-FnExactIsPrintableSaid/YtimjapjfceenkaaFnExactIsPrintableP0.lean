/- The statement FnExactIsPrintable holds: plain functions, certificates, laws. Conditions: none. -/
import Derived.Test.YtimjapjfceenkaaChecked
import Derived.Test.YtimjapjfceenkaaProg
import Derived.Test.YtimjapjfceenkaaRows
import Derived.Test.YtimjapjfceenkaaL2
set_option linter.all false
section
namespace Go.Ab
set_option linter.unusedVariables false
def spec_IsPrintable_as (a0 : Str) : List Arg := [.val (.v false [.str a0])]
def spec_IsPrintable_ro (r : Bool) : CallO := ⟨.v false [.bool r], [], []⟩
def spec_IsPrintable_b2 (N : Nat) : Nat → Str → Int → Option (Bool)
  | 0, _, _ => none
  | n + 1, x0, x3 =>
    bif (decide ((x3 : Int) < (List.length x0 : Int))) then (
      if (0 : Int) ≤ x3 ∧ x3 < (List.length x0) then
      bif (decide ((((List.getD x0 (Int.toNat x3) 0).toNat : Int) : Int) < 32)) then (
        some false
      ) else (
        bif (decide ((((List.getD x0 (Int.toNat x3) 0).toNat : Int) : Int) > 126)) then (
          some false
        ) else (
          (spec_IsPrintable_b2 N n x0 (IntKind.i64.wrap (x3 + 1)))
        )
      )
      else none
    ) else (
      some (decide (((List.length x0 : Int) : Int) ≤ 120))
    )
def spec_IsPrintable (N : Nat) (a0 : Str) : Option (Bool) :=
  (spec_IsPrintable_b2 N N a0 0)
def impl_IsPrintable_as (a0 : Str) : List Arg := [.val (.v false [.str a0])]
def impl_IsPrintable_ro (r : Bool) : CallO := ⟨.v false [.bool r], [], []⟩
def impl_IsPrintable_b2 (N : Nat) : Nat → Str → Int → Option (Bool)
  | 0, _, _ => none
  | n + 1, x0, x3 =>
    bif (decide ((x3 : Int) < (List.length x0 : Int))) then (
      if (0 : Int) ≤ x3 ∧ x3 < (List.length x0) then
      bif (decide ((((List.getD x0 (Int.toNat x3) 0).toNat : Int) : Int) < 32)) then (
        some false
      ) else (
        bif (decide ((((List.getD x0 (Int.toNat x3) 0).toNat : Int) : Int) > 126)) then (
          some false
        ) else (
          (impl_IsPrintable_b2 N n x0 (IntKind.i64.wrap (x3 + 1)))
        )
      )
      else none
    ) else (
      some (decide (((List.length x0 : Int) : Int) ≤ 120))
    )
def impl_IsPrintable (N : Nat) (a0 : Str) : Option (Bool) :=
  (impl_IsPrintable_b2 N N a0 0)
def laws_FnExactIsPrintable_as (a0 : Str) : List Arg := [.val (.v false [.str a0])]
def laws_FnExactIsPrintable_ro (r : Bool) : CallO := ⟨.v false [.bool r], [], []⟩
def laws_FnExactIsPrintable (N : Nat) (a0 : Str) : Option (Bool) :=
  bif (decide (((List.length a0 : Int) : Int) > 1048576)) then (
    some true
  ) else (
    Option.bind (spec_IsPrintable N a0) fun r1 =>
    Option.bind (impl_IsPrintable N a0) fun r2 =>
    bif (!((r2 : Bool) == r1)) then (
      some false
    ) else (
      some true
    )
  )
end Go.Ab
end
section
open Go.Proofs
namespace Go.Ab.T
set_option linter.unusedVariables false
set_option maxRecDepth 100000
def tt : TT := [(3, { zero := some [.int .i64 0], ik := some .i64 }),
  (4, { zero := some [.bool false], isBool := true }),
  (5, { zero := some [.int .u8 0], ik := some .u8 }),
  (9, { zero := some [.str []], isStr := true }),
  (25, { zero := some [.sl .own .fil []], elem := some (111, .fil) }),
  (27, { sz := 3, agg := true, zero := some [.int .i64 0, .int .i64 0, .sl .own .fil []], offs := [0, 1, 2], fsz := [1, 1, 1] }),
  (31, { zero := some [.sl .own .fil []], elem := some (80, .fil) }),
  (33, { sz := 3, agg := true, zero := some [.int .i64 0, .int .i64 0, .sl .own .fil []], offs := [0, 1, 2], fsz := [1, 1, 1] }),
  (37, { zero := some [.sl .own .exp []], elem := some (39, .exp) }),
  (39, { sz := 4, agg := true, zero := some [.int .i64 0, .int .i64 0, .str [], .sl .own .exp []], offs := [0, 1, 2, 3], fsz := [1, 1, 1, 1] }),
  (42, { zero := some [.sl .own .exp []], elem := some (44, .exp) }),
  (44, { sz := 4, agg := true, zero := some [.int .i64 0, .int .i64 0, .str [], .sl .own .exp []], offs := [0, 1, 2, 3], fsz := [1, 1, 1, 1] }),
  (48, { zero := some [.sl .own .cel []], elem := some (61, .cel) }),
  (50, { agg := true, zero := some [.sl .own .cel []], offs := [0], fsz := [1] }),
  (53, { zero := some [.sl .own .cel []], elem := some (64, .cel) }),
  (55, { agg := true, zero := some [.sl .own .cel []], offs := [0], fsz := [1] }),
  (61, { sz := 6, agg := true, zero := some [.int .i64 0, .int .i64 0, .int .i64 0, .str [], .str [], .int .i64 0], offs := [0, 1, 2, 3, 4, 5], fsz := [1, 1, 1, 1, 1, 1], same := true }),
  (64, { sz := 6, agg := true, zero := some [.int .i64 0, .int .i64 0, .int .i64 0, .str [], .str [], .int .i64 0], offs := [0, 1, 2, 3, 4, 5], fsz := [1, 1, 1, 1, 1, 1], same := true }),
  (73, { zero := some [.sl .own .byte []], elem := some (5, .byte) }),
  (80, { sz := 2, agg := true, zero := some [.str [], .int .i64 0], offs := [0, 1], fsz := [1, 1] }),
  (94, { zero := some [.sl .own .str []], elem := some (9, .str) }),
  (111, { sz := 2, agg := true, zero := some [.str [], .int .i64 0], offs := [0, 1], fsz := [1, 1] })]
theorem ttok : TTok Try.prog tt := ttChk_ok (by kernel_rfl)
theorem mix : Try.prog.follows .mixedOrders = true := by kernel_rfl
noncomputable def I15 : Info := { body := (Try.f15.body).getD .skip, nt := 23, results := [.tmp 2], keep := [0, 4, 6, 14, 38], live := [(2, [0, 6])], modes := [(4, [(4, .take, false)])], ext := [], lnt := [], casts := [], fcast := [] }
theorem fk15 : FnOk Try.prog 15 Try.f15 I15 := ⟨Try.func15, by kernel_rfl, by kernel_rfl, by kernel_rfl, by kernel_rfl⟩
def S15_2 (x0 : Str) (x3 : Int) : St := [(0, .v false [.str x0]), (6, .v false [.int .i64 x3])]
theorem p15_2_0 (x0 : Str) (x3 : Int) : run tt (AbsCalls Try.prog) I15 3000 true (stkAt 2 I15.body) ⟨(S15_2 x0 x3), [true, true, true], [], []⟩ = some (.done (spec_IsPrintable_ro false) [(decide ((x3 : Int) < (List.length x0 : Int))) = true, (0 : Int) ≤ x3 ∧ x3 < (List.length x0), (decide ((((List.getD x0 (Int.toNat x3) 0).toNat : Int) : Int) < 32)) = true, true = true]) := by kernel_rfl
theorem p15_2_1 (x0 : Str) (x3 : Int) : run tt (AbsCalls Try.prog) I15 3000 true (stkAt 2 I15.body) ⟨(S15_2 x0 x3), [true, false, true], [], []⟩ = some (.done (spec_IsPrintable_ro false) [(decide ((x3 : Int) < (List.length x0 : Int))) = true, (0 : Int) ≤ x3 ∧ x3 < (List.length x0), (decide ((((List.getD x0 (Int.toNat x3) 0).toNat : Int) : Int) < 32)) = false, (0 : Int) ≤ x3 ∧ x3 < (List.length x0), (decide ((((List.getD x0 (Int.toNat x3) 0).toNat : Int) : Int) > 126)) = true]) := by kernel_rfl
theorem p15_2_2 (x0 : Str) (x3 : Int) : run tt (AbsCalls Try.prog) I15 3000 true (stkAt 2 I15.body) ⟨(S15_2 x0 x3), [true, false, false], [], []⟩ = some (.stop (stkAt 2 I15.body) (S15_2 x0 (IntKind.i64.wrap (x3 + 1))) [(decide ((x3 : Int) < (List.length x0 : Int))) = true, (0 : Int) ≤ x3 ∧ x3 < (List.length x0), (decide ((((List.getD x0 (Int.toNat x3) 0).toNat : Int) : Int) < 32)) = false, (0 : Int) ≤ x3 ∧ x3 < (List.length x0), (decide ((((List.getD x0 (Int.toNat x3) 0).toNat : Int) : Int) > 126)) = false]) := by kernel_rfl
theorem p15_2_3 (x0 : Str) (x3 : Int) : run tt (AbsCalls Try.prog) I15 3000 true (stkAt 2 I15.body) ⟨(S15_2 x0 x3), [false], [], []⟩ = some (.done (spec_IsPrintable_ro (decide (((List.length x0 : Int) : Int) ≤ 120))) [(decide ((x3 : Int) < (List.length x0 : Int))) = false]) := by kernel_rfl
theorem p15_e_4 (a0 : Str) : run tt (AbsCalls Try.prog) I15 3000 false [.code I15.body] ⟨(entry 0 (spec_IsPrintable_as a0)), [], [], []⟩ = some (.stop (stkAt 2 I15.body) (S15_2 a0 0) []) := by kernel_rfl
theorem c15_2 {N : Nat} : ∀ n x0 x3 r, spec_IsPrintable_b2 N n x0 x3 = some r → Reach Try.prog Try.f15 I15 (stkAt 2 I15.body) (S15_2 x0 x3) (spec_IsPrintable_ro r) := by
  intro n
  induction n with
  | zero => intro x0 x3 r h; have h' : (none : Option (Bool)) = some r := h; cases h'
  | succ n ih =>
    intro x0 x3 r h
    rw [spec_IsPrintable_b2] at h
    rcases cond_inv h with ⟨h0, h⟩ | ⟨h0, h⟩
    · obtain ⟨h1, h⟩ := ite_inv h
      rcases cond_inv h with ⟨h2, h⟩ | ⟨h2, h⟩
      · obtain rfl := Option.some.inj h
        exact Reach.done ttok mix fk15 (p15_2_0 x0 x3) (obs_cons h0 (obs_cons h1 (obs_cons h2 (obs_cons rfl obs_nil))))
      · rcases cond_inv h with ⟨h4, h⟩ | ⟨h4, h⟩
        · obtain rfl := Option.some.inj h
          exact Reach.done ttok mix fk15 (p15_2_1 x0 x3) (obs_cons h0 (obs_cons h1 (obs_cons h2 (obs_cons h1 (obs_cons h4 obs_nil)))))
        · exact Reach.stop ttok mix fk15 (p15_2_2 x0 x3) (obs_cons h0 (obs_cons h1 (obs_cons h2 (obs_cons h1 (obs_cons h4 obs_nil))))) (ih _ _ _ h)
    · obtain rfl := Option.some.inj h
      exact Reach.done ttok mix fk15 (p15_2_3 x0 x3) (obs_cons h0 obs_nil)
theorem c15_e {N : Nat} : ∀ a0 r, spec_IsPrintable N a0 = some r → Reach Try.prog Try.f15 I15 [.code I15.body] (entry 0 (spec_IsPrintable_as a0)) (spec_IsPrintable_ro r) := by
  intro a0 r h
  unfold spec_IsPrintable at h
  exact Reach.stop ttok mix fk15 (p15_e_4 a0) obs_nil (c15_2   _ _ _ _ h)
theorem spec_IsPrintable_ok {N : Nat} {a0 : Str} {r : Bool} (h : spec_IsPrintable N  a0 = some r) : AbsCalls Try.prog 15 (spec_IsPrintable_as a0) (spec_IsPrintable_ro r) :=
 AbsCalls.of_reach fk15 rfl rfl (Nat.le_of_ble_eq_true rfl) (c15_e a0 r h)
noncomputable def I16 : Info := { body := (Try.f16.body).getD .skip, nt := 23, results := [.tmp 2], keep := [0, 4, 6, 14, 38], live := [(2, [0, 6])], modes := [(4, [(4, .take, false)])], ext := [], lnt := [], casts := [], fcast := [] }
theorem fk16 : FnOk Try.prog 16 Try.f16 I16 := ⟨Try.func16, by kernel_rfl, by kernel_rfl, by kernel_rfl, by kernel_rfl⟩
def S16_2 (x0 : Str) (x3 : Int) : St := [(0, .v false [.str x0]), (6, .v false [.int .i64 x3])]
theorem p16_2_0 (x0 : Str) (x3 : Int) : run tt (AbsCalls Try.prog) I16 3000 true (stkAt 2 I16.body) ⟨(S16_2 x0 x3), [true, true, true], [], []⟩ = some (.done (impl_IsPrintable_ro false) [(decide ((x3 : Int) < (List.length x0 : Int))) = true, (0 : Int) ≤ x3 ∧ x3 < (List.length x0), (decide ((((List.getD x0 (Int.toNat x3) 0).toNat : Int) : Int) < 32)) = true, true = true]) := by kernel_rfl
theorem p16_2_1 (x0 : Str) (x3 : Int) : run tt (AbsCalls Try.prog) I16 3000 true (stkAt 2 I16.body) ⟨(S16_2 x0 x3), [true, false, true], [], []⟩ = some (.done (impl_IsPrintable_ro false) [(decide ((x3 : Int) < (List.length x0 : Int))) = true, (0 : Int) ≤ x3 ∧ x3 < (List.length x0), (decide ((((List.getD x0 (Int.toNat x3) 0).toNat : Int) : Int) < 32)) = false, (0 : Int) ≤ x3 ∧ x3 < (List.length x0), (decide ((((List.getD x0 (Int.toNat x3) 0).toNat : Int) : Int) > 126)) = true]) := by kernel_rfl
theorem p16_2_2 (x0 : Str) (x3 : Int) : run tt (AbsCalls Try.prog) I16 3000 true (stkAt 2 I16.body) ⟨(S16_2 x0 x3), [true, false, false], [], []⟩ = some (.stop (stkAt 2 I16.body) (S16_2 x0 (IntKind.i64.wrap (x3 + 1))) [(decide ((x3 : Int) < (List.length x0 : Int))) = true, (0 : Int) ≤ x3 ∧ x3 < (List.length x0), (decide ((((List.getD x0 (Int.toNat x3) 0).toNat : Int) : Int) < 32)) = false, (0 : Int) ≤ x3 ∧ x3 < (List.length x0), (decide ((((List.getD x0 (Int.toNat x3) 0).toNat : Int) : Int) > 126)) = false]) := by kernel_rfl
theorem p16_2_3 (x0 : Str) (x3 : Int) : run tt (AbsCalls Try.prog) I16 3000 true (stkAt 2 I16.body) ⟨(S16_2 x0 x3), [false], [], []⟩ = some (.done (impl_IsPrintable_ro (decide (((List.length x0 : Int) : Int) ≤ 120))) [(decide ((x3 : Int) < (List.length x0 : Int))) = false]) := by kernel_rfl
theorem p16_e_4 (a0 : Str) : run tt (AbsCalls Try.prog) I16 3000 false [.code I16.body] ⟨(entry 0 (impl_IsPrintable_as a0)), [], [], []⟩ = some (.stop (stkAt 2 I16.body) (S16_2 a0 0) []) := by kernel_rfl
theorem c16_2 {N : Nat} : ∀ n x0 x3 r, impl_IsPrintable_b2 N n x0 x3 = some r → Reach Try.prog Try.f16 I16 (stkAt 2 I16.body) (S16_2 x0 x3) (impl_IsPrintable_ro r) := by
  intro n
  induction n with
  | zero => intro x0 x3 r h; have h' : (none : Option (Bool)) = some r := h; cases h'
  | succ n ih =>
    intro x0 x3 r h
    rw [impl_IsPrintable_b2] at h
    rcases cond_inv h with ⟨h0, h⟩ | ⟨h0, h⟩
    · obtain ⟨h1, h⟩ := ite_inv h
      rcases cond_inv h with ⟨h2, h⟩ | ⟨h2, h⟩
      · obtain rfl := Option.some.inj h
        exact Reach.done ttok mix fk16 (p16_2_0 x0 x3) (obs_cons h0 (obs_cons h1 (obs_cons h2 (obs_cons rfl obs_nil))))
      · rcases cond_inv h with ⟨h4, h⟩ | ⟨h4, h⟩
        · obtain rfl := Option.some.inj h
          exact Reach.done ttok mix fk16 (p16_2_1 x0 x3) (obs_cons h0 (obs_cons h1 (obs_cons h2 (obs_cons h1 (obs_cons h4 obs_nil)))))
        · exact Reach.stop ttok mix fk16 (p16_2_2 x0 x3) (obs_cons h0 (obs_cons h1 (obs_cons h2 (obs_cons h1 (obs_cons h4 obs_nil))))) (ih _ _ _ h)
    · obtain rfl := Option.some.inj h
      exact Reach.done ttok mix fk16 (p16_2_3 x0 x3) (obs_cons h0 obs_nil)
theorem c16_e {N : Nat} : ∀ a0 r, impl_IsPrintable N a0 = some r → Reach Try.prog Try.f16 I16 [.code I16.body] (entry 0 (impl_IsPrintable_as a0)) (impl_IsPrintable_ro r) := by
  intro a0 r h
  unfold impl_IsPrintable at h
  exact Reach.stop ttok mix fk16 (p16_e_4 a0) obs_nil (c16_2   _ _ _ _ h)
theorem impl_IsPrintable_ok {N : Nat} {a0 : Str} {r : Bool} (h : impl_IsPrintable N  a0 = some r) : AbsCalls Try.prog 16 (impl_IsPrintable_as a0) (impl_IsPrintable_ro r) :=
 AbsCalls.of_reach fk16 rfl rfl (Nat.le_of_ble_eq_true rfl) (c16_e a0 r h)
noncomputable def I3 : Info := { body := (Try.f3.body).getD .skip, nt := 15, results := [.tmp 2], keep := [0, 4, 6, 8, 14, 28], live := [], modes := [(5, [(0, .take, false), (1, .take, false)])], ext := [], lnt := [], casts := [], fcast := [] }
theorem fk3 : FnOk Try.prog 3 Try.f3 I3 := ⟨Try.func3, by kernel_rfl, by kernel_rfl, by kernel_rfl, by kernel_rfl⟩
theorem p3_e_0 (a0 : Str) : run tt (AbsCalls Try.prog) I3 3000 false [.code I3.body] ⟨(entry 0 (laws_FnExactIsPrintable_as a0)), [true], [], []⟩ = some (.done (laws_FnExactIsPrintable_ro true) [(decide (((List.length a0 : Int) : Int) > 1048576)) = true]) := by kernel_rfl
theorem p3_e_1 (a0 : Str) (r1 : Bool) (r2 : Bool) : run tt (AbsCalls Try.prog) I3 3000 false [.code I3.body] ⟨(entry 0 (laws_FnExactIsPrintable_as a0)), [false, true], [spec_IsPrintable_ro r1, impl_IsPrintable_ro r2], []⟩ = some (.done (laws_FnExactIsPrintable_ro false) [(decide (((List.length a0 : Int) : Int) > 1048576)) = false, AbsCalls Try.prog 15 (spec_IsPrintable_as a0) (spec_IsPrintable_ro r1), AbsCalls Try.prog 16 (impl_IsPrintable_as a0) (impl_IsPrintable_ro r2), (!((r2 : Bool) == r1)) = true]) := by kernel_rfl
theorem p3_e_2 (a0 : Str) (r1 : Bool) (r2 : Bool) : run tt (AbsCalls Try.prog) I3 3000 false [.code I3.body] ⟨(entry 0 (laws_FnExactIsPrintable_as a0)), [false, false], [spec_IsPrintable_ro r1, impl_IsPrintable_ro r2], []⟩ = some (.done (laws_FnExactIsPrintable_ro true) [(decide (((List.length a0 : Int) : Int) > 1048576)) = false, AbsCalls Try.prog 15 (spec_IsPrintable_as a0) (spec_IsPrintable_ro r1), AbsCalls Try.prog 16 (impl_IsPrintable_as a0) (impl_IsPrintable_ro r2), (!((r2 : Bool) == r1)) = false]) := by kernel_rfl
theorem c3_e {N : Nat} : ∀ a0 r, laws_FnExactIsPrintable N a0 = some r → Reach Try.prog Try.f3 I3 [.code I3.body] (entry 0 (laws_FnExactIsPrintable_as a0)) (laws_FnExactIsPrintable_ro r) := by
  intro a0 r h
  unfold laws_FnExactIsPrintable at h
  rcases cond_inv h with ⟨h0, h⟩ | ⟨h0, h⟩
  · obtain rfl := Option.some.inj h
    exact Reach.done ttok mix fk3 (p3_e_0 a0) (obs_cons h0 obs_nil)
  · obtain ⟨r1, h1, h⟩ := bind_inv h
    obtain ⟨r2, h2, h⟩ := bind_inv h
    rcases cond_inv h with ⟨h3, h⟩ | ⟨h3, h⟩
    · obtain rfl := Option.some.inj h
      exact Reach.done ttok mix fk3 (p3_e_1 a0 r1 r2) (obs_cons h0 (obs_cons (spec_IsPrintable_ok h1) (obs_cons (impl_IsPrintable_ok h2) (obs_cons h3 obs_nil))))
    · obtain rfl := Option.some.inj h
      exact Reach.done ttok mix fk3 (p3_e_2 a0 r1 r2) (obs_cons h0 (obs_cons (spec_IsPrintable_ok h1) (obs_cons (impl_IsPrintable_ok h2) (obs_cons h3 obs_nil))))
theorem laws_FnExactIsPrintable_ok {N : Nat} {a0 : Str} {r : Bool} (h : laws_FnExactIsPrintable N  a0 = some r) : AbsCalls Try.prog 3 (laws_FnExactIsPrintable_as a0) (laws_FnExactIsPrintable_ro r) :=
 AbsCalls.of_reach fk3 rfl rfl (Nat.le_of_ble_eq_true rfl) (c3_e a0 r h)
end Go.Ab.T
end
section
open Go.Proofs
namespace Go.Ab.T
set_option linter.unusedVariables false
set_option maxRecDepth 100000
noncomputable def I64 : Info := { body := (Try.f64.body).getD .skip, nt := 15, results := [.tmp 2], keep := [0, 4], live := [], modes := [(1, [(2, .take, false), (7, .take, false)])], ext := [], lnt := [], casts := [], fcast := [] }
end Go.Ab.T
end
section
namespace Go.Ab
set_option linter.unusedVariables false
def Big2 (p : Nat → Nat → Prop) : Prop := ∃ k, ∀ N n, k ≤ N → k ≤ n → p N n
theorem Big2.succ {p : Nat → Nat → Prop} (h : Big2 fun N n => p N (n + 1)) : Big2 p := by
  obtain ⟨k, hk⟩ := h
  refine ⟨k + 1, fun N n h1 h2 => ?_⟩
  obtain ⟨m, rfl⟩ : ∃ m, n = m + 1 := ⟨n - 1, by omega⟩
  exact hk N m (by omega) (by omega)
def Big3 (p : Nat → Nat → Nat → Prop) : Prop := ∃ k, ∀ N d n, k ≤ N → k ≤ d → k ≤ n → p N d n
theorem Big3.succ {p : Nat → Nat → Nat → Prop} (h : Big3 fun N d n => p N d (n + 1)) : Big3 p := by
  obtain ⟨k, hk⟩ := h
  refine ⟨k + 1, fun N d n h1 h2 h3 => ?_⟩
  obtain ⟨m, rfl⟩ : ∃ m, n = m + 1 := ⟨n - 1, by omega⟩
  exact hk N d m (by omega) (by omega) (by omega)
def I64 (x : Int) : Prop := -9223372036854775808 ≤ x ∧ x ≤ 9223372036854775807
theorem wrap_i64_def (x : Int) : IntKind.i64.wrap x = if x % 18446744073709551616 ≥ 9223372036854775808 then x % 18446744073709551616 - 18446744073709551616 else x % 18446744073709551616 := by
  show (if (true && decide (x % 18446744073709551616 ≥ 9223372036854775808)) = true then x % 18446744073709551616 - 18446744073709551616 else x % 18446744073709551616) = _
  simp only [Bool.true_and, decide_eq_true_eq]
theorem wrap_i64 {x : Int} (h1 : -9223372036854775808 ≤ x) (h2 : x ≤ 9223372036854775807) : IntKind.i64.wrap x = x := by
  rw [wrap_i64_def]
  split <;> omega
theorem drop_cons {α : Type} {xs : List α} {i : Nat} {x : α} {l : List α} (h : xs.drop i = x :: l) : i < xs.length ∧ xs[i]? = some x ∧ xs.drop (i + 1) = l := by
  have h1 : i < xs.length := by
    rcases Nat.lt_or_ge i xs.length with h1 | h1
    · exact h1
    · rw [List.drop_eq_nil_of_le h1] at h; cases h
  rw [List.drop_eq_getElem_cons h1] at h
  cases h
  exact ⟨h1, by simp [h1], rfl⟩
theorem drop_nil {α : Type} {xs : List α} {i : Nat} (h : xs.drop i = []) : xs.length ≤ i := by simpa using h
end Go.Ab
end
section
namespace Go.Ab
set_option linter.unusedVariables false
inductive DK (K : Nat) : D → Prop where
  | int {k n} (h : (Lit.int k n).wf = true) : DK K (.int k n)
  | bool (b) : DK K (.bool b)
  | str {s : Str} (h : s.length ≤ K) : DK K (.str s)
  | sl {sz rows} (h : rows.length ≤ K) (hr : ∀ r ∈ rows, ∀ x ∈ r, DK K x) : DK K (.sl sz rows)
theorem DFit.dk {d : D} (h : DFit d) : DK maxLen d := by
  induction h with
  | int h => exact .int h
  | bool b => exact .bool b
  | str h => exact .str h
  | sl h _ ih => exact .sl h ih
theorem DK.mono {K M : Nat} (hKM : K ≤ M) {d : D} (h : DK K d) : DK M d := by
  induction h with
  | int h => exact .int h
  | bool b => exact .bool b
  | str h => exact .str (by omega)
  | sl h _ ih => exact .sl (by omega) ih
theorem wf_i64 {n : Int} : (Lit.int .i64 n).wf = true ↔ I64 n := by
  show (decide (_ ≤ n) && decide (n ≤ _)) = true ↔ _
  rw [Bool.and_eq_true, decide_eq_true_eq, decide_eq_true_eq]
  exact Iff.rfl
theorem DK.i64 {K : Nat} {n : Int} : DK K (.int .i64 n) ↔ I64 n := ⟨fun h => by cases h with | int h => exact wf_i64.1 h, fun h => .int (wf_i64.2 h)⟩
theorem DK.str_iff {K : Nat} {s : Str} : DK K (.str s) ↔ s.length ≤ K := ⟨fun h => by cases h; assumption, .str⟩
def LFit {α : Type} (K : Nat) (p : α → Prop) (l : List α) : Prop := l.length ≤ K ∧ ∀ x ∈ l, p x
def Ty.Fit (K : Nat) (T : Ty) (x : T.den) : Prop := ∀ d ∈ T.toD x, DK K d
def Org.Fit (o : Org) : Prop := I64 o.cell ∧ I64 o.row
def Rowd.Fit (K : Nat) (r : Rowd) : Prop := LFit K I64 r.cells ∧ LFit K Org.Fit r.frm
def Str.Fit (K : Nat) (s : Str) : Prop := s.length ≤ K
def Val.Fit (K : Nat) (v : Val) : Prop := ∀ d ∈ Val.toD v, DK K d
def Exp.Fit (K : Nat) (v : Exp) : Prop := ∀ d ∈ Exp.toD v, DK K d
def Fil.Fit (K : Nat) (v : Fil) : Prop := Str.Fit K v.name ∧ I64 v.n
def Tok.Fit (K : Nat) (v : Tok) : Prop := I64 v.kind ∧ I64 v.n ∧ I64 v.pos ∧ Str.Fit K v.text
def Rea.Fit (K : Nat) (v : Rea) : Prop := I64 v.kind ∧ I64 v.n ∧ I64 v.time ∧ Str.Fit K v.text ∧ v.result.Fit K
def Bnd.Fit (K : Nat) (v : Bnd) : Prop := Str.Fit K v.name ∧ v.value.Fit K
def Cel.Fit (K : Nat) (v : Cel) : Prop := I64 v.id ∧ I64 v.version ∧ I64 v.kind ∧ Str.Fit K v.name ∧ Str.Fit K v.code ∧ I64 v.n
def Wld.Fit (K : Nat) (v : Wld) : Prop := I64 v.clock ∧ I64 v.seed ∧ LFit K (Fil.Fit K) v.files
theorem cell_str {s : Str} (h : DK maxLen (CV.str s).toD) : Str.Fit maxLen s := DK.str_iff.1 h
end Go.Ab
end
section
namespace Go.Ab
set_option linter.unusedVariables false
theorem forList {α σ ρ : Type} {L : Nat → Int → σ → Option ρ} (x0 : List α) (g : List α → σ → ρ) (Inv : Nat → σ → Prop)
    (hnil : ∀ n s, Inv x0.length s → L (n + 1) (x0.length : Nat) s = some (g [] s))
    (hcons : ∀ i x l s, x0.drop i = x :: l → i < x0.length → x0[i]? = some x → Inv i s →
      (∃ s', Inv (i + 1) s' ∧ g (x :: l) s = g l s' ∧ ∀ n, L (n + 1) (i : Nat) s = L n ((i + 1 : Nat) : Int) s') ∨ (∀ n, L (n + 1) (i : Nat) s = some (g (x :: l) s))) :
    ∀ n i s, Inv i s → i ≤ x0.length → x0.length < n + i → L n (i : Nat) s = some (g (x0.drop i) s) := by
  intro n
  induction n with
  | zero => intro i s _ h1 h2; omega
  | succ n ih =>
    intro i s hs hi hn
    cases hd : x0.drop i with
    | nil =>
      have := drop_nil hd
      obtain rfl : i = x0.length := by omega
      exact hnil n s hs
    | cons x l =>
      obtain ⟨h1, h2, h3⟩ := drop_cons hd
      rcases hcons i x l s hd h1 h2 hs with ⟨s', h4, h5, h6⟩ | h
      · rw [h6, ih (i + 1) s' h4 (by omega) (by omega), h3, h5]
      · exact h n
theorem getD_of {α : Type} {xs : List α} {i : Nat} {x : α} (h : xs[i]? = some x) (d : α) : xs.getD i d = x := by simp [List.getD, h]
theorem wrap_succ {i : Nat} {len : Nat} (h : i < len) (hl : len ≤ 9223372036854775807) : IntKind.i64.wrap ((i : Int) + 1) = ((i + 1 : Nat) : Int) := by
  rw [wrap_i64 (by omega) (by omega)]; omega
section
variable {α : Type} {d : α}
end
end Go.Ab
end
section
namespace Go.Ab
set_option linter.unusedVariables false
def Fil.size (f : Fil) : Nat := f.name.length
def Wld.size (w : Wld) : Nat := w.files.length + (w.files.map Fil.size).sum
def Cel.size (c : Cel) : Nat := c.name.length + c.code.length
mutual
def Exp.size : Exp → Nat
  | .mk _ _ t a => t.length + (a.length + Exp.sizes a)
def Exp.sizes : List Exp → Nat
  | [] => 0
  | x :: r => Exp.size x + Exp.sizes r
end
def Rowd.size (r : Rowd) : Nat := r.cells.length + r.frm.length
mutual
def Val.size : Val → Nat
  | .mk _ _ _ t l c r => t.length + (l.length + Val.sizes l) + (c.length + (c.map List.length).sum) + (r.length + (r.map Rowd.size).sum)
def Val.sizes : List Val → Nat
  | [] => 0
  | x :: r => Val.size x + Val.sizes r
end
end Go.Ab
end
section
namespace Go.Ab
set_option linter.unusedVariables false
set_option linter.unusedSimpArgs false
def printC (c : UInt8) : Bool := !(decide ((c.toNat : Int) < 32)) && !(decide ((c.toNat : Int) > 126))
def printable (s : Str) : Bool := s.all printC && decide ((s.length : Int) ≤ 120)
theorem spec_IsPrintable_eq {N : Nat} {s : Str} (hl : s.length ≤ 9223372036854775807) (hn : s.length < N) : spec_IsPrintable N s = some (printable s) :=
  forList (σ := Unit) (L := fun n i _ => spec_IsPrintable_b2 N n s i) s (fun l _ => l.all printC && decide ((s.length : Int) ≤ 120)) (fun _ _ => True) (fun n _ _ => by simp [spec_IsPrintable_b2])
    (fun i x l _ hd hi hx _ => by
      have hi' : (i : Int) < (s.length : Int) := by omega
      by_cases h1 : (x.toNat : Int) < 32
      · refine .inr fun n => ?_
        simp only [spec_IsPrintable_b2, decide_eq_true hi', cond_true, Int.toNat_natCast, getD_of hx, decide_eq_true h1]
        rw [if_pos (by omega)]
        simp only [List.all_cons, printC, decide_eq_true h1, Bool.not_true, Bool.false_and]
      · by_cases h2 : (x.toNat : Int) > 126
        · refine .inr fun n => ?_
          simp only [spec_IsPrintable_b2, decide_eq_true hi', cond_true, Int.toNat_natCast, getD_of hx, decide_eq_false h1, decide_eq_true h2, cond_false]
          rw [if_pos (by omega)]
          simp only [List.all_cons, printC, decide_eq_false h1, decide_eq_true h2, Bool.not_true, Bool.not_false, Bool.and_false, Bool.false_and]
        · refine .inl ⟨(), trivial, ?_, fun n => ?_⟩
          · simp only [List.all_cons, printC, decide_eq_false h1, decide_eq_false h2, Bool.not_false, Bool.and_self, Bool.true_and]
          · simp only [spec_IsPrintable_b2, decide_eq_true hi', cond_true, Int.toNat_natCast, getD_of hx, decide_eq_false h1, decide_eq_false h2, cond_false, wrap_succ hi hl]
            rw [if_pos (by omega)]) N 0 () trivial (by omega) (by omega)
theorem impl_IsPrintable_b2_eq (N n : Nat) (s : Str) (i : Int) : impl_IsPrintable_b2 N n s i = spec_IsPrintable_b2 N n s i := by
  induction n generalizing i with
  | zero => rfl
  | succ n ih => simp only [impl_IsPrintable_b2, spec_IsPrintable_b2, ih]
theorem impl_IsPrintable_eq {N : Nat} {s : Str} (hl : s.length ≤ 9223372036854775807) (hn : s.length < N) : impl_IsPrintable N s = some (printable s) :=
  (impl_IsPrintable_b2_eq N N s 0).trans (spec_IsPrintable_eq hl hn)
theorem laws_FnExactIsPrintable_true (a0 : Str) (f0 : ∀ z ∈ [CV.str a0], DFit z.toD) : ∃ N, laws_FnExactIsPrintable N a0 = some true := by
  have h0 : a0.length ≤ 9223372036854775807 := cell_str (f0 _ List.mem_cons_self).dk
  refine ⟨a0.length + 1, ?_⟩
  simp [laws_FnExactIsPrintable, spec_IsPrintable_eq h0 (Nat.lt_succ_self _), impl_IsPrintable_eq h0 (Nat.lt_succ_self _)]
end Go.Ab
end
section
namespace Go.Proofs.Ytimjapjfceenkaa
open Go.Ab Go.ChangeShapes Go.WideShapes Go.ChangeAt Go.RowKit
set_option linter.unusedVariables false
theorem own : ownKnob Try.prog.godebug = none := by kernel_rfl
theorem laidOut : laidOutB Try.prog = true := by kernel_rfl
theorem ktok_fnExactIsPrintable : ktChk Try.prog [] = true := by kernel_rfl
set_option maxRecDepth 100000 in
theorem fnExactIsPrintable_lifted (os : Os) (started : os.Started) (H : Type) (enc : TypeId × Value → H) :
    ReturnsInHanded {} Try.checked os 3 .any (Rows.fnExactIsPrintableSpec.pre6 enc Try.prog Try.f3 Rows.fnExactIsPrintableRow.domain false) (Rows.fnExactIsPrintableSpec.post enc Try.prog Try.f3 false true false false) := by
  refine returnsInHanded_of_change (C := Try.checked) own started (by kernel_rfl) Try.func3
    (ChangeSpec.witness6 (enc := enc) (C := Try.checked) false ⟨#[], #[.string ByteArray.empty], []⟩ 8 (by kernel_rfl) (by kernel_rfl) (by kernel_rfl) (by kernel_rfl)) ?_
  intro W base args ds gs before hval0 hW hcnd _
  have hval : ∀ (j : Nat) t v, Try.f3.params[j]? = some t → args[j]? = some v → Value.okWide Try.prog W .any base t v := hval0
  have hW' := hW
  obtain ⟨p, q, hA0, hV, rfl, hfz, hnd⟩ := hW
  have hA : DataW.TrodAll enc Try.prog W 0 (fun _ => true) true Try.f3.params.toList args.toList ds p := hA0
  rw [Try.params3] at hA hval
  obtain ⟨v0, vs0, d0, ds0, p0, q0, hargs, rfl, rfl, h0, r0⟩ := trodAll_cons hA
  obtain ⟨rfl, rfl, rfl⟩ := trodAll_nil r0
  obtain rfl : args = #[v0] := by cases args; simp_all
  obtain ⟨rfl, rfl⟩ := trodVars_none hV
  have lt0 : ∀ x ∈ p0, x.block < W.heap.size := by obtain ⟨m, hm⟩ := h0; exact DataW.trod_lt m _ _ _ hm
  obtain ⟨z0, e0, f0, vr0⟩ := vr_of ktok_fnExactIsPrintable (g := false) (t := 9) (ns := [.inl .str]) (by kernel_rfl) (hval 0 9 v0 rfl rfl) h0
  obtain ⟨x0_0, _, rfl, e0_0⟩ := AreOf.str_inv e0
  obtain rfl := e0_0.nil_inv
  obtain ⟨N, hF⟩ := laws_FnExactIsPrintable_true x0_0 f0
  clear hA0 hval0
  refine (calls_of T.fk3 (T.laws_FnExactIsPrintable_ok hF) (W := W) (args := #[v0]) ⟨vr0 _, trivial⟩).mono fun e W' ⟨he, bel⟩ => ?_
  subst he
  exact ⟨_, rfl, _, _, _, [], _, [], hW', trodAll_mk1 (shut_bool Try.underlying4 _), (trodAll_cons_mk (Below.trod laidOut (by kernel_rfl) (of_decide_eq_true (by kernel_rfl)) h0 bel lt0) trodAll_mk0), rfl, bel.frame _, fun h => by cases h⟩
theorem fnExactIsPrintable_proved : Rows.FnExactIsPrintableSaid :=
  OpenClaim.holds_of_wide 3 Try.f3 rfl rfl rfl rfl rfl rfl rfl ⟨rfl, rfl, rfl, rfl, rfl⟩ rfl rfl rfl rfl rfl (by kernel_rfl) Try.func3 (by kernel_rfl)
    (of_decide_eq_true (by kernel_rfl)) (by unfold Func.isWrapper; first | (rw [if_pos (by decide +kernel)]; kernel_rfl) | (rw [if_neg (by decide +kernel)]; exact ⟨rfl, rfl⟩))
    (fun os started H enc _ => fnExactIsPrintable_lifted os started H enc)
end Go.Proofs.Ytimjapjfceenkaa
end
