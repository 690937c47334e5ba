/- The statement FnExactMix holds: plain functions, certificates, laws. Conditions: none. -/
import Derived.Test.YtimjapjfceenkaaChecked
import Derived.Test.YtimjapjfceenkaaProg
import Derived.Test.YtimjapjfceenkaaRows
import Derived.Test.YtimjapjfceenkaaL2
set_option linter.all false
section
namespace Go.Ab
set_option linter.unusedVariables false
def spec_l14Rest_as (a0 : Int) : List Arg := [.val (.v false [.int .i64 a0])]
def spec_l14Rest_ro (r : Int) : CallO := ⟨.v false [.int .i64 r], [], []⟩
def spec_l14Rest (N : Nat) (a0 : Int) : Option (Int) :=
  bif (decide (((Int.tmod a0 2147483647) : Int) < 0)) then (
    some (IntKind.i64.wrap ((Int.tmod a0 2147483647) + 2147483647))
  ) else (
    some (Int.tmod a0 2147483647)
  )
def spec_Mix_as (a0 : Int) (a1 : Int) (a2 : Int) (a3 : Int) : List Arg := [.val (.v false [.int .i64 a0]), .val (.v false [.int .i64 a1]), .val (.v false [.int .i64 a2]), .val (.v false [.int .i64 a3])]
def spec_Mix_ro (r : Int) : CallO := ⟨.v false [.int .i64 r], [], []⟩
def spec_Mix (N : Nat) (a0 : Int) (a1 : Int) (a2 : Int) (a3 : Int) : Option (Int) :=
  Option.bind (spec_l14Rest N (IntKind.i64.wrap ((IntKind.i64.wrap ((IntKind.i64.wrap ((IntKind.i64.wrap (48271 * a0)) + (IntKind.i64.wrap (7919 * a1)))) + (IntKind.i64.wrap (104729 * a2)))) + (IntKind.i64.wrap (1299709 * a3))))) fun r1 =>
  Option.bind (spec_l14Rest N (IntKind.i64.wrap (16807 * r1))) fun r2 =>
  some r2
def impl_Mix_as (a0 : Int) (a1 : Int) (a2 : Int) (a3 : Int) : List Arg := [.val (.v false [.int .i64 a0]), .val (.v false [.int .i64 a1]), .val (.v false [.int .i64 a2]), .val (.v false [.int .i64 a3])]
def impl_Mix_ro (r : Int) : CallO := ⟨.v false [.int .i64 r], [], []⟩
def impl_Mix (N : Nat) (a0 : Int) (a1 : Int) (a2 : Int) (a3 : Int) : Option (Int) :=
  bif (decide (((Int.tmod (IntKind.i64.wrap ((IntKind.i64.wrap ((IntKind.i64.wrap ((IntKind.i64.wrap (48271 * a0)) + (IntKind.i64.wrap (7919 * a1)))) + (IntKind.i64.wrap (104729 * a2)))) + (IntKind.i64.wrap (1299709 * a3)))) 2147483647) : Int) < 0)) then (
    some (Int.tmod (IntKind.i64.wrap (16807 * (IntKind.i64.wrap ((Int.tmod (IntKind.i64.wrap ((IntKind.i64.wrap ((IntKind.i64.wrap ((IntKind.i64.wrap (48271 * a0)) + (IntKind.i64.wrap (7919 * a1)))) + (IntKind.i64.wrap (104729 * a2)))) + (IntKind.i64.wrap (1299709 * a3)))) 2147483647) + 2147483647)))) 2147483647)
  ) else (
    some (Int.tmod (IntKind.i64.wrap (16807 * (Int.tmod (IntKind.i64.wrap ((IntKind.i64.wrap ((IntKind.i64.wrap ((IntKind.i64.wrap (48271 * a0)) + (IntKind.i64.wrap (7919 * a1)))) + (IntKind.i64.wrap (104729 * a2)))) + (IntKind.i64.wrap (1299709 * a3)))) 2147483647))) 2147483647)
  )
def laws_FnExactMix_as (a0 : Int) (a1 : Int) (a2 : Int) (a3 : Int) : List Arg := [.val (.v false [.int .i64 a0]), .val (.v false [.int .i64 a1]), .val (.v false [.int .i64 a2]), .val (.v false [.int .i64 a3])]
def laws_FnExactMix_ro (r : Bool) : CallO := ⟨.v false [.bool r], [], []⟩
def laws_FnExactMix (N : Nat) (a0 : Int) (a1 : Int) (a2 : Int) (a3 : Int) : Option (Bool) :=
  Option.bind (spec_Mix N a0 a1 a2 a3) fun r1 =>
  Option.bind (impl_Mix N a0 a1 a2 a3) fun r2 =>
  bif ((r2 : Int) != r1) then (
    some false
  ) else (
    some true
  )
end Go.Ab
end
section
open Go.Proofs
namespace Go.Ab.T
set_option linter.unusedVariables false
set_option maxRecDepth 100000
def tt : TT := [(3, { zero := some [.int .i64 0], ik := some .i64 }),
  (4, { zero := some [.bool false], isBool := true }),
  (5, { zero := some [.int .u8 0], ik := some .u8 }),
  (9, { zero := some [.str []], isStr := true }),
  (25, { zero := some [.sl .own .fil []], elem := some (111, .fil) }),
  (27, { sz := 3, agg := true, zero := some [.int .i64 0, .int .i64 0, .sl .own .fil []], offs := [0, 1, 2], fsz := [1, 1, 1] }),
  (31, { zero := some [.sl .own .fil []], elem := some (80, .fil) }),
  (33, { sz := 3, agg := true, zero := some [.int .i64 0, .int .i64 0, .sl .own .fil []], offs := [0, 1, 2], fsz := [1, 1, 1] }),
  (37, { zero := some [.sl .own .exp []], elem := some (39, .exp) }),
  (39, { sz := 4, agg := true, zero := some [.int .i64 0, .int .i64 0, .str [], .sl .own .exp []], offs := [0, 1, 2, 3], fsz := [1, 1, 1, 1] }),
  (42, { zero := some [.sl .own .exp []], elem := some (44, .exp) }),
  (44, { sz := 4, agg := true, zero := some [.int .i64 0, .int .i64 0, .str [], .sl .own .exp []], offs := [0, 1, 2, 3], fsz := [1, 1, 1, 1] }),
  (48, { zero := some [.sl .own .cel []], elem := some (61, .cel) }),
  (50, { agg := true, zero := some [.sl .own .cel []], offs := [0], fsz := [1] }),
  (53, { zero := some [.sl .own .cel []], elem := some (64, .cel) }),
  (55, { agg := true, zero := some [.sl .own .cel []], offs := [0], fsz := [1] }),
  (61, { sz := 6, agg := true, zero := some [.int .i64 0, .int .i64 0, .int .i64 0, .str [], .str [], .int .i64 0], offs := [0, 1, 2, 3, 4, 5], fsz := [1, 1, 1, 1, 1, 1], same := true }),
  (64, { sz := 6, agg := true, zero := some [.int .i64 0, .int .i64 0, .int .i64 0, .str [], .str [], .int .i64 0], offs := [0, 1, 2, 3, 4, 5], fsz := [1, 1, 1, 1, 1, 1], same := true }),
  (73, { zero := some [.sl .own .byte []], elem := some (5, .byte) }),
  (80, { sz := 2, agg := true, zero := some [.str [], .int .i64 0], offs := [0, 1], fsz := [1, 1] }),
  (94, { zero := some [.sl .own .str []], elem := some (9, .str) }),
  (111, { sz := 2, agg := true, zero := some [.str [], .int .i64 0], offs := [0, 1], fsz := [1, 1] }),
  (118, { sz := 3, agg := true, zero := some [.sl .own .byte [], .int .i64 0, .int .i64 0], offs := [0, 1, 2], fsz := [1, 1, 1] }),
  (121, { zero := some [.sl .own .int []], elem := some (3, .int) })]
theorem ttok : TTok Try.prog tt := ttChk_ok (by kernel_rfl)
theorem mix : Try.prog.follows .mixedOrders = true := by kernel_rfl
noncomputable def I52 : Info := { body := (Try.f52.body).getD .skip, nt := 10, results := [.tmp 2], keep := [0, 4, 12], live := [], modes := [], ext := [], lnt := [], casts := [], fcast := [] }
theorem fk52 : FnOk Try.prog 52 Try.f52 I52 := ⟨Try.func52, by kernel_rfl, by kernel_rfl, by kernel_rfl, by kernel_rfl⟩
theorem p52_e_0 (a0 : Int) : run tt (AbsCalls Try.prog) I52 3000 false [.code I52.body] ⟨(entry 0 (spec_l14Rest_as a0)), [true], [], []⟩ = some (.done (spec_l14Rest_ro (IntKind.i64.wrap ((Int.tmod a0 2147483647) + 2147483647))) [2147483647 ≠ (0 : Int), (decide (((Int.tmod a0 2147483647) : Int) < 0)) = true]) := by kernel_rfl
theorem p52_e_1 (a0 : Int) : run tt (AbsCalls Try.prog) I52 3000 false [.code I52.body] ⟨(entry 0 (spec_l14Rest_as a0)), [false], [], []⟩ = some (.done (spec_l14Rest_ro (Int.tmod a0 2147483647)) [2147483647 ≠ (0 : Int), (decide (((Int.tmod a0 2147483647) : Int) < 0)) = false]) := by kernel_rfl
theorem c52_e {N : Nat} : ∀ a0 r, spec_l14Rest N a0 = some r → Reach Try.prog Try.f52 I52 [.code I52.body] (entry 0 (spec_l14Rest_as a0)) (spec_l14Rest_ro r) := by
  intro a0 r h
  unfold spec_l14Rest at h
  rcases cond_inv h with ⟨h1, h⟩ | ⟨h1, h⟩
  · obtain rfl := Option.some.inj h
    exact Reach.done ttok mix fk52 (p52_e_0 a0) (obs_cons (by decide) (obs_cons h1 obs_nil))
  · obtain rfl := Option.some.inj h
    exact Reach.done ttok mix fk52 (p52_e_1 a0) (obs_cons (by decide) (obs_cons h1 obs_nil))
theorem spec_l14Rest_ok {N : Nat} {a0 : Int} {r : Int} (h : spec_l14Rest N  a0 = some r) : AbsCalls Try.prog 52 (spec_l14Rest_as a0) (spec_l14Rest_ro r) :=
 AbsCalls.of_reach fk52 rfl rfl (Nat.le_of_ble_eq_true rfl) (c52_e a0 r h)
noncomputable def I17 : Info := { body := (Try.f17.body).getD .skip, nt := 23, results := [.tmp 8], keep := [0, 2, 4, 6, 16], live := [], modes := [], ext := [], lnt := [], casts := [], fcast := [] }
theorem fk17 : FnOk Try.prog 17 Try.f17 I17 := ⟨Try.func17, by kernel_rfl, by kernel_rfl, by kernel_rfl, by kernel_rfl⟩
theorem p17_e_0 (a0 : Int) (a1 : Int) (a2 : Int) (a3 : Int) (r1 : Int) (r2 : Int) : run tt (AbsCalls Try.prog) I17 3000 false [.code I17.body] ⟨(entry 0 (spec_Mix_as a0 a1 a2 a3)), [], [spec_l14Rest_ro r1, spec_l14Rest_ro r2], []⟩ = some (.done (spec_Mix_ro r2) [AbsCalls Try.prog 52 (spec_l14Rest_as (IntKind.i64.wrap ((IntKind.i64.wrap ((IntKind.i64.wrap ((IntKind.i64.wrap (48271 * a0)) + (IntKind.i64.wrap (7919 * a1)))) + (IntKind.i64.wrap (104729 * a2)))) + (IntKind.i64.wrap (1299709 * a3))))) (spec_l14Rest_ro r1), AbsCalls Try.prog 52 (spec_l14Rest_as (IntKind.i64.wrap (16807 * r1))) (spec_l14Rest_ro r2)]) := by kernel_rfl
theorem c17_e {N : Nat} : ∀ a0 a1 a2 a3 r, spec_Mix N a0 a1 a2 a3 = some r → Reach Try.prog Try.f17 I17 [.code I17.body] (entry 0 (spec_Mix_as a0 a1 a2 a3)) (spec_Mix_ro r) := by
  intro a0 a1 a2 a3 r h
  unfold spec_Mix at h
  obtain ⟨r1, h0, h⟩ := bind_inv h
  obtain ⟨r2, h1, h⟩ := bind_inv h
  obtain rfl := Option.some.inj h
  exact Reach.done ttok mix fk17 (p17_e_0 a0 a1 a2 a3 r1 r2) (obs_cons (spec_l14Rest_ok h0) (obs_cons (spec_l14Rest_ok h1) obs_nil))
theorem spec_Mix_ok {N : Nat} {a0 : Int} {a1 : Int} {a2 : Int} {a3 : Int} {r : Int} (h : spec_Mix N  a0 a1 a2 a3 = some r) : AbsCalls Try.prog 17 (spec_Mix_as a0 a1 a2 a3) (spec_Mix_ro r) :=
 AbsCalls.of_reach fk17 rfl rfl (Nat.le_of_ble_eq_true rfl) (c17_e a0 a1 a2 a3 r h)
noncomputable def I18 : Info := { body := (Try.f18.body).getD .skip, nt := 29, results := [.tmp 8], keep := [0, 2, 4, 6, 16, 18, 46], live := [], modes := [], ext := [], lnt := [], casts := [], fcast := [] }
theorem fk18 : FnOk Try.prog 18 Try.f18 I18 := ⟨Try.func18, by kernel_rfl, by kernel_rfl, by kernel_rfl, by kernel_rfl⟩
theorem p18_e_0 (a0 : Int) (a1 : Int) (a2 : Int) (a3 : Int) : run tt (AbsCalls Try.prog) I18 3000 false [.code I18.body] ⟨(entry 0 (impl_Mix_as a0 a1 a2 a3)), [true], [], []⟩ = some (.done (impl_Mix_ro (Int.tmod (IntKind.i64.wrap (16807 * (IntKind.i64.wrap ((Int.tmod (IntKind.i64.wrap ((IntKind.i64.wrap ((IntKind.i64.wrap ((IntKind.i64.wrap (48271 * a0)) + (IntKind.i64.wrap (7919 * a1)))) + (IntKind.i64.wrap (104729 * a2)))) + (IntKind.i64.wrap (1299709 * a3)))) 2147483647) + 2147483647)))) 2147483647)) [2147483647 ≠ (0 : Int), (decide (((Int.tmod (IntKind.i64.wrap ((IntKind.i64.wrap ((IntKind.i64.wrap ((IntKind.i64.wrap (48271 * a0)) + (IntKind.i64.wrap (7919 * a1)))) + (IntKind.i64.wrap (104729 * a2)))) + (IntKind.i64.wrap (1299709 * a3)))) 2147483647) : Int) < 0)) = true, 2147483647 ≠ (0 : Int)]) := by kernel_rfl
theorem p18_e_1 (a0 : Int) (a1 : Int) (a2 : Int) (a3 : Int) : run tt (AbsCalls Try.prog) I18 3000 false [.code I18.body] ⟨(entry 0 (impl_Mix_as a0 a1 a2 a3)), [false], [], []⟩ = some (.done (impl_Mix_ro (Int.tmod (IntKind.i64.wrap (16807 * (Int.tmod (IntKind.i64.wrap ((IntKind.i64.wrap ((IntKind.i64.wrap ((IntKind.i64.wrap (48271 * a0)) + (IntKind.i64.wrap (7919 * a1)))) + (IntKind.i64.wrap (104729 * a2)))) + (IntKind.i64.wrap (1299709 * a3)))) 2147483647))) 2147483647)) [2147483647 ≠ (0 : Int), (decide (((Int.tmod (IntKind.i64.wrap ((IntKind.i64.wrap ((IntKind.i64.wrap ((IntKind.i64.wrap (48271 * a0)) + (IntKind.i64.wrap (7919 * a1)))) + (IntKind.i64.wrap (104729 * a2)))) + (IntKind.i64.wrap (1299709 * a3)))) 2147483647) : Int) < 0)) = false, 2147483647 ≠ (0 : Int)]) := by kernel_rfl
theorem c18_e {N : Nat} : ∀ a0 a1 a2 a3 r, impl_Mix N a0 a1 a2 a3 = some r → Reach Try.prog Try.f18 I18 [.code I18.body] (entry 0 (impl_Mix_as a0 a1 a2 a3)) (impl_Mix_ro r) := by
  intro a0 a1 a2 a3 r h
  unfold impl_Mix at h
  rcases cond_inv h with ⟨h1, h⟩ | ⟨h1, h⟩
  · obtain rfl := Option.some.inj h
    exact Reach.done ttok mix fk18 (p18_e_0 a0 a1 a2 a3) (obs_cons (by decide) (obs_cons h1 (obs_cons (by decide) obs_nil)))
  · obtain rfl := Option.some.inj h
    exact Reach.done ttok mix fk18 (p18_e_1 a0 a1 a2 a3) (obs_cons (by decide) (obs_cons h1 (obs_cons (by decide) obs_nil)))
theorem impl_Mix_ok {N : Nat} {a0 : Int} {a1 : Int} {a2 : Int} {a3 : Int} {r : Int} (h : impl_Mix N  a0 a1 a2 a3 = some r) : AbsCalls Try.prog 18 (impl_Mix_as a0 a1 a2 a3) (impl_Mix_ro r) :=
 AbsCalls.of_reach fk18 rfl rfl (Nat.le_of_ble_eq_true rfl) (c18_e a0 a1 a2 a3 r h)
noncomputable def I4 : Info := { body := (Try.f4.body).getD .skip, nt := 24, results := [.tmp 8], keep := [0, 2, 4, 6, 16, 18, 20, 46], live := [], modes := [(3, [(0, .take, false), (1, .take, false)])], ext := [], lnt := [], casts := [], fcast := [] }
theorem fk4 : FnOk Try.prog 4 Try.f4 I4 := ⟨Try.func4, by kernel_rfl, by kernel_rfl, by kernel_rfl, by kernel_rfl⟩
theorem p4_e_0 (a0 : Int) (a1 : Int) (a2 : Int) (a3 : Int) (r1 : Int) (r2 : Int) : run tt (AbsCalls Try.prog) I4 3000 false [.code I4.body] ⟨(entry 0 (laws_FnExactMix_as a0 a1 a2 a3)), [true], [spec_Mix_ro r1, impl_Mix_ro r2], []⟩ = some (.done (laws_FnExactMix_ro false) [AbsCalls Try.prog 17 (spec_Mix_as a0 a1 a2 a3) (spec_Mix_ro r1), AbsCalls Try.prog 18 (impl_Mix_as a0 a1 a2 a3) (impl_Mix_ro r2), ((r2 : Int) != r1) = true]) := by kernel_rfl
theorem p4_e_1 (a0 : Int) (a1 : Int) (a2 : Int) (a3 : Int) (r1 : Int) (r2 : Int) : run tt (AbsCalls Try.prog) I4 3000 false [.code I4.body] ⟨(entry 0 (laws_FnExactMix_as a0 a1 a2 a3)), [false], [spec_Mix_ro r1, impl_Mix_ro r2], []⟩ = some (.done (laws_FnExactMix_ro true) [AbsCalls Try.prog 17 (spec_Mix_as a0 a1 a2 a3) (spec_Mix_ro r1), AbsCalls Try.prog 18 (impl_Mix_as a0 a1 a2 a3) (impl_Mix_ro r2), ((r2 : Int) != r1) = false]) := by kernel_rfl
theorem c4_e {N : Nat} : ∀ a0 a1 a2 a3 r, laws_FnExactMix N a0 a1 a2 a3 = some r → Reach Try.prog Try.f4 I4 [.code I4.body] (entry 0 (laws_FnExactMix_as a0 a1 a2 a3)) (laws_FnExactMix_ro r) := by
  intro a0 a1 a2 a3 r h
  unfold laws_FnExactMix at h
  obtain ⟨r1, h0, h⟩ := bind_inv h
  obtain ⟨r2, h1, h⟩ := bind_inv h
  rcases cond_inv h with ⟨h2, h⟩ | ⟨h2, h⟩
  · obtain rfl := Option.some.inj h
    exact Reach.done ttok mix fk4 (p4_e_0 a0 a1 a2 a3 r1 r2) (obs_cons (spec_Mix_ok h0) (obs_cons (impl_Mix_ok h1) (obs_cons h2 obs_nil)))
  · obtain rfl := Option.some.inj h
    exact Reach.done ttok mix fk4 (p4_e_1 a0 a1 a2 a3 r1 r2) (obs_cons (spec_Mix_ok h0) (obs_cons (impl_Mix_ok h1) (obs_cons h2 obs_nil)))
theorem laws_FnExactMix_ok {N : Nat} {a0 : Int} {a1 : Int} {a2 : Int} {a3 : Int} {r : Bool} (h : laws_FnExactMix N  a0 a1 a2 a3 = some r) : AbsCalls Try.prog 4 (laws_FnExactMix_as a0 a1 a2 a3) (laws_FnExactMix_ro r) :=
 AbsCalls.of_reach fk4 rfl rfl (Nat.le_of_ble_eq_true rfl) (c4_e a0 a1 a2 a3 r h)
end Go.Ab.T
end
section
namespace Go.Ab
set_option linter.unusedVariables false
theorem wrap_i64_def (x : Int) : IntKind.i64.wrap x = if x % 18446744073709551616 ≥ 9223372036854775808 then x % 18446744073709551616 - 18446744073709551616 else x % 18446744073709551616 := by
  show (if (true && decide (x % 18446744073709551616 ≥ 9223372036854775808)) = true then x % 18446744073709551616 - 18446744073709551616 else x % 18446744073709551616) = _
  simp only [Bool.true_and, decide_eq_true_eq]
theorem wrap_i64 {x : Int} (h1 : -9223372036854775808 ≤ x) (h2 : x ≤ 9223372036854775807) : IntKind.i64.wrap x = x := by
  rw [wrap_i64_def]
  split <;> omega
end Go.Ab
end
section
namespace Go.Ab
theorem tmod_lt (x : Int) : -2147483647 < x.tmod 2147483647 ∧ x.tmod 2147483647 < 2147483647 := by
  have := Int.tmod_lt_of_pos x (show (0 : Int) < 2147483647 by decide)
  have := Int.lt_tmod_of_pos x (show (0 : Int) < 2147483647 by decide)
  omega
def restI (x : Int) : Int := if x.tmod 2147483647 < 0 then x.tmod 2147483647 + 2147483647 else x.tmod 2147483647
theorem restI_range (x : Int) : 0 ≤ restI x ∧ restI x < 2147483647 := by
  have := tmod_lt x
  unfold restI
  split <;> omega
theorem spec_l14Rest_eq (N : Nat) (x : Int) : spec_l14Rest N x = some (restI x) := by
  have := tmod_lt x
  unfold spec_l14Rest restI
  by_cases h : x.tmod 2147483647 < 0
  · simp [h]
    rw [wrap_i64 (by omega) (by omega)]
  · simp [h]
def mixI (a b c d : Int) : Int := restI (16807 * restI (IntKind.i64.wrap ((IntKind.i64.wrap ((IntKind.i64.wrap ((IntKind.i64.wrap (48271 * a)) + (IntKind.i64.wrap (7919 * b)))) + (IntKind.i64.wrap (104729 * c)))) + (IntKind.i64.wrap (1299709 * d)))))
theorem spec_Mix_eq (N : Nat) (a b c d : Int) : spec_Mix N a b c d = some (mixI a b c d) := by
  have := restI_range (IntKind.i64.wrap ((IntKind.i64.wrap ((IntKind.i64.wrap ((IntKind.i64.wrap (48271 * a)) + (IntKind.i64.wrap (7919 * b)))) + (IntKind.i64.wrap (104729 * c)))) + (IntKind.i64.wrap (1299709 * d))))
  simp only [spec_Mix, spec_l14Rest_eq, Option.bind_some, mixI]
  rw [wrap_i64 (by omega) (by omega)]
theorem impl_Mix_eq (N : Nat) (a b c d : Int) : impl_Mix N a b c d = some (mixI a b c d) := by
  unfold impl_Mix mixI
  generalize (IntKind.i64.wrap ((IntKind.i64.wrap ((IntKind.i64.wrap ((IntKind.i64.wrap (48271 * a)) + (IntKind.i64.wrap (7919 * b)))) + (IntKind.i64.wrap (104729 * c)))) + (IntKind.i64.wrap (1299709 * d)))) = x
  have := tmod_lt x
  have hr := restI_range x
  have key : ∀ y, 0 ≤ y → restI (16807 * y) = Int.tmod (16807 * y) 2147483647 := by
    intro y hy
    unfold restI
    rw [if_neg]
    have := Int.tmod_nonneg 2147483647 (show (0 : Int) ≤ 16807 * y by omega)
    omega
  rw [key _ hr.1]
  unfold restI at hr ⊢
  by_cases h : x.tmod 2147483647 < 0
  · simp only [h, if_true] at hr ⊢
    simp
    rw [wrap_i64 (x := Int.tmod x 2147483647 + _) (by omega) (by omega), wrap_i64 (by omega) (by omega)]
  · simp only [h, if_false] at hr ⊢
    simp
    rw [wrap_i64 (by omega) (by omega)]
theorem laws_FnExactMix_true (a b c d : Int) (_ : ∀ z ∈ [CV.int .i64 a], DFit z.toD) (_ : ∀ z ∈ [CV.int .i64 b], DFit z.toD) (_ : ∀ z ∈ [CV.int .i64 c], DFit z.toD) (_ : ∀ z ∈ [CV.int .i64 d], DFit z.toD) : ∃ N, laws_FnExactMix N a b c d = some true := ⟨0, by simp [laws_FnExactMix, spec_Mix_eq, impl_Mix_eq]⟩
end Go.Ab
end
section
namespace Go.Proofs.Ytimjapjfceenkaa
open Go.Ab Go.ChangeShapes Go.WideShapes Go.ChangeAt Go.RowKit
set_option linter.unusedVariables false
theorem own : ownKnob Try.prog.godebug = none := by kernel_rfl
theorem laidOut : laidOutB Try.prog = true := by kernel_rfl
theorem ktok_fnExactMix : ktChk Try.prog [] = true := by kernel_rfl
set_option maxRecDepth 100000 in
theorem fnExactMix_lifted (os : Os) (started : os.Started) (H : Type) (enc : TypeId × Value → H) :
    ReturnsInHanded {} Try.checked os 4 .any (Rows.fnExactMixSpec.pre6 enc Try.prog Try.f4 Rows.fnExactMixRow.domain false) (Rows.fnExactMixSpec.post enc Try.prog Try.f4 false true false false) := by
  refine returnsInHanded_of_change (C := Try.checked) own started (by kernel_rfl) Try.func4
    (ChangeSpec.witness6 (enc := enc) (C := Try.checked) false ⟨#[], #[.int .i64 0, .int .i64 0, .int .i64 0, .int .i64 0], []⟩ 8 (by kernel_rfl) (by kernel_rfl) (by kernel_rfl) (by kernel_rfl)) ?_
  intro W base args ds gs before hval0 hW hcnd _
  have hval : ∀ (j : Nat) t v, Try.f4.params[j]? = some t → args[j]? = some v → Value.okWide Try.prog W .any base t v := hval0
  have hW' := hW
  obtain ⟨p, q, hA0, hV, rfl, hfz, hnd⟩ := hW
  have hA : DataW.TrodAll enc Try.prog W 0 (fun _ => true) true Try.f4.params.toList args.toList ds p := hA0
  rw [Try.params4] at hA hval
  obtain ⟨v0, vs0, d0, ds0, p0, q0, hargs, rfl, rfl, h0, r0⟩ := trodAll_cons hA
  obtain ⟨v1, vs1, d1, ds1, p1, q1, rfl, rfl, rfl, h1, r1⟩ := trodAll_cons r0
  obtain ⟨v2, vs2, d2, ds2, p2, q2, rfl, rfl, rfl, h2, r2⟩ := trodAll_cons r1
  obtain ⟨v3, vs3, d3, ds3, p3, q3, rfl, rfl, rfl, h3, r3⟩ := trodAll_cons r2
  obtain ⟨rfl, rfl, rfl⟩ := trodAll_nil r3
  obtain rfl : args = #[v0, v1, v2, v3] := by cases args; simp_all
  obtain ⟨rfl, rfl⟩ := trodVars_none hV
  have lt0 : ∀ x ∈ p0, x.block < W.heap.size := by obtain ⟨m, hm⟩ := h0; exact DataW.trod_lt m _ _ _ hm
  have lt1 : ∀ x ∈ p1, x.block < W.heap.size := by obtain ⟨m, hm⟩ := h1; exact DataW.trod_lt m _ _ _ hm
  have lt2 : ∀ x ∈ p2, x.block < W.heap.size := by obtain ⟨m, hm⟩ := h2; exact DataW.trod_lt m _ _ _ hm
  have lt3 : ∀ x ∈ p3, x.block < W.heap.size := by obtain ⟨m, hm⟩ := h3; exact DataW.trod_lt m _ _ _ hm
  obtain ⟨z0, e0, f0, vr0⟩ := vr_of ktok_fnExactMix (g := false) (t := 3) (ns := [.inl (.int .i64)]) (by kernel_rfl) (hval 0 3 v0 rfl rfl) h0
  obtain ⟨x0_0, _, rfl, e0_0⟩ := AreOf.int_inv e0
  obtain rfl := e0_0.nil_inv
  obtain ⟨z1, e1, f1, vr1⟩ := vr_of ktok_fnExactMix (g := false) (t := 3) (ns := [.inl (.int .i64)]) (by kernel_rfl) (hval 1 3 v1 rfl rfl) h1
  obtain ⟨x1_0, _, rfl, e1_0⟩ := AreOf.int_inv e1
  obtain rfl := e1_0.nil_inv
  obtain ⟨z2, e2, f2, vr2⟩ := vr_of ktok_fnExactMix (g := false) (t := 3) (ns := [.inl (.int .i64)]) (by kernel_rfl) (hval 2 3 v2 rfl rfl) h2
  obtain ⟨x2_0, _, rfl, e2_0⟩ := AreOf.int_inv e2
  obtain rfl := e2_0.nil_inv
  obtain ⟨z3, e3, f3, vr3⟩ := vr_of ktok_fnExactMix (g := false) (t := 3) (ns := [.inl (.int .i64)]) (by kernel_rfl) (hval 3 3 v3 rfl rfl) h3
  obtain ⟨x3_0, _, rfl, e3_0⟩ := AreOf.int_inv e3
  obtain rfl := e3_0.nil_inv
  obtain ⟨N, hF⟩ := laws_FnExactMix_true x0_0 x1_0 x2_0 x3_0 f0 f1 f2 f3
  clear hA0 hval0
  refine (calls_of T.fk4 (T.laws_FnExactMix_ok hF) (W := W) (args := #[v0, v1, v2, v3]) ⟨vr0 _, vr1 _, vr2 _, vr3 _, trivial⟩).mono fun e W' ⟨he, bel⟩ => ?_
  subst he
  exact ⟨_, rfl, _, _, _, [], _, [], hW', trodAll_mk1 (shut_bool Try.underlying4 _), (trodAll_cons_mk (Below.trod laidOut (by kernel_rfl) (of_decide_eq_true (by kernel_rfl)) h0 bel lt0) (trodAll_cons_mk (Below.trod laidOut (by kernel_rfl) (of_decide_eq_true (by kernel_rfl)) h1 bel lt1) (trodAll_cons_mk (Below.trod laidOut (by kernel_rfl) (of_decide_eq_true (by kernel_rfl)) h2 bel lt2) (trodAll_cons_mk (Below.trod laidOut (by kernel_rfl) (of_decide_eq_true (by kernel_rfl)) h3 bel lt3) trodAll_mk0)))), rfl, bel.frame _, fun h => by cases h⟩
theorem fnExactMix_proved : Rows.FnExactMixSaid :=
  OpenClaim.holds_of_wide 4 Try.f4 rfl rfl rfl rfl rfl rfl rfl ⟨rfl, rfl, rfl, rfl, rfl⟩ rfl rfl rfl rfl rfl (by kernel_rfl) Try.func4 (by kernel_rfl)
    (of_decide_eq_true (by kernel_rfl)) (by unfold Func.isWrapper; first | (rw [if_pos (by decide +kernel)]; kernel_rfl) | (rw [if_neg (by decide +kernel)]; exact ⟨rfl, rfl⟩))
    (fun os started H enc _ => fnExactMix_lifted os started H enc)
end Go.Proofs.Ytimjapjfceenkaa
end
