/- The statement FnExactEffectResult holds: plain functions, certificates, laws. Conditions: none. -/
import Derived.Test.YtkbojckenecnbaaL2
import Derived.Test.YtkbojckenecnbaaFnExactEffectResultP0
set_option linter.all false
section
open Go.Proofs
namespace Go.Ab.T
set_option linter.unusedVariables false
set_option maxRecDepth 100000
noncomputable def I42 : Info := { body := (Try.f42.body).getD .skip, nt := 12, results := [.tmp 4], keep := [0, 2, 4, 8, 20, 5], live := [], modes := [], ext := [], lnt := [], casts := [], fcast := [] }
theorem fk42 : FnOk Try.prog 42 Try.f42 I42 := ⟨Try.func42, by kernel_rfl, by kernel_rfl, by kernel_rfl, by kernel_rfl⟩
theorem p42_e_0 (a0 : Wld) (a1 r1 : Int) : run tt (AbsCalls Try.prog) I42 3000 false [.code I42.body] ⟨(zBg 0 (xAK a0 a1)), [true], [xBA r1], []⟩ = some (.done (xAp (-1)) [AbC 94 (xCV (Wld.files a0) a1) (xBA r1), (decide ((r1 : Int) < 0)) = true]) := by kernel_rfl
theorem p42_e_1 (a0 : Wld) (a1 r1 : Int) : run tt (AbsCalls Try.prog) I42 3000 false [.code I42.body] ⟨(zBg 0 (xAK a0 a1)), [false], [xBA r1], []⟩ = some (.done (xAp r1) [AbC 94 (xCV (Wld.files a0) a1) (xBA r1), (decide ((r1 : Int) < 0)) = false]) := by kernel_rfl
theorem c42_e {N : Nat} : ∀ a0 a1 r, xEj N a0 a1 = some r → Reach Try.prog Try.f42 I42 [.code I42.body] (zBg 0 (xAK a0 a1)) (xAp r) := by
 intro a0 a1 r h
 unfold xEj at h
 obtain ⟨r1, h0, h⟩ := bind_inv h
 rcases cond_inv h with ⟨h1, h⟩ | ⟨h1, h⟩
 ·obtain rfl := Option.some.inj h
  exact Reach.done ttok mix fk42 (p42_e_0 a0 a1 r1) (obs_cons (xET h0) (obs_cons h1 obs_nil))
 ·obtain rfl := Option.some.inj h
  exact Reach.done ttok mix fk42 (p42_e_1 a0 a1 r1) (obs_cons (xET h0) (obs_cons h1 obs_nil))
theorem xA6 {N : Nat} {a0 : Wld} {a1 : Int} {r : Int} (h : xEj N  a0 a1 = some r) : AbC 42 (xAK a0 a1) (xAp r) :=
 AbsCalls.of_reach fk42 rfl rfl (Nat.le_of_ble_eq_true rfl) (c42_e a0 a1 r h)
noncomputable def I137 : Info := { body := (Try.f137.body).getD .skip, nt := 11, results := [.cell 2 154], keep := [0, 2, 4, 6, 3, 5, 7], live := [], modes := [], ext := [], lnt := [], casts := [], fcast := [] }
theorem fk137 : FnOk Try.prog 137 Try.f137 I137 := ⟨Try.func137, by kernel_rfl, by kernel_rfl, by kernel_rfl, by kernel_rfl⟩
theorem p137_e_0 (a0 : Fil) : run tt (AbsCalls Try.prog) I137 3000 false [.code I137.body] ⟨(zBg 0 (xEf a0)), [], [], []⟩ = some (.done (xDH a0) []) := by kernel_rfl
theorem c137_e {N : Nat} : ∀ a0 r, xEy N a0 = some r → Reach Try.prog Try.f137 I137 [.code I137.body] (zBg 0 (xEf a0)) (xDH r) := by
 intro a0 r h
 unfold xEy at h
 obtain rfl := Option.some.inj h
 exact Reach.done ttok mix fk137 (p137_e_0 a0) obs_nil
theorem laws_toFile_ok {N : Nat} {a0 : Fil} {r : Fil} (h : xEy N  a0 = some r) : AbC 137 (xEf a0) (xDH r) :=
 AbsCalls.of_reach fk137 rfl rfl (Nat.le_of_ble_eq_true rfl) (c137_e a0 r h)
noncomputable def I100 : Info := { body := (Try.f100.body).getD .skip, nt := 23, results := [.tmp 2], keep := [0, 4, 6, 8, 22], live := [(3, [0, 6, 8])], modes := [(5, [(0, .ref, false)]), (6, [(0, .take, false)])], ext := [], lnt := [], casts := [], fcast := [] }
theorem fk100 : FnOk Try.prog 100 Try.f100 I100 := ⟨Try.func100, by kernel_rfl, by kernel_rfl, by kernel_rfl, by kernel_rfl⟩
def S100_3 (x0 x3 : List Fil) (x4 : Int) : St := [(0, .v false [.sl .ro .fil x0]), (6, .v false [.sl .own .fil x3]), (8, .v false [.int .i64 x4])]
theorem p100_3_0 (x0 x3 : List Fil) (x4 : Int) (r1 : Fil) : run tt (AbsCalls Try.prog) I100 3000 true (stkAt 3 I100.body) ⟨(S100_3 x0 x3 x4), [true], [xDH r1], []⟩ = some (.stop (stkAt 3 I100.body) (S100_3 x0 (List.set x3 (Int.toNat x4) r1) (IntKind.i64.wrap (x4 + 1))) [(decide ((x4 : Int) < (List.length x0 : Int))) = true, (0 : Int) ≤ x4 ∧ x4 < (List.length x0), AbC 137 (xEf (List.getD x0 (Int.toNat x4) Ty.fil.dflt)) (xDH r1), (0 : Int) ≤ x4 ∧ x4 < (List.length x3)]) := by kernel_rfl
theorem p100_3_1 (x0 x3 : List Fil) (x4 : Int) : run tt (AbsCalls Try.prog) I100 3000 true (stkAt 3 I100.body) ⟨(S100_3 x0 x3 x4), [false], [], []⟩ = some (.done (xCX x3) [(decide ((x4 : Int) < (List.length x0 : Int))) = false]) := by kernel_rfl
theorem p100_e_2 (a0 : List Fil) : run tt (AbsCalls Try.prog) I100 3000 false [.code I100.body] ⟨(zBg 0 (xDZ a0)), [], [], []⟩ = some (.stop (stkAt 3 I100.body) (S100_3 a0 (List.replicate (Int.toNat (List.length a0 : Int)) Ty.fil.dflt) 0) [(0 : Int) ≤ (List.length a0 : Int) ∧ (List.length a0 : Int) = (List.length a0 : Int) ∧ (List.length a0 : Int) ≤ Lim]) := by kernel_rfl
theorem c100_3 {N : Nat} : ∀ n x0 x3 x4 r, xDu N n x0 x3 x4 = some r → Reach Try.prog Try.f100 I100 (stkAt 3 I100.body) (S100_3 x0 x3 x4) (xCX r) := by
 intro n
 induction n with
 | zero => intro x0 x3 x4 r h; have h' : (none : Option ((List Fil))) = some r := h; cases h'
 | succ n ih =>
  intro x0 x3 x4 r h
  rw [xDu] at h
  rcases cond_inv h with ⟨h0, h⟩ | ⟨h0, h⟩
  ·obtain ⟨h1, h⟩ := ite_inv h
   obtain ⟨r1, h2, h⟩ := bind_inv h
   obtain ⟨h3, h⟩ := ite_inv h
   exact Reach.stop ttok mix fk100 (p100_3_0 x0 x3 x4 r1) (obs_cons h0 (obs_cons h1 (obs_cons (laws_toFile_ok h2) (obs_cons h3 obs_nil)))) (ih _ _ _ _ h)
  ·obtain rfl := Option.some.inj h
   exact Reach.done ttok mix fk100 (p100_3_1 x0 x3 x4) (obs_cons h0 obs_nil)
theorem c100_e {N : Nat} : ∀ a0 r, xDV N a0 = some r → Reach Try.prog Try.f100 I100 [.code I100.body] (zBg 0 (xDZ a0)) (xCX r) := by
 intro a0 r h
 unfold xDV at h
 obtain ⟨h0, h⟩ := ite_inv h
 exact Reach.stop ttok mix fk100 (p100_e_2 a0) (obs_cons h0 obs_nil) (c100_3   _ _ _ _ _ h)
theorem laws_toFileS_ok {N : Nat} {a0 : List Fil} {r : (List Fil)} (h : xDV N  a0 = some r) : AbC 100 (xDZ a0) (xCX r) :=
 AbsCalls.of_reach fk100 rfl rfl (Nat.le_of_ble_eq_true rfl) (c100_e a0 r h)
noncomputable def I44 : Info := { body := (Try.f44.body).getD .skip, nt := 15, results := [.cell 2 71], keep := [0, 2, 4, 6, 3, 5, 7], live := [], modes := [(5, [(0, .take, false)])], ext := [], lnt := [], casts := [], fcast := [] }
theorem fk44 : FnOk Try.prog 44 Try.f44 I44 := ⟨Try.func44, by kernel_rfl, by kernel_rfl, by kernel_rfl, by kernel_rfl⟩
theorem p44_e_0 (a0 : Wld) (r1 : (List Fil)) : run tt (AbsCalls Try.prog) I44 3000 false [.code I44.body] ⟨(zBg 0 (xAh a0)), [], [xCX r1], []⟩ = some (.done (xAa (Wld.mk (Wld.clock a0) (Wld.seed a0) r1)) [AbC 100 (xDZ (Wld.files a0)) (xCX r1)]) := by kernel_rfl
theorem c44_e {N : Nat} : ∀ a0 r, xCs N a0 = some r → Reach Try.prog Try.f44 I44 [.code I44.body] (zBg 0 (xAh a0)) (xAa r) := by
 intro a0 r h
 unfold xCs at h
 obtain ⟨r1, h0, h⟩ := bind_inv h
 obtain rfl := Option.some.inj h
 exact Reach.done ttok mix fk44 (p44_e_0 a0 r1) (obs_cons (laws_toFileS_ok h0) obs_nil)
theorem xAj {N : Nat} {a0 : Wld} {r : Wld} (h : xCs N  a0 = some r) : AbC 44 (xAh a0) (xAa r) :=
 AbsCalls.of_reach fk44 rfl rfl (Nat.le_of_ble_eq_true rfl) (c44_e a0 r h)
noncomputable def I97 : Info := { body := (Try.f97.body).getD .skip, nt := 15, results := [.tmp 6], keep := [0, 2, 4, 12], live := [], modes := [(1, [(3, .take, false)])], ext := [], lnt := [], casts := [], fcast := [] }
theorem fk97 : FnOk Try.prog 97 Try.f97 I97 := ⟨Try.func97, by kernel_rfl, by kernel_rfl, by kernel_rfl, by kernel_rfl⟩
theorem p97_e_0 (a0 a1 a2 : Int) : run tt (AbsCalls Try.prog) I97 3000 false [.code I97.body] ⟨(zBg 0 (xDw a0 a1 a2)), [true], [], []⟩ = some (.done (xCt (decide ((a0 : Int) ≤ a2))) [(decide ((a0 : Int) ≥ a1)) = true]) := by kernel_rfl
theorem p97_e_1 (a0 a1 a2 : Int) : run tt (AbsCalls Try.prog) I97 3000 false [.code I97.body] ⟨(zBg 0 (xDw a0 a1 a2)), [false], [], []⟩ = some (.done (xCt false) [(decide ((a0 : Int) ≥ a1)) = false]) := by kernel_rfl
theorem c97_e {N : Nat} : ∀ a0 a1 a2 r, xEA N a0 a1 a2 = some r → Reach Try.prog Try.f97 I97 [.code I97.body] (zBg 0 (xDw a0 a1 a2)) (xCt r) := by
 intro a0 a1 a2 r h
 unfold xEA at h
 rcases cond_inv h with ⟨h0, h⟩ | ⟨h0, h⟩
 ·obtain rfl := Option.some.inj h
  exact Reach.done ttok mix fk97 (p97_e_0 a0 a1 a2) (obs_cons h0 obs_nil)
 ·obtain rfl := Option.some.inj h
  exact Reach.done ttok mix fk97 (p97_e_1 a0 a1 a2) (obs_cons h0 obs_nil)
theorem xE0 {N : Nat} {a0 : Int} {a1 : Int} {a2 : Int} {r : Bool} (h : xEA N  a0 a1 a2 = some r) : AbC 97 (xDw a0 a1 a2) (xCt r) :=
 AbsCalls.of_reach fk97 rfl rfl (Nat.le_of_ble_eq_true rfl) (c97_e a0 a1 a2 r h)
noncomputable def I95 : Info := { body := (Try.f95.body).getD .skip, nt := 5, results := [.tmp 2], keep := [0, 4], live := [], modes := [], ext := [], lnt := [], casts := [], fcast := [] }
theorem fk95 : FnOk Try.prog 95 Try.f95 I95 := ⟨Try.func95, by kernel_rfl, by kernel_rfl, by kernel_rfl, by kernel_rfl⟩
theorem p95_e_0 (a0 : Int) (r1 : Bool) : run tt (AbsCalls Try.prog) I95 3000 false [.code I95.body] ⟨(zBg 0 (xCk a0)), [], [xCt r1], []⟩ = some (.done (xBg r1) [AbC 97 (xDw a0 (-1000000000) 1000000000) (xCt r1)]) := by kernel_rfl
theorem c95_e {N : Nat} : ∀ a0 r, xC5 N a0 = some r → Reach Try.prog Try.f95 I95 [.code I95.body] (zBg 0 (xCk a0)) (xBg r) := by
 intro a0 r h
 unfold xC5 at h
 obtain ⟨r1, h0, h⟩ := bind_inv h
 obtain rfl := Option.some.inj h
 exact Reach.done ttok mix fk95 (p95_e_0 a0 r1) (obs_cons (xE0 h0) obs_nil)
theorem xDN {N : Nat} {a0 : Int} {r : Bool} (h : xC5 N  a0 = some r) : AbC 95 (xCk a0) (xBg r) :=
 AbsCalls.of_reach fk95 rfl rfl (Nat.le_of_ble_eq_true rfl) (c95_e a0 r h)
noncomputable def I96 : Info := { body := (Try.f96.body).getD .skip, nt := 5, results := [.cell 2 28], keep := [0, 4, 5], live := [], modes := [], ext := [], lnt := [], casts := [], fcast := [] }
theorem fk96 : FnOk Try.prog 96 Try.f96 I96 := ⟨Try.func96, by kernel_rfl, by kernel_rfl, by kernel_rfl, by kernel_rfl⟩
theorem p96_e_0 (a0 : Int) : run tt (AbsCalls Try.prog) I96 3000 false [.code I96.body] ⟨(zBg 0 (xB3 a0)), [], [], []⟩ = some (.done (xBa (Val.mk 1 a0 0 [] [] [] [])) []) := by kernel_rfl
theorem c96_e {N : Nat} : ∀ a0 r, xBE N a0 = some r → Reach Try.prog Try.f96 I96 [.code I96.body] (zBg 0 (xB3 a0)) (xBa r) := by
 intro a0 r h
 unfold xBE at h
 obtain rfl := Option.some.inj h
 exact Reach.done ttok mix fk96 (p96_e_0 a0) obs_nil
theorem xDS {N : Nat} {a0 : Int} {r : Val} (h : xBE N  a0 = some r) : AbC 96 (xB3 a0) (xBa r) :=
 AbsCalls.of_reach fk96 rfl rfl (Nat.le_of_ble_eq_true rfl) (c96_e a0 r h)
noncomputable def I136 : Info := { body := (Try.f136.body).getD .skip, nt := 10, results := [.tmp 2], keep := [0, 4, 12], live := [], modes := [], ext := [], lnt := [], casts := [], fcast := [] }
theorem fk136 : FnOk Try.prog 136 Try.f136 I136 := ⟨Try.func136, by kernel_rfl, by kernel_rfl, by kernel_rfl, by kernel_rfl⟩
theorem p136_e_0 (a0 : Int) : run tt (AbsCalls Try.prog) I136 3000 false [.code I136.body] ⟨(zBg 0 (xC0 a0)), [true], [], []⟩ = some (.done (xB7 (IntKind.i64.wrap ((Int.tmod a0 2147483647) + 2147483647))) [2147483647 ≠ (0 : Int), (decide (((Int.tmod a0 2147483647) : Int) < 0)) = true]) := by kernel_rfl
theorem p136_e_1 (a0 : Int) : run tt (AbsCalls Try.prog) I136 3000 false [.code I136.body] ⟨(zBg 0 (xC0 a0)), [false], [], []⟩ = some (.done (xB7 (Int.tmod a0 2147483647)) [2147483647 ≠ (0 : Int), (decide (((Int.tmod a0 2147483647) : Int) < 0)) = false]) := by kernel_rfl
theorem c136_e {N : Nat} : ∀ a0 r, xDv N a0 = some r → Reach Try.prog Try.f136 I136 [.code I136.body] (zBg 0 (xC0 a0)) (xB7 r) := by
 intro a0 r h
 unfold xDv at h
 rcases cond_inv h with ⟨h1, h⟩ | ⟨h1, h⟩
 ·obtain rfl := Option.some.inj h
  exact Reach.done ttok mix fk136 (p136_e_0 a0) (obs_cons (by decide) (obs_cons h1 obs_nil))
 ·obtain rfl := Option.some.inj h
  exact Reach.done ttok mix fk136 (p136_e_1 a0) (obs_cons (by decide) (obs_cons h1 obs_nil))
theorem xEZ {N : Nat} {a0 : Int} {r : Int} (h : xDv N  a0 = some r) : AbC 136 (xC0 a0) (xB7 r) :=
 AbsCalls.of_reach fk136 rfl rfl (Nat.le_of_ble_eq_true rfl) (c136_e a0 r h)
noncomputable def I98 : Info := { body := (Try.f98.body).getD .skip, nt := 23, results := [.tmp 8], keep := [0, 2, 4, 6, 16], live := [], modes := [], ext := [], lnt := [], casts := [], fcast := [] }
theorem fk98 : FnOk Try.prog 98 Try.f98 I98 := ⟨Try.func98, by kernel_rfl, by kernel_rfl, by kernel_rfl, by kernel_rfl⟩
theorem p98_e_0 (a0 a1 a2 a3 r1 r2 : Int) : run tt (AbsCalls Try.prog) I98 3000 false [.code I98.body] ⟨(zBg 0 (xEI a0 a1 a2 a3)), [], [xB7 r1, xB7 r2], []⟩ = some (.done (xEz r2) [AbC 136 (xC0 (IntKind.i64.wrap ((IntKind.i64.wrap ((IntKind.i64.wrap ((IntKind.i64.wrap (48271 * a0)) + (IntKind.i64.wrap (7919 * a1)))) + (IntKind.i64.wrap (104729 * a2)))) + (IntKind.i64.wrap (1299709 * a3))))) (xB7 r1), AbC 136 (xC0 (IntKind.i64.wrap (16807 * r1))) (xB7 r2)]) := by kernel_rfl
theorem c98_e {N : Nat} : ∀ a0 a1 a2 a3 r, xE3 N a0 a1 a2 a3 = some r → Reach Try.prog Try.f98 I98 [.code I98.body] (zBg 0 (xEI a0 a1 a2 a3)) (xEz r) := by
 intro a0 a1 a2 a3 r h
 unfold xE3 at h
 obtain ⟨r1, h0, h⟩ := bind_inv h
 obtain ⟨r2, h1, h⟩ := bind_inv h
 obtain rfl := Option.some.inj h
 exact Reach.done ttok mix fk98 (p98_e_0 a0 a1 a2 a3 r1 r2) (obs_cons (xEZ h0) (obs_cons (xEZ h1) obs_nil))
theorem spec_Mix_ok {N : Nat} {a0 : Int} {a1 : Int} {a2 : Int} {a3 : Int} {r : Int} (h : xE3 N  a0 a1 a2 a3 = some r) : AbC 98 (xEI a0 a1 a2 a3) (xEz r) :=
 AbsCalls.of_reach fk98 rfl rfl (Nat.le_of_ble_eq_true rfl) (c98_e a0 a1 a2 a3 r h)
noncomputable def I99 : Info := { body := (Try.f99.body).getD .skip, nt := 28, results := [.tmp 4, .tmp 5], keep := [0, 2, 4, 8, 10, 12, 22, 42, 5], live := [(2, [2, 4, 12, 5])], modes := [], ext := [], lnt := [], casts := [], fcast := [] }
theorem fk99 : FnOk Try.prog 99 Try.f99 I99 := ⟨Try.func99, by kernel_rfl, by kernel_rfl, by kernel_rfl, by kernel_rfl⟩
def S99_2 (x1 : Str) (x6 : Int) (b2 : Wld) : St := [(2, .v false [.str x1]), (4, .v false [.ptr 2 0]), (12, .v false [.int .i64 x6]), (5, .v true [.int .i64 (Wld.clock b2), .int .i64 (Wld.seed b2), .sl .ro .fil (Wld.files b2)])]
theorem p99_2_0 (x1 : Str) (x6 : Int) (b2 : Wld) : run tt (AbsCalls Try.prog) I99 3000 true (stkAt 2 I99.body) ⟨(S99_2 x1 x6 b2), [true, true], [], []⟩ = some (.done (xAX ((Fil.n (List.getD (Wld.files b2) (Int.toNat x6) Ty.fil.dflt)), true)) [(decide ((x6 : Int) < (List.length (Wld.files b2) : Int))) = true, (0 : Int) ≤ x6 ∧ x6 < (List.length (Wld.files b2)), (((Fil.name (List.getD (Wld.files b2) (Int.toNat x6) Ty.fil.dflt)) : Str) == x1) = true, (0 : Int) ≤ x6 ∧ x6 < (List.length (Wld.files b2))]) := by kernel_rfl
theorem p99_2_1 (x1 : Str) (x6 : Int) (b2 : Wld) : run tt (AbsCalls Try.prog) I99 3000 true (stkAt 2 I99.body) ⟨(S99_2 x1 x6 b2), [true, false], [], []⟩ = some (.stop (stkAt 2 I99.body) (S99_2 x1 (IntKind.i64.wrap (x6 + 1)) b2) [(decide ((x6 : Int) < (List.length (Wld.files b2) : Int))) = true, (0 : Int) ≤ x6 ∧ x6 < (List.length (Wld.files b2)), (((Fil.name (List.getD (Wld.files b2) (Int.toNat x6) Ty.fil.dflt)) : Str) == x1) = false]) := by kernel_rfl
theorem p99_2_2 (x1 : Str) (x6 : Int) (b2 : Wld) : run tt (AbsCalls Try.prog) I99 3000 true (stkAt 2 I99.body) ⟨(S99_2 x1 x6 b2), [false], [], []⟩ = some (.done (xAX (0, false)) [(decide ((x6 : Int) < (List.length (Wld.files b2) : Int))) = false]) := by kernel_rfl
theorem p99_e_3 (a0 : Wld) (a1 : Str) : run tt (AbsCalls Try.prog) I99 3000 false [.code I99.body] ⟨(zBg 0 (xB2 a0 a1)), [], [], []⟩ = some (.stop (stkAt 2 I99.body) (S99_2 a1 0 a0) []) := by kernel_rfl
theorem c99_2 {N : Nat} : ∀ n x1 x6 b2 r, xBn N n x1 x6 b2 = some r → Reach Try.prog Try.f99 I99 (stkAt 2 I99.body) (S99_2 x1 x6 b2) (xAX r) := by
 intro n
 induction n with
 | zero => intro x1 x6 b2 r h; have h' : (none : Option (Int × Bool)) = some r := h; cases h'
 | succ n ih =>
  intro x1 x6 b2 r h
  rw [xBn] at h
  rcases cond_inv h with ⟨h0, h⟩ | ⟨h0, h⟩
  ·obtain ⟨h1, h⟩ := ite_inv h
   rcases cond_inv h with ⟨h2, h⟩ | ⟨h2, h⟩
   ·obtain rfl := Option.some.inj h
    exact Reach.done ttok mix fk99 (p99_2_0 x1 x6 b2) (obs_cons h0 (obs_cons h1 (obs_cons h2 (obs_cons h1 obs_nil))))
   ·exact Reach.stop ttok mix fk99 (p99_2_1 x1 x6 b2) (obs_cons h0 (obs_cons h1 (obs_cons h2 obs_nil))) (ih _ _ _ _ h)
  ·obtain rfl := Option.some.inj h
   exact Reach.done ttok mix fk99 (p99_2_2 x1 x6 b2) (obs_cons h0 obs_nil)
theorem c99_e {N : Nat} : ∀ a0 a1 r, xDd N a0 a1 = some r → Reach Try.prog Try.f99 I99 [.code I99.body] (zBg 0 (xB2 a0 a1)) (xAX r) := by
 intro a0 a1 r h
 unfold xDd at h
 exact Reach.stop ttok mix fk99 (p99_e_3 a0 a1) obs_nil (c99_2   _ _ _ _ _ h)
theorem xDR {N : Nat} {a0 : Wld} {a1 : Str} {r : Int × Bool} (h : xDd N  a0 a1 = some r) : AbC 99 (xB2 a0 a1) (xAX r) :=
 AbsCalls.of_reach fk99 rfl rfl (Nat.le_of_ble_eq_true rfl) (c99_e a0 a1 r h)
noncomputable def I43 : Info := { body := (Try.f43.body).getD .skip, nt := 56, results := [.cell 8 28], keep := [0, 2, 4, 6, 8, 14, 16, 18, 20, 24, 26, 34, 42, 52, 78, 98, 104, 9, 15, 17], live := [], modes := [(10, [(4, .take, false)]), (11, [(0, .take, false)])], ext := [], lnt := [], casts := [], fcast := [] }
theorem fk43 : FnOk Try.prog 43 Try.f43 I43 := ⟨Try.func43, by kernel_rfl, by kernel_rfl, by kernel_rfl, by kernel_rfl⟩
theorem p43_e_0 (a0 : Wld) (a1 a2 : Int) (a3 : Rea) (r1 : Bool) (r2 : Val) : run tt (AbsCalls Try.prog) I43 3000 false [.code I43.body] ⟨(zBg 0 (xAo a0 a1 a2 a3)), [true, true], [xBg r1, xBa r2], []⟩ = some (.done (xAe r2) [(((Rea.kind a3) : Int) == 1) = true, AbC 95 (xCk (Wld.clock a0)) (xBg r1), r1 = true, AbC 96 (xB3 (Wld.clock a0)) (xBa r2)]) := by kernel_rfl
theorem p43_e_1 (a0 : Wld) (a1 a2 : Int) (a3 : Rea) (r1 : Bool) (r2 : Val) : run tt (AbsCalls Try.prog) I43 3000 false [.code I43.body] ⟨(zBg 0 (xAo a0 a1 a2 a3)), [true, false], [xBg r1, xAM r2], []⟩ = some (.done (xAe r2) [(((Rea.kind a3) : Int) == 1) = true, AbC 95 (xCk (Wld.clock a0)) (xBg r1), r1 = false, AbC 72 (xBw 4) (xAM r2)]) := by kernel_rfl
theorem p43_e_2 (a0 : Wld) (a1 a2 : Int) (a3 : Rea) (r1 : Bool) (r2 : Val) : run tt (AbsCalls Try.prog) I43 3000 false [.code I43.body] ⟨(zBg 0 (xAo a0 a1 a2 a3)), [false, true, true], [xCt r1, xAM r2], []⟩ = some (.done (xAe r2) [(((Rea.kind a3) : Int) == 1) = false, (((Rea.kind a3) : Int) == 2) = true, AbC 97 (xDw (Rea.n a3) 1 1000000000) (xCt r1), (!r1) = true, AbC 72 (xBw 5) (xAM r2)]) := by kernel_rfl
theorem p43_e_3 (a0 : Wld) (a1 a2 : Int) (a3 : Rea) (r1 : Bool) (r2 : Int) (r3 : Val) : run tt (AbsCalls Try.prog) I43 3000 false [.code I43.body] ⟨(zBg 0 (xAo a0 a1 a2 a3)), [false, true, false], [xCt r1, xEz r2, xBa r3], []⟩ = some (.done (xAe r3) [(((Rea.kind a3) : Int) == 1) = false, (((Rea.kind a3) : Int) == 2) = true, AbC 97 (xDw (Rea.n a3) 1 1000000000) (xCt r1), (!r1) = false, AbC 98 (xEI (Wld.seed a0) a1 a2 (Rea.time a3)) (xEz r2), (Rea.n a3) ≠ (0 : Int), AbC 96 (xB3 (Int.tmod r2 (Rea.n a3))) (xBa r3)]) := by kernel_rfl
theorem p43_e_4 (a0 : Wld) (a1 a2 : Int) (a3 : Rea) (r1 : Int × Bool) (r2 : Val) : run tt (AbsCalls Try.prog) I43 3000 false [.code I43.body] ⟨(zBg 0 (xAo a0 a1 a2 a3)), [false, false, true, true], [xAX r1, xAM r2], []⟩ = some (.done (xAe r2) [(((Rea.kind a3) : Int) == 1) = false, (((Rea.kind a3) : Int) == 2) = false, (((Rea.kind a3) : Int) == 3) = true, AbC 99 (xB2 a0 (Rea.text a3)) (xAX r1), (!r1.2) = true, AbC 72 (xBw 1) (xAM r2)]) := by kernel_rfl
theorem p43_e_5 (a0 : Wld) (a1 a2 : Int) (a3 : Rea) (r1 : Int × Bool) (r2 : Bool) (r3 : Val) : run tt (AbsCalls Try.prog) I43 3000 false [.code I43.body] ⟨(zBg 0 (xAo a0 a1 a2 a3)), [false, false, true, false, true], [xAX r1, xBg r2, xBa r3], []⟩ = some (.done (xAe r3) [(((Rea.kind a3) : Int) == 1) = false, (((Rea.kind a3) : Int) == 2) = false, (((Rea.kind a3) : Int) == 3) = true, AbC 99 (xB2 a0 (Rea.text a3)) (xAX r1), (!r1.2) = false, AbC 95 (xCk r1.1) (xBg r2), r2 = true, AbC 96 (xB3 r1.1) (xBa r3)]) := by kernel_rfl
theorem p43_e_6 (a0 : Wld) (a1 a2 : Int) (a3 : Rea) (r1 : Int × Bool) (r2 : Bool) (r3 : Val) : run tt (AbsCalls Try.prog) I43 3000 false [.code I43.body] ⟨(zBg 0 (xAo a0 a1 a2 a3)), [false, false, true, false, false], [xAX r1, xBg r2, xAM r3], []⟩ = some (.done (xAe r3) [(((Rea.kind a3) : Int) == 1) = false, (((Rea.kind a3) : Int) == 2) = false, (((Rea.kind a3) : Int) == 3) = true, AbC 99 (xB2 a0 (Rea.text a3)) (xAX r1), (!r1.2) = false, AbC 95 (xCk r1.1) (xBg r2), r2 = false, AbC 72 (xBw 4) (xAM r3)]) := by kernel_rfl
theorem p43_e_7 (a0 : Wld) (a1 a2 : Int) (a3 : Rea) (r1 : Val) : run tt (AbsCalls Try.prog) I43 3000 false [.code I43.body] ⟨(zBg 0 (xAo a0 a1 a2 a3)), [false, false, false], [xAM r1], []⟩ = some (.done (xAe r1) [(((Rea.kind a3) : Int) == 1) = false, (((Rea.kind a3) : Int) == 2) = false, (((Rea.kind a3) : Int) == 3) = false, AbC 72 (xBw 4) (xAM r1)]) := by kernel_rfl
theorem c43_e {N : Nat} : ∀ a0 a1 a2 a3 r, xBu N a0 a1 a2 a3 = some r → Reach Try.prog Try.f43 I43 [.code I43.body] (zBg 0 (xAo a0 a1 a2 a3)) (xAe r) := by
 intro a0 a1 a2 a3 r h
 unfold xBu at h
 rcases cond_inv h with ⟨h0, h⟩ | ⟨h0, h⟩
 ·obtain ⟨r1, h1, h⟩ := bind_inv h
  rcases cond_inv h with ⟨h2, h⟩ | ⟨h2, h⟩
  ·obtain ⟨r2, h3, h⟩ := bind_inv h
   obtain rfl := Option.some.inj h
   exact Reach.done ttok mix fk43 (p43_e_0 a0 a1 a2 a3 r1 r2) (obs_cons h0 (obs_cons (xDN h1) (obs_cons h2 (obs_cons (xDS h3) obs_nil))))
  ·obtain ⟨r2, h3, h⟩ := bind_inv h
   obtain rfl := Option.some.inj h
   exact Reach.done ttok mix fk43 (p43_e_1 a0 a1 a2 a3 r1 r2) (obs_cons h0 (obs_cons (xDN h1) (obs_cons h2 (obs_cons (xCM h3) obs_nil))))
 ·rcases cond_inv h with ⟨h1, h⟩ | ⟨h1, h⟩
  ·obtain ⟨r1, h2, h⟩ := bind_inv h
   rcases cond_inv h with ⟨h3, h⟩ | ⟨h3, h⟩
   ·obtain ⟨r2, h4, h⟩ := bind_inv h
    obtain rfl := Option.some.inj h
    exact Reach.done ttok mix fk43 (p43_e_2 a0 a1 a2 a3 r1 r2) (obs_cons h0 (obs_cons h1 (obs_cons (xE0 h2) (obs_cons h3 (obs_cons (xCM h4) obs_nil)))))
   ·obtain ⟨r2, h4, h⟩ := bind_inv h
    obtain ⟨h5, h⟩ := ite_inv h
    obtain ⟨r3, h6, h⟩ := bind_inv h
    obtain rfl := Option.some.inj h
    exact Reach.done ttok mix fk43 (p43_e_3 a0 a1 a2 a3 r1 r2 r3) (obs_cons h0 (obs_cons h1 (obs_cons (xE0 h2) (obs_cons h3 (obs_cons (spec_Mix_ok h4) (obs_cons h5 (obs_cons (xDS h6) obs_nil)))))))
  ·rcases cond_inv h with ⟨h2, h⟩ | ⟨h2, h⟩
   ·obtain ⟨r1, h3, h⟩ := bind_inv h
    rcases cond_inv h with ⟨h4, h⟩ | ⟨h4, h⟩
    ·obtain ⟨r2, h5, h⟩ := bind_inv h
     obtain rfl := Option.some.inj h
     exact Reach.done ttok mix fk43 (p43_e_4 a0 a1 a2 a3 r1 r2) (obs_cons h0 (obs_cons h1 (obs_cons h2 (obs_cons (xDR h3) (obs_cons h4 (obs_cons (xCM h5) obs_nil))))))
    ·obtain ⟨r2, h5, h⟩ := bind_inv h
     rcases cond_inv h with ⟨h6, h⟩ | ⟨h6, h⟩
     ·obtain ⟨r3, h7, h⟩ := bind_inv h
      obtain rfl := Option.some.inj h
      exact Reach.done ttok mix fk43 (p43_e_5 a0 a1 a2 a3 r1 r2 r3) (obs_cons h0 (obs_cons h1 (obs_cons h2 (obs_cons (xDR h3) (obs_cons h4 (obs_cons (xDN h5) (obs_cons h6 (obs_cons (xDS h7) obs_nil))))))))
     ·obtain ⟨r3, h7, h⟩ := bind_inv h
      obtain rfl := Option.some.inj h
      exact Reach.done ttok mix fk43 (p43_e_6 a0 a1 a2 a3 r1 r2 r3) (obs_cons h0 (obs_cons h1 (obs_cons h2 (obs_cons (xDR h3) (obs_cons h4 (obs_cons (xDN h5) (obs_cons h6 (obs_cons (xCM h7) obs_nil))))))))
   ·obtain ⟨r1, h3, h⟩ := bind_inv h
    obtain rfl := Option.some.inj h
    exact Reach.done ttok mix fk43 (p43_e_7 a0 a1 a2 a3 r1) (obs_cons h0 (obs_cons h1 (obs_cons h2 (obs_cons (xCM h3) obs_nil))))
theorem xAP {N : Nat} {a0 : Wld} {a1 : Int} {a2 : Int} {a3 : Rea} {r : Val} (h : xBu N  a0 a1 a2 a3 = some r) : AbC 43 (xAo a0 a1 a2 a3) (xAe r) :=
 AbsCalls.of_reach fk43 rfl rfl (Nat.le_of_ble_eq_true rfl) (c43_e a0 a1 a2 a3 r h)
noncomputable def I101 : Info := { body := (Try.f101.body).getD .skip, nt := 15, results := [.tmp 6], keep := [0, 2, 4, 12], live := [], modes := [(1, [(3, .take, false)])], ext := [], lnt := [], casts := [], fcast := [] }
theorem fk101 : FnOk Try.prog 101 Try.f101 I101 := ⟨Try.func101, by kernel_rfl, by kernel_rfl, by kernel_rfl, by kernel_rfl⟩
theorem p101_e_0 (a0 a1 a2 : Int) : run tt (AbsCalls Try.prog) I101 3000 false [.code I101.body] ⟨(zBg 0 (xCo a0 a1 a2)), [true], [], []⟩ = some (.done (xBo (decide ((a0 : Int) ≤ a2))) [(decide ((a1 : Int) ≤ a0)) = true]) := by kernel_rfl
theorem p101_e_1 (a0 a1 a2 : Int) : run tt (AbsCalls Try.prog) I101 3000 false [.code I101.body] ⟨(zBg 0 (xCo a0 a1 a2)), [false], [], []⟩ = some (.done (xBo false) [(decide ((a1 : Int) ≤ a0)) = false]) := by kernel_rfl
theorem c101_e {N : Nat} : ∀ a0 a1 a2 r, xDQ N a0 a1 a2 = some r → Reach Try.prog Try.f101 I101 [.code I101.body] (zBg 0 (xCo a0 a1 a2)) (xBo r) := by
 intro a0 a1 a2 r h
 unfold xDQ at h
 rcases cond_inv h with ⟨h0, h⟩ | ⟨h0, h⟩
 ·obtain rfl := Option.some.inj h
  exact Reach.done ttok mix fk101 (p101_e_0 a0 a1 a2) (obs_cons h0 obs_nil)
 ·obtain rfl := Option.some.inj h
  exact Reach.done ttok mix fk101 (p101_e_1 a0 a1 a2) (obs_cons h0 obs_nil)
theorem xEe {N : Nat} {a0 : Int} {a1 : Int} {a2 : Int} {r : Bool} (h : xDQ N  a0 a1 a2 = some r) : AbC 101 (xCo a0 a1 a2) (xBo r) :=
 AbsCalls.of_reach fk101 rfl rfl (Nat.le_of_ble_eq_true rfl) (c101_e a0 a1 a2 r h)
noncomputable def I102 : Info := { body := (Try.f102.body).getD .skip, nt := 29, results := [.tmp 8], keep := [0, 2, 4, 6, 16, 18, 46], live := [], modes := [], ext := [], lnt := [], casts := [], fcast := [] }
theorem fk102 : FnOk Try.prog 102 Try.f102 I102 := ⟨Try.func102, by kernel_rfl, by kernel_rfl, by kernel_rfl, by kernel_rfl⟩
theorem p102_e_0 (a0 a1 a2 a3 : Int) : run tt (AbsCalls Try.prog) I102 3000 false [.code I102.body] ⟨(zBg 0 (xD2 a0 a1 a2 a3)), [true], [], []⟩ = some (.done (xDr (Int.tmod (IntKind.i64.wrap (16807 * (IntKind.i64.wrap ((Int.tmod (IntKind.i64.wrap ((IntKind.i64.wrap ((IntKind.i64.wrap ((IntKind.i64.wrap (48271 * a0)) + (IntKind.i64.wrap (7919 * a1)))) + (IntKind.i64.wrap (104729 * a2)))) + (IntKind.i64.wrap (1299709 * a3)))) 2147483647) + 2147483647)))) 2147483647)) [2147483647 ≠ (0 : Int), (decide (((Int.tmod (IntKind.i64.wrap ((IntKind.i64.wrap ((IntKind.i64.wrap ((IntKind.i64.wrap (48271 * a0)) + (IntKind.i64.wrap (7919 * a1)))) + (IntKind.i64.wrap (104729 * a2)))) + (IntKind.i64.wrap (1299709 * a3)))) 2147483647) : Int) < 0)) = true, 2147483647 ≠ (0 : Int)]) := by kernel_rfl
theorem p102_e_1 (a0 a1 a2 a3 : Int) : run tt (AbsCalls Try.prog) I102 3000 false [.code I102.body] ⟨(zBg 0 (xD2 a0 a1 a2 a3)), [false], [], []⟩ = some (.done (xDr (Int.tmod (IntKind.i64.wrap (16807 * (Int.tmod (IntKind.i64.wrap ((IntKind.i64.wrap ((IntKind.i64.wrap ((IntKind.i64.wrap (48271 * a0)) + (IntKind.i64.wrap (7919 * a1)))) + (IntKind.i64.wrap (104729 * a2)))) + (IntKind.i64.wrap (1299709 * a3)))) 2147483647))) 2147483647)) [2147483647 ≠ (0 : Int), (decide (((Int.tmod (IntKind.i64.wrap ((IntKind.i64.wrap ((IntKind.i64.wrap ((IntKind.i64.wrap (48271 * a0)) + (IntKind.i64.wrap (7919 * a1)))) + (IntKind.i64.wrap (104729 * a2)))) + (IntKind.i64.wrap (1299709 * a3)))) 2147483647) : Int) < 0)) = false, 2147483647 ≠ (0 : Int)]) := by kernel_rfl
theorem c102_e {N : Nat} : ∀ a0 a1 a2 a3 r, xE1 N a0 a1 a2 a3 = some r → Reach Try.prog Try.f102 I102 [.code I102.body] (zBg 0 (xD2 a0 a1 a2 a3)) (xDr r) := by
 intro a0 a1 a2 a3 r h
 unfold xE1 at h
 rcases cond_inv h with ⟨h1, h⟩ | ⟨h1, h⟩
 ·obtain rfl := Option.some.inj h
  exact Reach.done ttok mix fk102 (p102_e_0 a0 a1 a2 a3) (obs_cons (by decide) (obs_cons h1 (obs_cons (by decide) obs_nil)))
 ·obtain rfl := Option.some.inj h
  exact Reach.done ttok mix fk102 (p102_e_1 a0 a1 a2 a3) (obs_cons (by decide) (obs_cons h1 (obs_cons (by decide) obs_nil)))
theorem impl_Mix_ok {N : Nat} {a0 : Int} {a1 : Int} {a2 : Int} {a3 : Int} {r : Int} (h : xE1 N  a0 a1 a2 a3 = some r) : AbC 102 (xD2 a0 a1 a2 a3) (xDr r) :=
 AbsCalls.of_reach fk102 rfl rfl (Nat.le_of_ble_eq_true rfl) (c102_e a0 a1 a2 a3 r h)
noncomputable def I103 : Info := { body := (Try.f103.body).getD .skip, nt := 22, results := [.tmp 4, .tmp 5], keep := [0, 2, 4, 8, 10, 14, 18, 20, 22, 24, 36, 5, 15], live := [(2, [2, 18, 20, 22])], modes := [(6, [(1, .take, false)])], ext := [], lnt := [], casts := [], fcast := [] }
theorem fk103 : FnOk Try.prog 103 Try.f103 I103 := ⟨Try.func103, by kernel_rfl, by kernel_rfl, by kernel_rfl, by kernel_rfl⟩
def S103_2 (x1 : Str) (x9 : List Fil) (x10 x11 : Int) : St := [(2, .v false [.str x1]), (18, .v false [.sl .ro .fil x9]), (20, .v false [.int .i64 x10]), (22, .v false [.int .i64 x11])]
theorem p103_2_0 (x1 : Str) (x9 : List Fil) (x10 x11 : Int) : run tt (AbsCalls Try.prog) I103 3000 true (stkAt 2 I103.body) ⟨(S103_2 x1 x9 x10 x11), [true, true], [], []⟩ = some (.done (xAW ((Fil.n (List.getD x9 (Int.toNat x11) Ty.fil.dflt)), true)) [(decide ((x11 : Int) < x10)) = true, (0 : Int) ≤ x11 ∧ x11 < (List.length x9), (((Fil.name (List.getD x9 (Int.toNat x11) Ty.fil.dflt)) : Str) == x1) = true]) := by kernel_rfl
theorem p103_2_1 (x1 : Str) (x9 : List Fil) (x10 x11 : Int) : run tt (AbsCalls Try.prog) I103 3000 true (stkAt 2 I103.body) ⟨(S103_2 x1 x9 x10 x11), [true, false], [], []⟩ = some (.stop (stkAt 2 I103.body) (S103_2 x1 x9 x10 (IntKind.i64.wrap (x11 + 1))) [(decide ((x11 : Int) < x10)) = true, (0 : Int) ≤ x11 ∧ x11 < (List.length x9), (((Fil.name (List.getD x9 (Int.toNat x11) Ty.fil.dflt)) : Str) == x1) = false]) := by kernel_rfl
theorem p103_2_2 (x1 : Str) (x9 : List Fil) (x10 x11 : Int) : run tt (AbsCalls Try.prog) I103 3000 true (stkAt 2 I103.body) ⟨(S103_2 x1 x9 x10 x11), [false], [], []⟩ = some (.done (xAW (0, false)) [(decide ((x11 : Int) < x10)) = false]) := by kernel_rfl
theorem p103_e_3 (a0 : Wld) (a1 : Str) : run tt (AbsCalls Try.prog) I103 3000 false [.code I103.body] ⟨(zBg 0 (xBS a0 a1)), [], [], []⟩ = some (.stop (stkAt 2 I103.body) (S103_2 a1 (Wld.files a0) (List.length (Wld.files a0) : Int) 0) []) := by kernel_rfl
theorem c103_2 {N : Nat} : ∀ n x1 x9 x10 x11 r, xBl N n x1 x9 x10 x11 = some r → Reach Try.prog Try.f103 I103 (stkAt 2 I103.body) (S103_2 x1 x9 x10 x11) (xAW r) := by
 intro n
 induction n with
 | zero => intro x1 x9 x10 x11 r h; have h' : (none : Option (Int × Bool)) = some r := h; cases h'
 | succ n ih =>
  intro x1 x9 x10 x11 r h
  rw [xBl] at h
  rcases cond_inv h with ⟨h0, h⟩ | ⟨h0, h⟩
  ·obtain ⟨h1, h⟩ := ite_inv h
   rcases cond_inv h with ⟨h2, h⟩ | ⟨h2, h⟩
   ·obtain rfl := Option.some.inj h
    exact Reach.done ttok mix fk103 (p103_2_0 x1 x9 x10 x11) (obs_cons h0 (obs_cons h1 (obs_cons h2 obs_nil)))
   ·exact Reach.stop ttok mix fk103 (p103_2_1 x1 x9 x10 x11) (obs_cons h0 (obs_cons h1 (obs_cons h2 obs_nil))) (ih _ _ _ _ _ h)
  ·obtain rfl := Option.some.inj h
   exact Reach.done ttok mix fk103 (p103_2_2 x1 x9 x10 x11) (obs_cons h0 obs_nil)
theorem c103_e {N : Nat} : ∀ a0 a1 r, xC6 N a0 a1 = some r → Reach Try.prog Try.f103 I103 [.code I103.body] (zBg 0 (xBS a0 a1)) (xAW r) := by
 intro a0 a1 r h
 unfold xC6 at h
 exact Reach.stop ttok mix fk103 (p103_e_3 a0 a1) obs_nil (c103_2   _ _ _ _ _ _ h)
theorem xDO {N : Nat} {a0 : Wld} {a1 : Str} {r : Int × Bool} (h : xC6 N  a0 a1 = some r) : AbC 103 (xBS a0 a1) (xAW r) :=
 AbsCalls.of_reach fk103 rfl rfl (Nat.le_of_ble_eq_true rfl) (c103_e a0 a1 r h)
noncomputable def I104 : Info := { body := (Try.f104.body).getD .skip, nt := 5, results := [.tmp 2], keep := [0, 4], live := [], modes := [], ext := [], lnt := [], casts := [], fcast := [] }
theorem fk104 : FnOk Try.prog 104 Try.f104 I104 := ⟨Try.func104, by kernel_rfl, by kernel_rfl, by kernel_rfl, by kernel_rfl⟩
theorem p104_e_0 (a0 : Int) (r1 : Bool) : run tt (AbsCalls Try.prog) I104 3000 false [.code I104.body] ⟨(zBg 0 (xBC a0)), [], [xBo r1], []⟩ = some (.done (xAN r1) [AbC 101 (xCo a0 (-1000000000) 1000000000) (xBo r1)]) := by kernel_rfl
theorem c104_e {N : Nat} : ∀ a0 r, xCL N a0 = some r → Reach Try.prog Try.f104 I104 [.code I104.body] (zBg 0 (xBC a0)) (xAN r) := by
 intro a0 r h
 unfold xCL at h
 obtain ⟨r1, h0, h⟩ := bind_inv h
 obtain rfl := Option.some.inj h
 exact Reach.done ttok mix fk104 (p104_e_0 a0 r1) (obs_cons (xEe h0) obs_nil)
theorem xCG {N : Nat} {a0 : Int} {r : Bool} (h : xCL N  a0 = some r) : AbC 104 (xBC a0) (xAN r) :=
 AbsCalls.of_reach fk104 rfl rfl (Nat.le_of_ble_eq_true rfl) (c104_e a0 r h)
noncomputable def I105 : Info := { body := (Try.f105.body).getD .skip, nt := 5, results := [.cell 2 28], keep := [0, 4, 5], live := [], modes := [], ext := [], lnt := [], casts := [], fcast := [] }
theorem fk105 : FnOk Try.prog 105 Try.f105 I105 := ⟨Try.func105, by kernel_rfl, by kernel_rfl, by kernel_rfl, by kernel_rfl⟩
theorem p105_e_0 (a0 : Int) : run tt (AbsCalls Try.prog) I105 3000 false [.code I105.body] ⟨(zBg 0 (xBT a0)), [], [], []⟩ = some (.done (xA8 (Val.mk 1 a0 0 [] [] [] [])) []) := by kernel_rfl
theorem c105_e {N : Nat} : ∀ a0 r, xBB N a0 = some r → Reach Try.prog Try.f105 I105 [.code I105.body] (zBg 0 (xBT a0)) (xA8 r) := by
 intro a0 r h
 unfold xBB at h
 obtain rfl := Option.some.inj h
 exact Reach.done ttok mix fk105 (p105_e_0 a0) obs_nil
theorem xDP {N : Nat} {a0 : Int} {r : Val} (h : xBB N  a0 = some r) : AbC 105 (xBT a0) (xA8 r) :=
 AbsCalls.of_reach fk105 rfl rfl (Nat.le_of_ble_eq_true rfl) (c105_e a0 r h)
noncomputable def I45 : Info := { body := (Try.f45.body).getD .skip, nt := 55, results := [.cell 8 28], keep := [0, 2, 4, 6, 8, 14, 16, 18, 20, 22, 26, 30, 38, 48, 72, 92, 102, 9, 15, 17], live := [], modes := [(11, [(4, .take, false)]), (12, [(0, .take, false)]), (14, [(0, .take, false)])], ext := [], lnt := [], casts := [], fcast := [] }
theorem fk45 : FnOk Try.prog 45 Try.f45 I45 := ⟨Try.func45, by kernel_rfl, by kernel_rfl, by kernel_rfl, by kernel_rfl⟩
theorem p45_e_0 (a0 : Wld) (a1 a2 : Int) (a3 : Rea) (r1 : Bool) (r2 : Val) : run tt (AbsCalls Try.prog) I45 3000 false [.code I45.body] ⟨(zBg 0 (xAi a0 a1 a2 a3)), [true, true], [xAN r1, xAF r2], []⟩ = some (.done (xAd r2) [(((Rea.kind a3) : Int) == 1) = true, AbC 104 (xBC (Wld.clock a0)) (xAN r1), (!r1) = true, AbC 75 (xBk 4) (xAF r2)]) := by kernel_rfl
theorem p45_e_1 (a0 : Wld) (a1 a2 : Int) (a3 : Rea) (r1 : Bool) (r2 : Val) : run tt (AbsCalls Try.prog) I45 3000 false [.code I45.body] ⟨(zBg 0 (xAi a0 a1 a2 a3)), [true, false], [xAN r1, xA8 r2], []⟩ = some (.done (xAd r2) [(((Rea.kind a3) : Int) == 1) = true, AbC 104 (xBC (Wld.clock a0)) (xAN r1), (!r1) = false, AbC 105 (xBT (Wld.clock a0)) (xA8 r2)]) := by kernel_rfl
theorem p45_e_2 (a0 : Wld) (a1 a2 : Int) (a3 : Rea) (r1 : Bool) (r2 : Val) : run tt (AbsCalls Try.prog) I45 3000 false [.code I45.body] ⟨(zBg 0 (xAi a0 a1 a2 a3)), [false, true, true], [xBo r1, xAF r2], []⟩ = some (.done (xAd r2) [(((Rea.kind a3) : Int) == 1) = false, (((Rea.kind a3) : Int) == 2) = true, AbC 101 (xCo (Rea.n a3) 1 1000000000) (xBo r1), (!r1) = true, AbC 75 (xBk 5) (xAF r2)]) := by kernel_rfl
theorem p45_e_3 (a0 : Wld) (a1 a2 : Int) (a3 : Rea) (r1 : Bool) (r2 : Int) (r3 : Bool) (r4 : Val) : run tt (AbsCalls Try.prog) I45 3000 false [.code I45.body] ⟨(zBg 0 (xAi a0 a1 a2 a3)), [false, true, false, true], [xBo r1, xDr r2, xAN r3, xAF r4], []⟩ = some (.done (xAd r4) [(((Rea.kind a3) : Int) == 1) = false, (((Rea.kind a3) : Int) == 2) = true, AbC 101 (xCo (Rea.n a3) 1 1000000000) (xBo r1), (!r1) = false, AbC 102 (xD2 (Wld.seed a0) a1 a2 (Rea.time a3)) (xDr r2), (Rea.n a3) ≠ (0 : Int), AbC 104 (xBC (Int.tmod r2 (Rea.n a3))) (xAN r3), (!r3) = true, AbC 75 (xBk 4) (xAF r4)]) := by kernel_rfl
theorem p45_e_4 (a0 : Wld) (a1 a2 : Int) (a3 : Rea) (r1 : Bool) (r2 : Int) (r3 : Bool) (r4 : Val) : run tt (AbsCalls Try.prog) I45 3000 false [.code I45.body] ⟨(zBg 0 (xAi a0 a1 a2 a3)), [false, true, false, false], [xBo r1, xDr r2, xAN r3, xA8 r4], []⟩ = some (.done (xAd r4) [(((Rea.kind a3) : Int) == 1) = false, (((Rea.kind a3) : Int) == 2) = true, AbC 101 (xCo (Rea.n a3) 1 1000000000) (xBo r1), (!r1) = false, AbC 102 (xD2 (Wld.seed a0) a1 a2 (Rea.time a3)) (xDr r2), (Rea.n a3) ≠ (0 : Int), AbC 104 (xBC (Int.tmod r2 (Rea.n a3))) (xAN r3), (!r3) = false, AbC 105 (xBT (Int.tmod r2 (Rea.n a3))) (xA8 r4)]) := by kernel_rfl
theorem p45_e_5 (a0 : Wld) (a1 a2 : Int) (a3 : Rea) (r1 : Int × Bool) (r2 : Val) : run tt (AbsCalls Try.prog) I45 3000 false [.code I45.body] ⟨(zBg 0 (xAi a0 a1 a2 a3)), [false, false, true, true], [xAW r1, xAF r2], []⟩ = some (.done (xAd r2) [(((Rea.kind a3) : Int) == 1) = false, (((Rea.kind a3) : Int) == 2) = false, (((Rea.kind a3) : Int) == 3) = true, AbC 103 (xBS a0 (Rea.text a3)) (xAW r1), (!r1.2) = true, AbC 75 (xBk 1) (xAF r2)]) := by kernel_rfl
theorem p45_e_6 (a0 : Wld) (a1 a2 : Int) (a3 : Rea) (r1 : Int × Bool) (r2 : Bool) (r3 : Val) : run tt (AbsCalls Try.prog) I45 3000 false [.code I45.body] ⟨(zBg 0 (xAi a0 a1 a2 a3)), [false, false, true, false, true], [xAW r1, xAN r2, xAF r3], []⟩ = some (.done (xAd r3) [(((Rea.kind a3) : Int) == 1) = false, (((Rea.kind a3) : Int) == 2) = false, (((Rea.kind a3) : Int) == 3) = true, AbC 103 (xBS a0 (Rea.text a3)) (xAW r1), (!r1.2) = false, AbC 104 (xBC r1.1) (xAN r2), (!r2) = true, AbC 75 (xBk 4) (xAF r3)]) := by kernel_rfl
theorem p45_e_7 (a0 : Wld) (a1 a2 : Int) (a3 : Rea) (r1 : Int × Bool) (r2 : Bool) (r3 : Val) : run tt (AbsCalls Try.prog) I45 3000 false [.code I45.body] ⟨(zBg 0 (xAi a0 a1 a2 a3)), [false, false, true, false, false], [xAW r1, xAN r2, xA8 r3], []⟩ = some (.done (xAd r3) [(((Rea.kind a3) : Int) == 1) = false, (((Rea.kind a3) : Int) == 2) = false, (((Rea.kind a3) : Int) == 3) = true, AbC 103 (xBS a0 (Rea.text a3)) (xAW r1), (!r1.2) = false, AbC 104 (xBC r1.1) (xAN r2), (!r2) = false, AbC 105 (xBT r1.1) (xA8 r3)]) := by kernel_rfl
theorem p45_e_8 (a0 : Wld) (a1 a2 : Int) (a3 : Rea) (r1 : Val) : run tt (AbsCalls Try.prog) I45 3000 false [.code I45.body] ⟨(zBg 0 (xAi a0 a1 a2 a3)), [false, false, false], [xAF r1], []⟩ = some (.done (xAd r1) [(((Rea.kind a3) : Int) == 1) = false, (((Rea.kind a3) : Int) == 2) = false, (((Rea.kind a3) : Int) == 3) = false, AbC 75 (xBk 4) (xAF r1)]) := by kernel_rfl
theorem c45_e {N : Nat} : ∀ a0 a1 a2 a3 r, xBh N a0 a1 a2 a3 = some r → Reach Try.prog Try.f45 I45 [.code I45.body] (zBg 0 (xAi a0 a1 a2 a3)) (xAd r) := by
 intro a0 a1 a2 a3 r h
 unfold xBh at h
 rcases cond_inv h with ⟨h0, h⟩ | ⟨h0, h⟩
 ·obtain ⟨r1, h1, h⟩ := bind_inv h
  rcases cond_inv h with ⟨h2, h⟩ | ⟨h2, h⟩
  ·obtain ⟨r2, h3, h⟩ := bind_inv h
   obtain rfl := Option.some.inj h
   exact Reach.done ttok mix fk45 (p45_e_0 a0 a1 a2 a3 r1 r2) (obs_cons h0 (obs_cons (xCG h1) (obs_cons h2 (obs_cons (xB8 h3) obs_nil))))
  ·obtain ⟨r2, h3, h⟩ := bind_inv h
   obtain rfl := Option.some.inj h
   exact Reach.done ttok mix fk45 (p45_e_1 a0 a1 a2 a3 r1 r2) (obs_cons h0 (obs_cons (xCG h1) (obs_cons h2 (obs_cons (xDP h3) obs_nil))))
 ·rcases cond_inv h with ⟨h1, h⟩ | ⟨h1, h⟩
  ·obtain ⟨r1, h2, h⟩ := bind_inv h
   rcases cond_inv h with ⟨h3, h⟩ | ⟨h3, h⟩
   ·obtain ⟨r2, h4, h⟩ := bind_inv h
    obtain rfl := Option.some.inj h
    exact Reach.done ttok mix fk45 (p45_e_2 a0 a1 a2 a3 r1 r2) (obs_cons h0 (obs_cons h1 (obs_cons (xEe h2) (obs_cons h3 (obs_cons (xB8 h4) obs_nil)))))
   ·obtain ⟨r2, h4, h⟩ := bind_inv h
    obtain ⟨h5, h⟩ := ite_inv h
    obtain ⟨r3, h6, h⟩ := bind_inv h
    rcases cond_inv h with ⟨h7, h⟩ | ⟨h7, h⟩
    ·obtain ⟨r4, h8, h⟩ := bind_inv h
     obtain rfl := Option.some.inj h
     exact Reach.done ttok mix fk45 (p45_e_3 a0 a1 a2 a3 r1 r2 r3 r4) (obs_cons h0 (obs_cons h1 (obs_cons (xEe h2) (obs_cons h3 (obs_cons (impl_Mix_ok h4) (obs_cons h5 (obs_cons (xCG h6) (obs_cons h7 (obs_cons (xB8 h8) obs_nil)))))))))
    ·obtain ⟨r4, h8, h⟩ := bind_inv h
     obtain rfl := Option.some.inj h
     exact Reach.done ttok mix fk45 (p45_e_4 a0 a1 a2 a3 r1 r2 r3 r4) (obs_cons h0 (obs_cons h1 (obs_cons (xEe h2) (obs_cons h3 (obs_cons (impl_Mix_ok h4) (obs_cons h5 (obs_cons (xCG h6) (obs_cons h7 (obs_cons (xDP h8) obs_nil)))))))))
  ·rcases cond_inv h with ⟨h2, h⟩ | ⟨h2, h⟩
   ·obtain ⟨r1, h3, h⟩ := bind_inv h
    rcases cond_inv h with ⟨h4, h⟩ | ⟨h4, h⟩
    ·obtain ⟨r2, h5, h⟩ := bind_inv h
     obtain rfl := Option.some.inj h
     exact Reach.done ttok mix fk45 (p45_e_5 a0 a1 a2 a3 r1 r2) (obs_cons h0 (obs_cons h1 (obs_cons h2 (obs_cons (xDO h3) (obs_cons h4 (obs_cons (xB8 h5) obs_nil))))))
    ·obtain ⟨r2, h5, h⟩ := bind_inv h
     rcases cond_inv h with ⟨h6, h⟩ | ⟨h6, h⟩
     ·obtain ⟨r3, h7, h⟩ := bind_inv h
      obtain rfl := Option.some.inj h
      exact Reach.done ttok mix fk45 (p45_e_6 a0 a1 a2 a3 r1 r2 r3) (obs_cons h0 (obs_cons h1 (obs_cons h2 (obs_cons (xDO h3) (obs_cons h4 (obs_cons (xCG h5) (obs_cons h6 (obs_cons (xB8 h7) obs_nil))))))))
     ·obtain ⟨r3, h7, h⟩ := bind_inv h
      obtain rfl := Option.some.inj h
      exact Reach.done ttok mix fk45 (p45_e_7 a0 a1 a2 a3 r1 r2 r3) (obs_cons h0 (obs_cons h1 (obs_cons h2 (obs_cons (xDO h3) (obs_cons h4 (obs_cons (xCG h5) (obs_cons h6 (obs_cons (xDP h7) obs_nil))))))))
   ·obtain ⟨r1, h3, h⟩ := bind_inv h
    obtain rfl := Option.some.inj h
    exact Reach.done ttok mix fk45 (p45_e_8 a0 a1 a2 a3 r1) (obs_cons h0 (obs_cons h1 (obs_cons h2 (obs_cons (xB8 h3) obs_nil))))
theorem xAB {N : Nat} {a0 : Wld} {a1 : Int} {a2 : Int} {a3 : Rea} {r : Val} (h : xBh N  a0 a1 a2 a3 = some r) : AbC 45 (xAi a0 a1 a2 a3) (xAd r) :=
 AbsCalls.of_reach fk45 rfl rfl (Nat.le_of_ble_eq_true rfl) (c45_e a0 a1 a2 a3 r h)
noncomputable def I138 : Info := { body := (Try.f138.body).getD .skip, nt := 15, results := [.tmp 4], keep := [0, 2, 4, 6, 8, 18, 28, 5, 7], live := [], modes := [], ext := [], lnt := [], casts := [], fcast := [] }
theorem fk138 : FnOk Try.prog 138 Try.f138 I138 := ⟨Try.func138, by kernel_rfl, by kernel_rfl, by kernel_rfl, by kernel_rfl⟩
theorem p138_e_0 (a0 a1 : Fil) : run tt (AbsCalls Try.prog) I138 3000 false [.code I138.body] ⟨(zBg 0 (xCN a0 a1)), [true], [], []⟩ = some (.done (xB4 false) [(!(((Fil.name a0) : Str) == (Fil.name a1))) = true]) := by kernel_rfl
theorem p138_e_1 (a0 a1 : Fil) : run tt (AbsCalls Try.prog) I138 3000 false [.code I138.body] ⟨(zBg 0 (xCN a0 a1)), [false, true], [], []⟩ = some (.done (xB4 false) [(!(((Fil.name a0) : Str) == (Fil.name a1))) = false, (((Fil.n a0) : Int) != (Fil.n a1)) = true]) := by kernel_rfl
theorem p138_e_2 (a0 a1 : Fil) : run tt (AbsCalls Try.prog) I138 3000 false [.code I138.body] ⟨(zBg 0 (xCN a0 a1)), [false, false], [], []⟩ = some (.done (xB4 true) [(!(((Fil.name a0) : Str) == (Fil.name a1))) = false, (((Fil.n a0) : Int) != (Fil.n a1)) = false]) := by kernel_rfl
theorem c138_e {N : Nat} : ∀ a0 a1 r, xD3 N a0 a1 = some r → Reach Try.prog Try.f138 I138 [.code I138.body] (zBg 0 (xCN a0 a1)) (xB4 r) := by
 intro a0 a1 r h
 unfold xD3 at h
 rcases cond_inv h with ⟨h0, h⟩ | ⟨h0, h⟩
 ·obtain rfl := Option.some.inj h
  exact Reach.done ttok mix fk138 (p138_e_0 a0 a1) (obs_cons h0 obs_nil)
 ·rcases cond_inv h with ⟨h1, h⟩ | ⟨h1, h⟩
  ·obtain rfl := Option.some.inj h
   exact Reach.done ttok mix fk138 (p138_e_1 a0 a1) (obs_cons h0 (obs_cons h1 obs_nil))
  ·obtain rfl := Option.some.inj h
   exact Reach.done ttok mix fk138 (p138_e_2 a0 a1) (obs_cons h0 (obs_cons h1 obs_nil))
theorem xE8 {N : Nat} {a0 : Fil} {a1 : Fil} {r : Bool} (h : xD3 N  a0 a1 = some r) : AbC 138 (xCN a0 a1) (xB4 r) :=
 AbsCalls.of_reach fk138 rfl rfl (Nat.le_of_ble_eq_true rfl) (c138_e a0 a1 r h)
noncomputable def I106 : Info := { body := (Try.f106.body).getD .skip, nt := 27, results := [.tmp 4], keep := [0, 2, 8, 10, 20, 28, 52], live := [(4, [0, 2, 10])], modes := [], ext := [], lnt := [], casts := [], fcast := [] }
theorem fk106 : FnOk Try.prog 106 Try.f106 I106 := ⟨Try.func106, by kernel_rfl, by kernel_rfl, by kernel_rfl, by kernel_rfl⟩
def S106_4 (x0 x1 : List Fil) (x5 : Int) : St := [(0, .v false [.sl .ro .fil x0]), (2, .v false [.sl .ro .fil x1]), (10, .v false [.int .i64 x5])]
theorem p106_4_0 (x0 x1 : List Fil) (x5 : Int) (r1 : Bool) : run tt (AbsCalls Try.prog) I106 3000 true (stkAt 4 I106.body) ⟨(S106_4 x0 x1 x5), [true, true], [xB4 r1], []⟩ = some (.done (xBy false) [(decide ((x5 : Int) < (List.length x0 : Int))) = true, (0 : Int) ≤ x5 ∧ x5 < (List.length x0), (0 : Int) ≤ x5 ∧ x5 < (List.length x1), AbC 138 (xCN (List.getD x0 (Int.toNat x5) Ty.fil.dflt) (List.getD x1 (Int.toNat x5) Ty.fil.dflt)) (xB4 r1), (!r1) = true]) := by kernel_rfl
theorem p106_4_1 (x0 x1 : List Fil) (x5 : Int) (r1 : Bool) : run tt (AbsCalls Try.prog) I106 3000 true (stkAt 4 I106.body) ⟨(S106_4 x0 x1 x5), [true, false], [xB4 r1], []⟩ = some (.stop (stkAt 4 I106.body) (S106_4 x0 x1 (IntKind.i64.wrap (x5 + 1))) [(decide ((x5 : Int) < (List.length x0 : Int))) = true, (0 : Int) ≤ x5 ∧ x5 < (List.length x0), (0 : Int) ≤ x5 ∧ x5 < (List.length x1), AbC 138 (xCN (List.getD x0 (Int.toNat x5) Ty.fil.dflt) (List.getD x1 (Int.toNat x5) Ty.fil.dflt)) (xB4 r1), (!r1) = false]) := by kernel_rfl
theorem p106_4_2 (x0 x1 : List Fil) (x5 : Int) : run tt (AbsCalls Try.prog) I106 3000 true (stkAt 4 I106.body) ⟨(S106_4 x0 x1 x5), [false], [], []⟩ = some (.done (xBy true) [(decide ((x5 : Int) < (List.length x0 : Int))) = false]) := by kernel_rfl
theorem p106_e_3 (a0 a1 : List Fil) : run tt (AbsCalls Try.prog) I106 3000 false [.code I106.body] ⟨(zBg 0 (xCU a0 a1)), [true], [], []⟩ = some (.done (xBy false) [(((List.length a0 : Int) : Int) != (List.length a1 : Int)) = true]) := by kernel_rfl
theorem p106_e_4 (a0 a1 : List Fil) : run tt (AbsCalls Try.prog) I106 3000 false [.code I106.body] ⟨(zBg 0 (xCU a0 a1)), [false], [], []⟩ = some (.stop (stkAt 4 I106.body) (S106_4 a0 a1 0) [(((List.length a0 : Int) : Int) != (List.length a1 : Int)) = false]) := by kernel_rfl
theorem c106_4 {N : Nat} : ∀ n x0 x1 x5 r, xCB N n x0 x1 x5 = some r → Reach Try.prog Try.f106 I106 (stkAt 4 I106.body) (S106_4 x0 x1 x5) (xBy r) := by
 intro n
 induction n with
 | zero => intro x0 x1 x5 r h; have h' : (none : Option (Bool)) = some r := h; cases h'
 | succ n ih =>
  intro x0 x1 x5 r h
  rw [xCB] at h
  rcases cond_inv h with ⟨h0, h⟩ | ⟨h0, h⟩
  ·obtain ⟨h1, h⟩ := ite_inv h
   obtain ⟨h2, h⟩ := ite_inv h
   obtain ⟨r1, h3, h⟩ := bind_inv h
   rcases cond_inv h with ⟨h4, h⟩ | ⟨h4, h⟩
   ·obtain rfl := Option.some.inj h
    exact Reach.done ttok mix fk106 (p106_4_0 x0 x1 x5 r1) (obs_cons h0 (obs_cons h1 (obs_cons h2 (obs_cons (xE8 h3) (obs_cons h4 obs_nil)))))
   ·exact Reach.stop ttok mix fk106 (p106_4_1 x0 x1 x5 r1) (obs_cons h0 (obs_cons h1 (obs_cons h2 (obs_cons (xE8 h3) (obs_cons h4 obs_nil))))) (ih _ _ _ _ h)
  ·obtain rfl := Option.some.inj h
   exact Reach.done ttok mix fk106 (p106_4_2 x0 x1 x5) (obs_cons h0 obs_nil)
theorem c106_e {N : Nat} : ∀ a0 a1 r, xDT N a0 a1 = some r → Reach Try.prog Try.f106 I106 [.code I106.body] (zBg 0 (xCU a0 a1)) (xBy r) := by
 intro a0 a1 r h
 unfold xDT at h
 rcases cond_inv h with ⟨h0, h⟩ | ⟨h0, h⟩
 ·obtain rfl := Option.some.inj h
  exact Reach.done ttok mix fk106 (p106_e_3 a0 a1) (obs_cons h0 obs_nil)
 ·exact Reach.stop ttok mix fk106 (p106_e_4 a0 a1) (obs_cons h0 obs_nil) (c106_4   _ _ _ _ _ h)
theorem xER {N : Nat} {a0 : List Fil} {a1 : List Fil} {r : Bool} (h : xDT N  a0 a1 = some r) : AbC 106 (xCU a0 a1) (xBy r) :=
 AbsCalls.of_reach fk106 rfl rfl (Nat.le_of_ble_eq_true rfl) (c106_e a0 a1 r h)
noncomputable def I46 : Info := { body := (Try.f46.body).getD .skip, nt := 21, results := [.tmp 4], keep := [0, 2, 4, 6, 8, 18, 28, 40, 5, 7], live := [], modes := [], ext := [], lnt := [], casts := [], fcast := [] }
theorem fk46 : FnOk Try.prog 46 Try.f46 I46 := ⟨Try.func46, by kernel_rfl, by kernel_rfl, by kernel_rfl, by kernel_rfl⟩
theorem p46_e_0 (a0 a1 : Wld) : run tt (AbsCalls Try.prog) I46 3000 false [.code I46.body] ⟨(zBg 0 (xAO a0 a1)), [true], [], []⟩ = some (.done (xAt false) [(((Wld.clock a0) : Int) != (Wld.clock a1)) = true]) := by kernel_rfl
theorem p46_e_1 (a0 a1 : Wld) : run tt (AbsCalls Try.prog) I46 3000 false [.code I46.body] ⟨(zBg 0 (xAO a0 a1)), [false, true], [], []⟩ = some (.done (xAt false) [(((Wld.clock a0) : Int) != (Wld.clock a1)) = false, (((Wld.seed a0) : Int) != (Wld.seed a1)) = true]) := by kernel_rfl
theorem p46_e_2 (a0 a1 : Wld) (r1 : Bool) : run tt (AbsCalls Try.prog) I46 3000 false [.code I46.body] ⟨(zBg 0 (xAO a0 a1)), [false, false, true], [xBy r1], []⟩ = some (.done (xAt false) [(((Wld.clock a0) : Int) != (Wld.clock a1)) = false, (((Wld.seed a0) : Int) != (Wld.seed a1)) = false, AbC 106 (xCU (Wld.files a0) (Wld.files a1)) (xBy r1), (!r1) = true]) := by kernel_rfl
theorem p46_e_3 (a0 a1 : Wld) (r1 : Bool) : run tt (AbsCalls Try.prog) I46 3000 false [.code I46.body] ⟨(zBg 0 (xAO a0 a1)), [false, false, false], [xBy r1], []⟩ = some (.done (xAt true) [(((Wld.clock a0) : Int) != (Wld.clock a1)) = false, (((Wld.seed a0) : Int) != (Wld.seed a1)) = false, AbC 106 (xCU (Wld.files a0) (Wld.files a1)) (xBy r1), (!r1) = false]) := by kernel_rfl
theorem c46_e {N : Nat} : ∀ a0 a1 r, xDs N a0 a1 = some r → Reach Try.prog Try.f46 I46 [.code I46.body] (zBg 0 (xAO a0 a1)) (xAt r) := by
 intro a0 a1 r h
 unfold xDs at h
 rcases cond_inv h with ⟨h0, h⟩ | ⟨h0, h⟩
 ·obtain rfl := Option.some.inj h
  exact Reach.done ttok mix fk46 (p46_e_0 a0 a1) (obs_cons h0 obs_nil)
 ·rcases cond_inv h with ⟨h1, h⟩ | ⟨h1, h⟩
  ·obtain rfl := Option.some.inj h
   exact Reach.done ttok mix fk46 (p46_e_1 a0 a1) (obs_cons h0 (obs_cons h1 obs_nil))
  ·obtain ⟨r1, h2, h⟩ := bind_inv h
   rcases cond_inv h with ⟨h3, h⟩ | ⟨h3, h⟩
   ·obtain rfl := Option.some.inj h
    exact Reach.done ttok mix fk46 (p46_e_2 a0 a1 r1) (obs_cons h0 (obs_cons h1 (obs_cons (xER h2) (obs_cons h3 obs_nil))))
   ·obtain rfl := Option.some.inj h
    exact Reach.done ttok mix fk46 (p46_e_3 a0 a1 r1) (obs_cons h0 (obs_cons h1 (obs_cons (xER h2) (obs_cons h3 obs_nil))))
theorem xBz {N : Nat} {a0 : Wld} {a1 : Wld} {r : Bool} (h : xDs N  a0 a1 = some r) : AbC 46 (xAO a0 a1) (xAt r) :=
 AbsCalls.of_reach fk46 rfl rfl (Nat.le_of_ble_eq_true rfl) (c46_e a0 a1 r h)
noncomputable def I107 : Info := { body := (Try.f107.body).getD .skip, nt := 28, results := [.tmp 4], keep := [0, 2, 8, 10, 18], live := [(2, [0, 2, 10])], modes := [(4, [(0, .ref, false)]), (6, [(0, .ref, false)])], ext := [], lnt := [(0, 0)], casts := [], fcast := [] }
theorem fk107 : FnOk Try.prog 107 Try.f107 I107 := ⟨Try.func107, by kernel_rfl, by kernel_rfl, by kernel_rfl, by kernel_rfl⟩
def S107_2 (x0 : List Fil) (x1 x5 : Int) : St := [(0, .v false [.sl (.lnt 0) .fil x0]), (2, .v false [.int .i64 x1]), (10, .v false [.int .i64 x5])]
theorem p107_2_0 (x0 : List Fil) (x1 x5 : Int) (r1 : Str) : run tt (AbsCalls Try.prog) I107 3000 true (stkAt 2 I107.body) ⟨(S107_2 x0 x1 x5), [true], [xAr r1], []⟩ = some (.stop (stkAt 2 I107.body) (S107_2 ((fun (z1 : List Fil) => List.set z1 (Int.toNat x5) (Fil.mk (Fil.name (List.getD z1 (Int.toNat x5) Ty.fil.dflt)) (IntKind.i64.wrap (x1 + 1)))) (List.set x0 (Int.toNat x5) (Fil.mk r1 (Fil.n (List.getD x0 (Int.toNat x5) Ty.fil.dflt))))) (IntKind.i64.wrap ((IntKind.i64.wrap (x1 + 1)) + 1)) (IntKind.i64.wrap (x5 + 1))) [(decide ((x5 : Int) < (List.length x0 : Int))) = true, AbC 79 (xAU x1) (xAr r1), (0 : Int) ≤ x5 ∧ x5 < (List.length x0), (0 : Int) ≤ x5 ∧ x5 < (List.length (List.set x0 (Int.toNat x5) (Fil.mk r1 (Fil.n (List.getD x0 (Int.toNat x5) Ty.fil.dflt)))))]) := by kernel_rfl
theorem p107_2_1 (x0 : List Fil) (x1 x5 : Int) : run tt (AbsCalls Try.prog) I107 3000 true (stkAt 2 I107.body) ⟨(S107_2 x0 x1 x5), [false], [], []⟩ = some (.done (xCw (x1, x0)) [(decide ((x5 : Int) < (List.length x0 : Int))) = false]) := by kernel_rfl
theorem p107_e_2 (a0 : List Fil) (a1 : Int) : run tt (AbsCalls Try.prog) I107 3000 false [.code I107.body] ⟨(zBg 0 (xDz a0 a1)), [], [], []⟩ = some (.stop (stkAt 2 I107.body) (S107_2 a0 a1 0) []) := by kernel_rfl
theorem c107_2 {N : Nat} : ∀ n x0 x1 x5 r, xBY N n x0 x1 x5 = some r → Reach Try.prog Try.f107 I107 (stkAt 2 I107.body) (S107_2 x0 x1 x5) (xCw r) := by
 intro n
 induction n with
 | zero => intro x0 x1 x5 r h; have h' : (none : Option (Int × (List Fil))) = some r := h; cases h'
 | succ n ih =>
  intro x0 x1 x5 r h
  rw [xBY] at h
  rcases cond_inv h with ⟨h0, h⟩ | ⟨h0, h⟩
  ·obtain ⟨r1, h1, h⟩ := bind_inv h
   obtain ⟨h2, h⟩ := ite_inv h
   obtain ⟨h3, h⟩ := ite_inv h
   exact Reach.stop ttok mix fk107 (p107_2_0 x0 x1 x5 r1) (obs_cons h0 (obs_cons (xBq h1) (obs_cons h2 (obs_cons h3 obs_nil)))) (ih _ _ _ _ h)
  ·obtain rfl := Option.some.inj h
   exact Reach.done ttok mix fk107 (p107_2_1 x0 x1 x5) (obs_cons h0 obs_nil)
theorem c107_e {N : Nat} : ∀ a0 a1 r, xDh N a0 a1 = some r → Reach Try.prog Try.f107 I107 [.code I107.body] (zBg 0 (xDz a0 a1)) (xCw r) := by
 intro a0 a1 r h
 unfold xDh at h
 exact Reach.stop ttok mix fk107 (p107_e_2 a0 a1) obs_nil (c107_2   _ _ _ _ _ h)
theorem laws_markFileS_ok {N : Nat} {a0 : List Fil} {a1 : Int} {r : Int × (List Fil)} (h : xDh N  a0 a1 = some r) : AbC 107 (xDz a0 a1) (xCw r) :=
 AbsCalls.of_reach fk107 rfl rfl (Nat.le_of_ble_eq_true rfl) (c107_e a0 a1 r h)
noncomputable def I47 : Info := { body := (Try.f47.body).getD .skip, nt := 10, results := [.tmp 4], keep := [0, 2, 4, 8, 5], live := [], modes := [(1, [(1, .ref, false), (3, .ref, false)])], ext := [], lnt := [(5, 2)], casts := [], fcast := [] }
theorem fk47 : FnOk Try.prog 47 Try.f47 I47 := ⟨Try.func47, by kernel_rfl, by kernel_rfl, by kernel_rfl, by kernel_rfl⟩
theorem p47_e_0 (a0 : Wld) (a1 : Int) (r1 : Int × (List Fil)) : run tt (AbsCalls Try.prog) I47 3000 false [.code I47.body] ⟨(zBg 0 (xA5 a0 a1)), [], [xCw r1], []⟩ = some (.done (xAx (r1.1, r1.2)) [AbC 107 (xDz (Wld.files a0) a1) (xCw r1), List.length r1.2 = List.length (Wld.files a0)]) := by kernel_rfl
theorem c47_e {N : Nat} : ∀ a0 a1 r, xDi N a0 a1 = some r → Reach Try.prog Try.f47 I47 [.code I47.body] (zBg 0 (xA5 a0 a1)) (xAx r) := by
 intro a0 a1 r h
 unfold xDi at h
 obtain ⟨r1, h0, h⟩ := bind_inv h
 obtain ⟨h1, h⟩ := ite_inv h
 obtain rfl := Option.some.inj h
 exact Reach.done ttok mix fk47 (p47_e_0 a0 a1 r1) (obs_cons (laws_markFileS_ok h0) (obs_cons h1 obs_nil))
theorem xBJ {N : Nat} {a0 : Wld} {a1 : Int} {r : Int × (List Fil)} (h : xDi N  a0 a1 = some r) : AbC 47 (xA5 a0 a1) (xAx r) :=
 AbsCalls.of_reach fk47 rfl rfl (Nat.le_of_ble_eq_true rfl) (c47_e a0 a1 r h)
noncomputable def I38 : Info := { body := (Try.f38.body).getD .skip, nt := 10, results := [.tmp 4], keep := [0, 2, 4, 8, 5], live := [], modes := [(1, [(1, .ref, false), (3, .ref, false)])], ext := [], lnt := [(5, 8), (5, 9), (5, 10)], casts := [], fcast := [] }
theorem fk38 : FnOk Try.prog 38 Try.f38 I38 := ⟨Try.func38, by kernel_rfl, by kernel_rfl, by kernel_rfl, by kernel_rfl⟩
theorem p38_e_0 (a0 : Rea) (a1 : Int) (r1 : Int × (List Val) × (List Str) × (List Rowd)) : run tt (AbsCalls Try.prog) I38 3000 false [.code I38.body] ⟨(zBg 0 (xBc a0 a1)), [], [xAE r1], []⟩ = some (.done (xAC (r1.1, r1.2.1, r1.2.2.1, r1.2.2.2)) [AbC 22 (xBj (Rea.result a0) a1) (xAE r1), List.length r1.2.1 = List.length (Val.list (Rea.result a0)), List.length r1.2.2.1 = List.length (Val.columns (Rea.result a0)), List.length r1.2.2.2 = List.length (Val.rows (Rea.result a0))]) := by kernel_rfl
theorem c38_e {N : Nat} : ∀ a0 a1 r, xDY N a0 a1 = some r → Reach Try.prog Try.f38 I38 [.code I38.body] (zBg 0 (xBc a0 a1)) (xAC r) := by
 intro a0 a1 r h
 unfold xDY at h
 obtain ⟨r1, h0, h⟩ := bind_inv h
 obtain ⟨h1, h⟩ := ite_inv h
 obtain ⟨h2, h⟩ := ite_inv h
 obtain ⟨h3, h⟩ := ite_inv h
 obtain rfl := Option.some.inj h
 exact Reach.done ttok mix fk38 (p38_e_0 a0 a1 r1) (obs_cons (xB0 h0) (obs_cons h1 (obs_cons h2 (obs_cons h3 obs_nil))))
theorem xBQ {N : Nat} {a0 : Rea} {a1 : Int} {r : Int × (List Val) × (List Str) × (List Rowd)} (h : xDY N  a0 a1 = some r) : AbC 38 (xBc a0 a1) (xAC r) :=
 AbsCalls.of_reach fk38 rfl rfl (Nat.le_of_ble_eq_true rfl) (c38_e a0 a1 r h)
noncomputable def I7 : Info := { body := (Try.f7.body).getD .skip, nt := 102, results := [.tmp 8], keep := [0, 2, 4, 6, 8, 14, 16, 18, 20, 22, 24, 26, 28, 30, 32, 34, 44, 54, 94, 104, 114, 142, 158, 164, 186, 196, 202, 9, 15, 21, 23, 25, 27, 35], live := [], modes := [(19, [(0, .ref, false), (2, .ref, false)]), (20, [(0, .ref, false), (2, .ref, false)]), (21, [(2, .take, false)]), (24, [(0, .ref, false), (2, .ref, false)])], ext := [], lnt := [], casts := [], fcast := [] }
theorem fk7 : FnOk Try.prog 7 Try.f7 I7 := ⟨Try.func7, by kernel_rfl, by kernel_rfl, by kernel_rfl, by kernel_rfl⟩
theorem p7_e_0 (a0 : Wld) (a1 a2 : Int) (a3 : Rea) (r1 : Int) : run tt (AbsCalls Try.prog) I7 3000 false [.code I7.body] ⟨(zBg 0 (xAm a0 a1 a2 a3)), [true], [xAp r1], []⟩ = some (.done (xAn true) [AbC 42 (xAK a0 1048576) (xAp r1), (decide ((r1 : Int) < 0)) = true]) := by kernel_rfl
theorem p7_e_1 (a0 : Wld) (a1 a2 : Int) (a3 : Rea) (r1 r2 : Int) : run tt (AbsCalls Try.prog) I7 3000 false [.code I7.body] ⟨(zBg 0 (xAm a0 a1 a2 a3)), [false, true], [xAp r1, xAs r2], []⟩ = some (.done (xAn true) [AbC 42 (xAK a0 1048576) (xAp r1), (decide ((r1 : Int) < 0)) = false, AbC 30 (xAR a3 r1) (xAs r2), (decide ((r2 : Int) < 0)) = true]) := by kernel_rfl
theorem p7_e_2 (a0 : Wld) (a1 a2 : Int) (a3 : Rea) (r1 r2 : Int) (r3 : Wld) (r4 : Rea) (r5 : Val) (r6 : Wld) (r7 : Rea) (r8 : Val) (r9 : Bool) : run tt (AbsCalls Try.prog) I7 3000 false [.code I7.body] ⟨(zBg 0 (xAm a0 a1 a2 a3)), [false, false, true], [xAp r1, xAs r2, xAa r3, xAc r4, xAe r5, xAa r6, xAc r7, xAd r8, xAb r9], []⟩ = some (.done (xAn false) [AbC 42 (xAK a0 1048576) (xAp r1), (decide ((r1 : Int) < 0)) = false, AbC 30 (xAR a3 r1) (xAs r2), (decide ((r2 : Int) < 0)) = false, AbC 44 (xAh a0) (xAa r3), AbC 33 (xAk a3) (xAc r4), AbC 43 (xAo r3 a1 a2 r4) (xAe r5), AbC 44 (xAh a0) (xAa r6), AbC 33 (xAk a3) (xAc r7), AbC 45 (xAi r6 a1 a2 r7) (xAd r8), AbC 19 (xAf r8 r5) (xAb r9), (!r9) = true]) := by kernel_rfl
theorem p7_e_3 (a0 : Wld) (a1 a2 : Int) (a3 : Rea) (r1 r2 : Int) (r3 : Wld) (r4 : Rea) (r5 : Val) (r6 : Wld) (r7 : Rea) (r8 : Val) (r9 : Bool) (r10 : Wld) (r11 : Bool) : run tt (AbsCalls Try.prog) I7 3000 false [.code I7.body] ⟨(zBg 0 (xAm a0 a1 a2 a3)), [false, false, false, true], [xAp r1, xAs r2, xAa r3, xAc r4, xAe r5, xAa r6, xAc r7, xAd r8, xAb r9, xAa r10, xAt r11], []⟩ = some (.done (xAn false) [AbC 42 (xAK a0 1048576) (xAp r1), (decide ((r1 : Int) < 0)) = false, AbC 30 (xAR a3 r1) (xAs r2), (decide ((r2 : Int) < 0)) = false, AbC 44 (xAh a0) (xAa r3), AbC 33 (xAk a3) (xAc r4), AbC 43 (xAo r3 a1 a2 r4) (xAe r5), AbC 44 (xAh a0) (xAa r6), AbC 33 (xAk a3) (xAc r7), AbC 45 (xAi r6 a1 a2 r7) (xAd r8), AbC 19 (xAf r8 r5) (xAb r9), (!r9) = false, AbC 44 (xAh a0) (xAa r10), AbC 46 (xAO r6 r10) (xAt r11), (!r11) = true]) := by kernel_rfl
theorem p7_e_4 (a0 : Wld) (a1 a2 : Int) (a3 : Rea) (r1 r2 : Int) (r3 : Wld) (r4 : Rea) (r5 : Val) (r6 : Wld) (r7 : Rea) (r8 : Val) (r9 : Bool) (r10 : Wld) (r11 : Bool) (r12 : Rea) (r13 : Bool) : run tt (AbsCalls Try.prog) I7 3000 false [.code I7.body] ⟨(zBg 0 (xAm a0 a1 a2 a3)), [false, false, false, false, true], [xAp r1, xAs r2, xAa r3, xAc r4, xAe r5, xAa r6, xAc r7, xAd r8, xAb r9, xAa r10, xAt r11, xAc r12, xAv r13], []⟩ = some (.done (xAn false) [AbC 42 (xAK a0 1048576) (xAp r1), (decide ((r1 : Int) < 0)) = false, AbC 30 (xAR a3 r1) (xAs r2), (decide ((r2 : Int) < 0)) = false, AbC 44 (xAh a0) (xAa r3), AbC 33 (xAk a3) (xAc r4), AbC 43 (xAo r3 a1 a2 r4) (xAe r5), AbC 44 (xAh a0) (xAa r6), AbC 33 (xAk a3) (xAc r7), AbC 45 (xAi r6 a1 a2 r7) (xAd r8), AbC 19 (xAf r8 r5) (xAb r9), (!r9) = false, AbC 44 (xAh a0) (xAa r10), AbC 46 (xAO r6 r10) (xAt r11), (!r11) = false, AbC 33 (xAk a3) (xAc r12), AbC 36 (xAQ r7 r12) (xAv r13), (!r13) = true]) := by kernel_rfl
theorem p7_e_5 (a0 : Wld) (a1 a2 : Int) (a3 : Rea) (r1 r2 : Int) (r3 : Wld) (r4 : Rea) (r5 : Val) (r6 : Wld) (r7 : Rea) (r8 : Val) (r9 : Bool) (r10 : Wld) (r11 : Bool) (r12 : Rea) (r13 : Bool) (r14 : Int × (List Fil)) (r15 : Int × (List Val) × (List Str) × (List Rowd)) : run tt (AbsCalls Try.prog) I7 3000 false [.code I7.body] ⟨(zBg 0 (xAm a0 a1 a2 a3)), [false, false, false, false, false, true, true], [xAp r1, xAs r2, xAa r3, xAc r4, xAe r5, xAa r6, xAc r7, xAd r8, xAb r9, xAa r10, xAt r11, xAc r12, xAv r13, xAx r14, xAC r15], []⟩ = some (.done (xAn false) [AbC 42 (xAK a0 1048576) (xAp r1), (decide ((r1 : Int) < 0)) = false, AbC 30 (xAR a3 r1) (xAs r2), (decide ((r2 : Int) < 0)) = false, AbC 44 (xAh a0) (xAa r3), AbC 33 (xAk a3) (xAc r4), AbC 43 (xAo r3 a1 a2 r4) (xAe r5), AbC 44 (xAh a0) (xAa r6), AbC 33 (xAk a3) (xAc r7), AbC 45 (xAi r6 a1 a2 r7) (xAd r8), AbC 19 (xAf r8 r5) (xAb r9), (!r9) = false, AbC 44 (xAh a0) (xAa r10), AbC 46 (xAO r6 r10) (xAt r11), (!r11) = false, AbC 33 (xAk a3) (xAc r12), AbC 36 (xAQ r7 r12) (xAv r13), (!r13) = false, AbC 47 (xA5 r6 1) (xAx r14), List.length r14.2 = List.length (Wld.files r6), AbC 38 (xBc r7 r14.1) (xAC r15), List.length r15.2.1 = List.length (Val.list (Rea.result r7)), List.length r15.2.2.1 = List.length (Val.columns (Rea.result r7)), List.length r15.2.2.2 = List.length (Val.rows (Rea.result r7)), (decide ((r15.1 : Int) < 0)) = true, true = true]) := by kernel_rfl
theorem p7_e_6 (a0 : Wld) (a1 a2 : Int) (a3 : Rea) (r1 r2 : Int) (r3 : Wld) (r4 : Rea) (r5 : Val) (r6 : Wld) (r7 : Rea) (r8 : Val) (r9 : Bool) (r10 : Wld) (r11 : Bool) (r12 : Rea) (r13 : Bool) (r14 : Int × (List Fil)) (r15 : Int × (List Val) × (List Str) × (List Rowd)) (r16 : Bool) : run tt (AbsCalls Try.prog) I7 3000 false [.code I7.body] ⟨(zBg 0 (xAm a0 a1 a2 a3)), [false, false, false, false, false, false, true], [xAp r1, xAs r2, xAa r3, xAc r4, xAe r5, xAa r6, xAc r7, xAd r8, xAb r9, xAa r10, xAt r11, xAc r12, xAv r13, xAx r14, xAC r15, xAb r16], []⟩ = some (.done (xAn false) [AbC 42 (xAK a0 1048576) (xAp r1), (decide ((r1 : Int) < 0)) = false, AbC 30 (xAR a3 r1) (xAs r2), (decide ((r2 : Int) < 0)) = false, AbC 44 (xAh a0) (xAa r3), AbC 33 (xAk a3) (xAc r4), AbC 43 (xAo r3 a1 a2 r4) (xAe r5), AbC 44 (xAh a0) (xAa r6), AbC 33 (xAk a3) (xAc r7), AbC 45 (xAi r6 a1 a2 r7) (xAd r8), AbC 19 (xAf r8 r5) (xAb r9), (!r9) = false, AbC 44 (xAh a0) (xAa r10), AbC 46 (xAO r6 r10) (xAt r11), (!r11) = false, AbC 33 (xAk a3) (xAc r12), AbC 36 (xAQ r7 r12) (xAv r13), (!r13) = false, AbC 47 (xA5 r6 1) (xAx r14), List.length r14.2 = List.length (Wld.files r6), AbC 38 (xBc r7 r14.1) (xAC r15), List.length r15.2.1 = List.length (Val.list (Rea.result r7)), List.length r15.2.2.1 = List.length (Val.columns (Rea.result r7)), List.length r15.2.2.2 = List.length (Val.rows (Rea.result r7)), (decide ((r15.1 : Int) < 0)) = false, AbC 19 (xAf r8 r5) (xAb r16), (!r16) = true]) := by kernel_rfl
theorem p7_e_7 (a0 : Wld) (a1 a2 : Int) (a3 : Rea) (r1 r2 : Int) (r3 : Wld) (r4 : Rea) (r5 : Val) (r6 : Wld) (r7 : Rea) (r8 : Val) (r9 : Bool) (r10 : Wld) (r11 : Bool) (r12 : Rea) (r13 : Bool) (r14 : Int × (List Fil)) (r15 : Int × (List Val) × (List Str) × (List Rowd)) (r16 : Bool) (r17 : Int × (List Val) × (List Str) × (List Rowd)) (r18 : Int) : run tt (AbsCalls Try.prog) I7 3000 false [.code I7.body] ⟨(zBg 0 (xAm a0 a1 a2 a3)), [false, false, false, false, false, false, false, true], [xAp r1, xAs r2, xAa r3, xAc r4, xAe r5, xAa r6, xAc r7, xAd r8, xAb r9, xAa r10, xAt r11, xAc r12, xAv r13, xAx r14, xAC r15, xAb r16, xAE r17, xAq r18], []⟩ = some (.done (xAn false) [AbC 42 (xAK a0 1048576) (xAp r1), (decide ((r1 : Int) < 0)) = false, AbC 30 (xAR a3 r1) (xAs r2), (decide ((r2 : Int) < 0)) = false, AbC 44 (xAh a0) (xAa r3), AbC 33 (xAk a3) (xAc r4), AbC 43 (xAo r3 a1 a2 r4) (xAe r5), AbC 44 (xAh a0) (xAa r6), AbC 33 (xAk a3) (xAc r7), AbC 45 (xAi r6 a1 a2 r7) (xAd r8), AbC 19 (xAf r8 r5) (xAb r9), (!r9) = false, AbC 44 (xAh a0) (xAa r10), AbC 46 (xAO r6 r10) (xAt r11), (!r11) = false, AbC 33 (xAk a3) (xAc r12), AbC 36 (xAQ r7 r12) (xAv r13), (!r13) = false, AbC 47 (xA5 r6 1) (xAx r14), List.length r14.2 = List.length (Wld.files r6), AbC 38 (xBc r7 r14.1) (xAC r15), List.length r15.2.1 = List.length (Val.list (Rea.result r7)), List.length r15.2.2.1 = List.length (Val.columns (Rea.result r7)), List.length r15.2.2.2 = List.length (Val.rows (Rea.result r7)), (decide ((r15.1 : Int) < 0)) = false, AbC 19 (xAf r8 r5) (xAb r16), (!r16) = false, AbC 22 (xBj r8 1) (xAE r17), List.length r17.2.1 = List.length (Val.list r8), List.length r17.2.2.1 = List.length (Val.columns r8), List.length r17.2.2.2 = List.length (Val.rows r8), AbC 23 (xAI (Val.mk (Val.kind r8) (Val.n r8) (Val.step r8) (Val.text r8) r17.2.1 r17.2.2.1 r17.2.2.2) 1) (xAq r18), (decide ((r18 : Int) < 0)) = true]) := by kernel_rfl
theorem p7_e_8 (a0 : Wld) (a1 a2 : Int) (a3 : Rea) (r1 r2 : Int) (r3 : Wld) (r4 : Rea) (r5 : Val) (r6 : Wld) (r7 : Rea) (r8 : Val) (r9 : Bool) (r10 : Wld) (r11 : Bool) (r12 : Rea) (r13 : Bool) (r14 : Int × (List Fil)) (r15 : Int × (List Val) × (List Str) × (List Rowd)) (r16 : Bool) (r17 : Int × (List Val) × (List Str) × (List Rowd)) (r18 : Int) : run tt (AbsCalls Try.prog) I7 3000 false [.code I7.body] ⟨(zBg 0 (xAm a0 a1 a2 a3)), [false, false, false, false, false, false, false, false, true], [xAp r1, xAs r2, xAa r3, xAc r4, xAe r5, xAa r6, xAc r7, xAd r8, xAb r9, xAa r10, xAt r11, xAc r12, xAv r13, xAx r14, xAC r15, xAb r16, xAE r17, xAq r18], []⟩ = some (.done (xAn false) [AbC 42 (xAK a0 1048576) (xAp r1), (decide ((r1 : Int) < 0)) = false, AbC 30 (xAR a3 r1) (xAs r2), (decide ((r2 : Int) < 0)) = false, AbC 44 (xAh a0) (xAa r3), AbC 33 (xAk a3) (xAc r4), AbC 43 (xAo r3 a1 a2 r4) (xAe r5), AbC 44 (xAh a0) (xAa r6), AbC 33 (xAk a3) (xAc r7), AbC 45 (xAi r6 a1 a2 r7) (xAd r8), AbC 19 (xAf r8 r5) (xAb r9), (!r9) = false, AbC 44 (xAh a0) (xAa r10), AbC 46 (xAO r6 r10) (xAt r11), (!r11) = false, AbC 33 (xAk a3) (xAc r12), AbC 36 (xAQ r7 r12) (xAv r13), (!r13) = false, AbC 47 (xA5 r6 1) (xAx r14), List.length r14.2 = List.length (Wld.files r6), AbC 38 (xBc r7 r14.1) (xAC r15), List.length r15.2.1 = List.length (Val.list (Rea.result r7)), List.length r15.2.2.1 = List.length (Val.columns (Rea.result r7)), List.length r15.2.2.2 = List.length (Val.rows (Rea.result r7)), (decide ((r15.1 : Int) < 0)) = false, AbC 19 (xAf r8 r5) (xAb r16), (!r16) = false, AbC 22 (xBj r8 1) (xAE r17), List.length r17.2.1 = List.length (Val.list r8), List.length r17.2.2.1 = List.length (Val.columns r8), List.length r17.2.2.2 = List.length (Val.rows r8), AbC 23 (xAI (Val.mk (Val.kind r8) (Val.n r8) (Val.step r8) (Val.text r8) r17.2.1 r17.2.2.1 r17.2.2.2) 1) (xAq r18), (decide ((r18 : Int) < 0)) = false, ((r18 : Int) != r17.1) = true]) := by kernel_rfl
theorem p7_e_9 (a0 : Wld) (a1 a2 : Int) (a3 : Rea) (r1 r2 : Int) (r3 : Wld) (r4 : Rea) (r5 : Val) (r6 : Wld) (r7 : Rea) (r8 : Val) (r9 : Bool) (r10 : Wld) (r11 : Bool) (r12 : Rea) (r13 : Bool) (r14 : Int × (List Fil)) (r15 : Int × (List Val) × (List Str) × (List Rowd)) (r16 : Bool) (r17 : Int × (List Val) × (List Str) × (List Rowd)) (r18 : Int) (r19 : Wld) (r20 : Rea) (r21 : Val) (r22 : Bool) : run tt (AbsCalls Try.prog) I7 3000 false [.code I7.body] ⟨(zBg 0 (xAm a0 a1 a2 a3)), [false, false, false, false, false, false, false, false, false, true], [xAp r1, xAs r2, xAa r3, xAc r4, xAe r5, xAa r6, xAc r7, xAd r8, xAb r9, xAa r10, xAt r11, xAc r12, xAv r13, xAx r14, xAC r15, xAb r16, xAE r17, xAq r18, xAa r19, xAc r20, xAd r21, xAb r22], []⟩ = some (.done (xAn false) [AbC 42 (xAK a0 1048576) (xAp r1), (decide ((r1 : Int) < 0)) = false, AbC 30 (xAR a3 r1) (xAs r2), (decide ((r2 : Int) < 0)) = false, AbC 44 (xAh a0) (xAa r3), AbC 33 (xAk a3) (xAc r4), AbC 43 (xAo r3 a1 a2 r4) (xAe r5), AbC 44 (xAh a0) (xAa r6), AbC 33 (xAk a3) (xAc r7), AbC 45 (xAi r6 a1 a2 r7) (xAd r8), AbC 19 (xAf r8 r5) (xAb r9), (!r9) = false, AbC 44 (xAh a0) (xAa r10), AbC 46 (xAO r6 r10) (xAt r11), (!r11) = false, AbC 33 (xAk a3) (xAc r12), AbC 36 (xAQ r7 r12) (xAv r13), (!r13) = false, AbC 47 (xA5 r6 1) (xAx r14), List.length r14.2 = List.length (Wld.files r6), AbC 38 (xBc r7 r14.1) (xAC r15), List.length r15.2.1 = List.length (Val.list (Rea.result r7)), List.length r15.2.2.1 = List.length (Val.columns (Rea.result r7)), List.length r15.2.2.2 = List.length (Val.rows (Rea.result r7)), (decide ((r15.1 : Int) < 0)) = false, AbC 19 (xAf r8 r5) (xAb r16), (!r16) = false, AbC 22 (xBj r8 1) (xAE r17), List.length r17.2.1 = List.length (Val.list r8), List.length r17.2.2.1 = List.length (Val.columns r8), List.length r17.2.2.2 = List.length (Val.rows r8), AbC 23 (xAI (Val.mk (Val.kind r8) (Val.n r8) (Val.step r8) (Val.text r8) r17.2.1 r17.2.2.1 r17.2.2.2) 1) (xAq r18), (decide ((r18 : Int) < 0)) = false, ((r18 : Int) != r17.1) = false, AbC 44 (xAh a0) (xAa r19), AbC 33 (xAk a3) (xAc r20), AbC 45 (xAi r19 a1 a2 r20) (xAd r21), AbC 19 (xAf r21 r5) (xAb r22), (!r22) = true]) := by kernel_rfl
theorem p7_e_10 (a0 : Wld) (a1 a2 : Int) (a3 : Rea) (r1 r2 : Int) (r3 : Wld) (r4 : Rea) (r5 : Val) (r6 : Wld) (r7 : Rea) (r8 : Val) (r9 : Bool) (r10 : Wld) (r11 : Bool) (r12 : Rea) (r13 : Bool) (r14 : Int × (List Fil)) (r15 : Int × (List Val) × (List Str) × (List Rowd)) (r16 : Bool) (r17 : Int × (List Val) × (List Str) × (List Rowd)) (r18 : Int) (r19 : Wld) (r20 : Rea) (r21 : Val) (r22 : Bool) (r23 : Int) : run tt (AbsCalls Try.prog) I7 3000 false [.code I7.body] ⟨(zBg 0 (xAm a0 a1 a2 a3)), [false, false, false, false, false, false, false, false, false, false, true], [xAp r1, xAs r2, xAa r3, xAc r4, xAe r5, xAa r6, xAc r7, xAd r8, xAb r9, xAa r10, xAt r11, xAc r12, xAv r13, xAx r14, xAC r15, xAb r16, xAE r17, xAq r18, xAa r19, xAc r20, xAd r21, xAb r22, xAq r23], []⟩ = some (.done (xAn false) [AbC 42 (xAK a0 1048576) (xAp r1), (decide ((r1 : Int) < 0)) = false, AbC 30 (xAR a3 r1) (xAs r2), (decide ((r2 : Int) < 0)) = false, AbC 44 (xAh a0) (xAa r3), AbC 33 (xAk a3) (xAc r4), AbC 43 (xAo r3 a1 a2 r4) (xAe r5), AbC 44 (xAh a0) (xAa r6), AbC 33 (xAk a3) (xAc r7), AbC 45 (xAi r6 a1 a2 r7) (xAd r8), AbC 19 (xAf r8 r5) (xAb r9), (!r9) = false, AbC 44 (xAh a0) (xAa r10), AbC 46 (xAO r6 r10) (xAt r11), (!r11) = false, AbC 33 (xAk a3) (xAc r12), AbC 36 (xAQ r7 r12) (xAv r13), (!r13) = false, AbC 47 (xA5 r6 1) (xAx r14), List.length r14.2 = List.length (Wld.files r6), AbC 38 (xBc r7 r14.1) (xAC r15), List.length r15.2.1 = List.length (Val.list (Rea.result r7)), List.length r15.2.2.1 = List.length (Val.columns (Rea.result r7)), List.length r15.2.2.2 = List.length (Val.rows (Rea.result r7)), (decide ((r15.1 : Int) < 0)) = false, AbC 19 (xAf r8 r5) (xAb r16), (!r16) = false, AbC 22 (xBj r8 1) (xAE r17), List.length r17.2.1 = List.length (Val.list r8), List.length r17.2.2.1 = List.length (Val.columns r8), List.length r17.2.2.2 = List.length (Val.rows r8), AbC 23 (xAI (Val.mk (Val.kind r8) (Val.n r8) (Val.step r8) (Val.text r8) r17.2.1 r17.2.2.1 r17.2.2.2) 1) (xAq r18), (decide ((r18 : Int) < 0)) = false, ((r18 : Int) != r17.1) = false, AbC 44 (xAh a0) (xAa r19), AbC 33 (xAk a3) (xAc r20), AbC 45 (xAi r19 a1 a2 r20) (xAd r21), AbC 19 (xAf r21 r5) (xAb r22), (!r22) = false, AbC 23 (xAI (Val.mk (Val.kind r8) (Val.n r8) (Val.step r8) (Val.text r8) r17.2.1 r17.2.2.1 r17.2.2.2) 1) (xAq r23), (decide ((r23 : Int) < 0)) = true]) := by kernel_rfl
theorem p7_e_11 (a0 : Wld) (a1 a2 : Int) (a3 : Rea) (r1 r2 : Int) (r3 : Wld) (r4 : Rea) (r5 : Val) (r6 : Wld) (r7 : Rea) (r8 : Val) (r9 : Bool) (r10 : Wld) (r11 : Bool) (r12 : Rea) (r13 : Bool) (r14 : Int × (List Fil)) (r15 : Int × (List Val) × (List Str) × (List Rowd)) (r16 : Bool) (r17 : Int × (List Val) × (List Str) × (List Rowd)) (r18 : Int) (r19 : Wld) (r20 : Rea) (r21 : Val) (r22 : Bool) (r23 : Int) : run tt (AbsCalls Try.prog) I7 3000 false [.code I7.body] ⟨(zBg 0 (xAm a0 a1 a2 a3)), [false, false, false, false, false, false, false, false, false, false, false, true], [xAp r1, xAs r2, xAa r3, xAc r4, xAe r5, xAa r6, xAc r7, xAd r8, xAb r9, xAa r10, xAt r11, xAc r12, xAv r13, xAx r14, xAC r15, xAb r16, xAE r17, xAq r18, xAa r19, xAc r20, xAd r21, xAb r22, xAq r23], []⟩ = some (.done (xAn false) [AbC 42 (xAK a0 1048576) (xAp r1), (decide ((r1 : Int) < 0)) = false, AbC 30 (xAR a3 r1) (xAs r2), (decide ((r2 : Int) < 0)) = false, AbC 44 (xAh a0) (xAa r3), AbC 33 (xAk a3) (xAc r4), AbC 43 (xAo r3 a1 a2 r4) (xAe r5), AbC 44 (xAh a0) (xAa r6), AbC 33 (xAk a3) (xAc r7), AbC 45 (xAi r6 a1 a2 r7) (xAd r8), AbC 19 (xAf r8 r5) (xAb r9), (!r9) = false, AbC 44 (xAh a0) (xAa r10), AbC 46 (xAO r6 r10) (xAt r11), (!r11) = false, AbC 33 (xAk a3) (xAc r12), AbC 36 (xAQ r7 r12) (xAv r13), (!r13) = false, AbC 47 (xA5 r6 1) (xAx r14), List.length r14.2 = List.length (Wld.files r6), AbC 38 (xBc r7 r14.1) (xAC r15), List.length r15.2.1 = List.length (Val.list (Rea.result r7)), List.length r15.2.2.1 = List.length (Val.columns (Rea.result r7)), List.length r15.2.2.2 = List.length (Val.rows (Rea.result r7)), (decide ((r15.1 : Int) < 0)) = false, AbC 19 (xAf r8 r5) (xAb r16), (!r16) = false, AbC 22 (xBj r8 1) (xAE r17), List.length r17.2.1 = List.length (Val.list r8), List.length r17.2.2.1 = List.length (Val.columns r8), List.length r17.2.2.2 = List.length (Val.rows r8), AbC 23 (xAI (Val.mk (Val.kind r8) (Val.n r8) (Val.step r8) (Val.text r8) r17.2.1 r17.2.2.1 r17.2.2.2) 1) (xAq r18), (decide ((r18 : Int) < 0)) = false, ((r18 : Int) != r17.1) = false, AbC 44 (xAh a0) (xAa r19), AbC 33 (xAk a3) (xAc r20), AbC 45 (xAi r19 a1 a2 r20) (xAd r21), AbC 19 (xAf r21 r5) (xAb r22), (!r22) = false, AbC 23 (xAI (Val.mk (Val.kind r8) (Val.n r8) (Val.step r8) (Val.text r8) r17.2.1 r17.2.2.1 r17.2.2.2) 1) (xAq r23), (decide ((r23 : Int) < 0)) = false, ((r23 : Int) != r17.1) = true]) := by kernel_rfl
theorem p7_e_12 (a0 : Wld) (a1 a2 : Int) (a3 : Rea) (r1 r2 : Int) (r3 : Wld) (r4 : Rea) (r5 : Val) (r6 : Wld) (r7 : Rea) (r8 : Val) (r9 : Bool) (r10 : Wld) (r11 : Bool) (r12 : Rea) (r13 : Bool) (r14 : Int × (List Fil)) (r15 : Int × (List Val) × (List Str) × (List Rowd)) (r16 : Bool) (r17 : Int × (List Val) × (List Str) × (List Rowd)) (r18 : Int) (r19 : Wld) (r20 : Rea) (r21 : Val) (r22 : Bool) (r23 : Int) : run tt (AbsCalls Try.prog) I7 3000 false [.code I7.body] ⟨(zBg 0 (xAm a0 a1 a2 a3)), [false, false, false, false, false, false, false, false, false, false, false, false], [xAp r1, xAs r2, xAa r3, xAc r4, xAe r5, xAa r6, xAc r7, xAd r8, xAb r9, xAa r10, xAt r11, xAc r12, xAv r13, xAx r14, xAC r15, xAb r16, xAE r17, xAq r18, xAa r19, xAc r20, xAd r21, xAb r22, xAq r23], []⟩ = some (.done (xAn true) [AbC 42 (xAK a0 1048576) (xAp r1), (decide ((r1 : Int) < 0)) = false, AbC 30 (xAR a3 r1) (xAs r2), (decide ((r2 : Int) < 0)) = false, AbC 44 (xAh a0) (xAa r3), AbC 33 (xAk a3) (xAc r4), AbC 43 (xAo r3 a1 a2 r4) (xAe r5), AbC 44 (xAh a0) (xAa r6), AbC 33 (xAk a3) (xAc r7), AbC 45 (xAi r6 a1 a2 r7) (xAd r8), AbC 19 (xAf r8 r5) (xAb r9), (!r9) = false, AbC 44 (xAh a0) (xAa r10), AbC 46 (xAO r6 r10) (xAt r11), (!r11) = false, AbC 33 (xAk a3) (xAc r12), AbC 36 (xAQ r7 r12) (xAv r13), (!r13) = false, AbC 47 (xA5 r6 1) (xAx r14), List.length r14.2 = List.length (Wld.files r6), AbC 38 (xBc r7 r14.1) (xAC r15), List.length r15.2.1 = List.length (Val.list (Rea.result r7)), List.length r15.2.2.1 = List.length (Val.columns (Rea.result r7)), List.length r15.2.2.2 = List.length (Val.rows (Rea.result r7)), (decide ((r15.1 : Int) < 0)) = false, AbC 19 (xAf r8 r5) (xAb r16), (!r16) = false, AbC 22 (xBj r8 1) (xAE r17), List.length r17.2.1 = List.length (Val.list r8), List.length r17.2.2.1 = List.length (Val.columns r8), List.length r17.2.2.2 = List.length (Val.rows r8), AbC 23 (xAI (Val.mk (Val.kind r8) (Val.n r8) (Val.step r8) (Val.text r8) r17.2.1 r17.2.2.1 r17.2.2.2) 1) (xAq r18), (decide ((r18 : Int) < 0)) = false, ((r18 : Int) != r17.1) = false, AbC 44 (xAh a0) (xAa r19), AbC 33 (xAk a3) (xAc r20), AbC 45 (xAi r19 a1 a2 r20) (xAd r21), AbC 19 (xAf r21 r5) (xAb r22), (!r22) = false, AbC 23 (xAI (Val.mk (Val.kind r8) (Val.n r8) (Val.step r8) (Val.text r8) r17.2.1 r17.2.2.1 r17.2.2.2) 1) (xAq r23), (decide ((r23 : Int) < 0)) = false, ((r23 : Int) != r17.1) = false]) := by kernel_rfl
theorem c7_e {N : Nat} : ∀ a0 a1 a2 a3 r, xA4 N a0 a1 a2 a3 = some r → Reach Try.prog Try.f7 I7 [.code I7.body] (zBg 0 (xAm a0 a1 a2 a3)) (xAn r) := by
 intro a0 a1 a2 a3 r h
 unfold xA4 at h
 obtain ⟨r1, h0, h⟩ := bind_inv h
 rcases cond_inv h with ⟨h1, h⟩ | ⟨h1, h⟩
 ·obtain rfl := Option.some.inj h
  exact Reach.done ttok mix fk7 (p7_e_0 a0 a1 a2 a3 r1) (obs_cons (xA6 h0) (obs_cons h1 obs_nil))
 ·obtain ⟨r2, h2, h⟩ := bind_inv h
  rcases cond_inv h with ⟨h3, h⟩ | ⟨h3, h⟩
  ·obtain rfl := Option.some.inj h
   exact Reach.done ttok mix fk7 (p7_e_1 a0 a1 a2 a3 r1 r2) (obs_cons (xA6 h0) (obs_cons h1 (obs_cons (xBr h2) (obs_cons h3 obs_nil))))
  ·obtain ⟨r3, h4, h⟩ := bind_inv h
   obtain ⟨r4, h5, h⟩ := bind_inv h
   obtain ⟨r5, h6, h⟩ := bind_inv h
   obtain ⟨r6, h7, h⟩ := bind_inv h
   obtain ⟨r7, h8, h⟩ := bind_inv h
   obtain ⟨r8, h9, h⟩ := bind_inv h
   obtain ⟨r9, h10, h⟩ := bind_inv h
   rcases cond_inv h with ⟨h11, h⟩ | ⟨h11, h⟩
   ·obtain rfl := Option.some.inj h
    exact Reach.done ttok mix fk7 (p7_e_2 a0 a1 a2 a3 r1 r2 r3 r4 r5 r6 r7 r8 r9) (obs_cons (xA6 h0) (obs_cons h1 (obs_cons (xBr h2) (obs_cons h3 (obs_cons (xAj h4) (obs_cons (xAl h5) (obs_cons (xAP h6) (obs_cons (xAj h7) (obs_cons (xAl h8) (obs_cons (xAB h9) (obs_cons (xAu h10) (obs_cons h11 obs_nil))))))))))))
   ·obtain ⟨r10, h12, h⟩ := bind_inv h
    obtain ⟨r11, h13, h⟩ := bind_inv h
    rcases cond_inv h with ⟨h14, h⟩ | ⟨h14, h⟩
    ·obtain rfl := Option.some.inj h
     exact Reach.done ttok mix fk7 (p7_e_3 a0 a1 a2 a3 r1 r2 r3 r4 r5 r6 r7 r8 r9 r10 r11) (obs_cons (xA6 h0) (obs_cons h1 (obs_cons (xBr h2) (obs_cons h3 (obs_cons (xAj h4) (obs_cons (xAl h5) (obs_cons (xAP h6) (obs_cons (xAj h7) (obs_cons (xAl h8) (obs_cons (xAB h9) (obs_cons (xAu h10) (obs_cons h11 (obs_cons (xAj h12) (obs_cons (xBz h13) (obs_cons h14 obs_nil)))))))))))))))
    ·obtain ⟨r12, h15, h⟩ := bind_inv h
     obtain ⟨r13, h16, h⟩ := bind_inv h
     rcases cond_inv h with ⟨h17, h⟩ | ⟨h17, h⟩
     ·obtain rfl := Option.some.inj h
      exact Reach.done ttok mix fk7 (p7_e_4 a0 a1 a2 a3 r1 r2 r3 r4 r5 r6 r7 r8 r9 r10 r11 r12 r13) (obs_cons (xA6 h0) (obs_cons h1 (obs_cons (xBr h2) (obs_cons h3 (obs_cons (xAj h4) (obs_cons (xAl h5) (obs_cons (xAP h6) (obs_cons (xAj h7) (obs_cons (xAl h8) (obs_cons (xAB h9) (obs_cons (xAu h10) (obs_cons h11 (obs_cons (xAj h12) (obs_cons (xBz h13) (obs_cons h14 (obs_cons (xAl h15) (obs_cons (xB5 h16) (obs_cons h17 obs_nil))))))))))))))))))
     ·obtain ⟨r14, h18, h⟩ := bind_inv h
      obtain ⟨h19, h⟩ := ite_inv h
      obtain ⟨r15, h20, h⟩ := bind_inv h
      obtain ⟨h21, h⟩ := ite_inv h
      obtain ⟨h22, h⟩ := ite_inv h
      obtain ⟨h23, h⟩ := ite_inv h
      rcases cond_inv h with ⟨h24, h⟩ | ⟨h24, h⟩
      ·obtain rfl := Option.some.inj h
       exact Reach.done ttok mix fk7 (p7_e_5 a0 a1 a2 a3 r1 r2 r3 r4 r5 r6 r7 r8 r9 r10 r11 r12 r13 r14 r15) (obs_cons (xA6 h0) (obs_cons h1 (obs_cons (xBr h2) (obs_cons h3 (obs_cons (xAj h4) (obs_cons (xAl h5) (obs_cons (xAP h6) (obs_cons (xAj h7) (obs_cons (xAl h8) (obs_cons (xAB h9) (obs_cons (xAu h10) (obs_cons h11 (obs_cons (xAj h12) (obs_cons (xBz h13) (obs_cons h14 (obs_cons (xAl h15) (obs_cons (xB5 h16) (obs_cons h17 (obs_cons (xBJ h18) (obs_cons h19 (obs_cons (xBQ h20) (obs_cons h21 (obs_cons h22 (obs_cons h23 (obs_cons h24 (obs_cons rfl obs_nil))))))))))))))))))))))))))
      ·obtain ⟨r16, h25, h⟩ := bind_inv h
       rcases cond_inv h with ⟨h26, h⟩ | ⟨h26, h⟩
       ·obtain rfl := Option.some.inj h
        exact Reach.done ttok mix fk7 (p7_e_6 a0 a1 a2 a3 r1 r2 r3 r4 r5 r6 r7 r8 r9 r10 r11 r12 r13 r14 r15 r16) (obs_cons (xA6 h0) (obs_cons h1 (obs_cons (xBr h2) (obs_cons h3 (obs_cons (xAj h4) (obs_cons (xAl h5) (obs_cons (xAP h6) (obs_cons (xAj h7) (obs_cons (xAl h8) (obs_cons (xAB h9) (obs_cons (xAu h10) (obs_cons h11 (obs_cons (xAj h12) (obs_cons (xBz h13) (obs_cons h14 (obs_cons (xAl h15) (obs_cons (xB5 h16) (obs_cons h17 (obs_cons (xBJ h18) (obs_cons h19 (obs_cons (xBQ h20) (obs_cons h21 (obs_cons h22 (obs_cons h23 (obs_cons h24 (obs_cons (xAu h25) (obs_cons h26 obs_nil)))))))))))))))))))))))))))
       ·obtain ⟨r17, h27, h⟩ := bind_inv h
        obtain ⟨h28, h⟩ := ite_inv h
        obtain ⟨h29, h⟩ := ite_inv h
        obtain ⟨h30, h⟩ := ite_inv h
        obtain ⟨r18, h31, h⟩ := bind_inv h
        rcases cond_inv h with ⟨h32, h⟩ | ⟨h32, h⟩
        ·obtain rfl := Option.some.inj h
         exact Reach.done ttok mix fk7 (p7_e_7 a0 a1 a2 a3 r1 r2 r3 r4 r5 r6 r7 r8 r9 r10 r11 r12 r13 r14 r15 r16 r17 r18) (obs_cons (xA6 h0) (obs_cons h1 (obs_cons (xBr h2) (obs_cons h3 (obs_cons (xAj h4) (obs_cons (xAl h5) (obs_cons (xAP h6) (obs_cons (xAj h7) (obs_cons (xAl h8) (obs_cons (xAB h9) (obs_cons (xAu h10) (obs_cons h11 (obs_cons (xAj h12) (obs_cons (xBz h13) (obs_cons h14 (obs_cons (xAl h15) (obs_cons (xB5 h16) (obs_cons h17 (obs_cons (xBJ h18) (obs_cons h19 (obs_cons (xBQ h20) (obs_cons h21 (obs_cons h22 (obs_cons h23 (obs_cons h24 (obs_cons (xAu h25) (obs_cons h26 (obs_cons (xB0 h27) (obs_cons h28 (obs_cons h29 (obs_cons h30 (obs_cons (xBt h31) (obs_cons h32 obs_nil)))))))))))))))))))))))))))))))))
        ·rcases cond_inv h with ⟨h33, h⟩ | ⟨h33, h⟩
         ·obtain rfl := Option.some.inj h
          exact Reach.done ttok mix fk7 (p7_e_8 a0 a1 a2 a3 r1 r2 r3 r4 r5 r6 r7 r8 r9 r10 r11 r12 r13 r14 r15 r16 r17 r18) (obs_cons (xA6 h0) (obs_cons h1 (obs_cons (xBr h2) (obs_cons h3 (obs_cons (xAj h4) (obs_cons (xAl h5) (obs_cons (xAP h6) (obs_cons (xAj h7) (obs_cons (xAl h8) (obs_cons (xAB h9) (obs_cons (xAu h10) (obs_cons h11 (obs_cons (xAj h12) (obs_cons (xBz h13) (obs_cons h14 (obs_cons (xAl h15) (obs_cons (xB5 h16) (obs_cons h17 (obs_cons (xBJ h18) (obs_cons h19 (obs_cons (xBQ h20) (obs_cons h21 (obs_cons h22 (obs_cons h23 (obs_cons h24 (obs_cons (xAu h25) (obs_cons h26 (obs_cons (xB0 h27) (obs_cons h28 (obs_cons h29 (obs_cons h30 (obs_cons (xBt h31) (obs_cons h32 (obs_cons h33 obs_nil))))))))))))))))))))))))))))))))))
         ·obtain ⟨r19, h34, h⟩ := bind_inv h
          obtain ⟨r20, h35, h⟩ := bind_inv h
          obtain ⟨r21, h36, h⟩ := bind_inv h
          obtain ⟨r22, h37, h⟩ := bind_inv h
          rcases cond_inv h with ⟨h38, h⟩ | ⟨h38, h⟩
          ·obtain rfl := Option.some.inj h
           exact Reach.done ttok mix fk7 (p7_e_9 a0 a1 a2 a3 r1 r2 r3 r4 r5 r6 r7 r8 r9 r10 r11 r12 r13 r14 r15 r16 r17 r18 r19 r20 r21 r22) (obs_cons (xA6 h0) (obs_cons h1 (obs_cons (xBr h2) (obs_cons h3 (obs_cons (xAj h4) (obs_cons (xAl h5) (obs_cons (xAP h6) (obs_cons (xAj h7) (obs_cons (xAl h8) (obs_cons (xAB h9) (obs_cons (xAu h10) (obs_cons h11 (obs_cons (xAj h12) (obs_cons (xBz h13) (obs_cons h14 (obs_cons (xAl h15) (obs_cons (xB5 h16) (obs_cons h17 (obs_cons (xBJ h18) (obs_cons h19 (obs_cons (xBQ h20) (obs_cons h21 (obs_cons h22 (obs_cons h23 (obs_cons h24 (obs_cons (xAu h25) (obs_cons h26 (obs_cons (xB0 h27) (obs_cons h28 (obs_cons h29 (obs_cons h30 (obs_cons (xBt h31) (obs_cons h32 (obs_cons h33 (obs_cons (xAj h34) (obs_cons (xAl h35) (obs_cons (xAB h36) (obs_cons (xAu h37) (obs_cons h38 obs_nil)))))))))))))))))))))))))))))))))))))))
          ·obtain ⟨r23, h39, h⟩ := bind_inv h
           rcases cond_inv h with ⟨h40, h⟩ | ⟨h40, h⟩
           ·obtain rfl := Option.some.inj h
            exact Reach.done ttok mix fk7 (p7_e_10 a0 a1 a2 a3 r1 r2 r3 r4 r5 r6 r7 r8 r9 r10 r11 r12 r13 r14 r15 r16 r17 r18 r19 r20 r21 r22 r23) (obs_cons (xA6 h0) (obs_cons h1 (obs_cons (xBr h2) (obs_cons h3 (obs_cons (xAj h4) (obs_cons (xAl h5) (obs_cons (xAP h6) (obs_cons (xAj h7) (obs_cons (xAl h8) (obs_cons (xAB h9) (obs_cons (xAu h10) (obs_cons h11 (obs_cons (xAj h12) (obs_cons (xBz h13) (obs_cons h14 (obs_cons (xAl h15) (obs_cons (xB5 h16) (obs_cons h17 (obs_cons (xBJ h18) (obs_cons h19 (obs_cons (xBQ h20) (obs_cons h21 (obs_cons h22 (obs_cons h23 (obs_cons h24 (obs_cons (xAu h25) (obs_cons h26 (obs_cons (xB0 h27) (obs_cons h28 (obs_cons h29 (obs_cons h30 (obs_cons (xBt h31) (obs_cons h32 (obs_cons h33 (obs_cons (xAj h34) (obs_cons (xAl h35) (obs_cons (xAB h36) (obs_cons (xAu h37) (obs_cons h38 (obs_cons (xBt h39) (obs_cons h40 obs_nil)))))))))))))))))))))))))))))))))))))))))
           ·rcases cond_inv h with ⟨h41, h⟩ | ⟨h41, h⟩
            ·obtain rfl := Option.some.inj h
             exact Reach.done ttok mix fk7 (p7_e_11 a0 a1 a2 a3 r1 r2 r3 r4 r5 r6 r7 r8 r9 r10 r11 r12 r13 r14 r15 r16 r17 r18 r19 r20 r21 r22 r23) (obs_cons (xA6 h0) (obs_cons h1 (obs_cons (xBr h2) (obs_cons h3 (obs_cons (xAj h4) (obs_cons (xAl h5) (obs_cons (xAP h6) (obs_cons (xAj h7) (obs_cons (xAl h8) (obs_cons (xAB h9) (obs_cons (xAu h10) (obs_cons h11 (obs_cons (xAj h12) (obs_cons (xBz h13) (obs_cons h14 (obs_cons (xAl h15) (obs_cons (xB5 h16) (obs_cons h17 (obs_cons (xBJ h18) (obs_cons h19 (obs_cons (xBQ h20) (obs_cons h21 (obs_cons h22 (obs_cons h23 (obs_cons h24 (obs_cons (xAu h25) (obs_cons h26 (obs_cons (xB0 h27) (obs_cons h28 (obs_cons h29 (obs_cons h30 (obs_cons (xBt h31) (obs_cons h32 (obs_cons h33 (obs_cons (xAj h34) (obs_cons (xAl h35) (obs_cons (xAB h36) (obs_cons (xAu h37) (obs_cons h38 (obs_cons (xBt h39) (obs_cons h40 (obs_cons h41 obs_nil))))))))))))))))))))))))))))))))))))))))))
            ·obtain rfl := Option.some.inj h
             exact Reach.done ttok mix fk7 (p7_e_12 a0 a1 a2 a3 r1 r2 r3 r4 r5 r6 r7 r8 r9 r10 r11 r12 r13 r14 r15 r16 r17 r18 r19 r20 r21 r22 r23) (obs_cons (xA6 h0) (obs_cons h1 (obs_cons (xBr h2) (obs_cons h3 (obs_cons (xAj h4) (obs_cons (xAl h5) (obs_cons (xAP h6) (obs_cons (xAj h7) (obs_cons (xAl h8) (obs_cons (xAB h9) (obs_cons (xAu h10) (obs_cons h11 (obs_cons (xAj h12) (obs_cons (xBz h13) (obs_cons h14 (obs_cons (xAl h15) (obs_cons (xB5 h16) (obs_cons h17 (obs_cons (xBJ h18) (obs_cons h19 (obs_cons (xBQ h20) (obs_cons h21 (obs_cons h22 (obs_cons h23 (obs_cons h24 (obs_cons (xAu h25) (obs_cons h26 (obs_cons (xB0 h27) (obs_cons h28 (obs_cons h29 (obs_cons h30 (obs_cons (xBt h31) (obs_cons h32 (obs_cons h33 (obs_cons (xAj h34) (obs_cons (xAl h35) (obs_cons (xAB h36) (obs_cons (xAu h37) (obs_cons h38 (obs_cons (xBt h39) (obs_cons h40 (obs_cons h41 obs_nil))))))))))))))))))))))))))))))))))))))))))
theorem laws_FnExactEffectResult_ok {N : Nat} {a0 : Wld} {a1 : Int} {a2 : Int} {a3 : Rea} {r : Bool} (h : xA4 N  a0 a1 a2 a3 = some r) : AbC 7 (xAm a0 a1 a2 a3) (xAn r) :=
 AbsCalls.of_reach fk7 rfl rfl (Nat.le_of_ble_eq_true rfl) (c7_e a0 a1 a2 a3 r h)
end Go.Ab.T
end
section
namespace Go.Ab
set_option linter.unusedVariables false
def Big (p : Nat → Prop) : Prop := ∃ k, ∀ N, k ≤ N → p N
def Big2 (p : Nat → Nat → Prop) : Prop := ∃ k, ∀ N n, k ≤ N → k ≤ n → p N n
theorem Big.imp {p q : Nat → Prop} (h : Big p) (f : ∀ N, p N → q N) : Big q := h.elim fun k hk => ⟨k, fun N hN => f N (hk N hN)⟩
theorem Big2.imp {p q : Nat → Nat → Prop} (h : Big2 p) (f : ∀ N n, p N n → q N n) : Big2 q := h.elim fun k hk => ⟨k, fun N n h1 h2 => f N n (hk N n h1 h2)⟩
theorem Big2.of {p : Nat → Nat → Prop} (h : ∀ N n, p N n) : Big2 p := ⟨0, fun N n _ _ => h N n⟩
theorem Big.and {p q : Nat → Prop} (h : Big p) (h' : Big q) : Big fun N => p N ∧ q N := by
  obtain ⟨a, ha⟩ := h; obtain ⟨b, hb⟩ := h'
  exact ⟨max a b, fun N hN => ⟨ha N (by omega), hb N (by omega)⟩⟩
theorem Big2.and {p q : Nat → Nat → Prop} (h : Big2 p) (h' : Big2 q) : Big2 fun N n => p N n ∧ q N n := by
  obtain ⟨a, ha⟩ := h; obtain ⟨b, hb⟩ := h'
  exact ⟨max a b, fun N n h1 h2 => ⟨ha N n (by omega) (by omega), hb N n (by omega) (by omega)⟩⟩
theorem Big.two {p : Nat → Prop} (h : Big p) : Big2 fun N _ => p N := h.elim fun k hk => ⟨k, fun N _ h _ => hk N h⟩
theorem Big2.diag {p : Nat → Nat → Prop} (h : Big2 p) : Big fun N => p N N := h.elim fun k hk => ⟨k, fun N h => hk N N h h⟩
theorem Big2.succ {p : Nat → Nat → Prop} (h : Big2 fun N n => p N (n + 1)) : Big2 p := by
  obtain ⟨k, hk⟩ := h
  refine ⟨k + 1, fun N n h1 h2 => ?_⟩
  obtain ⟨m, rfl⟩ : ∃ m, n = m + 1 := ⟨n - 1, by omega⟩
  exact hk N m (by omega) (by omega)
theorem Big2.list {α : Type} {p : α → Nat → Nat → Prop} {l : List α} (h : ∀ x ∈ l, Big2 (p x)) : Big2 fun N n => ∀ x ∈ l, p x N n := by
  induction l with
  | nil => exact .of fun N n x hx => by cases hx
  | cons a l ih =>
    refine ((h a List.mem_cons_self).and (ih fun x hx => h x (List.mem_cons_of_mem _ hx))).imp fun N n ⟨h1, h2⟩ x hx => ?_
    rcases List.mem_cons.1 hx with rfl | hx
    · exact h1
    · exact h2 x hx
theorem Big.get {p : Nat → Prop} (h : Big p) : ∃ N, p N := h.elim fun k hk => ⟨k, hk k (Nat.le_refl k)⟩
def I64 (x : Int) : Prop := -9223372036854775808 ≤ x ∧ x ≤ 9223372036854775807
theorem wrap_i64_def (x : Int) : IntKind.i64.wrap x = if x % 18446744073709551616 ≥ 9223372036854775808 then x % 18446744073709551616 - 18446744073709551616 else x % 18446744073709551616 := by
  show (if (true && decide (x % 18446744073709551616 ≥ 9223372036854775808)) = true then x % 18446744073709551616 - 18446744073709551616 else x % 18446744073709551616) = _
  simp only [Bool.true_and, decide_eq_true_eq]
theorem xBx {x : Int} (h1 : -9223372036854775808 ≤ x) (h2 : x ≤ 9223372036854775807) : IntKind.i64.wrap x = x := by
  rw [wrap_i64_def]
  split <;> omega
theorem drop_cons {α : Type} {xs : List α} {i : Nat} {x : α} {l : List α} (h : xs.drop i = x :: l) : i < xs.length ∧ xs[i]? = some x ∧ xs.drop (i + 1) = l := by
  have h1 : i < xs.length := by
    rcases Nat.lt_or_ge i xs.length with h1 | h1
    · exact h1
    · rw [List.drop_eq_nil_of_le h1] at h; cases h
  rw [List.drop_eq_getElem_cons h1] at h
  cases h
  exact ⟨h1, by simp [h1], rfl⟩
theorem drop_nil {α : Type} {xs : List α} {i : Nat} (h : xs.drop i = []) : xs.length ≤ i := by simpa using h
end Go.Ab
end
section
namespace Go.Ab
set_option linter.unusedVariables false
inductive DK (K : Nat) : D → Prop where
  | int {k n} (h : (Lit.int k n).wf = true) : DK K (.int k n)
  | bool (b) : DK K (.bool b)
  | str {s : Str} (h : s.length ≤ K) : DK K (.str s)
  | sl {sz rows} (h : rows.length ≤ K) (hr : ∀ r ∈ rows, ∀ x ∈ r, DK K x) : DK K (.sl sz rows)
theorem DFit.dk {d : D} (h : DFit d) : DK maxLen d := by
  induction h with
  | int h => exact .int h
  | bool b => exact .bool b
  | str h => exact .str h
  | sl h _ ih => exact .sl h ih
theorem wf_i64 {n : Int} : (Lit.int .i64 n).wf = true ↔ I64 n := by
  show (decide (_ ≤ n) && decide (n ≤ _)) = true ↔ _
  rw [Bool.and_eq_true, decide_eq_true_eq, decide_eq_true_eq]
  exact Iff.rfl
theorem DK.i64 {K : Nat} {n : Int} : DK K (.int .i64 n) ↔ I64 n := ⟨fun h => by cases h with | int h => exact wf_i64.1 h, fun h => .int (wf_i64.2 h)⟩
theorem DK.str_iff {K : Nat} {s : Str} : DK K (.str s) ↔ s.length ≤ K := ⟨fun h => by cases h; assumption, .str⟩
theorem DK.sl_iff {K sz : Nat} {α : Type} {f : α → List D} {xs : List α} : DK K (.sl sz (xs.map f)) ↔ xs.length ≤ K ∧ ∀ x ∈ xs, ∀ d ∈ f x, DK K d := by
  constructor
  · intro h
    cases h with
    | sl h hr => exact ⟨by simpa using h, fun x hx => hr _ (List.mem_map_of_mem hx)⟩
  · rintro ⟨h, hr⟩
    refine .sl (by simpa using h) fun r hr' => ?_
    obtain ⟨x, hx, rfl⟩ := List.mem_map.1 hr'
    exact hr x hx
def LFit {α : Type} (K : Nat) (p : α → Prop) (l : List α) : Prop := l.length ≤ K ∧ ∀ x ∈ l, p x
def Ty.Fit (K : Nat) (T : Ty) (x : T.den) : Prop := ∀ d ∈ T.toD x, DK K d
def Org.Fit (o : Org) : Prop := I64 o.cell ∧ I64 o.row
def Rowd.Fit (K : Nat) (r : Rowd) : Prop := LFit K I64 r.cells ∧ LFit K Org.Fit r.frm
def Str.Fit (K : Nat) (s : Str) : Prop := s.length ≤ K
def Val.Fit (K : Nat) (v : Val) : Prop := ∀ d ∈ Val.toD v, DK K d
def Exp.Fit (K : Nat) (v : Exp) : Prop := ∀ d ∈ Exp.toD v, DK K d
def Fil.Fit (K : Nat) (v : Fil) : Prop := Str.Fit K v.name ∧ I64 v.n
def Rea.Fit (K : Nat) (v : Rea) : Prop := I64 v.kind ∧ I64 v.n ∧ I64 v.time ∧ Str.Fit K v.text ∧ v.result.Fit K
def Wld.Fit (K : Nat) (v : Wld) : Prop := I64 v.clock ∧ I64 v.seed ∧ LFit K (Fil.Fit K) v.files
theorem rowd_fit {K : Nat} {r : Rowd} : (∀ d ∈ Rowd.toD r, DK K d) ↔ r.Fit K := by
  simp only [Rowd.toD, List.mem_cons, List.not_mem_nil, or_false, forall_eq_or_imp, forall_eq, DK.sl_iff, DK.i64, Rowd.Fit, LFit, Org.Fit]
theorem fil_fit {K : Nat} {r : Fil} : Ty.Fit K .fil r ↔ r.Fit K := by
  simp only [Ty.Fit, Ty.toD, List.mem_cons, List.not_mem_nil, or_false, forall_eq_or_imp, forall_eq, DK.str_iff, DK.i64, Fil.Fit, Str.Fit]
theorem Val.fit_iff {K : Nat} {v : Val} : v.Fit K ↔ I64 v.kind ∧ I64 v.n ∧ I64 v.step ∧ Str.Fit K v.text ∧ LFit K (Val.Fit K) v.list ∧ LFit K (Str.Fit K) v.columns ∧ LFit K (Rowd.Fit K) v.rows := by
  cases v
  simp only [Val.Fit, Val.toD, Val.toDs_eq, List.mem_cons, List.not_mem_nil, or_false, forall_eq_or_imp, forall_eq, DK.sl_iff, DK.i64, DK.str_iff, Str.Fit, LFit, Val.kind, Val.n, Val.step, Val.text, Val.list, Val.columns, Val.rows, rowd_fit]
theorem Exp.fit_iff {K : Nat} {v : Exp} : v.Fit K ↔ I64 v.kind ∧ I64 v.n ∧ Str.Fit K v.text ∧ LFit K (Exp.Fit K) v.args := by
  cases v
  simp only [Exp.Fit, Exp.toD, Exp.toDs_eq, List.mem_cons, List.not_mem_nil, or_false, forall_eq_or_imp, forall_eq, DK.sl_iff, DK.i64, DK.str_iff, Str.Fit, LFit, Exp.kind, Exp.n, Exp.text, Exp.args]
theorem sizeOf_mem_list {l : List Val} {x : Val} (h : x ∈ l) (k n s : Int) (t : Str) (c : List Str) (r : List Rowd) : SizeOf.sizeOf x < SizeOf.sizeOf (Val.mk k n s t l c r) := by
  have := List.sizeOf_lt_of_mem h
  simp only [Val.mk.sizeOf_spec]
  omega
theorem Val.ind {p : Val → Prop} (h : ∀ k n s t l c r, (∀ x ∈ l, p x) → p (.mk k n s t l c r)) : ∀ v, p v
  | .mk k n s t l c r => h k n s t l c r fun x hx => Val.ind h x
termination_by v => SizeOf.sizeOf v
decreasing_by exact sizeOf_mem_list hx k n s t c r
theorem xEd {n : Int} (h : DK maxLen (CV.int .i64 n).toD) : I64 n := DK.i64.1 h
theorem cell_str {s : Str} (h : DK maxLen (CV.str s).toD) : Str.Fit maxLen s := DK.str_iff.1 h
theorem cell_sl {T : Ty} {f : Fl} {xs : List T.den} (h : DK maxLen (CV.sl f T xs).toD) : LFit maxLen (T.Fit maxLen) xs := DK.sl_iff.1 h
theorem LFit.imp {α : Type} {K : Nat} {p q : α → Prop} {l : List α} (h : LFit K p l) (f : ∀ x, p x → q x) : LFit K q l := ⟨h.1, fun x hx => f x (h.2 x hx)⟩
end Go.Ab
end
section
namespace Go.Ab
set_option linter.unusedVariables false
theorem whileLoop {σ ρ : Type} {L : Nat → σ → Option ρ} (m : σ → Nat) (Inv : σ → Prop) (Post : ρ → Prop)
    (hstep : ∀ s, Inv s → (∃ s', Inv s' ∧ m s' < m s ∧ ∀ n, L (n + 1) s = L n s') ∨ (∃ r, Post r ∧ ∀ n, L (n + 1) s = some r)) :
    ∀ n s, Inv s → m s < n → ∃ r, Post r ∧ L n s = some r := by
  intro n
  induction n with
  | zero => intro s _ h; omega
  | succ n ih =>
    intro s hs hn
    rcases hstep s hs with ⟨s', h1, h2, h3⟩ | ⟨r, h1, h2⟩
    · obtain ⟨r, h4, h5⟩ := ih s' h1 (by omega)
      exact ⟨r, h4, by rw [h3]; exact h5⟩
    · exact ⟨r, h1, h2 n⟩
theorem forList {α σ ρ : Type} {L : Nat → Int → σ → Option ρ} (x0 : List α) (g : List α → σ → ρ) (Inv : Nat → σ → Prop)
    (hnil : ∀ n s, Inv x0.length s → L (n + 1) (x0.length : Nat) s = some (g [] s))
    (hcons : ∀ i x l s, x0.drop i = x :: l → i < x0.length → x0[i]? = some x → Inv i s →
      (∃ s', Inv (i + 1) s' ∧ g (x :: l) s = g l s' ∧ ∀ n, L (n + 1) (i : Nat) s = L n ((i + 1 : Nat) : Int) s') ∨ (∀ n, L (n + 1) (i : Nat) s = some (g (x :: l) s))) :
    ∀ n i s, Inv i s → i ≤ x0.length → x0.length < n + i → L n (i : Nat) s = some (g (x0.drop i) s) := by
  intro n
  induction n with
  | zero => intro i s _ h1 h2; omega
  | succ n ih =>
    intro i s hs hi hn
    cases hd : x0.drop i with
    | nil =>
      have := drop_nil hd
      obtain rfl : i = x0.length := by omega
      exact hnil n s hs
    | cons x l =>
      obtain ⟨h1, h2, h3⟩ := drop_cons hd
      rcases hcons i x l s hd h1 h2 hs with ⟨s', h4, h5, h6⟩ | h
      · rw [h6, ih (i + 1) s' h4 (by omega) (by omega), h3, h5]
      · exact h n
theorem xCl {α : Type} {xs : List α} {i : Nat} {x : α} (h : xs[i]? = some x) (d : α) : xs.getD i d = x := by simp [List.getD, h]
theorem xBv {i : Nat} {len : Nat} (h : i < len) (hl : len ≤ 9223372036854775807) : IntKind.i64.wrap ((i : Int) + 1) = ((i + 1 : Nat) : Int) := by
  rw [xBx (by omega) (by omega)]; omega
def left (s : Nat) (l : Int) : Int := if (s : Int) ≤ l then l - s else -1
theorem left_of {s : Nat} {l : Int} (h : (s : Int) ≤ l) : left s l = l - s := by unfold left; rw [if_pos h]
theorem left_not {s : Nat} {l : Int} (h : ¬ (s : Int) ≤ l) : left s l = -1 := by unfold left; rw [if_neg h]
theorem szThen {s b : Nat} {F : Option Int} {R : Int → Option Int} {l : Int} (hl : s ≤ 9223372036854775807) (h0 : 0 ≤ l) (h1 : l ≤ 1048576)
    (hF : F = bif decide (IntKind.i64.wrap (l - (s : Int)) < 0) then some (-1) else R (IntKind.i64.wrap (l - (s : Int))))
    (hR : ∀ m, 0 ≤ m → m ≤ 1048576 → R m = some (left b m)) : F = some (left (s + b) l) := by
  rw [hF, xBx (by omega) (by omega)]
  by_cases h : (s : Int) ≤ l
  · rw [decide_eq_false (by omega), cond_false, hR _ (by omega) (by omega)]
    unfold left
    split <;> split <;> first | rfl | omega | (congr 1; omega)
  · rw [decide_eq_true (by omega), cond_true, left_not (by omega)]
theorem szLast {s : Nat} {l : Int} (hl : s ≤ 9223372036854775807) (h0 : 0 ≤ l) (h1 : l ≤ 1048576) :
    (bif decide (IntKind.i64.wrap (l - (s : Int)) < 0) then some (-1) else some (IntKind.i64.wrap (l - (s : Int)))) = some (left s l) := by
  rw [xBx (by omega) (by omega)]
  unfold left
  by_cases h : (s : Int) ≤ l
  · rw [decide_eq_false (by omega), if_pos h]; rfl
  · rw [decide_eq_true (by omega), if_neg h]; rfl
theorem szBind {a b : Nat} {l : Int} {x : Option Int} {R : Int → Option Int} (h0 : 0 ≤ l) (h1 : l ≤ 1048576) (h : x = some (left a l)) (hR : ∀ m, 0 ≤ m → m ≤ 1048576 → R m = some (left b m)) :
    (x.bind fun r1 => bif decide (r1 < 0) then (some (-1) : Option Int) else R r1) = some (left (a + b) l) := by
  rw [h, Option.bind_some]
  by_cases h : (a : Int) ≤ l
  · rw [left_of h, decide_eq_false (by omega), cond_false, hR _ (by omega) (by omega)]
    unfold left
    split <;> split <;> first | rfl | omega | (congr 1; omega)
  · rw [left_not h, left_not (by omega)]; rfl
theorem left_two {a : Nat} {l : Int} {x : Option Int} (h : x = some (left a l)) : (x.bind fun r1 => bif decide (r1 < 0) then (some (-1) : Option Int) else some r1) = some (left a l) := by
  rw [h, Option.bind_some]
  unfold left
  split
  · rw [decide_eq_false (by omega)]; rfl
  · rfl
section
variable {α : Type} {d : α}
theorem szLoop {L : Nat → List α → Int → Int → Option Int} {sz : α → Int → Option Int} {size : α → Nat} {x0 : List α}
    (hL : ∀ n x1 x5, L (n + 1) x0 x1 x5 = bif decide (x5 < (x0.length : Int)) then (if (0 : Int) ≤ x5 ∧ x5 < (x0.length : Int) then Option.bind (sz (x0.getD x5.toNat d) x1) fun r1 => bif decide (r1 < 0) then some (-1) else L n x0 r1 (IntKind.i64.wrap (x5 + 1)) else none) else some x1)
    (hlen : x0.length ≤ 9223372036854775807) (hsz : ∀ x ∈ x0, ∀ l, 0 ≤ l → l ≤ 1048576 → sz x l = some (left (size x) l)) {n : Nat} (hn : x0.length < n) {l : Int} (h0 : 0 ≤ l) (h1 : l ≤ 1048576) :
    L n x0 l 0 = some (left (x0.map size).sum l) := by
  have key := forList (L := fun n i s => L n x0 s i) x0 (fun l s => left (l.map size).sum s) (fun _ s => 0 ≤ s ∧ s ≤ 1048576) (fun n s hs => by
      have hs : 0 ≤ s ∧ s ≤ 1048576 := hs
      simp only [hL]; simp [left]; omega)
    (fun i x r s hd hi hx hs => by
      have hs : 0 ≤ s ∧ s ≤ 1048576 := hs
      have hi' : (i : Int) < (x0.length : Int) := by omega
      have hm : x ∈ x0 := List.mem_of_getElem? hx
      by_cases hle : (size x : Int) ≤ s
      · refine .inl ⟨s - size x, by omega, ?_, fun n => ?_⟩
        · simp only [List.map_cons, List.sum_cons, left]
          split <;> split <;> omega
        · simp only [hL, decide_eq_true hi', cond_true, Int.toNat_natCast, xCl hx, hsz x hm s hs.1 hs.2, left_of hle, Option.bind_some, xBv hi hlen]
          rw [if_pos (by omega), decide_eq_false (by omega), cond_false]
      · refine .inr fun n => ?_
        simp only [hL, decide_eq_true hi', cond_true, Int.toNat_natCast, xCl hx, hsz x hm s hs.1 hs.2, left_not hle, Option.bind_some]
        rw [if_pos (by omega), decide_eq_true (by omega), cond_true]
        simp only [List.map_cons, List.sum_cons, left]
        rw [if_neg (by omega)])
    n 0 l ⟨h0, h1⟩ (by omega) (by omega)
  simpa using key
theorem szLoopG {L : Nat → List α → Int → Int → Option Int} {sz : α → Int → Option Int} {size : α → Nat} {x0 : List α}
    (hL : ∀ n x1 x5, L (n + 1) x0 x1 x5 = bif decide (x5 < (x0.length : Int)) then (if (0 : Int) ≤ x5 ∧ x5 < (x0.length : Int) then Option.bind (sz (x0.getD x5.toNat d) x1) fun r1 => bif decide (r1 < 0) then some (-1) else L n x0 r1 (IntKind.i64.wrap (x5 + 1)) else none) else some x1)
    (hlen : x0.length ≤ 9223372036854775807) (hsz : ∀ x ∈ x0, ∀ l, 0 ≤ l → l ≤ 1048576 → ∃ r, sz x l = some r ∧ ((size x : Int) ≤ l → r = l - size x) ∧ (¬ (size x : Int) ≤ l → r < 0)) {n : Nat} (hn : x0.length < n) {l : Int} (h0 : 0 ≤ l) (h1 : l ≤ 1048576) :
    L n x0 l 0 = some (left (x0.map size).sum l) := by
  have key := forList (L := fun n i s => L n x0 s i) x0 (fun l s => left (l.map size).sum s) (fun _ s => 0 ≤ s ∧ s ≤ 1048576) (fun n s hs => by
      have hs : 0 ≤ s ∧ s ≤ 1048576 := hs
      simp only [hL]; simp [left]; omega)
    (fun i x r s hd hi hx hs => by
      have hs : 0 ≤ s ∧ s ≤ 1048576 := hs
      have hi' : (i : Int) < (x0.length : Int) := by omega
      have hm : x ∈ x0 := List.mem_of_getElem? hx
      obtain ⟨q, hq, hq1, hq2⟩ := hsz x hm s hs.1 hs.2
      by_cases hle : (size x : Int) ≤ s
      · refine .inl ⟨s - size x, by omega, ?_, fun n => ?_⟩
        · simp only [List.map_cons, List.sum_cons, left]
          split <;> split <;> omega
        · simp only [hL, decide_eq_true hi', cond_true, Int.toNat_natCast, xCl hx, hq, hq1 hle, Option.bind_some, xBv hi hlen]
          rw [if_pos (by omega), decide_eq_false (by omega), cond_false]
      · refine .inr fun n => ?_
        simp only [hL, decide_eq_true hi', cond_true, Int.toNat_natCast, xCl hx, hq, Option.bind_some]
        have := hq2 hle
        rw [if_pos (by omega), decide_eq_true (by omega), cond_true]
        simp only [List.map_cons, List.sum_cons, left]
        rw [if_neg (by omega)])
    n 0 l ⟨h0, h1⟩ (by omega) (by omega)
  simpa using key
theorem toLoop {L : Nat → List α → List α → Int → Option (List α)} {to : α → Option α} {re : α → α} {x0 : List α}
    (hL : ∀ n x3 x4, L (n + 1) x0 x3 x4 = bif decide (x4 < (x0.length : Int)) then (if (0 : Int) ≤ x4 ∧ x4 < (x0.length : Int) then Option.bind (to (x0.getD x4.toNat d)) fun r1 => (if (0 : Int) ≤ x4 ∧ x4 < (x3.length : Int) then L n x0 (x3.set x4.toNat (re r1)) (IntKind.i64.wrap (x4 + 1)) else none) else none) else some x3)
    (hlen : x0.length ≤ 9223372036854775807) (hto : ∀ x ∈ x0, ∃ y, to x = some y ∧ re y = x) {n : Nat} (hn : x0.length < n) :
    L n x0 (List.replicate x0.length d) 0 = some x0 := by
  have key := forList (L := fun n i s => L n x0 s i) x0 (fun _ _ => x0) (fun i s => s = x0.take i ++ List.replicate (x0.length - i) d) (fun n s hs => by
      have hs : s = x0.take x0.length ++ List.replicate (x0.length - x0.length) d := hs
      simp only [hL]; simp [hs])
    (fun i x r s hd hi hx hs => by
      have hs : s = x0.take i ++ List.replicate (x0.length - i) d := hs
      have hi' : (i : Int) < (x0.length : Int) := by omega
      have hm : x ∈ x0 := List.mem_of_getElem? hx
      obtain ⟨y, h1, h2⟩ := hto x hm
      have hsl : s.length = x0.length := by rw [hs]; simp; omega
      refine .inl ⟨s.set i x, ?_, rfl, fun n => ?_⟩
      · show s.set i x = x0.take (i + 1) ++ List.replicate (x0.length - (i + 1)) d
        rw [hs, List.set_append]
        have : (x0.take i).length = i := by simp; omega
        rw [this, if_neg (by omega), List.take_add_one, hx, Option.toList_some, List.append_assoc, Nat.sub_self]
        rw [show x0.length - i = (x0.length - (i + 1)) + 1 from by omega, List.replicate_succ, List.set_cons_zero]
        rfl
      · simp only [hL, decide_eq_true hi', cond_true, Int.toNat_natCast, xCl hx, h1, h2, Option.bind_some, xBv hi hlen, hsl]
        rw [if_pos (by omega), if_pos (by omega)])
    n 0 (List.replicate x0.length d) (by simp) (by omega) (by omega)
  exact key
theorem eqLoop {L : Nat → Int → Option Bool} {x0 : List α} (hend : ∀ n, L (n + 1) (x0.length : Nat) = some true)
    (hcons : ∀ (i : Nat) x n, i < x0.length → x0[i]? = some x → x ∈ x0 → L (n + 1) (i : Nat) = L n ((i + 1 : Nat) : Int)) {n : Nat} (hn : x0.length < n) : L n 0 = some true := by
  have key := forList (σ := Unit) (L := fun n i _ => L n i) x0 (fun _ _ => true) (fun _ _ => True) (fun n _ _ => hend n)
    (fun i x r s hd hi hx _ => .inl ⟨(), trivial, rfl, fun n => hcons i x n hi hx (List.mem_of_getElem? hx)⟩) n 0 () trivial (by omega) (by omega)
  exact key
end
end Go.Ab
end
section
namespace Go.Ab
set_option linter.unusedVariables false
theorem vk (a b c : Int) (t : Str) (l : List Val) (k : List Str) (r : List Rowd) : (Val.mk a b c t l k r).kind = a := rfl
theorem vn (a b c : Int) (t : Str) (l : List Val) (k : List Str) (r : List Rowd) : (Val.mk a b c t l k r).n = b := rfl
theorem vs (a b c : Int) (t : Str) (l : List Val) (k : List Str) (r : List Rowd) : (Val.mk a b c t l k r).step = c := rfl
theorem vt (a b c : Int) (t : Str) (l : List Val) (k : List Str) (r : List Rowd) : (Val.mk a b c t l k r).text = t := rfl
theorem vl (a b c : Int) (t : Str) (l : List Val) (k : List Str) (r : List Rowd) : (Val.mk a b c t l k r).list = l := rfl
theorem vc (a b c : Int) (t : Str) (l : List Val) (k : List Str) (r : List Rowd) : (Val.mk a b c t l k r).columns = k := rfl
theorem vr (a b c : Int) (t : Str) (l : List Val) (k : List Str) (r : List Rowd) : (Val.mk a b c t l k r).rows = r := rfl
theorem ek (a b : Int) (t : Str) (l : List Exp) : (Exp.mk a b t l).kind = a := rfl
theorem ea (a b : Int) (t : Str) (l : List Exp) : (Exp.mk a b t l).args = l := rfl
def Fil.size (f : Fil) : Nat := f.name.length
def Wld.size (w : Wld) : Nat := w.files.length + (w.files.map Fil.size).sum
def Rowd.size (r : Rowd) : Nat := r.cells.length + r.frm.length
mutual
def Val.size : Val → Nat
  | .mk _ _ _ t l c r => t.length + (l.length + Val.sizes l) + (c.length + (c.map List.length).sum) + (r.length + (r.map Rowd.size).sum)
def Val.sizes : List Val → Nat
  | [] => 0
  | x :: r => Val.size x + Val.sizes r
end
theorem Val.sizes_eq (l : List Val) : Val.sizes l = (l.map Val.size).sum := by
  induction l with
  | nil => rfl
  | cons x l ih => simp [Val.sizes, ih]
theorem size_mem {α : Type} {f : α → Nat} {l : List α} {x : α} (h : x ∈ l) : f x ≤ (l.map f).sum := by
  induction l with
  | nil => cases h
  | cons a l ih =>
    simp only [List.map_cons, List.sum_cons]
    rcases List.mem_cons.1 h with rfl | h
    · omega
    · have := ih h; omega
theorem Val.size_eq (e : Val) : e.size = e.text.length + (e.list.length + (e.list.map Val.size).sum) + (e.columns.length + (e.columns.map List.length).sum) + (e.rows.length + (e.rows.map Rowd.size).sum) := by
  cases e; simp [Val.size, Val.sizes_eq, Val.text, Val.list, Val.columns, Val.rows]
theorem lfit_size {α : Type} {K M : Nat} {p q : α → Prop} {f : α → Nat} {l : List α} (h : LFit M p l) (hs : l.length + (l.map f).sum ≤ K) (hpq : ∀ x ∈ l, p x → f x ≤ K → q x) : LFit K q l :=
  ⟨by omega, fun x hx => hpq x hx (h.2 x hx) (by have := size_mem (f := f) hx; omega)⟩
theorem Rowd.fit_size {K M : Nat} {r : Rowd} (h : r.Fit M) (hs : r.size ≤ K) : r.Fit K := by
  unfold Rowd.size at hs
  exact ⟨⟨by omega, h.1.2⟩, ⟨by omega, h.2.2⟩⟩
theorem Val.fit_size {K M : Nat} : ∀ e : Val, e.Fit M → e.size ≤ K → e.Fit K := by
  refine Val.ind fun k n s t l c r ih h hs => ?_
  rw [Val.fit_iff] at h ⊢
  obtain ⟨h1, h2, h3, h4, h5, h6, h7⟩ := h
  have hs := hs
  rw [Val.size_eq] at hs
  exact ⟨h1, h2, h3, show List.length _ ≤ K from by omega, lfit_size h5 (by omega) fun x hx => ih x hx, lfit_size (f := List.length) h6 (by omega) fun x hx _ h => h, lfit_size (f := Rowd.size) h7 (by omega) fun x hx => Rowd.fit_size⟩
theorem Fil.fit_size {K M : Nat} {r : Fil} (h : r.Fit M) (hs : r.size ≤ K) : r.Fit K := ⟨hs, h.2⟩
theorem Wld.fit_size {K M : Nat} {r : Wld} (h : r.Fit M) (hs : r.size ≤ K) : r.Fit K := ⟨h.1, h.2.1, lfit_size (f := Fil.size) h.2.2 hs fun x hx => Fil.fit_size⟩
theorem big_lt (n : Nat) : Big fun N => n < N := ⟨n + 1, fun N h => by omega⟩
end Go.Ab
end
section
namespace Go.Ab
set_option linter.unusedVariables false
theorem xE2 {α : Type} {Lm : Nat → List α → Int → Int → Option (Int × List α)} {Lh : Nat → List α → Int → Int → Option Int} {c : α → Nat} {x0 : List α} {k0 B : Int} {n : Nat}
    (hm : ∀ n xs k, xs.length = x0.length → Lm (n + 1) xs k (xs.length : Nat) = some (k, xs)) (hh : ∀ n ys k, ys.length = x0.length → Lh (n + 1) ys k (ys.length : Nat) = some k)
    (hx : ∀ x ∈ x0, ∀ k, k0 ≤ k → k + c x ≤ B → ∃ y, (∀ n xs (i : Nat), xs.length = x0.length → xs[i]? = some x → Lm (n + 1) xs k i = Lm n (xs.set i y) (k + c x) ((i + 1 : Nat) : Int)) ∧
      (∀ n ys (i : Nat), ys.length = x0.length → ys[i]? = some y → Lh (n + 1) ys k i = Lh n ys (k + c x) ((i + 1 : Nat) : Int)))
    (hk : k0 + (x0.map c).sum ≤ B) (hn : x0.length < n) : ∃ ys, ys.length = x0.length ∧ Lm n x0 k0 0 = some (k0 + (x0.map c).sum, ys) ∧ Lh n ys k0 0 = some (k0 + (x0.map c).sum) := by
  have key : ∀ (l pre : List α) (k : Int) (n : Nat), pre.length + l.length = x0.length → (∀ x ∈ l, x ∈ x0) → k0 ≤ k → k + (l.map c).sum ≤ B → l.length < n →
      ∃ ys, ys.length = l.length ∧ Lm n (pre ++ l) k (pre.length : Nat) = some (k + (l.map c).sum, pre ++ ys) ∧ ∀ pre' : List α, pre'.length = pre.length → Lh n (pre' ++ ys) k (pre.length : Nat) = some (k + (l.map c).sum) := by
    intro l
    induction l with
    | nil =>
      intro pre k n hl hmem h0 hB hn
      obtain ⟨n, rfl⟩ : ∃ m, n = m + 1 := ⟨n - 1, by simp at hn; omega⟩
      refine ⟨[], rfl, ?_, fun pre' hp => ?_⟩
      · have := hm n (pre ++ []) k (by simpa using hl)
        simpa using this
      · have := hh n (pre' ++ []) k (by simp [hp]; simpa using hl)
        simp only [List.append_nil, hp] at this
        simpa using this
    | cons x l ih =>
      intro pre k n hl hmem h0 hB hn
      obtain ⟨n, rfl⟩ : ∃ m, n = m + 1 := ⟨n - 1, by simp at hn; omega⟩
      simp only [List.map_cons, List.sum_cons, List.length_cons] at hB hl hn
      obtain ⟨y, h1, h2⟩ := hx x (hmem x List.mem_cons_self) k h0 (by omega)
      obtain ⟨ys, g1, g2, g3⟩ := ih (pre ++ [y]) (k + c x) n (by simp; omega) (fun z hz => hmem z (List.mem_cons_of_mem _ hz)) (by omega) (by omega) (by omega)
      refine ⟨y :: ys, by simp [g1], ?_, fun pre' hp => ?_⟩
      · rw [h1 n (pre ++ x :: l) pre.length (by simp; omega) (by simp)]
        rw [List.set_append, if_neg (by omega), Nat.sub_self, List.set_cons_zero]
        have e : ((pre.length + 1 : Nat) : Int) = ((pre ++ [y]).length : Nat) := by simp
        rw [e, show pre ++ y :: l = (pre ++ [y]) ++ l from by simp, g2]
        simp only [List.map_cons, List.sum_cons, List.append_assoc, List.cons_append, List.nil_append]
        congr 2
        omega
      · rw [h2 n (pre' ++ y :: ys) pre.length (by simp [hp, g1]; omega) (by rw [← hp]; simp)]
        have e : ((pre.length + 1 : Nat) : Int) = ((pre ++ [y]).length : Nat) := by simp
        rw [e, show pre' ++ y :: ys = (pre' ++ [y]) ++ ys from by simp, g3 (pre' ++ [y]) (by simp [hp])]
        simp only [List.map_cons, List.sum_cons]
        congr 1
        omega
  obtain ⟨ys, h1, h2, h3⟩ := key x0 [] k0 n (by simp) (fun x h => h) (Int.le_refl _) hk hn
  exact ⟨ys, h1, h2, by simpa using h3 [] rfl⟩
theorem sum_le_mul {α : Type} {f g : α → Nat} {l : List α} {a : Nat} (h : ∀ x ∈ l, f x ≤ a + a * g x) : (l.map f).sum ≤ a * (l.length + (l.map g).sum) := by
  induction l with
  | nil => simp
  | cons x l ih =>
    have h1 := h x List.mem_cons_self
    have h2 := ih fun y hy => h y (List.mem_cons_of_mem _ hy)
    simp only [List.map_cons, List.sum_cons, List.length_cons, Nat.mul_add] at h2 ⊢
    omega
theorem xEn {α : Type} {xs : List α} {i : Nat} (h : i < xs.length) (y d : α) : (xs.set i y).getD i d = y := by simp [List.getD, h]
end Go.Ab
end
section
namespace Go.Ab
set_option linter.unusedVariables false
theorem szFile_eq {N : Nat} {f : Fil} (h : f.Fit maxLen) {l : Int} (h0 : 0 ≤ l) (h1 : l ≤ 1048576) : xD8 N f l = some (left f.size l) := by
  exact szLast h.1 h0 h1
theorem szFileS_eq {N : Nat} {x0 : List Fil} (h : LFit maxLen (Fil.Fit maxLen) x0) (hn : x0.length < N) {l : Int} (h0 : 0 ≤ l) (h1 : l ≤ 1048576) : xEi N x0 l = some (left (x0.length + (x0.map Fil.size).sum) l) :=
  szThen h.1 h0 h1 rfl fun m hm0 hm1 => szLoop (L := fun n x0 x1 x5 => xDt N n x0 x1 x5) (d := Ty.fil.dflt) (sz := xD8 N) (fun _ _ _ => rfl) h.1 (fun x hx l h0 h1 => szFile_eq (h.2 x hx) h0 h1) hn hm0 hm1
theorem szWorld_eq {N : Nat} {w : Wld} (h : w.Fit maxLen) (hn : w.files.length < N) {l : Int} (h0 : 0 ≤ l) (h1 : l ≤ 1048576) : xEj N w l = some (left w.size l) := left_two (szFileS_eq h.2.2 hn h0 h1)
theorem toFileS_eq {N : Nat} {x0 : List Fil} (hl : x0.length ≤ 1048576) (hn : x0.length < N) : xDV N x0 = some x0 := by
  unfold xDV
  rw [if_pos ⟨by omega, rfl, by unfold Lim; omega⟩]
  exact toLoop (L := fun n x0 x3 x4 => xDu N n x0 x3 x4) (to := xEy N) (re := fun r => r) (fun _ _ _ => rfl) (by omega) (fun x hx => ⟨x, rfl, rfl⟩) hn
theorem toWorld_eq {N : Nat} {w : Wld} (hl : w.files.length ≤ 1048576) (hn : w.files.length < N) : xCs N w = some w := by
  unfold xCs
  rw [toFileS_eq hl hn]; rfl
theorem eqFile_self (N : Nat) (f : Fil) : xD3 N f f = some true := by simp [xD3]
theorem eqFileS_self {N : Nat} {x0 : List Fil} (hl : x0.length ≤ 9223372036854775807) (hn : x0.length < N) : xDT N x0 x0 = some true := by
  unfold xDT
  rw [bne_self_eq_false, cond_false]
  exact eqLoop (L := fun n i => xCB N n x0 x0 i) (fun n => by simp [xCB]) (fun i x n hi hx hm => by
    have hi' : (i : Int) < (x0.length : Int) := by omega
    simp only [xCB, decide_eq_true hi', cond_true, Int.toNat_natCast, xCl hx, eqFile_self, Option.bind_some, xBv hi hl, Bool.not_true, cond_false]
    rw [if_pos (by omega), if_pos (by omega)]) hn
theorem eqWorld_self {N : Nat} {w : Wld} (hl : w.files.length ≤ 9223372036854775807) (hn : w.files.length < N) : xDs N w w = some true := by
  simp [xDs, eqFileS_self hl hn]
end Go.Ab
end
section
namespace Go.Ab
set_option linter.unusedVariables false
set_option linter.unusedSimpArgs false
def letterC (c : UInt8) : Bool := decide ((c.toNat : Int) ≥ 97) && decide ((c.toNat : Int) ≤ 122)
def digitC (c : UInt8) : Bool := decide ((c.toNat : Int) ≥ 48) && decide ((c.toNat : Int) ≤ 57)
def shapeG : List UInt8 → Bool → Bool
  | [], _ => true
  | x :: r, f => (letterC x || (!f && digitC x)) && shapeG r false
theorem xE7 (N : Nat) (a b c : Int) : xDQ N a b c = some (decide (b ≤ a) && decide (a ≤ c)) := by
  unfold xDQ
  cases h : decide (b ≤ a) <;> simp
theorem spec_l1In_eq (N : Nat) (a b c : Int) : xEA N a b c = some (decide (b ≤ a) && decide (a ≤ c)) := by
  unfold xEA
  cases h : decide (b ≤ a)
  · rfl
  · rfl
def reservedL : List Str := [[108, 101, 116], [105, 110], [105, 102], [116, 104, 101, 110], [101, 108, 115, 101], [102, 111, 114], [100, 111], [108, 101, 110], [115, 117, 109], [116, 97, 107, 101], [115, 107, 105, 112], [114, 97, 110, 103, 101], [110, 116, 104], [119, 104, 101, 114, 101], [107, 101, 101, 112], [97, 100, 100], [103, 114, 111, 117, 112], [106, 111, 105, 110], [99, 111, 108, 117, 109, 110], [114, 111, 119, 115], [99, 108, 111, 99, 107], [99, 104, 97, 110, 99, 101], [102, 105, 108, 101], [116, 97, 98, 108, 101]]
def reserved (s : Str) : Bool := reservedL.any (· == s)
def validName (s : Str) : Bool := shapeG s true && (decide ((1 : Int) ≤ s.length) && decide ((s.length : Int) ≤ 8)) && !reserved s
end Go.Ab
end
section
namespace Go.Ab
set_option linter.unusedVariables false
set_option linter.unusedSimpArgs false
theorem left_ge {s : Nat} {l : Int} (h : ¬ left s l < 0) : (s : Int) ≤ l := by unfold left at h; split at h <;> omega
theorem exp_of_cells {a0 : Exp} (f0 : ∀ z ∈ [CV.int .i64 (Exp.kind a0), .int .i64 (Exp.n a0), .str (Exp.text a0), .sl .ro .exp (Exp.args a0)], DFit z.toD) : a0.Fit maxLen := by
  have f := fun z hz => (f0 z hz).dk
  simp only [List.mem_cons, List.not_mem_nil, or_false, forall_eq_or_imp, forall_eq] at f
  obtain ⟨h1, h2, h3, h4⟩ := f
  exact Exp.fit_iff.2 ⟨xEd h1, xEd h2, cell_str h3, cell_sl h4⟩
def xEN : List Fil → Str → Int × Bool
  | [], _ => (0, false)
  | x :: r, s => bif x.name == s then (x.n, true) else xEN r s
theorem xFi {N : Nat} {w : Wld} {s : Str} (hl : w.files.length ≤ 9223372036854775807) (hn : w.files.length < N) : xDd N w s = some (xEN w.files s) :=
  forList (σ := Unit) (L := fun n i _ => xBn N n s i w) w.files (fun l _ => xEN l s) (fun _ _ => True) (fun n _ _ => by simp [xBn, xEN])
    (fun i x l _ hd hi hx _ => by
      have hi' : (i : Int) < (w.files.length : Int) := by omega
      cases h1 : x.name == s
      · refine .inl ⟨(), trivial, by simp only [xEN, h1, cond_false], fun n => ?_⟩
        simp only [xBn, decide_eq_true hi', cond_true, Int.toNat_natCast, xCl hx, h1, cond_false, xBv hi hl]
        rw [if_pos (by omega)]
      · refine .inr fun n => ?_
        simp only [xBn, decide_eq_true hi', cond_true, Int.toNat_natCast, xCl hx, h1]
        rw [if_pos (by omega)]
        simp only [xEN, h1, cond_true]) N 0 () trivial (by omega) (by omega)
theorem xFc {N : Nat} {w : Wld} {s : Str} (hl : w.files.length ≤ 9223372036854775807) (hn : w.files.length < N) : xC6 N w s = some (xEN w.files s) :=
  forList (σ := Unit) (L := fun n i _ => xBl N n s w.files w.files.length i) w.files (fun l _ => xEN l s) (fun _ _ => True) (fun n _ _ => by simp [xBl, xEN])
    (fun i x l _ hd hi hx _ => by
      have hi' : (i : Int) < (w.files.length : Int) := by omega
      cases h1 : x.name == s
      · refine .inl ⟨(), trivial, by simp only [xEN, h1, cond_false], fun n => ?_⟩
        simp only [xBl, decide_eq_true hi', cond_true, Int.toNat_natCast, xCl hx, h1, cond_false, xBv hi hl]
        rw [if_pos (by omega)]
      · refine .inr fun n => ?_
        simp only [xBl, decide_eq_true hi', cond_true, Int.toNat_natCast, xCl hx, h1]
        rw [if_pos (by omega)]
        simp only [xEN, h1, cond_true]) N 0 () trivial (by omega) (by omega)
theorem wld_of_cells {a0 : Wld} (f0 : ∀ z ∈ [CV.int .i64 (Wld.clock a0), .int .i64 (Wld.seed a0), .sl .ro .fil (Wld.files a0)], DFit z.toD) : a0.Fit maxLen := by
  have f := fun z hz => (f0 z hz).dk
  simp only [List.mem_cons, List.not_mem_nil, or_false, forall_eq_or_imp, forall_eq] at f
  obtain ⟨h1, h2, h3⟩ := f
  exact ⟨xEd h1, xEd h2, (cell_sl h3).imp fun x => fil_fit.1⟩
end Go.Ab
end
section
namespace Go.Ab
set_option linter.unusedVariables false
set_option linter.unusedSimpArgs false
def xEQ (n : Int) : Bool := decide ((-1000000000 : Int) ≤ n) && decide (n ≤ 1000000000)
theorem xEM (N : Nat) (n : Int) : xC5 N n = some (xEQ n) := by simp [xC5, spec_l1In_eq, xEQ]
theorem xEk (N : Nat) (n : Int) : xCL N n = some (xEQ n) := by simp [xCL, xE7, xEQ]
theorem xEH {N : Nat} (hN : 274877906944 < N) {k : Int} (h0 : 0 ≤ k) (h1 : k ≤ 137438953472) : ∃ t, xB6 N k = some t := by
  unfold xB6
  cases decide (k ≤ 0)
  · rw [cond_false]
    obtain ⟨r, _, hr⟩ := whileLoop (L := fun n (s : Int × Str) => xCj N n s.1 s.2) (fun s => s.1.toNat) (fun s => 0 ≤ s.1 ∧ (s.2.length : Int) + s.1 ≤ 137438953472) (fun _ => True) (fun s hs => by
      obtain ⟨x, t⟩ := s
      obtain ⟨g0, g1⟩ := hs
      have g0 : 0 ≤ x := g0
      have g1 : (t.length : Int) + x ≤ 137438953472 := g1
      by_cases hx : x > 0
      · have hq : Int.tdiv x 10 = x / 10 := Int.tdiv_eq_ediv_of_nonneg g0
        refine .inl ⟨(IntKind.i64.wrap (Int.tdiv x 10), (List.map (fun n => UInt8.ofNat (Int.toNat n)) [(IntKind.u8.wrap ((IntKind.i64.wrap (48 + (Int.tmod x 10)))))]) ++ t), ?_, ?_, fun n => ?_⟩
        · show 0 ≤ IntKind.i64.wrap (Int.tdiv x 10) ∧ _
          rw [hq, xBx (by omega) (by omega)]
          simp only [List.map_cons, List.map_nil, List.cons_append, List.nil_append, List.length_cons]
          omega
        · show (IntKind.i64.wrap (Int.tdiv x 10)).toNat < x.toNat
          rw [hq, xBx (by omega) (by omega)]
          omega
        · simp only [xCj, decide_eq_true hx, cond_true]
          rw [if_pos (by simp only [List.map_cons, List.map_nil, List.length_cons, List.length_nil]; unfold Lim; omega)]
      · refine .inr ⟨[109] ++ t, trivial, fun n => ?_⟩
        simp only [xCj, decide_eq_false hx, cond_false]
        rw [if_pos (by simp only [List.length_cons, List.length_nil]; unfold Lim; omega)]) N (k, []) ⟨h0, by simpa using h1⟩ (by show k.toNat < N; omega)
    exact ⟨r, hr⟩
  · exact ⟨_, rfl⟩
def cFil (_ : Fil) : Nat := 2
theorem cFil_sum (xs : List Fil) : (xs.map cFil).sum = 2 * xs.length := by
  induction xs with
  | nil => rfl
  | cons x l ih => simp only [List.map_cons, List.sum_cons, ih, List.length_cons, cFil]; omega
end Go.Ab
end
section
namespace Go.Ab
set_option linter.unusedVariables false
set_option linter.unusedSimpArgs false
theorem szIntS_eq {N : Nat} {x0 : List Int} (h : x0.length ≤ 9223372036854775807) {l : Int} (h0 : 0 ≤ l) (h1 : l ≤ 1048576) : xEv N x0 l = some (left x0.length l) := szLast h h0 h1
theorem szOriginS_eq {N : Nat} {x0 : List Org} (h : x0.length ≤ 9223372036854775807) {l : Int} (h0 : 0 ≤ l) (h1 : l ≤ 1048576) : xDE N x0 l = some (left x0.length l) := szLast h h0 h1
theorem szRow_eq {N : Nat} {r : Rowd} (h : r.Fit maxLen) {l : Int} (h0 : 0 ≤ l) (h1 : l ≤ 1048576) : xEq N r l = some (left r.size l) :=
  szBind h0 h1 (szIntS_eq h.1.1 h0 h1) fun m m0 m1 => left_two (szOriginS_eq h.2.1 m0 m1)
theorem szRowS_eq {N : Nat} {x0 : List Rowd} (h : LFit maxLen (Rowd.Fit maxLen) x0) (hn : x0.length < N) {l : Int} (h0 : 0 ≤ l) (h1 : l ≤ 1048576) : xEx N x0 l = some (left (x0.length + (x0.map Rowd.size).sum) l) :=
  szThen h.1 h0 h1 rfl fun m hm0 hm1 => szLoop (L := fun n x0 x1 x5 => xDF N n x0 x1 x5) (d := Ty.row.dflt) (sz := xEq N) (fun _ _ _ => rfl) h.1 (fun x hx l h0 h1 => szRow_eq (h.2 x hx) h0 h1) hn hm0 hm1
theorem szStringS_eq {N : Nat} {x0 : List Str} (h : LFit maxLen (Str.Fit maxLen) x0) (hn : x0.length < N) {l : Int} (h0 : 0 ≤ l) (h1 : l ≤ 1048576) : xDG N x0 l = some (left (x0.length + (x0.map List.length).sum) l) :=
  szThen h.1 h0 h1 rfl fun m hm0 hm1 => szLoopG (L := fun n x0 x1 x5 => xCW N n x0 x1 x5) (d := Ty.str.dflt) (sz := fun s l => some (IntKind.i64.wrap (l - (List.length s : Int)))) (size := List.length) (fun _ _ _ => rfl) h.1
    (fun x hx l h0 h1 => by
      have hx : x.length ≤ 9223372036854775807 := h.2 x hx
      exact ⟨_, rfl, fun h => by rw [xBx (by omega) (by omega)], fun h => by rw [xBx (by omega) (by omega)]; omega⟩) hn hm0 hm1
theorem szValue_big : ∀ v : Val, v.Fit maxLen → Big2 fun N d => ∀ l, 0 ≤ l → l ≤ 1048576 → (xBd N d).c_laws_szValue v l = some (left v.size l) := by
  refine Val.ind fun k n s t a c r ih h => ?_
  obtain ⟨h1, h2, h3, h4, h5, h6, h7⟩ := Val.fit_iff.1 h
  refine Big2.succ (Big2.succ ?_)
  refine ((Big2.list fun x hx => ih x hx (h5.2 x hx)).and ((big_lt a.length).and ((big_lt c.length).and (big_lt r.length))).two).imp fun N d ⟨hx, hn, hc, hr⟩ l h0 l1 => ?_
  have e : (Val.mk k n s t a c r).size = t.length + ((a.length + (a.map Val.size).sum) + ((c.length + (c.map List.length).sum) + (r.length + (r.map Rowd.size).sum))) := by rw [Val.size_eq]; simp only [Val.text, Val.list, Val.columns, Val.rows]; omega
  rw [e]
  exact szThen h4 h0 l1 rfl fun m m0 m1 => szBind m0 m1 (szThen h5.1 m0 m1 rfl fun m m0 m1 =>
    szLoop (L := fun n x0 x1 x5 => xDa N (xBd N d).c_laws_szValue (xBd N d).c_laws_szValueS n x0 x1 x5) (d := Ty.val.dflt) (sz := (xBd N d).c_laws_szValue)
      (fun _ _ _ => rfl) h5.1 (fun x hxm l h0 h1 => hx x hxm l h0 h1) hn m0 m1) fun m m0 m1 => szBind m0 m1 (szStringS_eq h6 hc m0 m1) fun m m0 m1 => left_two (szRowS_eq h7 hr m0 m1)
theorem szValue_eq {v : Val} (h : v.Fit maxLen) : Big fun N => ∀ l, 0 ≤ l → l ≤ 1048576 → xEU N v l = some (left v.size l) := (szValue_big v h).diag
theorem toIntS_eq {N : Nat} {x0 : List Int} (hl : x0.length ≤ 1048576) (hn : x0.length < N) : xEa N x0 = some x0 := by
  unfold xEa
  rw [if_pos ⟨by omega, rfl, by unfold Lim; omega⟩]
  exact toLoop (L := fun n x0 x3 x4 => xDI N n x0 x3 x4) (to := some) (re := fun r => r) (fun _ _ _ => rfl) (by omega) (fun x hx => ⟨x, rfl, rfl⟩) hn
theorem toStringS_eq {N : Nat} {x0 : List Str} (hl : x0.length ≤ 1048576) (hn : x0.length < N) : xDo N x0 = some x0 := by
  unfold xDo
  rw [if_pos ⟨by omega, rfl, by unfold Lim; omega⟩]
  exact toLoop (L := fun n x0 x3 x4 => xCZ N n x0 x3 x4) (to := some) (re := fun r => r) (fun _ _ _ => rfl) (by omega) (fun x hx => ⟨x, rfl, rfl⟩) hn
theorem toOriginS_eq {N : Nat} {x0 : List Org} (hl : x0.length ≤ 1048576) (hn : x0.length < N) : xDm N x0 = some x0 := by
  unfold xDm
  rw [if_pos ⟨by omega, rfl, by unfold Lim; omega⟩]
  exact toLoop (L := fun n x0 x3 x4 => xCY N n x0 x3 x4) (to := xD0 N) (re := fun r => r) (fun _ _ _ => rfl) (by omega) (fun x hx => ⟨x, rfl, rfl⟩) hn
theorem toRow_eq {N : Nat} {r : Rowd} (h : r.Fit 1048576) (hN : 1048576 < N) : xEb N r = some r := by
  have h1 : r.cells.length ≤ 1048576 := h.1.1
  have h2 : r.frm.length ≤ 1048576 := h.2.1
  unfold xEb
  rw [toIntS_eq h1 (by omega), toOriginS_eq h2 (by omega)]; rfl
theorem toRowS_eq {N : Nat} {x0 : List Rowd} (h : LFit 1048576 (Rowd.Fit 1048576) x0) (hN : 1048576 < N) : xEc N x0 = some x0 := by
  have hl : x0.length ≤ 1048576 := h.1
  unfold xEc
  rw [if_pos ⟨by omega, rfl, by unfold Lim; omega⟩]
  exact toLoop (L := fun n x0 x3 x4 => xDJ N n x0 x3 x4) (to := xEb N) (re := fun r => r) (fun _ _ _ => rfl) (by omega) (fun x hx => ⟨x, toRow_eq (h.2 x hx) hN, rfl⟩) (by omega)
theorem toValueS_step {N d : Nat} {a : List Val} (hl : a.length ≤ 1048576) (hn : a.length < N) (hx : ∀ x ∈ a, (xAG N d).c_laws_toValue x = some x) : (xAG N (d + 1)).c_laws_toValueS a = some a := by
  show xCb N (xAG N d).c_laws_toValue (xAG N d).c_laws_toValueS a = _
  unfold xCb
  rw [if_pos ⟨by omega, rfl, by unfold Lim; omega⟩]
  exact toLoop (L := fun n x0 x3 x4 => xDc N (xAG N d).c_laws_toValue (xAG N d).c_laws_toValueS n x0 x3 x4) (to := (xAG N d).c_laws_toValue) (re := Val.re) (fun _ _ _ => rfl) (by omega) (fun x hxm => ⟨x, hx x hxm, Val.re_eq x⟩) hn
theorem toValue_big : ∀ v : Val, v.Fit 1048576 → Big2 fun N d => (xAG N d).c_laws_toValue v = some v := by
  refine Val.ind fun k n s t a c r ih h => ?_
  obtain ⟨h1, h2, h3, h4, h5, h6, h7⟩ := Val.fit_iff.1 h
  refine Big2.succ (Big2.succ ?_)
  refine ((Big2.list fun x hx => ih x hx (h5.2 x hx)).and (big_lt 1048576).two).imp fun N d ⟨hx, hN⟩ => ?_
  have hl : a.length ≤ 1048576 := h5.1
  have hc : c.length ≤ 1048576 := h6.1
  show xCA N (xAG N (d + 1)).c_laws_toValue (xAG N (d + 1)).c_laws_toValueS _ = _
  unfold xCA
  simp only [Val.list, Val.columns, Val.rows, toValueS_step (N := N) hl (by omega) hx, toStringS_eq (N := N) hc (by omega), toRowS_eq (x0 := r) h7 hN, Option.bind_some]
  rfl
theorem toValue_eq {v : Val} (h : v.Fit 1048576) : Big fun N => xEX N v = some v := (toValue_big v h).diag
theorem eqIntS_self {N : Nat} {x0 : List Int} (hl : x0.length ≤ 9223372036854775807) (hn : x0.length < N) : xD4 N x0 x0 = some true := by
  unfold xD4
  rw [bne_self_eq_false, cond_false]
  exact eqLoop (L := fun n i => xCP N n x0 x0 i) (fun n => by simp [xCP]) (fun i x n hi hx hm => by
    have hi' : (i : Int) < (x0.length : Int) := by omega
    simp only [xCP, decide_eq_true hi', cond_true, Int.toNat_natCast, xCl hx, xBv hi hl, bne_self_eq_false, cond_false]
    rw [if_pos (by omega), if_pos (by omega)]) hn
theorem eqStringS_self {N : Nat} {x0 : List Str} (hl : x0.length ≤ 9223372036854775807) (hn : x0.length < N) : xDg N x0 x0 = some true := by
  unfold xDg
  rw [bne_self_eq_false, cond_false]
  exact eqLoop (L := fun n i => xBW N n x0 x0 i) (fun n => by simp [xBW]) (fun i x n hi hx hm => by
    have hi' : (i : Int) < (x0.length : Int) := by omega
    simp only [xBW, decide_eq_true hi', cond_true, Int.toNat_natCast, xCl hx, xBv hi hl, beq_self_eq_true, Bool.not_true, cond_false]
    rw [if_pos (by omega), if_pos (by omega)]) hn
theorem eqOrigin_self (N : Nat) (f : Org) : xDx N f f = some true := by simp [xDx]
theorem eqOriginS_self {N : Nat} {x0 : List Org} (hl : x0.length ≤ 9223372036854775807) (hn : x0.length < N) : xDe N x0 x0 = some true := by
  unfold xDe
  rw [bne_self_eq_false, cond_false]
  exact eqLoop (L := fun n i => xBU N n x0 x0 i) (fun n => by simp [xBU]) (fun i x n hi hx hm => by
    have hi' : (i : Int) < (x0.length : Int) := by omega
    simp only [xBU, decide_eq_true hi', cond_true, Int.toNat_natCast, xCl hx, eqOrigin_self, Option.bind_some, xBv hi hl, Bool.not_true, cond_false]
    rw [if_pos (by omega), if_pos (by omega)]) hn
theorem eqRow_self {N K : Nat} {r : Rowd} (h : r.Fit K) (hK : K ≤ 9223372036854775807) (hN : K < N) : xEp N r r = some true := by
  have h1 : r.cells.length ≤ K := h.1.1
  have h2 : r.frm.length ≤ K := h.2.1
  simp [xEp, eqIntS_self (by omega : r.cells.length ≤ _) (by omega : _ < N), eqOriginS_self (by omega : r.frm.length ≤ _) (by omega : _ < N)]
theorem eqRowS_self {N K : Nat} {x0 : List Rowd} (h : LFit K (Rowd.Fit K) x0) (hK : K ≤ 9223372036854775807) (hN : K < N) : xD6 N x0 x0 = some true := by
  have hl : x0.length ≤ K := h.1
  unfold xD6
  rw [bne_self_eq_false, cond_false]
  exact eqLoop (x0 := x0) (L := fun n i => xCQ N n x0 x0 i) (fun n => by simp [xCQ]) (fun i x n hi hx hm => by
    have hi' : (i : Int) < (x0.length : Int) := by omega
    simp only [xCQ, decide_eq_true hi', cond_true, Int.toNat_natCast, xCl hx, eqRow_self (h.2 x hm) hK hN, Option.bind_some, xBv hi (by omega : x0.length ≤ _), Bool.not_true, cond_false]
    rw [if_pos (by omega), if_pos (by omega)]) (by omega)
theorem eqValueS_step {N d : Nat} {a : List Val} (hl : a.length ≤ 9223372036854775807) (hn : a.length < N) (hx : ∀ x ∈ a, (xAJ N d).c_laws_eqValue x x = some true) : (xAJ N (d + 1)).c_laws_eqValueS a a = some true := by
  show xCa N (xAJ N d).c_laws_eqValue (xAJ N d).c_laws_eqValueS a a = _
  unfold xCa
  rw [bne_self_eq_false, cond_false]
  exact eqLoop (L := fun n i => xCd N (xAJ N d).c_laws_eqValue (xAJ N d).c_laws_eqValueS n a a i) (fun n => by simp [xCd]) (fun i x n hi hxi hm => by
    have hi' : (i : Int) < (a.length : Int) := by omega
    simp only [xCd, decide_eq_true hi', cond_true, Int.toNat_natCast, xCl hxi, hx x hm, Option.bind_some, xBv hi (by omega : a.length ≤ _), Bool.not_true, cond_false]
    rw [if_pos (by omega), if_pos (by omega)]) hn
theorem eqValue_big {K : Nat} (hK : K ≤ 9223372036854775807) : ∀ v : Val, v.Fit K → Big2 fun N d => (xAJ N d).c_laws_eqValue v v = some true := by
  refine Val.ind fun k n s t a c r ih h => ?_
  obtain ⟨h1, h2, h3, h4, h5, h6, h7⟩ := Val.fit_iff.1 h
  refine Big2.succ (Big2.succ ?_)
  refine ((Big2.list fun x hx => ih x hx (h5.2 x hx)).and (big_lt K).two).imp fun N d ⟨hx, hN⟩ => ?_
  have hl : a.length ≤ K := h5.1
  have hc : c.length ≤ K := h6.1
  show xCv N (xAJ N (d + 1)).c_laws_eqValue (xAJ N (d + 1)).c_laws_eqValueS _ _ = _
  unfold xCv
  simp only [Val.list, Val.columns, Val.rows, eqValueS_step (by omega : a.length ≤ _) (by omega : _ < N) hx, eqStringS_self (by omega : c.length ≤ _) (by omega : _ < N), eqRowS_self (x0 := r) h7 hK hN, Option.bind_some, bne_self_eq_false, beq_self_eq_true, Bool.not_true, cond_false]
theorem eqValue_self {v : Val} {K : Nat} (h : v.Fit K) (hK : K ≤ 9223372036854775807) : Big fun N => xDU N v v = some true := (eqValue_big hK v h).diag
def cOne {α : Type} (_ : α) : Nat := 1
def cOrg (_ : Org) : Nat := 2
def cRow (r : Rowd) : Nat := (r.cells.map cOne).sum + (r.frm.map cOrg).sum
theorem cOne_sum {α : Type} (xs : List α) : (xs.map cOne).sum = xs.length := by
  induction xs with
  | nil => rfl
  | cons x l ih => simp only [List.map_cons, List.sum_cons, ih, List.length_cons, cOne]; omega
theorem cOrg_sum (xs : List Org) : (xs.map cOrg).sum = 2 * xs.length := by
  induction xs with
  | nil => rfl
  | cons x l ih => simp only [List.map_cons, List.sum_cons, ih, List.length_cons, cOrg]; omega
theorem markIntS_held {N : Nat} (hN : 274877906944 < N) {xs : List Int} {k : Int} (h0 : 0 ≤ k) (h1 : k + ((xs.map cOne).sum : Nat) ≤ 137438953472) :
    ∃ ys, ys.length = xs.length ∧ xDX N xs k = some (k + ((xs.map cOne).sum : Nat), ys) ∧ xDW N ys k = some (k + ((xs.map cOne).sum : Nat)) := by
  have hs := cOne_sum xs
  refine xE2 (Lm := fun n xs k i => xCh N n xs k i) (Lh := fun n ys k i => xCe N n ys k i) (c := cOne) (fun n xs k hl => by simp [xCh]) (fun n ys k hl => by simp [xCe])
    (fun x hx k hk hB => ?_) h1 (by omega)
  have hc : cOne x = 1 := rfl
  rw [hc] at hB ⊢
  refine ⟨k, fun n xs' i hl hxi => ?_, fun n ys i hl hyi => ?_⟩
  · have hi := (List.getElem?_eq_some_iff.1 hxi).1
    have hi' : (i : Int) < (xs'.length : Int) := by omega
    simp only [xCh, decide_eq_true hi', cond_true, Int.toNat_natCast, xBv hi (by omega : xs'.length ≤ _), xBx (x := k + 1) (by omega) (by omega)]
    rw [if_pos (by omega)]; rfl
  · have hi := (List.getElem?_eq_some_iff.1 hyi).1
    have hi' : (i : Int) < (ys.length : Int) := by omega
    simp only [xCe, decide_eq_true hi', cond_true, Int.toNat_natCast, xCl hyi, xBv hi (by omega : ys.length ≤ _), xBx (x := k + 1) (by omega) (by omega), bne_self_eq_false, cond_false]
    rw [if_pos (by omega)]; rfl
theorem xEL {N : Nat} (hN : 274877906944 < N) {xs : List Str} {k : Int} (h0 : 0 ≤ k) (h1 : k + ((xs.map cOne).sum : Nat) ≤ 137438953472) :
    ∃ ys, ys.length = xs.length ∧ xCK N xs k = some (k + ((xs.map cOne).sum : Nat), ys) ∧ xCI N ys k = some (k + ((xs.map cOne).sum : Nat)) := by
  have hs := cOne_sum xs
  refine xE2 (Lm := fun n xs k i => xBI N n xs k i) (Lh := fun n ys k i => xBG N n ys k i) (c := cOne) (fun n xs k hl => by simp [xBI]) (fun n ys k hl => by simp [xBG])
    (fun x hx k hk hB => ?_) h1 (by omega)
  have hc : cOne x = 1 := rfl
  rw [hc] at hB ⊢
  obtain ⟨t, ht⟩ := xEH hN (k := k) (by omega) (by omega)
  refine ⟨t, fun n xs' i hl hxi => ?_, fun n ys i hl hyi => ?_⟩
  · have hi := (List.getElem?_eq_some_iff.1 hxi).1
    have hi' : (i : Int) < (xs'.length : Int) := by omega
    simp only [xBI, decide_eq_true hi', cond_true, Int.toNat_natCast, ht, Option.bind_some, xBv hi (by omega : xs'.length ≤ _), xBx (x := k + 1) (by omega) (by omega)]
    rw [if_pos (by omega)]; rfl
  · have hi := (List.getElem?_eq_some_iff.1 hyi).1
    have hi' : (i : Int) < (ys.length : Int) := by omega
    simp only [xBG, decide_eq_true hi', cond_true, Int.toNat_natCast, xCl hyi, ht, Option.bind_some, xBv hi (by omega : ys.length ≤ _), xBx (x := k + 1) (by omega) (by omega), beq_self_eq_true, Bool.not_true, cond_false]
    rw [if_pos (by omega)]; rfl
theorem markOriginS_held {N : Nat} (hN : 274877906944 < N) {xs : List Org} {k : Int} (h0 : 0 ≤ k) (h1 : k + ((xs.map cOrg).sum : Nat) ≤ 137438953472) :
    ∃ ys, ys.length = xs.length ∧ xC8 N xs k = some (k + ((xs.map cOrg).sum : Nat), ys) ∧ xC7 N ys k = some (k + ((xs.map cOrg).sum : Nat)) := by
  have hs := cOrg_sum xs
  refine xE2 (Lm := fun n xs k i => xBH N n xs k i) (Lh := fun n ys k i => xBF N n ys k i) (c := cOrg) (fun n xs k hl => by simp [xBH]) (fun n ys k hl => by simp [xBF])
    (fun x hx k hk hB => ?_) h1 (by omega)
  have hc : cOrg x = 2 := rfl
  rw [hc] at hB ⊢
  refine ⟨⟨k, k + 1⟩, fun n xs' i hl hxi => ?_, fun n ys i hl hyi => ?_⟩
  · have hi := (List.getElem?_eq_some_iff.1 hxi).1
    have hi' : (i : Int) < (xs'.length : Int) := by omega
    simp only [xBH, decide_eq_true hi', cond_true, Int.toNat_natCast, xCl hxi, List.length_set, xEn hi, List.set_set, xBv hi (by omega : xs'.length ≤ _)]
    rw [if_pos (by omega), if_pos (by omega), xBx (x := k + 1) (by omega) (by omega), xBx (x := k + 1 + 1) (by omega) (by omega)]
    congr 1
    omega
  · have hi := (List.getElem?_eq_some_iff.1 hyi).1
    have hi' : (i : Int) < (ys.length : Int) := by omega
    simp only [xBF, decide_eq_true hi', cond_true, Int.toNat_natCast, xCl hyi, xBv hi (by omega : ys.length ≤ _), xBx (x := k + 1) (by omega) (by omega), xBx (x := k + 1 + 1) (by omega) (by omega), bne_self_eq_false, cond_false]
    rw [if_pos (by omega)]
    congr 1
    omega
theorem markRowS_held {N : Nat} (hN : 274877906944 < N) {xs : List Rowd} {k : Int} (hlen : xs.length ≤ 137438953472) (h0 : 0 ≤ k) (h1 : k + ((xs.map cRow).sum : Nat) ≤ 137438953472) :
    ∃ ys, ys.length = xs.length ∧ xDA N xs k = some (k + ((xs.map cRow).sum : Nat), ys) ∧ xDy N ys k = some (k + ((xs.map cRow).sum : Nat)) := by
  refine xE2 (Lm := fun n xs k i => xCi N n xs k i) (Lh := fun n ys k i => xCg N n ys k i) (c := cRow) (fun n xs k hl => by simp [xCi]) (fun n ys k hl => by simp [xCg])
    (fun x hx k hk hB => ?_) h1 (by omega)
  have hc : cRow x = (x.cells.map cOne).sum + (x.frm.map cOrg).sum := rfl
  rw [hc] at hB ⊢
  obtain ⟨ya, a1, a2, a3⟩ := markIntS_held hN (xs := x.cells) (k := k) (by omega) (by omega)
  obtain ⟨yb, b1, b2, b3⟩ := markOriginS_held hN (xs := x.frm) (k := k + ((x.cells.map cOne).sum : Nat)) (by omega) (by omega)
  refine ⟨⟨ya, yb⟩, fun n xs' i hl hxi => ?_, fun n ys i hl hyi => ?_⟩
  · have hi := (List.getElem?_eq_some_iff.1 hxi).1
    have hi' : (i : Int) < (xs'.length : Int) := by omega
    have hcd : (0 : Int) ≤ (i : Int) ∧ (i : Int) < (xs'.length : Int) := by omega
    simp only [xCi, decide_eq_true hi', cond_true, Int.toNat_natCast, xCl hxi, List.length_set, xEn hi, List.set_set, xBv hi (by omega : xs'.length ≤ _), if_pos hcd, a2, b2, if_pos a1, if_pos b1, Option.bind_some]
    congr 1
    omega
  · have hi := (List.getElem?_eq_some_iff.1 hyi).1
    have hi' : (i : Int) < (ys.length : Int) := by omega
    have hcd : (0 : Int) ≤ (i : Int) ∧ (i : Int) < (ys.length : Int) := by omega
    simp only [xCg, decide_eq_true hi', cond_true, Int.toNat_natCast, xCl hyi, xBv hi (by omega : ys.length ≤ _), if_pos hcd, a3, b3, Option.bind_some]
    rw [decide_eq_false (by omega), cond_false, decide_eq_false (by omega), cond_false]
    congr 1
    omega
mutual
def Val.cnt : Val → Nat
  | .mk _ _ _ _ l c r => 4 + Val.cnts l + (c.map cOne).sum + (r.map cRow).sum
def Val.cnts : List Val → Nat
  | [] => 0
  | x :: r => Val.cnt x + Val.cnts r
end
theorem Val.cnts_eq (l : List Val) : Val.cnts l = (l.map Val.cnt).sum := by
  induction l with
  | nil => rfl
  | cons x l ih => simp [Val.cnts, ih]
theorem cRow_le (l : List Rowd) : (l.map cRow).sum ≤ 2 * (l.length + (l.map Rowd.size).sum) :=
  sum_le_mul fun x _ => by simp only [cRow, cOne_sum, cOrg_sum, Rowd.size]; omega
theorem Val.cnt_le : ∀ v : Val, v.cnt ≤ 4 + 4 * v.size := by
  refine Val.ind fun k n s t l c r ih => ?_
  have h1 := sum_le_mul (f := Val.cnt) (g := Val.size) (l := l) (a := 4) fun x hx => ih x hx
  have h2 := cRow_le r
  have h3 := cOne_sum c
  rw [Val.size_eq]
  simp only [Val.cnt, Val.cnts_eq, Val.text, Val.list, Val.columns, Val.rows, h3] at h1 h2 ⊢
  omega
theorem cnts_len (l : List Val) : l.length ≤ (l.map Val.cnt).sum := by
  induction l with
  | nil => simp
  | cons x l ih =>
    have : 4 ≤ x.cnt := by cases x; simp only [Val.cnt]; omega
    simp only [List.length_cons, List.map_cons, List.sum_cons]; omega
def MarkV (N d : Nat) (l : List Val) : Prop := ∀ k : Int, 0 ≤ k → k + ((l.map Val.cnt).sum : Nat) ≤ 137438953472 →
    ∃ ys, ys.length = l.length ∧ xCF N d l k = some (k + ((l.map Val.cnt).sum : Nat), ys) ∧ xCD N d ys k = some (k + ((l.map Val.cnt).sum : Nat))
theorem markV_step {N d : Nat} (hN : 274877906944 < N) {l : List Val} (hr : ∀ x ∈ l, x.rows.length ≤ 137438953472) (hx : ∀ x ∈ l, MarkV N d x.list) : MarkV N (d + 1) l := by
  intro k h0 h1
  have hlen := cnts_len l
  refine xE2 (Lm := fun n xs k i => xBP N (xCF N d) n xs k i) (Lh := fun n ys k i => xBO N (xCD N d) n ys k i) (c := Val.cnt) (fun n xs k hl => by simp [xBP]) (fun n ys k hl => by simp [xBO])
    (fun x hxm k hk hB => ?_) h1 (by omega)
  have hc : x.cnt = 4 + (x.list.map Val.cnt).sum + (x.columns.map cOne).sum + (x.rows.map cRow).sum := by cases x; simp only [Val.cnt, Val.cnts_eq, Val.list, Val.columns, Val.rows]
  rw [hc] at hB ⊢
  obtain ⟨t, ht⟩ := xEH hN (k := k + 1 + 1 + 1) (by omega) (by omega)
  obtain ⟨ya, a1, a2, a3⟩ := hx x hxm (k + 1 + 1 + 1 + 1) (by omega) (by omega)
  obtain ⟨yb, b1, b2, b3⟩ := xEL hN (xs := x.columns) (k := k + 1 + 1 + 1 + 1 + ((x.list.map Val.cnt).sum : Nat)) (by omega) (by omega)
  obtain ⟨yc, c1, c2, c3⟩ := markRowS_held hN (xs := x.rows) (k := k + 1 + 1 + 1 + 1 + ((x.list.map Val.cnt).sum : Nat) + ((x.columns.map cOne).sum : Nat)) (hr x hxm) (by omega) (by omega)
  have w1 : IntKind.i64.wrap (k + 1) = k + 1 := xBx (by omega) (by omega)
  have w2 : IntKind.i64.wrap (k + 1 + 1) = k + 1 + 1 := xBx (by omega) (by omega)
  have w3 : IntKind.i64.wrap (k + 1 + 1 + 1) = k + 1 + 1 + 1 := xBx (by omega) (by omega)
  have w4 : IntKind.i64.wrap (k + 1 + 1 + 1 + 1) = k + 1 + 1 + 1 + 1 := xBx (by omega) (by omega)
  refine ⟨.mk k (k + 1) (k + 1 + 1) t ya yb yc, fun n xs' i hl hxi => ?_, fun n ys i hl hyi => ?_⟩
  · have hi := (List.getElem?_eq_some_iff.1 hxi).1
    have hi' : (i : Int) < (xs'.length : Int) := by omega
    have hcd : (0 : Int) ≤ (i : Int) ∧ (i : Int) < (xs'.length : Int) := by omega
    simp only [xBP, decide_eq_true hi', cond_true, Int.toNat_natCast, xCl hxi, List.length_set, xEn hi, List.set_set, xBv hi (by omega : xs'.length ≤ _), if_pos hcd, w1, w2, w3, w4, ht, Option.bind_some,
      vk, vn, vs, vt, vl, vc, vr, a2, b2, c2, if_pos a1, if_pos b1, if_pos c1]
    congr 1
    omega
  · have hi := (List.getElem?_eq_some_iff.1 hyi).1
    have hi' : (i : Int) < (ys.length : Int) := by omega
    have hcd : (0 : Int) ≤ (i : Int) ∧ (i : Int) < (ys.length : Int) := by omega
    simp only [xBO, decide_eq_true hi', cond_true, Int.toNat_natCast, xCl hyi, xBv hi (by omega : ys.length ≤ _), if_pos hcd, w1, w2, w3, w4, ht, Option.bind_some, vk, vn, vs, vt, vl, vc, vr, a3, b3, c3, bne_self_eq_false, beq_self_eq_true, Bool.not_true, cond_false]
    rw [decide_eq_false (by omega), cond_false, decide_eq_false (by omega), cond_false, decide_eq_false (by omega), cond_false]
    congr 1
    omega
theorem markV_big {K : Nat} (hK : K ≤ 137438953472) : ∀ v : Val, v.Fit K → Big2 fun N d => MarkV N d v.list := by
  refine Val.ind fun k n s t a c r ih h => ?_
  obtain ⟨h1, h2, h3, h4, h5, h6, h7⟩ := Val.fit_iff.1 h
  refine Big2.succ ?_
  refine ((Big2.list fun x hx => ih x hx (h5.2 x hx)).and (big_lt 274877906944).two).imp fun N d ⟨hx, hN⟩ => ?_
  exact markV_step hN (fun x hxm => by have := (Val.fit_iff.1 (h5.2 x hxm)).2.2.2.2.2.2.1; omega) hx
theorem markValue_at {K : Nat} (hK : K ≤ 137438953472) {v : Val} (h : v.Fit K) :
    Big fun N => ∀ k : Int, 0 ≤ k → k + (v.cnt : Nat) ≤ 137438953472 → ∃ k' xa xb xc, 0 ≤ k' ∧ k' ≤ k + (v.cnt : Nat) ∧ xa.length = v.list.length ∧ xb.length = v.columns.length ∧ xc.length = v.rows.length ∧ xCq N v k = some (k', xa, xb, xc) ∧ xCp N (Val.mk v.kind v.n v.step v.text xa xb xc) k = some k' := by
  have hb := (markV_big hK v h).diag
  refine (hb.and (big_lt 274877906944)).imp fun N ⟨hm, hN⟩ k k0 kB => ?_
  have hc' : v.cnt = 4 + (v.list.map Val.cnt).sum + (v.columns.map cOne).sum + (v.rows.map cRow).sum := by cases v; simp only [Val.cnt, Val.cnts_eq, Val.list, Val.columns, Val.rows]
  obtain ⟨ya, a1, a2, a3⟩ := hm k (by omega) (by omega)
  obtain ⟨yb, b1, b2, b3⟩ := xEL hN (xs := v.columns) (k := k + ((v.list.map Val.cnt).sum : Nat)) (by omega) (by omega)
  obtain ⟨yc, c1, c2, c3⟩ := markRowS_held hN (xs := v.rows) (k := k + ((v.list.map Val.cnt).sum : Nat) + ((v.columns.map cOne).sum : Nat)) (by have := (Val.fit_iff.1 h).2.2.2.2.2.2.1; omega) (by omega) (by omega)
  have a2' : xEu N v.list k = _ := a2
  have a3' : xEs N ya k = _ := a3
  refine ⟨k + ((v.list.map Val.cnt).sum : Nat) + ((v.columns.map cOne).sum : Nat) + ((v.rows.map cRow).sum : Nat), ya, yb, yc, by omega, by omega, a1, b1, c1, ?_, ?_⟩
  · simp only [xCq, a2', Option.bind_some, if_pos a1, b2, if_pos b1, c2, if_pos c1]
  · simp only [xCp, vl, vc, vr, a3', b3, c3, Option.bind_some]
    rw [decide_eq_false (by omega), cond_false, decide_eq_false (by omega), cond_false, decide_eq_false (by omega), cond_false]
theorem markValue_held {K : Nat} (hK : K ≤ 137438953472) {v : Val} (h : v.Fit K) (hc : v.cnt ≤ 100000000000) :
    Big fun N => ∃ k xa xb xc, 0 ≤ k ∧ xa.length = v.list.length ∧ xb.length = v.columns.length ∧ xc.length = v.rows.length ∧ xCq N v 1 = some (k, xa, xb, xc) ∧ xCp N (Val.mk v.kind v.n v.step v.text xa xb xc) 1 = some k :=
  (markValue_at hK h).imp fun N h => by
    obtain ⟨k', xa, xb, xc, h0, _, h2⟩ := h 1 (by omega) (by omega)
    exact ⟨k', xa, xb, xc, h0, h2⟩
theorem val_of_cells {a0 : Val} (f0 : ∀ z ∈ [CV.int .i64 (Val.kind a0), .int .i64 (Val.n a0), .int .i64 (Val.step a0), .str (Val.text a0), .sl .ro .val (Val.list a0), .sl .ro .str (Val.columns a0), .sl .ro .row (Val.rows a0)], DFit z.toD) : a0.Fit maxLen := by
  have f := fun z hz => (f0 z hz).dk
  simp only [List.mem_cons, List.not_mem_nil, or_false, forall_eq_or_imp, forall_eq] at f
  obtain ⟨h1, h2, h3, h4, h5, h6, h7⟩ := f
  refine Val.fit_iff.2 ⟨xEd h1, xEd h2, xEd h3, cell_str h4, cell_sl h5, (cell_sl h6).imp fun x hx => ?_, (cell_sl h7).imp fun x hx => rowd_fit.1 hx⟩
  exact DK.str_iff.1 (hx _ List.mem_cons_self)
end Go.Ab
end
section
namespace Go.Ab
set_option linter.unusedVariables false
set_option linter.unusedSimpArgs false
theorem valCnt (v : Val) : v.cnt = 4 + ((v.list.map Val.cnt).sum + (v.columns.map cOne).sum + (v.rows.map cRow).sum) := by
  cases v; simp only [Val.cnt, Val.cnts_eq, vl, vc, vr]; omega
theorem i64_of {x : Int} (h1 : -1000000 ≤ x) (h2 : x ≤ 1000000) : I64 x := ⟨by omega, by omega⟩
theorem lfit_nil {α : Type} {K : Nat} {p : α → Prop} : LFit K p [] := ⟨Nat.zero_le _, fun x hx => by cases hx⟩
end Go.Ab
end
section
namespace Go.Ab
set_option linter.unusedVariables false
set_option linter.unusedSimpArgs false
def allI {α : Type} (p : Nat → α → Bool) : List α → Nat → Bool
  | [], _ => true
  | x :: r, i => p i x && allI p r (i + 1)
def textC (c : UInt8) : Bool := !(decide ((c.toNat : Int) < 32)) && (!(decide ((c.toNat : Int) > 126)) && !((c.toNat : Int) == 34))
def textOk (s : Str) : Bool := allI (fun _ => textC) s 0 && decide ((s.length : Int) ≤ 20)
def distinctP (xs : List Str) (i : Nat) (x : Str) : Bool := !(xs.take i).any (· == x)
def distinct (xs : List Str) : Bool := allI (distinctP xs) xs 0
def colsOk (c : List Str) : Bool := allI (fun _ => validName) c 0 && ((decide ((1 : Int) ≤ c.length) && decide ((c.length : Int) ≤ 4)) && distinct c)
def befO (a b : Org) : Bool := decide (a.cell < b.cell) || ((a.cell == b.cell) && decide (a.row < b.row))
def ascP (xs : List Org) (i : Nat) (x : Org) : Bool := !(decide (x.cell < 0)) && (!(decide (x.row < 0)) && (decide (i = 0) || befO (xs.getD (i - 1) Ty.org.dflt) x))
def ascOk (xs : List Org) : Bool := allI (ascP xs) xs 0
def rowP (n : Nat) (_ : Nat) (r : Rowd) : Bool := (r.cells.length == n) && (allI (fun _ => xEQ) r.cells 0 && ascOk r.frm)
def tableOk (c : List Str) (rs : List Rowd) : Bool := colsOk c && (decide (rs.length ≤ 12) && allI (rowP c.length) rs 0)
end Go.Ab
end
section
namespace Go.Ab
set_option linter.unusedVariables false
set_option linter.unusedSimpArgs false
mutual
def Val.dep : Val → Int
  | .mk _ _ _ _ l _ _ => Val.deps l 0 + 1
def Val.deps : List Val → Int → Int
  | [], m => m
  | x :: r, m => Val.deps r (if x.dep > m then x.dep else m)
end
def elemK (v : Val) : Bool := (v.kind == 1) || ((v.kind == 2) || (v.kind == 3))
def emp {α : Type} (l : List α) : Bool := decide (l.length = 0)
mutual
def valOk : Val → Bool
  | .mk k n s t l c r =>
    bif k == 1 then emp l && (emp c && (emp r && ((s == 0) && ((t == []) && xEQ n))))
    else bif k == 2 then emp l && (emp c && (emp r && ((n == 0) && ((s == 0) && textOk t))))
    else bif k == 4 then emp l && (emp c && (emp r && ((t == []) && (xEQ n && xEQ s))))
    else bif k == 6 then emp l && (emp c && (emp r && ((s == 0) && ((t == []) && (decide (1 ≤ n) && decide (n ≤ 8))))))
    else bif k == 5 then emp l && ((n == 0) && ((s == 0) && ((t == []) && tableOk c r)))
    else bif k == 3 then valsOk l && ((n == 0) && ((s == 0) && ((t == []) && (emp c && (emp r && (decide (l.length ≤ 8) && decide (Val.deps l 0 + 1 ≤ 3)))))))
    else false
def valsOk : List Val → Bool
  | [] => true
  | x :: r => (elemK x && valOk x) && valsOk r
end
end Go.Ab
end
section
namespace Go.Ab
set_option linter.unusedVariables false
set_option linter.unusedSimpArgs false
def errV (c : Int) : Val := .mk 6 c 0 [] [] [] []
def numV (c : Int) : Val := .mk 1 c 0 [] [] [] []
def nilV : Val := .mk 0 0 0 [] [] [] []
def opG : List Val → Val × Bool × Bool
  | [] => (nilV, false, false)
  | v :: r => bif !valOk v then (errV 4, true, false) else bif v.kind == 6 then (v, true, true) else opG r
theorem opG_i64 {K : Nat} : ∀ {l : List Val}, (∀ x ∈ l, x.Fit K) → I64 (opG l).1.kind ∧ I64 (opG l).1.n
  | [], _ => ⟨i64_of (by show (-1000000 : Int) ≤ 0; omega) (by show (0 : Int) ≤ 1000000; omega), i64_of (by show (-1000000 : Int) ≤ 0; omega) (by show (0 : Int) ≤ 1000000; omega)⟩
  | v :: r, h => by
    simp only [opG]
    cases hv : valOk v
    · exact ⟨i64_of (by show (-1000000 : Int) ≤ 6; omega) (by show (6 : Int) ≤ 1000000; omega), i64_of (by show (-1000000 : Int) ≤ 4; omega) (by show (4 : Int) ≤ 1000000; omega)⟩
    · cases hk : (v.kind == 6)
      · exact opG_i64 fun x hx => h x (List.mem_cons_of_mem _ hx)
      · have := Val.fit_iff.1 (h v List.mem_cons_self)
        exact ⟨this.1, this.2.1⟩
def Flat (v : Val) : Prop := v.list = [] ∧ v.columns = [] ∧ v.rows = [] ∧ v.text = [] ∧ I64 v.kind ∧ I64 v.n ∧ I64 v.step
theorem Flat.fit {v : Val} (h : Flat v) (K : Nat) : v.Fit K := by
  obtain ⟨h1, h2, h3, h4, h5, h6, h7⟩ := h
  refine Val.fit_iff.2 ⟨h5, h6, h7, ?_, ?_, ?_, ?_⟩
  · rw [h4]; exact Nat.zero_le _
  · rw [h1]; exact lfit_nil
  · rw [h2]; exact lfit_nil
  · rw [h3]; exact lfit_nil
theorem Flat.cnt {v : Val} (h : Flat v) : v.cnt = 4 := by
  rw [valCnt, h.1, h.2.1, h.2.2.1]; rfl
theorem flat_mk {k n s : Int} (h1 : I64 k) (h2 : I64 n) (h3 : I64 s) : Flat (.mk k n s [] [] [] []) := ⟨rfl, rfl, rfl, rfl, h1, h2, h3⟩
theorem flat_err {c : Int} (h : I64 c) : Flat (errV c) := flat_mk (i64_of (by omega) (by omega)) h (i64_of (by omega) (by omega))
theorem flat_num {c : Int} (h : I64 c) : Flat (numV c) := flat_mk (i64_of (by omega) (by omega)) h (i64_of (by omega) (by omega))
end Go.Ab
end
section
namespace Go.Ab
set_option linter.unusedVariables false
set_option linter.unusedSimpArgs false
def kb : List Val → List Int → Bool
  | [], _ => false
  | _ :: _, [] => false
  | x :: r, k :: ks => (x.kind != k) || kb r ks
end Go.Ab
end
section
namespace Go.Ab
set_option linter.unusedVariables false
set_option linter.unusedSimpArgs false
def pick (k : Int) (n : Int) (rs : List Rowd) : List Rowd := rs.filter fun r => r.cells.getD k.toNat Ty.int.dflt == n
end Go.Ab
end
section
namespace Go.Ab
theorem tmod_lt (x : Int) : -2147483647 < x.tmod 2147483647 ∧ x.tmod 2147483647 < 2147483647 := by
  have := Int.tmod_lt_of_pos x (show (0 : Int) < 2147483647 by decide)
  have := Int.lt_tmod_of_pos x (show (0 : Int) < 2147483647 by decide)
  omega
def restI (x : Int) : Int := if x.tmod 2147483647 < 0 then x.tmod 2147483647 + 2147483647 else x.tmod 2147483647
theorem xFh (x : Int) : 0 ≤ restI x ∧ restI x < 2147483647 := by
  have := tmod_lt x
  unfold restI
  split <;> omega
theorem spec_l14Rest_eq (N : Nat) (x : Int) : xDv N x = some (restI x) := by
  have := tmod_lt x
  unfold xDv restI
  by_cases h : x.tmod 2147483647 < 0
  · simp [h]
    rw [xBx (by omega) (by omega)]
  · simp [h]
def mixI (a b c d : Int) : Int := restI (16807 * restI (IntKind.i64.wrap ((IntKind.i64.wrap ((IntKind.i64.wrap ((IntKind.i64.wrap (48271 * a)) + (IntKind.i64.wrap (7919 * b)))) + (IntKind.i64.wrap (104729 * c)))) + (IntKind.i64.wrap (1299709 * d)))))
theorem spec_Mix_eq (N : Nat) (a b c d : Int) : xE3 N a b c d = some (mixI a b c d) := by
  have := xFh (IntKind.i64.wrap ((IntKind.i64.wrap ((IntKind.i64.wrap ((IntKind.i64.wrap (48271 * a)) + (IntKind.i64.wrap (7919 * b)))) + (IntKind.i64.wrap (104729 * c)))) + (IntKind.i64.wrap (1299709 * d))))
  simp only [xE3, spec_l14Rest_eq, Option.bind_some, mixI]
  rw [xBx (by omega) (by omega)]
theorem impl_Mix_eq (N : Nat) (a b c d : Int) : xE1 N a b c d = some (mixI a b c d) := by
  unfold xE1 mixI
  generalize (IntKind.i64.wrap ((IntKind.i64.wrap ((IntKind.i64.wrap ((IntKind.i64.wrap (48271 * a)) + (IntKind.i64.wrap (7919 * b)))) + (IntKind.i64.wrap (104729 * c)))) + (IntKind.i64.wrap (1299709 * d)))) = x
  have := tmod_lt x
  have hr := xFh x
  have key : ∀ y, 0 ≤ y → restI (16807 * y) = Int.tmod (16807 * y) 2147483647 := by
    intro y hy
    unfold restI
    rw [if_neg]
    have := Int.tmod_nonneg 2147483647 (show (0 : Int) ≤ 16807 * y by omega)
    omega
  rw [key _ hr.1]
  unfold restI at hr ⊢
  by_cases h : x.tmod 2147483647 < 0
  · simp only [h, if_true] at hr ⊢
    simp
    rw [xBx (x := Int.tmod x 2147483647 + _) (by omega) (by omega), xBx (by omega) (by omega)]
  · simp only [h, if_false] at hr ⊢
    simp
    rw [xBx (by omega) (by omega)]
end Go.Ab
end
section
namespace Go.Ab
set_option linter.unusedVariables false
set_option linter.unusedSimpArgs false
def Rea.size (b : Rea) : Nat := b.text.length + b.result.size
theorem szRead_big {b : Rea} (h : b.Fit maxLen) : Big fun N => ∀ l, 0 ≤ l → l ≤ 1048576 → xEw N b l = some (left b.size l) :=
  (szValue_eq h.2.2.2.2).imp fun N hv l h0 h1 => szThen h.2.2.2.1 h0 h1 rfl fun m m0 m1 => left_two (hv m m0 m1)
theorem Rea.fit_size {K M : Nat} {r : Rea} (h : r.Fit M) (hs : r.size ≤ K) : r.Fit K := by
  unfold Rea.size at hs
  exact ⟨h.1, h.2.1, h.2.2.1, show List.length _ ≤ K by omega, Val.fit_size _ h.2.2.2.2 (by omega)⟩
theorem toRead_big {b : Rea} (h : b.Fit 1048576) : Big fun N => xC4 N b = some b := (toValue_eq h.2.2.2.2).imp fun N hv => by simp [xC4, hv]
theorem eqRead_big {b : Rea} {K : Nat} (h : b.Fit K) (hK : K ≤ 9223372036854775807) : Big fun N => xD5 N b b = some true := (eqValue_self h.2.2.2.2 hK).imp fun N hv => by simp [xD5, hv]
def effG (w : Wld) (c v : Int) (r : Rea) : Val :=
  bif r.kind == 1 then (bif xEQ w.clock then numV w.clock else errV 4)
  else bif r.kind == 2 then (bif decide (1 ≤ r.n) && decide (r.n ≤ 1000000000) then numV (Int.tmod (mixI w.seed c v r.time) r.n) else errV 5)
  else bif r.kind == 3 then (bif (xEN w.files r.text).2 then (bif xEQ (xEN w.files r.text).1 then numV (xEN w.files r.text).1 else errV 4) else errV 1)
  else errV 4
theorem mixI_range (a b c d : Int) : 0 ≤ mixI a b c d ∧ mixI a b c d < 2147483647 := xFh _
theorem eff_eq {N : Nat} {w : Wld} {c v : Int} {r : Rea} (hl : w.files.length ≤ 1048576) (hn : w.files.length < N) : xBh N w c v r = some (effG w c v r) ∧ xBu N w c v r = some (effG w c v r) := by
  have f1 := xFi (N := N) (w := w) (s := r.text) (by omega) hn
  have f2 := xFc (N := N) (w := w) (s := r.text) (by omega) hn
  have hm := mixI_range w.seed c v r.time
  cases h1 : (r.kind == 1)
  · cases h2 : (r.kind == 2)
    · cases h3 : (r.kind == 3)
      · simp only [xBh, xBu, h1, h2, h3, cond_false, xA3, xBf, Option.bind_some, effG]
        exact ⟨rfl, rfl⟩
      · simp only [xBh, xBu, h1, h2, h3, cond_false, cond_true, f1, f2, xA3, xBf, xBB, xBE, xEk, xEM, Option.bind_some, effG]
        cases (xEN w.files r.text).2 <;> cases xEQ (xEN w.files r.text).1 <;> exact ⟨rfl, rfl⟩
    · simp only [xBh, xBu, h1, h2, cond_false, cond_true, xE7, spec_l1In_eq, impl_Mix_eq, spec_Mix_eq, xA3, xBf, xBB, xBE, xEk, Option.bind_some, effG]
      cases h4 : decide (1 ≤ r.n) && decide (r.n ≤ 1000000000)
      · exact ⟨rfl, rfl⟩
      · simp only [Bool.and_eq_true, decide_eq_true_eq] at h4
        have hne : r.n ≠ (0 : Int) := by omega
        have hr1 := Int.tmod_nonneg r.n hm.1
        have hr2 := Int.tmod_lt_of_pos (mixI w.seed c v r.time) (show 0 < r.n by omega)
        have hno : xEQ (Int.tmod (mixI w.seed c v r.time) r.n) = true := by
          unfold xEQ
          rw [decide_eq_true (by omega), decide_eq_true (by omega)]; rfl
        simp only [Bool.not_true, cond_false, cond_true, if_pos hne, hno]
        exact ⟨rfl, rfl⟩
  · simp only [xBh, xBu, h1, cond_true, xA3, xBf, xBB, xBE, xEk, xEM, Option.bind_some, effG]
    cases xEQ w.clock <;> exact ⟨rfl, rfl⟩
theorem numOk_i64 {n : Int} (h : xEQ n = true) : I64 n := by
  unfold xEQ at h
  simp only [Bool.and_eq_true, decide_eq_true_eq] at h
  exact ⟨by omega, by omega⟩
theorem effG_flat {w : Wld} {c v : Int} {r : Rea} : Flat (effG w c v r) := by
  have he : ∀ c : Int, -1000000 ≤ c → c ≤ 1000000 → Flat (errV c) := fun c h1 h2 => flat_err (i64_of h1 h2)
  unfold effG
  cases (r.kind == 1)
  · cases (r.kind == 2)
    · cases (r.kind == 3)
      · exact he 4 (by omega) (by omega)
      · cases (xEN w.files r.text).2
        · exact he 1 (by omega) (by omega)
        · cases h : xEQ (xEN w.files r.text).1
          · exact he 4 (by omega) (by omega)
          · exact flat_num (numOk_i64 h)
    · cases h4 : decide (1 ≤ r.n) && decide (r.n ≤ 1000000000)
      · exact he 5 (by omega) (by omega)
      · simp only [Bool.and_eq_true, decide_eq_true_eq] at h4
        have hm := mixI_range w.seed c v r.time
        have hr1 := Int.tmod_nonneg r.n hm.1
        have hr2 := Int.tmod_lt_of_pos (mixI w.seed c v r.time) (show 0 < r.n by omega)
        exact flat_num ⟨by omega, by omega⟩
  · cases h : xEQ w.clock
    · exact he 4 (by omega) (by omega)
    · exact flat_num (numOk_i64 h)
theorem rea_of_cells {a3 : Rea} (f3 : ∀ z ∈ [CV.int .i64 (Rea.kind a3), CV.int .i64 (Rea.n a3), CV.int .i64 (Rea.time a3), CV.str (Rea.text a3), CV.int .i64 (Val.kind (Rea.result a3)), CV.int .i64 (Val.n (Rea.result a3)), CV.int .i64 (Val.step (Rea.result a3)), CV.str (Val.text (Rea.result a3)), CV.sl .ro .val (Val.list (Rea.result a3)), CV.sl .ro .str (Val.columns (Rea.result a3)), CV.sl .ro .row (Val.rows (Rea.result a3))], DFit z.toD) : a3.Fit maxLen := by
  have g : (Rea.result a3).Fit maxLen := val_of_cells fun z hz => f3 z (by
    simp only [List.mem_cons, List.not_mem_nil, or_false] at hz ⊢
    exact .inr (.inr (.inr (.inr hz))))
  have f := fun z hz => (f3 z hz).dk
  simp only [List.mem_cons, List.not_mem_nil, or_false, forall_eq_or_imp, forall_eq] at f
  exact ⟨xEd f.1, xEd f.2.1, xEd f.2.2.1, cell_str f.2.2.2.1, g⟩
theorem markFileS_at {N : Nat} (hN : 274877906944 < N) {xs : List Fil} {k : Int} (h0 : 0 ≤ k) (h1 : k + ((xs.map cFil).sum : Nat) ≤ 137438953472) :
    ∃ ys, ys.length = xs.length ∧ xDh N xs k = some (k + ((xs.map cFil).sum : Nat), ys) := by
  have hlen : xs.length ≤ 137438953472 := by
    have := cFil_sum xs
    omega
  have key : ∃ ys, ys.length = xs.length ∧ xDh N xs k = some (k + ((xs.map cFil).sum : Nat), ys) ∧ (fun (_ : Nat) (ys : List Fil) (k i : Int) => some (k + 2 * ((ys.length : Int) - i))) N ys k 0 = some (k + ((xs.map cFil).sum : Nat)) := by
    refine xE2 (Lm := fun n xs k i => xBY N n xs k i) (Lh := fun (_ : Nat) (ys : List Fil) (k i : Int) => some (k + 2 * ((ys.length : Int) - i))) (c := cFil) (fun n xs k hl => by simp [xBY]) (fun n ys k hl => by show some _ = some _; congr 1; omega)
      (fun x hx k hk hB => ?_) h1 (by omega)
    have hc : cFil x = 2 := rfl
    rw [hc] at hB ⊢
    obtain ⟨t, ht⟩ := xEH hN (k := k) (by omega) (by omega)
    refine ⟨⟨t, k + 1⟩, fun n xs' i hl hxi => ?_, fun n ys i hl hyi => ?_⟩
    · have hi := (List.getElem?_eq_some_iff.1 hxi).1
      have hi' : (i : Int) < (xs'.length : Int) := by omega
      simp only [xBY, decide_eq_true hi', cond_true, Int.toNat_natCast, xCl hxi, ht, Option.bind_some, List.length_set, xEn hi, List.set_set, xBv hi (by omega : xs'.length ≤ _)]
      rw [if_pos (by omega), if_pos (by omega), xBx (x := k + 1) (by omega) (by omega), xBx (x := k + 1 + 1) (by omega) (by omega)]
      congr 1
      omega
    · show some _ = some _
      congr 1
      omega
  obtain ⟨ys, a, b, _⟩ := key
  exact ⟨ys, a, b⟩
theorem markWorld_at {N : Nat} (hN : 274877906944 < N) {w : Wld} (h1 : w.files.length ≤ 10000000) :
    ∃ k ys, 0 ≤ k ∧ k ≤ 20000001 ∧ ys.length = w.files.length ∧ xDi N w 1 = some (k, ys) := by
  have hs := cFil_sum w.files
  obtain ⟨ys, a1, a2⟩ := markFileS_at hN (xs := w.files) (k := 1) (by omega) (by omega)
  refine ⟨1 + ((w.files.map cFil).sum : Nat), ys, by omega, by omega, a1, ?_⟩
  simp only [xDi, a2, Option.bind_some]
  rw [if_pos a1]
theorem xEl (a0 : Wld) (a1 : Int) (a2 : Int) (a3 : Rea) (f0 : ∀ z ∈ [CV.int .i64 (Wld.clock a0), CV.int .i64 (Wld.seed a0), CV.sl .ro .fil (Wld.files a0)], DFit z.toD) (f1 : ∀ z ∈ [CV.int .i64 a1], DFit z.toD) (f2 : ∀ z ∈ [CV.int .i64 a2], DFit z.toD) (f3 : ∀ z ∈ [CV.int .i64 (Rea.kind a3), CV.int .i64 (Rea.n a3), CV.int .i64 (Rea.time a3), CV.str (Rea.text a3), CV.int .i64 (Val.kind (Rea.result a3)), CV.int .i64 (Val.n (Rea.result a3)), CV.int .i64 (Val.step (Rea.result a3)), CV.str (Val.text (Rea.result a3)), CV.sl .ro .val (Val.list (Rea.result a3)), CV.sl .ro .str (Val.columns (Rea.result a3)), CV.sl .ro .row (Val.rows (Rea.result a3))], DFit z.toD) : ∃ N, xA4 N a0 a1 a2 a3 = some true := by
  have hF := wld_of_cells f0
  have hG := rea_of_cells f3
  by_cases h : left a0.size 1048576 < 0
  · obtain ⟨N, hn⟩ : ∃ N, a0.files.length < N := ⟨_, Nat.lt_succ_self _⟩
    exact ⟨N, by simp [xA4, szWorld_eq hF hn (l := 1048576) (by omega) (by omega), h]⟩
  · have g0 := left_ge h
    rw [left_of g0] at h
    by_cases h' : left a3.size (1048576 - (a0.size : Int)) < 0
    · refine ((szRead_big hG).and (big_lt a0.files.length)).imp (fun N ⟨hs, hn⟩ => ?_) |>.get
      have e1 := szWorld_eq (N := N) hF hn (l := 1048576) (by omega) (by omega)
      rw [left_of g0] at e1
      simp only [xA4, e1, Option.bind_some, decide_eq_false h, cond_false, hs _ (by omega : 0 ≤ 1048576 - (a0.size : Int)) (by omega), decide_eq_true h', cond_true]
    · have g1 := left_ge h'
      have s0 : a0.Fit 1048576 := Wld.fit_size hF (by omega)
      have s3 : a3.Fit 1048576 := Rea.fit_size hG (by omega)
      have hl : a0.files.length ≤ 1048576 := s0.2.2.1
      have c3 := Val.cnt_le a3.result
      have hz : a3.result.size ≤ 1048576 := by have : a3.size = a3.text.length + a3.result.size := rfl; omega
      have hfl := effG_flat (w := a0) (c := a1) (v := a2) (r := a3)
      have hff := hfl.fit 1048576
      have hfc := hfl.cnt
      refine (((szRead_big hG).and ((toRead_big s3).and (eqRead_big s3 (by omega)))).and ((eqValue_self hff (by omega)).and ((markValue_at (by omega) s3.2.2.2.2).and ((markValue_held (by omega) hff (by omega)).and (big_lt 274877906944)))))
        |>.imp (fun N ⟨⟨z3, t3, q3⟩, k6, m3, m, hN⟩ => ?_) |>.get
      have hn : a0.files.length < N := by omega
      have e1 := szWorld_eq (N := N) hF hn (l := 1048576) (by omega) (by omega)
      rw [left_of g0] at e1
      have e2 := z3 _ (by omega : 0 ≤ 1048576 - (a0.size : Int)) (by omega)
      obtain ⟨k4, k5⟩ := eff_eq (N := N) (w := a0) (c := a1) (v := a2) (r := a3) hl hn
      obtain ⟨kw, yw, w0, w1, w2, w3⟩ := markWorld_at hN (w := a0) (by omega)
      obtain ⟨k0, xa0, xb0, xc0, u0, u1, p01, p02, p03, p04, _⟩ := m3 kw w0 (by omega)
      obtain ⟨k', ya, yb, yc, r0, r1, r2, r3, r4, r5⟩ := m
      have ew : xDs N a0 a0 = some true := eqWorld_self (by omega) hn
      have tw : xCs N a0 = some a0 := toWorld_eq hl hn
      generalize effG a0 a1 a2 a3 = r at *
      simp only [xA4, xDY, e1, e2, t3, q3, k4, k5, k6, ew, tw, Option.bind_some, decide_eq_false h, decide_eq_false h', cond_false, Bool.not_true, w3, if_pos w2, p04, if_pos p01, if_pos p02, if_pos p03,
        decide_eq_false (by omega : ¬ k0 < 0), r4, if_pos r1, if_pos r2, if_pos r3, r5, decide_eq_false (by omega : ¬ k' < 0), bne_self_eq_false]
end Go.Ab
end
section
namespace Go.Proofs.Ytkbojckenecnbaa
open Go.Ab Go.ChangeShapes Go.WideShapes Go.ChangeAt Go.RowKit
set_option linter.unusedVariables false
theorem own : ownKnob Try.prog.godebug = none := by kernel_rfl
theorem laidOut : laidOutB Try.prog = true := by kernel_rfl
theorem xB9 : ktChk Try.prog [(3, .int), (9, .str), (40, .val), (137, .org), (148, .row), (152, .fil)] = true := by kernel_rfl
set_option maxRecDepth 100000 in
theorem fnExactEffectResult_lifted (os : Os) (started : os.Started) (H : Type) (enc : TypeId × Value → H) :
    ReturnsInHanded {} Try.checked os 7 .any (Rows.fnExactEffectResultSpec.pre6 enc Try.prog Try.f7 Rows.fnExactEffectResultRow.domain false) (Rows.fnExactEffectResultSpec.post enc Try.prog Try.f7 false true false false) := by
  refine returnsInHanded_of_change (C := Try.checked) own started (by kernel_rfl) Try.func7
    (ChangeSpec.witness6 (enc := enc) (C := Try.checked) false ⟨#[], #[.agg #[.int .i64 0, .int .i64 0, .slice none 0 0], .int .i64 0, .int .i64 0, .agg #[.int .i64 0, .int .i64 0, .int .i64 0, .string ByteArray.empty, .int .i64 0, .int .i64 0, .int .i64 0, .string ByteArray.empty, .slice none 0 0, .slice none 0 0, .slice none 0 0]], []⟩ 8 (by kernel_rfl) (by kernel_rfl) (by kernel_rfl) (by kernel_rfl)) ?_
  intro W base args ds gs before hval0 hW hcnd _
  have hval : ∀ (j : Nat) t v, Try.f7.params[j]? = some t → args[j]? = some v → Value.okWide Try.prog W .any base t v := hval0
  have hW' := hW
  obtain ⟨p, q, hA0, hV, rfl, hfz, hnd⟩ := hW
  have hA : DataW.TrodAll enc Try.prog W 0 (fun _ => true) true Try.f7.params.toList args.toList ds p := hA0
  rw [Try.params7] at hA hval
  obtain ⟨v0, vs0, d0, ds0, p0, q0, hargs, rfl, rfl, h0, r0⟩ := trodAll_cons hA
  obtain ⟨v1, vs1, d1, ds1, p1, q1, rfl, rfl, rfl, h1, r1⟩ := trodAll_cons r0
  obtain ⟨v2, vs2, d2, ds2, p2, q2, rfl, rfl, rfl, h2, r2⟩ := trodAll_cons r1
  obtain ⟨v3, vs3, d3, ds3, p3, q3, rfl, rfl, rfl, h3, r3⟩ := trodAll_cons r2
  obtain ⟨rfl, rfl, rfl⟩ := trodAll_nil r3
  obtain rfl : args = #[v0, v1, v2, v3] := by cases args; simp_all
  obtain ⟨rfl, rfl⟩ := trodVars_none hV
  have lt0 : ∀ x ∈ p0, x.block < W.heap.size := by obtain ⟨m, hm⟩ := h0; exact DataW.trod_lt m _ _ _ hm
  have lt1 : ∀ x ∈ p1, x.block < W.heap.size := by obtain ⟨m, hm⟩ := h1; exact DataW.trod_lt m _ _ _ hm
  have lt2 : ∀ x ∈ p2, x.block < W.heap.size := by obtain ⟨m, hm⟩ := h2; exact DataW.trod_lt m _ _ _ hm
  have lt3 : ∀ x ∈ p3, x.block < W.heap.size := by obtain ⟨m, hm⟩ := h3; exact DataW.trod_lt m _ _ _ hm
  obtain ⟨z0, e0, f0, vr0⟩ := vr_of xB9 (g := true) (t := 66) (ns := [.inl (.int .i64), .inl (.int .i64), .inr .fil]) (by kernel_rfl) (hval 0 66 v0 rfl rfl) h0
  obtain ⟨x0_0, _, rfl, e0_0⟩ := AreOf.int_inv e0
  obtain ⟨x0_1, _, rfl, e0_1⟩ := AreOf.int_inv e0_0
  obtain ⟨x0_2, _, rfl, e0_2⟩ := AreOf.sl_inv e0_1
  obtain rfl := e0_2.nil_inv
  obtain ⟨z1, e1, f1, vr1⟩ := vr_of xB9 (g := false) (t := 3) (ns := [.inl (.int .i64)]) (by kernel_rfl) (hval 1 3 v1 rfl rfl) h1
  obtain ⟨x1_0, _, rfl, e1_0⟩ := AreOf.int_inv e1
  obtain rfl := e1_0.nil_inv
  obtain ⟨z2, e2, f2, vr2⟩ := vr_of xB9 (g := false) (t := 3) (ns := [.inl (.int .i64)]) (by kernel_rfl) (hval 2 3 v2 rfl rfl) h2
  obtain ⟨x2_0, _, rfl, e2_0⟩ := AreOf.int_inv e2
  obtain rfl := e2_0.nil_inv
  obtain ⟨z3, e3, f3, vr3⟩ := vr_of xB9 (g := true) (t := 47) (ns := [.inl (.int .i64), .inl (.int .i64), .inl (.int .i64), .inl .str, .inl (.int .i64), .inl (.int .i64), .inl (.int .i64), .inl .str, .inr .val, .inr .str, .inr .row]) (by kernel_rfl) (hval 3 47 v3 rfl rfl) h3
  obtain ⟨x3_0, _, rfl, e3_0⟩ := AreOf.int_inv e3
  obtain ⟨x3_1, _, rfl, e3_1⟩ := AreOf.int_inv e3_0
  obtain ⟨x3_2, _, rfl, e3_2⟩ := AreOf.int_inv e3_1
  obtain ⟨x3_3, _, rfl, e3_3⟩ := AreOf.str_inv e3_2
  obtain ⟨x3_4, _, rfl, e3_4⟩ := AreOf.int_inv e3_3
  obtain ⟨x3_5, _, rfl, e3_5⟩ := AreOf.int_inv e3_4
  obtain ⟨x3_6, _, rfl, e3_6⟩ := AreOf.int_inv e3_5
  obtain ⟨x3_7, _, rfl, e3_7⟩ := AreOf.str_inv e3_6
  obtain ⟨x3_8, _, rfl, e3_8⟩ := AreOf.sl_inv e3_7
  obtain ⟨x3_9, _, rfl, e3_9⟩ := AreOf.sl_inv e3_8
  obtain ⟨x3_10, _, rfl, e3_10⟩ := AreOf.sl_inv e3_9
  obtain rfl := e3_10.nil_inv
  obtain ⟨N, hF⟩ := xEl (Wld.mk x0_0 x0_1 x0_2) x1_0 x2_0 (Rea.mk x3_0 x3_1 x3_2 x3_3 (Val.mk x3_4 x3_5 x3_6 x3_7 x3_8 x3_9 x3_10)) f0 f1 f2 f3
  clear hA0 hval0
  refine (calls_of T.fk7 (T.laws_FnExactEffectResult_ok hF) (W := W) (args := #[v0, v1, v2, v3]) ⟨vr0 _, vr1 _, vr2 _, vr3 _, trivial⟩).mono fun e W' ⟨he, bel⟩ => ?_
  subst he
  exact ⟨_, rfl, _, _, _, [], _, [], hW', trodAll_mk1 (shut_bool Try.underlying4 _), (trodAll_cons_mk (Below.trod laidOut (by kernel_rfl) (of_decide_eq_true (by kernel_rfl)) h0 bel lt0) (trodAll_cons_mk (Below.trod laidOut (by kernel_rfl) (of_decide_eq_true (by kernel_rfl)) h1 bel lt1) (trodAll_cons_mk (Below.trod laidOut (by kernel_rfl) (of_decide_eq_true (by kernel_rfl)) h2 bel lt2) (trodAll_cons_mk (Below.trod laidOut (by kernel_rfl) (of_decide_eq_true (by kernel_rfl)) h3 bel lt3) trodAll_mk0)))), rfl, bel.frame _, fun h => by cases h⟩
theorem fnExactEffectResult_proved : Rows.FnExactEffectResultSaid :=
  OpenClaim.holds_of_wide 7 Try.f7 rfl rfl rfl rfl rfl rfl rfl ⟨rfl, rfl, rfl, rfl, rfl⟩ rfl rfl rfl rfl rfl (by kernel_rfl) Try.func7 (by kernel_rfl)
    (of_decide_eq_true (by kernel_rfl)) (by unfold Func.isWrapper; first | (rw [if_pos (by decide +kernel)]; kernel_rfl) | (rw [if_neg (by decide +kernel)]; exact ⟨rfl, rfl⟩))
    (fun os started H enc _ => fnExactEffectResult_lifted os started H enc)
end Go.Proofs.Ytkbojckenecnbaa
end
