/- The statement FnExactLevelOf holds: plain functions, certificates, laws. Conditions: none. -/
import Derived.Test.YtimjapjfceenkaaChecked
import Derived.Test.YtimjapjfceenkaaProg
import Derived.Test.YtimjapjfceenkaaRows
import Derived.Test.YtimjapjfceenkaaL2
set_option linter.all false
section
namespace Go.Ab
set_option linter.unusedVariables false
def laws_szExpr_as (a0 : Exp) (a1 : Int) : List Arg := [.val (.v true [.int .i64 (Exp.kind a0), .int .i64 (Exp.n a0), .str (Exp.text a0), .sl .ro .exp (Exp.args a0)]), .val (.v false [.int .i64 a1])]
def laws_szExpr_ro (r : Int) : CallO := ⟨.v false [.int .i64 r], [], []⟩
def laws_szExpr_body (N : Nat) (rc_laws_szExpr : Exp → Int → Option (Int)) (rc_laws_szExprS : (List Exp) → Int → Option (Int)) (a0 : Exp) (a1 : Int) : Option (Int) :=
  bif (decide (((IntKind.i64.wrap (a1 - (List.length (Exp.text a0) : Int))) : Int) < 0)) then (
    some (-1)
  ) else (
    Option.bind (rc_laws_szExprS (Exp.args a0) (IntKind.i64.wrap (a1 - (List.length (Exp.text a0) : Int)))) fun r1 =>
    bif (decide ((r1 : Int) < 0)) then (
      some (-1)
    ) else (
      some r1
    )
  )
def laws_szExprS_as (a0 : List Exp) (a1 : Int) : List Arg := [.val (.v false [.sl .ro .exp a0]), .val (.v false [.int .i64 a1])]
def laws_szExprS_ro (r : Int) : CallO := ⟨.v false [.int .i64 r], [], []⟩
def laws_szExprS_b5 (N : Nat) (rc_laws_szExpr : Exp → Int → Option (Int)) (rc_laws_szExprS : (List Exp) → Int → Option (Int)) : Nat → (List Exp) → Int → Int → Option (Int)
  | 0, _, _, _ => none
  | n + 1, x0, x1, x5 =>
    bif (decide ((x5 : Int) < (List.length x0 : Int))) then (
      if (0 : Int) ≤ x5 ∧ x5 < (List.length x0) then
      Option.bind (rc_laws_szExpr (List.getD x0 (Int.toNat x5) Ty.exp.dflt) x1) fun r1 =>
      bif (decide ((r1 : Int) < 0)) then (
        some (-1)
      ) else (
        (laws_szExprS_b5 N rc_laws_szExpr rc_laws_szExprS n x0 r1 (IntKind.i64.wrap (x5 + 1)))
      )
      else none
    ) else (
      some x1
    )
def laws_szExprS_body (N : Nat) (rc_laws_szExpr : Exp → Int → Option (Int)) (rc_laws_szExprS : (List Exp) → Int → Option (Int)) (a0 : List Exp) (a1 : Int) : Option (Int) :=
  bif (decide (((IntKind.i64.wrap (a1 - (List.length a0 : Int))) : Int) < 0)) then (
    some (-1)
  ) else (
    (laws_szExprS_b5 N rc_laws_szExpr rc_laws_szExprS N a0 (IntKind.i64.wrap (a1 - (List.length a0 : Int))) 0)
  )
structure laws_szExpr_rec where
  c_laws_szExpr : Exp → Int → Option (Int)
  c_laws_szExprS : (List Exp) → Int → Option (Int)
def laws_szExpr_fix (N : Nat) : Nat → laws_szExpr_rec
  | 0 => ⟨fun _ _ => none, fun _ _ => none⟩
  | d + 1 => ⟨laws_szExpr_body N (laws_szExpr_fix N d).c_laws_szExpr (laws_szExpr_fix N d).c_laws_szExprS, laws_szExprS_body N (laws_szExpr_fix N d).c_laws_szExpr (laws_szExpr_fix N d).c_laws_szExprS⟩
def laws_szExpr (N : Nat) (a0 : Exp) (a1 : Int) : Option (Int) := (laws_szExpr_fix N N).c_laws_szExpr a0 a1
def laws_toExpr_as (a0 : Exp) : List Arg := [.val (.v true [.int .i64 (Exp.kind a0), .int .i64 (Exp.n a0), .str (Exp.text a0), .sl .ro .exp (Exp.args a0)])]
def laws_toExpr_ro (r : Exp) : CallO := ⟨.v true [.int .i64 (Exp.kind r), .int .i64 (Exp.n r), .str (Exp.text r), .sl .own .exp (Exp.args r)], [], []⟩
def laws_toExpr_body (N : Nat) (rc_laws_toExpr : Exp → Option (Exp)) (rc_laws_toExprS : (List Exp) → Option ((List Exp))) (a0 : Exp) : Option (Exp) :=
  Option.bind (rc_laws_toExprS (Exp.args a0)) fun r1 =>
  some (Exp.mk (Exp.kind a0) (Exp.n a0) (Exp.text a0) r1)
def laws_toExprS_as (a0 : List Exp) : List Arg := [.val (.v false [.sl .ro .exp a0])]
def laws_toExprS_ro (r : (List Exp)) : CallO := ⟨.v false [.sl .own .exp r], [], []⟩
def laws_toExprS_b3 (N : Nat) (rc_laws_toExpr : Exp → Option (Exp)) (rc_laws_toExprS : (List Exp) → Option ((List Exp))) : Nat → (List Exp) → (List Exp) → Int → Option ((List Exp))
  | 0, _, _, _ => none
  | n + 1, x0, x3, x4 =>
    bif (decide ((x4 : Int) < (List.length x0 : Int))) then (
      if (0 : Int) ≤ x4 ∧ x4 < (List.length x0) then
      Option.bind (rc_laws_toExpr (List.getD x0 (Int.toNat x4) Ty.exp.dflt)) fun r1 =>
      if (0 : Int) ≤ x4 ∧ x4 < (List.length x3) then
      (laws_toExprS_b3 N rc_laws_toExpr rc_laws_toExprS n x0 (List.set x3 (Int.toNat x4) (Exp.re r1)) (IntKind.i64.wrap (x4 + 1)))
      else none
      else none
    ) else (
      some x3
    )
def laws_toExprS_body (N : Nat) (rc_laws_toExpr : Exp → Option (Exp)) (rc_laws_toExprS : (List Exp) → Option ((List Exp))) (a0 : List Exp) : Option ((List Exp)) :=
  if (0 : Int) ≤ (List.length a0 : Int) ∧ (List.length a0 : Int) = (List.length a0 : Int) ∧ (List.length a0 : Int) ≤ Lim then
  (laws_toExprS_b3 N rc_laws_toExpr rc_laws_toExprS N a0 (List.replicate (Int.toNat (List.length a0 : Int)) Ty.exp.dflt) 0)
  else none
structure laws_toExpr_rec where
  c_laws_toExpr : Exp → Option (Exp)
  c_laws_toExprS : (List Exp) → Option ((List Exp))
def laws_toExpr_fix (N : Nat) : Nat → laws_toExpr_rec
  | 0 => ⟨fun _ => none, fun _ => none⟩
  | d + 1 => ⟨laws_toExpr_body N (laws_toExpr_fix N d).c_laws_toExpr (laws_toExpr_fix N d).c_laws_toExprS, laws_toExprS_body N (laws_toExpr_fix N d).c_laws_toExpr (laws_toExpr_fix N d).c_laws_toExprS⟩
def laws_toExpr (N : Nat) (a0 : Exp) : Option (Exp) := (laws_toExpr_fix N N).c_laws_toExpr a0
def spec_LevelOf_as (a0 : Exp) : List Arg := [.val (.v true [.int .i64 (Exp.kind a0), .int .i64 (Exp.n a0), .str (Exp.text a0), .sl .ro .exp (Exp.args a0)])]
def spec_LevelOf_ro (r : Int) : CallO := ⟨.v false [.int .i64 r], [], []⟩
def spec_LevelOf (N : Nat) (a0 : Exp) : Option (Int) :=
  bif (((Exp.kind a0) : Int) == 7) then (
    some 0
  ) else (
    bif (((Exp.kind a0) : Int) == 8) then (
      some 0
    ) else (
      bif (((Exp.kind a0) : Int) == 9) then (
        some 0
      ) else (
        bif (((Exp.kind a0) : Int) == 6) then (
          bif (((Exp.n a0) : Int) == 4) then (
            some 1
          ) else (
            bif (((Exp.n a0) : Int) == 5) then (
              some 1
            ) else (
              bif (((Exp.n a0) : Int) == 1) then (
                some 2
              ) else (
                bif (((Exp.n a0) : Int) == 2) then (
                  some 2
                ) else (
                  bif (((Exp.n a0) : Int) == 3) then (
                    some 3
                  ) else (
                    some 4
                  )
                )
              )
            )
          )
        ) else (
          some 4
        )
      )
    )
  )
def impl_LevelOf_as (a0 : Exp) : List Arg := [.val (.v true [.int .i64 (Exp.kind a0), .int .i64 (Exp.n a0), .str (Exp.text a0), .sl .ro .exp (Exp.args a0)])]
def impl_LevelOf_ro (r : Int) : CallO := ⟨.v false [.int .i64 r], [], []⟩
def impl_LevelOf (N : Nat) (a0 : Exp) : Option (Int) :=
  bif (((Exp.kind a0) : Int) == 7) then (
    some 0
  ) else (
    bif (((Exp.kind a0) : Int) == 8) then (
      some 0
    ) else (
      bif (((Exp.kind a0) : Int) == 9) then (
        some 0
      ) else (
        bif (((Exp.kind a0) : Int) == 6) then (
          bif (((Exp.n a0) : Int) == 4) then (
            some 1
          ) else (
            bif (((Exp.n a0) : Int) == 5) then (
              some 1
            ) else (
              bif (((Exp.n a0) : Int) == 1) then (
                some 2
              ) else (
                bif (((Exp.n a0) : Int) == 2) then (
                  some 2
                ) else (
                  bif (((Exp.n a0) : Int) == 3) then (
                    some 3
                  ) else (
                    some 4
                  )
                )
              )
            )
          )
        ) else (
          some 4
        )
      )
    )
  )
def laws_eqExpr_as (a0 : Exp) (a1 : Exp) : List Arg := [.val (.v true [.int .i64 (Exp.kind a0), .int .i64 (Exp.n a0), .str (Exp.text a0), .sl .ro .exp (Exp.args a0)]), .val (.v true [.int .i64 (Exp.kind a1), .int .i64 (Exp.n a1), .str (Exp.text a1), .sl .ro .exp (Exp.args a1)])]
def laws_eqExpr_ro (r : Bool) : CallO := ⟨.v false [.bool r], [], []⟩
def laws_eqExpr_body (N : Nat) (rc_laws_eqExpr : Exp → Exp → Option (Bool)) (rc_laws_eqExprS : (List Exp) → (List Exp) → Option (Bool)) (a0 : Exp) (a1 : Exp) : Option (Bool) :=
  bif (((Exp.kind a0) : Int) != (Exp.kind a1)) then (
    some false
  ) else (
    bif (((Exp.n a0) : Int) != (Exp.n a1)) then (
      some false
    ) else (
      bif (!(((Exp.text a0) : Str) == (Exp.text a1))) then (
        some false
      ) else (
        Option.bind (rc_laws_eqExprS (Exp.args a0) (Exp.args a1)) fun r1 =>
        bif (!r1) then (
          some false
        ) else (
          some true
        )
      )
    )
  )
def laws_eqExprS_as (a0 : List Exp) (a1 : List Exp) : List Arg := [.val (.v false [.sl .ro .exp a0]), .val (.v false [.sl .ro .exp a1])]
def laws_eqExprS_ro (r : Bool) : CallO := ⟨.v false [.bool r], [], []⟩
def laws_eqExprS_b4 (N : Nat) (rc_laws_eqExpr : Exp → Exp → Option (Bool)) (rc_laws_eqExprS : (List Exp) → (List Exp) → Option (Bool)) : Nat → (List Exp) → (List Exp) → Int → Option (Bool)
  | 0, _, _, _ => none
  | n + 1, x0, x1, x5 =>
    bif (decide ((x5 : Int) < (List.length x0 : Int))) then (
      if (0 : Int) ≤ x5 ∧ x5 < (List.length x0) then
      if (0 : Int) ≤ x5 ∧ x5 < (List.length x1) then
      Option.bind (rc_laws_eqExpr (List.getD x0 (Int.toNat x5) Ty.exp.dflt) (List.getD x1 (Int.toNat x5) Ty.exp.dflt)) fun r1 =>
      bif (!r1) then (
        some false
      ) else (
        (laws_eqExprS_b4 N rc_laws_eqExpr rc_laws_eqExprS n x0 x1 (IntKind.i64.wrap (x5 + 1)))
      )
      else none
      else none
    ) else (
      some true
    )
def laws_eqExprS_body (N : Nat) (rc_laws_eqExpr : Exp → Exp → Option (Bool)) (rc_laws_eqExprS : (List Exp) → (List Exp) → Option (Bool)) (a0 : List Exp) (a1 : List Exp) : Option (Bool) :=
  bif (((List.length a0 : Int) : Int) != (List.length a1 : Int)) then (
    some false
  ) else (
    (laws_eqExprS_b4 N rc_laws_eqExpr rc_laws_eqExprS N a0 a1 0)
  )
structure laws_eqExpr_rec where
  c_laws_eqExpr : Exp → Exp → Option (Bool)
  c_laws_eqExprS : (List Exp) → (List Exp) → Option (Bool)
def laws_eqExpr_fix (N : Nat) : Nat → laws_eqExpr_rec
  | 0 => ⟨fun _ _ => none, fun _ _ => none⟩
  | d + 1 => ⟨laws_eqExpr_body N (laws_eqExpr_fix N d).c_laws_eqExpr (laws_eqExpr_fix N d).c_laws_eqExprS, laws_eqExprS_body N (laws_eqExpr_fix N d).c_laws_eqExpr (laws_eqExpr_fix N d).c_laws_eqExprS⟩
def laws_eqExpr (N : Nat) (a0 : Exp) (a1 : Exp) : Option (Bool) := (laws_eqExpr_fix N N).c_laws_eqExpr a0 a1
def laws_FnExactLevelOf_as (a0 : Exp) : List Arg := [.val (.v true [.int .i64 (Exp.kind a0), .int .i64 (Exp.n a0), .str (Exp.text a0), .sl .ro .exp (Exp.args a0)])]
def laws_FnExactLevelOf_ro (r : Bool) : CallO := ⟨.v false [.bool r], [], []⟩
def laws_FnExactLevelOf (N : Nat) (a0 : Exp) : Option (Bool) :=
  Option.bind (laws_szExpr N a0 1048576) fun r1 =>
  bif (decide ((r1 : Int) < 0)) then (
    some true
  ) else (
    Option.bind (laws_toExpr N a0) fun r2 =>
    Option.bind (spec_LevelOf N r2) fun r3 =>
    Option.bind (laws_toExpr N a0) fun r4 =>
    Option.bind (impl_LevelOf N r4) fun r5 =>
    bif ((r5 : Int) != r3) then (
      some false
    ) else (
      Option.bind (laws_toExpr N a0) fun r6 =>
      Option.bind (laws_eqExpr N r4 r6) fun r7 =>
      bif (!r7) then (
        some false
      ) else (
        some true
      )
    )
  )
end Go.Ab
end
section
open Go.Proofs
namespace Go.Ab.T
set_option linter.unusedVariables false
set_option maxRecDepth 100000
def tt : TT := [(3, { zero := some [.int .i64 0], ik := some .i64 }),
  (4, { zero := some [.bool false], isBool := true }),
  (5, { zero := some [.int .u8 0], ik := some .u8 }),
  (9, { zero := some [.str []], isStr := true }),
  (25, { zero := some [.sl .own .fil []], elem := some (111, .fil) }),
  (27, { sz := 3, agg := true, zero := some [.int .i64 0, .int .i64 0, .sl .own .fil []], offs := [0, 1, 2], fsz := [1, 1, 1] }),
  (31, { zero := some [.sl .own .fil []], elem := some (80, .fil) }),
  (33, { sz := 3, agg := true, zero := some [.int .i64 0, .int .i64 0, .sl .own .fil []], offs := [0, 1, 2], fsz := [1, 1, 1] }),
  (37, { zero := some [.sl .own .exp []], elem := some (39, .exp) }),
  (39, { sz := 4, agg := true, zero := some [.int .i64 0, .int .i64 0, .str [], .sl .own .exp []], offs := [0, 1, 2, 3], fsz := [1, 1, 1, 1] }),
  (42, { zero := some [.sl .own .exp []], elem := some (44, .exp) }),
  (44, { sz := 4, agg := true, zero := some [.int .i64 0, .int .i64 0, .str [], .sl .own .exp []], offs := [0, 1, 2, 3], fsz := [1, 1, 1, 1] }),
  (48, { zero := some [.sl .own .cel []], elem := some (61, .cel) }),
  (50, { agg := true, zero := some [.sl .own .cel []], offs := [0], fsz := [1] }),
  (53, { zero := some [.sl .own .cel []], elem := some (64, .cel) }),
  (55, { agg := true, zero := some [.sl .own .cel []], offs := [0], fsz := [1] }),
  (61, { sz := 6, agg := true, zero := some [.int .i64 0, .int .i64 0, .int .i64 0, .str [], .str [], .int .i64 0], offs := [0, 1, 2, 3, 4, 5], fsz := [1, 1, 1, 1, 1, 1], same := true }),
  (64, { sz := 6, agg := true, zero := some [.int .i64 0, .int .i64 0, .int .i64 0, .str [], .str [], .int .i64 0], offs := [0, 1, 2, 3, 4, 5], fsz := [1, 1, 1, 1, 1, 1], same := true }),
  (73, { zero := some [.sl .own .byte []], elem := some (5, .byte) }),
  (80, { sz := 2, agg := true, zero := some [.str [], .int .i64 0], offs := [0, 1], fsz := [1, 1] }),
  (94, { zero := some [.sl .own .str []], elem := some (9, .str) }),
  (111, { sz := 2, agg := true, zero := some [.str [], .int .i64 0], offs := [0, 1], fsz := [1, 1] })]
theorem ttok : TTok Try.prog tt := ttChk_ok (by kernel_rfl)
theorem mix : Try.prog.follows .mixedOrders = true := by kernel_rfl
noncomputable def I24 : Info := { body := (Try.f24.body).getD .skip, nt := 19, results := [.tmp 4], keep := [0, 2, 4, 8, 22, 34, 5], live := [], modes := [], ext := [], lnt := [], casts := [], fcast := [] }
theorem fk24 : FnOk Try.prog 24 Try.f24 I24 := ⟨Try.func24, by kernel_rfl, by kernel_rfl, by kernel_rfl, by kernel_rfl⟩
theorem p24_e_0 (a0 : Exp) (a1 : Int) : run tt (AbsCalls Try.prog) I24 3000 false [.code I24.body] ⟨(entry 0 (laws_szExpr_as a0 a1)), [true], [], []⟩ = some (.done (laws_szExpr_ro (-1)) [(decide (((IntKind.i64.wrap (a1 - (List.length (Exp.text a0) : Int))) : Int) < 0)) = true]) := by kernel_rfl
theorem p24_e_1 (a0 : Exp) (a1 : Int) (r1 : Int) : run tt (AbsCalls Try.prog) I24 3000 false [.code I24.body] ⟨(entry 0 (laws_szExpr_as a0 a1)), [false, true], [laws_szExprS_ro r1], []⟩ = some (.done (laws_szExpr_ro (-1)) [(decide (((IntKind.i64.wrap (a1 - (List.length (Exp.text a0) : Int))) : Int) < 0)) = false, AbsCalls Try.prog 56 (laws_szExprS_as (Exp.args a0) (IntKind.i64.wrap (a1 - (List.length (Exp.text a0) : Int)))) (laws_szExprS_ro r1), (decide ((r1 : Int) < 0)) = true]) := by kernel_rfl
theorem p24_e_2 (a0 : Exp) (a1 : Int) (r1 : Int) : run tt (AbsCalls Try.prog) I24 3000 false [.code I24.body] ⟨(entry 0 (laws_szExpr_as a0 a1)), [false, false], [laws_szExprS_ro r1], []⟩ = some (.done (laws_szExpr_ro r1) [(decide (((IntKind.i64.wrap (a1 - (List.length (Exp.text a0) : Int))) : Int) < 0)) = false, AbsCalls Try.prog 56 (laws_szExprS_as (Exp.args a0) (IntKind.i64.wrap (a1 - (List.length (Exp.text a0) : Int)))) (laws_szExprS_ro r1), (decide ((r1 : Int) < 0)) = false]) := by kernel_rfl
theorem c24_e {N : Nat} {rc_laws_szExpr : Exp → Int → Option (Int)} (hrc_laws_szExpr : ∀ a0 a1 r, rc_laws_szExpr a0 a1 = some r → AbsCalls Try.prog 24 (laws_szExpr_as a0 a1) (laws_szExpr_ro r)) {rc_laws_szExprS : (List Exp) → Int → Option (Int)} (hrc_laws_szExprS : ∀ a0 a1 r, rc_laws_szExprS a0 a1 = some r → AbsCalls Try.prog 56 (laws_szExprS_as a0 a1) (laws_szExprS_ro r)) : ∀ a0 a1 r, laws_szExpr_body N rc_laws_szExpr rc_laws_szExprS a0 a1 = some r → Reach Try.prog Try.f24 I24 [.code I24.body] (entry 0 (laws_szExpr_as a0 a1)) (laws_szExpr_ro r) := by
  intro a0 a1 r h
  unfold laws_szExpr_body at h
  rcases cond_inv h with ⟨h0, h⟩ | ⟨h0, h⟩
  · obtain rfl := Option.some.inj h
    exact Reach.done ttok mix fk24 (p24_e_0 a0 a1) (obs_cons h0 obs_nil)
  · obtain ⟨r1, h1, h⟩ := bind_inv h
    rcases cond_inv h with ⟨h2, h⟩ | ⟨h2, h⟩
    · obtain rfl := Option.some.inj h
      exact Reach.done ttok mix fk24 (p24_e_1 a0 a1 r1) (obs_cons h0 (obs_cons (hrc_laws_szExprS _ _ _ h1) (obs_cons h2 obs_nil)))
    · obtain rfl := Option.some.inj h
      exact Reach.done ttok mix fk24 (p24_e_2 a0 a1 r1) (obs_cons h0 (obs_cons (hrc_laws_szExprS _ _ _ h1) (obs_cons h2 obs_nil)))
theorem laws_szExpr_body_ok {N : Nat} {rc_laws_szExpr : Exp → Int → Option (Int)} (hrc_laws_szExpr : ∀ a0 a1 r, rc_laws_szExpr a0 a1 = some r → AbsCalls Try.prog 24 (laws_szExpr_as a0 a1) (laws_szExpr_ro r)) {rc_laws_szExprS : (List Exp) → Int → Option (Int)} (hrc_laws_szExprS : ∀ a0 a1 r, rc_laws_szExprS a0 a1 = some r → AbsCalls Try.prog 56 (laws_szExprS_as a0 a1) (laws_szExprS_ro r)) {a0 : Exp} {a1 : Int} {r : Int} (h : laws_szExpr_body N rc_laws_szExpr rc_laws_szExprS a0 a1 = some r) : AbsCalls Try.prog 24 (laws_szExpr_as a0 a1) (laws_szExpr_ro r) :=
 AbsCalls.of_reach fk24 rfl rfl (Nat.le_of_ble_eq_true rfl) (c24_e hrc_laws_szExpr hrc_laws_szExprS a0 a1 r h)
noncomputable def I56 : Info := { body := (Try.f56.body).getD .skip, nt := 27, results := [.tmp 4], keep := [0, 2, 8, 10, 22, 30, 50], live := [(5, [0, 2, 10])], modes := [], ext := [], lnt := [], casts := [], fcast := [] }
theorem fk56 : FnOk Try.prog 56 Try.f56 I56 := ⟨Try.func56, by kernel_rfl, by kernel_rfl, by kernel_rfl, by kernel_rfl⟩
def S56_5 (x0 : List Exp) (x1 : Int) (x5 : Int) : St := [(0, .v false [.sl .ro .exp x0]), (2, .v false [.int .i64 x1]), (10, .v false [.int .i64 x5])]
theorem p56_5_0 (x0 : List Exp) (x1 : Int) (x5 : Int) (r1 : Int) : run tt (AbsCalls Try.prog) I56 3000 true (stkAt 5 I56.body) ⟨(S56_5 x0 x1 x5), [true, true], [laws_szExpr_ro r1], []⟩ = some (.done (laws_szExprS_ro (-1)) [(decide ((x5 : Int) < (List.length x0 : Int))) = true, (0 : Int) ≤ x5 ∧ x5 < (List.length x0), AbsCalls Try.prog 24 (laws_szExpr_as (List.getD x0 (Int.toNat x5) Ty.exp.dflt) x1) (laws_szExpr_ro r1), (decide ((r1 : Int) < 0)) = true]) := by kernel_rfl
theorem p56_5_1 (x0 : List Exp) (x1 : Int) (x5 : Int) (r1 : Int) : run tt (AbsCalls Try.prog) I56 3000 true (stkAt 5 I56.body) ⟨(S56_5 x0 x1 x5), [true, false], [laws_szExpr_ro r1], []⟩ = some (.stop (stkAt 5 I56.body) (S56_5 x0 r1 (IntKind.i64.wrap (x5 + 1))) [(decide ((x5 : Int) < (List.length x0 : Int))) = true, (0 : Int) ≤ x5 ∧ x5 < (List.length x0), AbsCalls Try.prog 24 (laws_szExpr_as (List.getD x0 (Int.toNat x5) Ty.exp.dflt) x1) (laws_szExpr_ro r1), (decide ((r1 : Int) < 0)) = false]) := by kernel_rfl
theorem p56_5_2 (x0 : List Exp) (x1 : Int) (x5 : Int) : run tt (AbsCalls Try.prog) I56 3000 true (stkAt 5 I56.body) ⟨(S56_5 x0 x1 x5), [false], [], []⟩ = some (.done (laws_szExprS_ro x1) [(decide ((x5 : Int) < (List.length x0 : Int))) = false]) := by kernel_rfl
theorem p56_e_3 (a0 : List Exp) (a1 : Int) : run tt (AbsCalls Try.prog) I56 3000 false [.code I56.body] ⟨(entry 0 (laws_szExprS_as a0 a1)), [true], [], []⟩ = some (.done (laws_szExprS_ro (-1)) [(decide (((IntKind.i64.wrap (a1 - (List.length a0 : Int))) : Int) < 0)) = true]) := by kernel_rfl
theorem p56_e_4 (a0 : List Exp) (a1 : Int) : run tt (AbsCalls Try.prog) I56 3000 false [.code I56.body] ⟨(entry 0 (laws_szExprS_as a0 a1)), [false], [], []⟩ = some (.stop (stkAt 5 I56.body) (S56_5 a0 (IntKind.i64.wrap (a1 - (List.length a0 : Int))) 0) [(decide (((IntKind.i64.wrap (a1 - (List.length a0 : Int))) : Int) < 0)) = false]) := by kernel_rfl
theorem c56_5 {N : Nat} {rc_laws_szExpr : Exp → Int → Option (Int)} (hrc_laws_szExpr : ∀ a0 a1 r, rc_laws_szExpr a0 a1 = some r → AbsCalls Try.prog 24 (laws_szExpr_as a0 a1) (laws_szExpr_ro r)) {rc_laws_szExprS : (List Exp) → Int → Option (Int)} (hrc_laws_szExprS : ∀ a0 a1 r, rc_laws_szExprS a0 a1 = some r → AbsCalls Try.prog 56 (laws_szExprS_as a0 a1) (laws_szExprS_ro r)) : ∀ n x0 x1 x5 r, laws_szExprS_b5 N rc_laws_szExpr rc_laws_szExprS n x0 x1 x5 = some r → Reach Try.prog Try.f56 I56 (stkAt 5 I56.body) (S56_5 x0 x1 x5) (laws_szExprS_ro r) := by
  intro n
  induction n with
  | zero => intro x0 x1 x5 r h; have h' : (none : Option (Int)) = some r := h; cases h'
  | succ n ih =>
    intro x0 x1 x5 r h
    rw [laws_szExprS_b5] at h
    rcases cond_inv h with ⟨h0, h⟩ | ⟨h0, h⟩
    · obtain ⟨h1, h⟩ := ite_inv h
      obtain ⟨r1, h2, h⟩ := bind_inv h
      rcases cond_inv h with ⟨h3, h⟩ | ⟨h3, h⟩
      · obtain rfl := Option.some.inj h
        exact Reach.done ttok mix fk56 (p56_5_0 x0 x1 x5 r1) (obs_cons h0 (obs_cons h1 (obs_cons (hrc_laws_szExpr _ _ _ h2) (obs_cons h3 obs_nil))))
      · exact Reach.stop ttok mix fk56 (p56_5_1 x0 x1 x5 r1) (obs_cons h0 (obs_cons h1 (obs_cons (hrc_laws_szExpr _ _ _ h2) (obs_cons h3 obs_nil)))) (ih _ _ _ _ h)
    · obtain rfl := Option.some.inj h
      exact Reach.done ttok mix fk56 (p56_5_2 x0 x1 x5) (obs_cons h0 obs_nil)
theorem c56_e {N : Nat} {rc_laws_szExpr : Exp → Int → Option (Int)} (hrc_laws_szExpr : ∀ a0 a1 r, rc_laws_szExpr a0 a1 = some r → AbsCalls Try.prog 24 (laws_szExpr_as a0 a1) (laws_szExpr_ro r)) {rc_laws_szExprS : (List Exp) → Int → Option (Int)} (hrc_laws_szExprS : ∀ a0 a1 r, rc_laws_szExprS a0 a1 = some r → AbsCalls Try.prog 56 (laws_szExprS_as a0 a1) (laws_szExprS_ro r)) : ∀ a0 a1 r, laws_szExprS_body N rc_laws_szExpr rc_laws_szExprS a0 a1 = some r → Reach Try.prog Try.f56 I56 [.code I56.body] (entry 0 (laws_szExprS_as a0 a1)) (laws_szExprS_ro r) := by
  intro a0 a1 r h
  unfold laws_szExprS_body at h
  rcases cond_inv h with ⟨h0, h⟩ | ⟨h0, h⟩
  · obtain rfl := Option.some.inj h
    exact Reach.done ttok mix fk56 (p56_e_3 a0 a1) (obs_cons h0 obs_nil)
  · exact Reach.stop ttok mix fk56 (p56_e_4 a0 a1) (obs_cons h0 obs_nil) (c56_5 hrc_laws_szExpr hrc_laws_szExprS  _ _ _ _ _ h)
theorem laws_szExprS_body_ok {N : Nat} {rc_laws_szExpr : Exp → Int → Option (Int)} (hrc_laws_szExpr : ∀ a0 a1 r, rc_laws_szExpr a0 a1 = some r → AbsCalls Try.prog 24 (laws_szExpr_as a0 a1) (laws_szExpr_ro r)) {rc_laws_szExprS : (List Exp) → Int → Option (Int)} (hrc_laws_szExprS : ∀ a0 a1 r, rc_laws_szExprS a0 a1 = some r → AbsCalls Try.prog 56 (laws_szExprS_as a0 a1) (laws_szExprS_ro r)) {a0 : List Exp} {a1 : Int} {r : Int} (h : laws_szExprS_body N rc_laws_szExpr rc_laws_szExprS a0 a1 = some r) : AbsCalls Try.prog 56 (laws_szExprS_as a0 a1) (laws_szExprS_ro r) :=
 AbsCalls.of_reach fk56 rfl rfl (Nat.le_of_ble_eq_true rfl) (c56_e hrc_laws_szExpr hrc_laws_szExprS a0 a1 r h)
theorem laws_szExpr_fix_ok {N : Nat} : ∀ d, (∀ a0 a1 r, (laws_szExpr_fix N d).c_laws_szExpr a0 a1 = some r → AbsCalls Try.prog 24 (laws_szExpr_as a0 a1) (laws_szExpr_ro r)) ∧ (∀ a0 a1 r, (laws_szExpr_fix N d).c_laws_szExprS a0 a1 = some r → AbsCalls Try.prog 56 (laws_szExprS_as a0 a1) (laws_szExprS_ro r)) := by
  intro d
  induction d with
  | zero =>
    refine ⟨?_, ?_⟩ <;> (intros; rename_i h; cases h)
  | succ d ih =>
    obtain ⟨ih0, ih1⟩ := ih
    refine ⟨?_, ?_⟩
    · intro _ _ r h; exact laws_szExpr_body_ok (N := N) ih0 ih1 h
    · intro _ _ r h; exact laws_szExprS_body_ok (N := N) ih0 ih1 h
theorem laws_szExpr_ok {N : Nat} {a0 : Exp} {a1 : Int} {r : Int} (h : laws_szExpr N a0 a1 = some r) : AbsCalls Try.prog 24 (laws_szExpr_as a0 a1) (laws_szExpr_ro r) := (laws_szExpr_fix_ok N).1 _ _ r h
noncomputable def I26 : Info := { body := (Try.f26.body).getD .skip, nt := 18, results := [.cell 2 44], keep := [0, 2, 4, 6, 3, 5, 7], live := [], modes := [(6, [(0, .take, false)])], ext := [], lnt := [], casts := [], fcast := [] }
theorem fk26 : FnOk Try.prog 26 Try.f26 I26 := ⟨Try.func26, by kernel_rfl, by kernel_rfl, by kernel_rfl, by kernel_rfl⟩
theorem p26_e_0 (a0 : Exp) (r1 : (List Exp)) : run tt (AbsCalls Try.prog) I26 3000 false [.code I26.body] ⟨(entry 0 (laws_toExpr_as a0)), [], [laws_toExprS_ro r1], []⟩ = some (.done (laws_toExpr_ro (Exp.mk (Exp.kind a0) (Exp.n a0) (Exp.text a0) r1)) [AbsCalls Try.prog 57 (laws_toExprS_as (Exp.args a0)) (laws_toExprS_ro r1)]) := by kernel_rfl
theorem c26_e {N : Nat} {rc_laws_toExpr : Exp → Option (Exp)} (hrc_laws_toExpr : ∀ a0 r, rc_laws_toExpr a0 = some r → AbsCalls Try.prog 26 (laws_toExpr_as a0) (laws_toExpr_ro r)) {rc_laws_toExprS : (List Exp) → Option ((List Exp))} (hrc_laws_toExprS : ∀ a0 r, rc_laws_toExprS a0 = some r → AbsCalls Try.prog 57 (laws_toExprS_as a0) (laws_toExprS_ro r)) : ∀ a0 r, laws_toExpr_body N rc_laws_toExpr rc_laws_toExprS a0 = some r → Reach Try.prog Try.f26 I26 [.code I26.body] (entry 0 (laws_toExpr_as a0)) (laws_toExpr_ro r) := by
  intro a0 r h
  unfold laws_toExpr_body at h
  obtain ⟨r1, h0, h⟩ := bind_inv h
  obtain rfl := Option.some.inj h
  exact Reach.done ttok mix fk26 (p26_e_0 a0 r1) (obs_cons (hrc_laws_toExprS _ _ h0) obs_nil)
theorem laws_toExpr_body_ok {N : Nat} {rc_laws_toExpr : Exp → Option (Exp)} (hrc_laws_toExpr : ∀ a0 r, rc_laws_toExpr a0 = some r → AbsCalls Try.prog 26 (laws_toExpr_as a0) (laws_toExpr_ro r)) {rc_laws_toExprS : (List Exp) → Option ((List Exp))} (hrc_laws_toExprS : ∀ a0 r, rc_laws_toExprS a0 = some r → AbsCalls Try.prog 57 (laws_toExprS_as a0) (laws_toExprS_ro r)) {a0 : Exp} {r : Exp} (h : laws_toExpr_body N rc_laws_toExpr rc_laws_toExprS a0 = some r) : AbsCalls Try.prog 26 (laws_toExpr_as a0) (laws_toExpr_ro r) :=
 AbsCalls.of_reach fk26 rfl rfl (Nat.le_of_ble_eq_true rfl) (c26_e hrc_laws_toExpr hrc_laws_toExprS a0 r h)
noncomputable def I57 : Info := { body := (Try.f57.body).getD .skip, nt := 23, results := [.tmp 2], keep := [0, 4, 6, 8, 22], live := [(3, [0, 6, 8])], modes := [(5, [(0, .ref, false)]), (6, [(0, .take, false)])], ext := [], lnt := [], casts := [], fcast := [] }
theorem fk57 : FnOk Try.prog 57 Try.f57 I57 := ⟨Try.func57, by kernel_rfl, by kernel_rfl, by kernel_rfl, by kernel_rfl⟩
def S57_3 (x0 : List Exp) (x3 : List Exp) (x4 : Int) : St := [(0, .v false [.sl .ro .exp x0]), (6, .v false [.sl .own .exp x3]), (8, .v false [.int .i64 x4])]
theorem p57_3_0 (x0 : List Exp) (x3 : List Exp) (x4 : Int) (r1 : Exp) : run tt (AbsCalls Try.prog) I57 3000 true (stkAt 3 I57.body) ⟨(S57_3 x0 x3 x4), [true], [laws_toExpr_ro r1], []⟩ = some (.stop (stkAt 3 I57.body) (S57_3 x0 (List.set x3 (Int.toNat x4) (Exp.re r1)) (IntKind.i64.wrap (x4 + 1))) [(decide ((x4 : Int) < (List.length x0 : Int))) = true, (0 : Int) ≤ x4 ∧ x4 < (List.length x0), AbsCalls Try.prog 26 (laws_toExpr_as (List.getD x0 (Int.toNat x4) Ty.exp.dflt)) (laws_toExpr_ro r1), (0 : Int) ≤ x4 ∧ x4 < (List.length x3)]) := by kernel_rfl
theorem p57_3_1 (x0 : List Exp) (x3 : List Exp) (x4 : Int) : run tt (AbsCalls Try.prog) I57 3000 true (stkAt 3 I57.body) ⟨(S57_3 x0 x3 x4), [false], [], []⟩ = some (.done (laws_toExprS_ro x3) [(decide ((x4 : Int) < (List.length x0 : Int))) = false]) := by kernel_rfl
theorem p57_e_2 (a0 : List Exp) : run tt (AbsCalls Try.prog) I57 3000 false [.code I57.body] ⟨(entry 0 (laws_toExprS_as a0)), [], [], []⟩ = some (.stop (stkAt 3 I57.body) (S57_3 a0 (List.replicate (Int.toNat (List.length a0 : Int)) Ty.exp.dflt) 0) [(0 : Int) ≤ (List.length a0 : Int) ∧ (List.length a0 : Int) = (List.length a0 : Int) ∧ (List.length a0 : Int) ≤ Lim]) := by kernel_rfl
theorem c57_3 {N : Nat} {rc_laws_toExpr : Exp → Option (Exp)} (hrc_laws_toExpr : ∀ a0 r, rc_laws_toExpr a0 = some r → AbsCalls Try.prog 26 (laws_toExpr_as a0) (laws_toExpr_ro r)) {rc_laws_toExprS : (List Exp) → Option ((List Exp))} (hrc_laws_toExprS : ∀ a0 r, rc_laws_toExprS a0 = some r → AbsCalls Try.prog 57 (laws_toExprS_as a0) (laws_toExprS_ro r)) : ∀ n x0 x3 x4 r, laws_toExprS_b3 N rc_laws_toExpr rc_laws_toExprS n x0 x3 x4 = some r → Reach Try.prog Try.f57 I57 (stkAt 3 I57.body) (S57_3 x0 x3 x4) (laws_toExprS_ro r) := by
  intro n
  induction n with
  | zero => intro x0 x3 x4 r h; have h' : (none : Option ((List Exp))) = some r := h; cases h'
  | succ n ih =>
    intro x0 x3 x4 r h
    rw [laws_toExprS_b3] at h
    rcases cond_inv h with ⟨h0, h⟩ | ⟨h0, h⟩
    · obtain ⟨h1, h⟩ := ite_inv h
      obtain ⟨r1, h2, h⟩ := bind_inv h
      obtain ⟨h3, h⟩ := ite_inv h
      exact Reach.stop ttok mix fk57 (p57_3_0 x0 x3 x4 r1) (obs_cons h0 (obs_cons h1 (obs_cons (hrc_laws_toExpr _ _ h2) (obs_cons h3 obs_nil)))) (ih _ _ _ _ h)
    · obtain rfl := Option.some.inj h
      exact Reach.done ttok mix fk57 (p57_3_1 x0 x3 x4) (obs_cons h0 obs_nil)
theorem c57_e {N : Nat} {rc_laws_toExpr : Exp → Option (Exp)} (hrc_laws_toExpr : ∀ a0 r, rc_laws_toExpr a0 = some r → AbsCalls Try.prog 26 (laws_toExpr_as a0) (laws_toExpr_ro r)) {rc_laws_toExprS : (List Exp) → Option ((List Exp))} (hrc_laws_toExprS : ∀ a0 r, rc_laws_toExprS a0 = some r → AbsCalls Try.prog 57 (laws_toExprS_as a0) (laws_toExprS_ro r)) : ∀ a0 r, laws_toExprS_body N rc_laws_toExpr rc_laws_toExprS a0 = some r → Reach Try.prog Try.f57 I57 [.code I57.body] (entry 0 (laws_toExprS_as a0)) (laws_toExprS_ro r) := by
  intro a0 r h
  unfold laws_toExprS_body at h
  obtain ⟨h0, h⟩ := ite_inv h
  exact Reach.stop ttok mix fk57 (p57_e_2 a0) (obs_cons h0 obs_nil) (c57_3 hrc_laws_toExpr hrc_laws_toExprS  _ _ _ _ _ h)
theorem laws_toExprS_body_ok {N : Nat} {rc_laws_toExpr : Exp → Option (Exp)} (hrc_laws_toExpr : ∀ a0 r, rc_laws_toExpr a0 = some r → AbsCalls Try.prog 26 (laws_toExpr_as a0) (laws_toExpr_ro r)) {rc_laws_toExprS : (List Exp) → Option ((List Exp))} (hrc_laws_toExprS : ∀ a0 r, rc_laws_toExprS a0 = some r → AbsCalls Try.prog 57 (laws_toExprS_as a0) (laws_toExprS_ro r)) {a0 : List Exp} {r : (List Exp)} (h : laws_toExprS_body N rc_laws_toExpr rc_laws_toExprS a0 = some r) : AbsCalls Try.prog 57 (laws_toExprS_as a0) (laws_toExprS_ro r) :=
 AbsCalls.of_reach fk57 rfl rfl (Nat.le_of_ble_eq_true rfl) (c57_e hrc_laws_toExpr hrc_laws_toExprS a0 r h)
theorem laws_toExpr_fix_ok {N : Nat} : ∀ d, (∀ a0 r, (laws_toExpr_fix N d).c_laws_toExpr a0 = some r → AbsCalls Try.prog 26 (laws_toExpr_as a0) (laws_toExpr_ro r)) ∧ (∀ a0 r, (laws_toExpr_fix N d).c_laws_toExprS a0 = some r → AbsCalls Try.prog 57 (laws_toExprS_as a0) (laws_toExprS_ro r)) := by
  intro d
  induction d with
  | zero =>
    refine ⟨?_, ?_⟩ <;> (intros; rename_i h; cases h)
  | succ d ih =>
    obtain ⟨ih0, ih1⟩ := ih
    refine ⟨?_, ?_⟩
    · intro _ r h; exact laws_toExpr_body_ok (N := N) ih0 ih1 h
    · intro _ r h; exact laws_toExprS_body_ok (N := N) ih0 ih1 h
theorem laws_toExpr_ok {N : Nat} {a0 : Exp} {r : Exp} (h : laws_toExpr N a0 = some r) : AbsCalls Try.prog 26 (laws_toExpr_as a0) (laws_toExpr_ro r) := (laws_toExpr_fix_ok N).1 _ r h
noncomputable def I25 : Info := { body := (Try.f25.body).getD .skip, nt := 21, results := [.tmp 2], keep := [0, 2, 4, 8, 10, 18, 24, 26, 32, 38, 3], live := [], modes := [], ext := [], lnt := [], casts := [], fcast := [] }
theorem fk25 : FnOk Try.prog 25 Try.f25 I25 := ⟨Try.func25, by kernel_rfl, by kernel_rfl, by kernel_rfl, by kernel_rfl⟩
theorem p25_e_0 (a0 : Exp) : run tt (AbsCalls Try.prog) I25 3000 false [.code I25.body] ⟨(entry 0 (spec_LevelOf_as a0)), [true, true], [], []⟩ = some (.done (spec_LevelOf_ro 0) [(((Exp.kind a0) : Int) == 7) = true, (((Exp.kind a0) : Int) == 7) = true]) := by kernel_rfl
theorem p25_e_1 (a0 : Exp) : run tt (AbsCalls Try.prog) I25 3000 false [.code I25.body] ⟨(entry 0 (spec_LevelOf_as a0)), [false, true, true], [], []⟩ = some (.done (spec_LevelOf_ro 0) [(((Exp.kind a0) : Int) == 7) = false, (((Exp.kind a0) : Int) == 8) = true, (((Exp.kind a0) : Int) == 8) = true]) := by kernel_rfl
theorem p25_e_2 (a0 : Exp) : run tt (AbsCalls Try.prog) I25 3000 false [.code I25.body] ⟨(entry 0 (spec_LevelOf_as a0)), [false, false, true], [], []⟩ = some (.done (spec_LevelOf_ro 0) [(((Exp.kind a0) : Int) == 7) = false, (((Exp.kind a0) : Int) == 8) = false, (((Exp.kind a0) : Int) == 9) = true]) := by kernel_rfl
theorem p25_e_3 (a0 : Exp) : run tt (AbsCalls Try.prog) I25 3000 false [.code I25.body] ⟨(entry 0 (spec_LevelOf_as a0)), [false, false, false, true, true, true], [], []⟩ = some (.done (spec_LevelOf_ro 1) [(((Exp.kind a0) : Int) == 7) = false, (((Exp.kind a0) : Int) == 8) = false, (((Exp.kind a0) : Int) == 9) = false, (((Exp.kind a0) : Int) == 6) = true, (((Exp.n a0) : Int) == 4) = true, (((Exp.n a0) : Int) == 4) = true]) := by kernel_rfl
theorem p25_e_4 (a0 : Exp) : run tt (AbsCalls Try.prog) I25 3000 false [.code I25.body] ⟨(entry 0 (spec_LevelOf_as a0)), [false, false, false, true, false, true], [], []⟩ = some (.done (spec_LevelOf_ro 1) [(((Exp.kind a0) : Int) == 7) = false, (((Exp.kind a0) : Int) == 8) = false, (((Exp.kind a0) : Int) == 9) = false, (((Exp.kind a0) : Int) == 6) = true, (((Exp.n a0) : Int) == 4) = false, (((Exp.n a0) : Int) == 5) = true]) := by kernel_rfl
theorem p25_e_5 (a0 : Exp) : run tt (AbsCalls Try.prog) I25 3000 false [.code I25.body] ⟨(entry 0 (spec_LevelOf_as a0)), [false, false, false, true, false, false, true, true], [], []⟩ = some (.done (spec_LevelOf_ro 2) [(((Exp.kind a0) : Int) == 7) = false, (((Exp.kind a0) : Int) == 8) = false, (((Exp.kind a0) : Int) == 9) = false, (((Exp.kind a0) : Int) == 6) = true, (((Exp.n a0) : Int) == 4) = false, (((Exp.n a0) : Int) == 5) = false, (((Exp.n a0) : Int) == 1) = true, (((Exp.n a0) : Int) == 1) = true]) := by kernel_rfl
theorem p25_e_6 (a0 : Exp) : run tt (AbsCalls Try.prog) I25 3000 false [.code I25.body] ⟨(entry 0 (spec_LevelOf_as a0)), [false, false, false, true, false, false, false, true], [], []⟩ = some (.done (spec_LevelOf_ro 2) [(((Exp.kind a0) : Int) == 7) = false, (((Exp.kind a0) : Int) == 8) = false, (((Exp.kind a0) : Int) == 9) = false, (((Exp.kind a0) : Int) == 6) = true, (((Exp.n a0) : Int) == 4) = false, (((Exp.n a0) : Int) == 5) = false, (((Exp.n a0) : Int) == 1) = false, (((Exp.n a0) : Int) == 2) = true]) := by kernel_rfl
theorem p25_e_7 (a0 : Exp) : run tt (AbsCalls Try.prog) I25 3000 false [.code I25.body] ⟨(entry 0 (spec_LevelOf_as a0)), [false, false, false, true, false, false, false, false, true], [], []⟩ = some (.done (spec_LevelOf_ro 3) [(((Exp.kind a0) : Int) == 7) = false, (((Exp.kind a0) : Int) == 8) = false, (((Exp.kind a0) : Int) == 9) = false, (((Exp.kind a0) : Int) == 6) = true, (((Exp.n a0) : Int) == 4) = false, (((Exp.n a0) : Int) == 5) = false, (((Exp.n a0) : Int) == 1) = false, (((Exp.n a0) : Int) == 2) = false, (((Exp.n a0) : Int) == 3) = true]) := by kernel_rfl
theorem p25_e_8 (a0 : Exp) : run tt (AbsCalls Try.prog) I25 3000 false [.code I25.body] ⟨(entry 0 (spec_LevelOf_as a0)), [false, false, false, true, false, false, false, false, false], [], []⟩ = some (.done (spec_LevelOf_ro 4) [(((Exp.kind a0) : Int) == 7) = false, (((Exp.kind a0) : Int) == 8) = false, (((Exp.kind a0) : Int) == 9) = false, (((Exp.kind a0) : Int) == 6) = true, (((Exp.n a0) : Int) == 4) = false, (((Exp.n a0) : Int) == 5) = false, (((Exp.n a0) : Int) == 1) = false, (((Exp.n a0) : Int) == 2) = false, (((Exp.n a0) : Int) == 3) = false]) := by kernel_rfl
theorem p25_e_9 (a0 : Exp) : run tt (AbsCalls Try.prog) I25 3000 false [.code I25.body] ⟨(entry 0 (spec_LevelOf_as a0)), [false, false, false, false], [], []⟩ = some (.done (spec_LevelOf_ro 4) [(((Exp.kind a0) : Int) == 7) = false, (((Exp.kind a0) : Int) == 8) = false, (((Exp.kind a0) : Int) == 9) = false, (((Exp.kind a0) : Int) == 6) = false]) := by kernel_rfl
theorem c25_e {N : Nat} : ∀ a0 r, spec_LevelOf N a0 = some r → Reach Try.prog Try.f25 I25 [.code I25.body] (entry 0 (spec_LevelOf_as a0)) (spec_LevelOf_ro r) := by
  intro a0 r h
  unfold spec_LevelOf at h
  rcases cond_inv h with ⟨h0, h⟩ | ⟨h0, h⟩
  · obtain rfl := Option.some.inj h
    exact Reach.done ttok mix fk25 (p25_e_0 a0) (obs_cons h0 (obs_cons h0 obs_nil))
  · rcases cond_inv h with ⟨h1, h⟩ | ⟨h1, h⟩
    · obtain rfl := Option.some.inj h
      exact Reach.done ttok mix fk25 (p25_e_1 a0) (obs_cons h0 (obs_cons h1 (obs_cons h1 obs_nil)))
    · rcases cond_inv h with ⟨h2, h⟩ | ⟨h2, h⟩
      · obtain rfl := Option.some.inj h
        exact Reach.done ttok mix fk25 (p25_e_2 a0) (obs_cons h0 (obs_cons h1 (obs_cons h2 obs_nil)))
      · rcases cond_inv h with ⟨h3, h⟩ | ⟨h3, h⟩
        · rcases cond_inv h with ⟨h4, h⟩ | ⟨h4, h⟩
          · obtain rfl := Option.some.inj h
            exact Reach.done ttok mix fk25 (p25_e_3 a0) (obs_cons h0 (obs_cons h1 (obs_cons h2 (obs_cons h3 (obs_cons h4 (obs_cons h4 obs_nil))))))
          · rcases cond_inv h with ⟨h5, h⟩ | ⟨h5, h⟩
            · obtain rfl := Option.some.inj h
              exact Reach.done ttok mix fk25 (p25_e_4 a0) (obs_cons h0 (obs_cons h1 (obs_cons h2 (obs_cons h3 (obs_cons h4 (obs_cons h5 obs_nil))))))
            · rcases cond_inv h with ⟨h6, h⟩ | ⟨h6, h⟩
              · obtain rfl := Option.some.inj h
                exact Reach.done ttok mix fk25 (p25_e_5 a0) (obs_cons h0 (obs_cons h1 (obs_cons h2 (obs_cons h3 (obs_cons h4 (obs_cons h5 (obs_cons h6 (obs_cons h6 obs_nil))))))))
              · rcases cond_inv h with ⟨h7, h⟩ | ⟨h7, h⟩
                · obtain rfl := Option.some.inj h
                  exact Reach.done ttok mix fk25 (p25_e_6 a0) (obs_cons h0 (obs_cons h1 (obs_cons h2 (obs_cons h3 (obs_cons h4 (obs_cons h5 (obs_cons h6 (obs_cons h7 obs_nil))))))))
                · rcases cond_inv h with ⟨h8, h⟩ | ⟨h8, h⟩
                  · obtain rfl := Option.some.inj h
                    exact Reach.done ttok mix fk25 (p25_e_7 a0) (obs_cons h0 (obs_cons h1 (obs_cons h2 (obs_cons h3 (obs_cons h4 (obs_cons h5 (obs_cons h6 (obs_cons h7 (obs_cons h8 obs_nil)))))))))
                  · obtain rfl := Option.some.inj h
                    exact Reach.done ttok mix fk25 (p25_e_8 a0) (obs_cons h0 (obs_cons h1 (obs_cons h2 (obs_cons h3 (obs_cons h4 (obs_cons h5 (obs_cons h6 (obs_cons h7 (obs_cons h8 obs_nil)))))))))
        · obtain rfl := Option.some.inj h
          exact Reach.done ttok mix fk25 (p25_e_9 a0) (obs_cons h0 (obs_cons h1 (obs_cons h2 (obs_cons h3 obs_nil))))
theorem spec_LevelOf_ok {N : Nat} {a0 : Exp} {r : Int} (h : spec_LevelOf N  a0 = some r) : AbsCalls Try.prog 25 (spec_LevelOf_as a0) (spec_LevelOf_ro r) :=
 AbsCalls.of_reach fk25 rfl rfl (Nat.le_of_ble_eq_true rfl) (c25_e a0 r h)
noncomputable def I27 : Info := { body := (Try.f27.body).getD .skip, nt := 21, results := [.tmp 2], keep := [0, 2, 4, 8, 10, 18, 24, 26, 32, 38, 3], live := [], modes := [], ext := [], lnt := [], casts := [], fcast := [] }
theorem fk27 : FnOk Try.prog 27 Try.f27 I27 := ⟨Try.func27, by kernel_rfl, by kernel_rfl, by kernel_rfl, by kernel_rfl⟩
theorem p27_e_0 (a0 : Exp) : run tt (AbsCalls Try.prog) I27 3000 false [.code I27.body] ⟨(entry 0 (impl_LevelOf_as a0)), [true, true], [], []⟩ = some (.done (impl_LevelOf_ro 0) [(((Exp.kind a0) : Int) == 7) = true, (((Exp.kind a0) : Int) == 7) = true]) := by kernel_rfl
theorem p27_e_1 (a0 : Exp) : run tt (AbsCalls Try.prog) I27 3000 false [.code I27.body] ⟨(entry 0 (impl_LevelOf_as a0)), [false, true, true], [], []⟩ = some (.done (impl_LevelOf_ro 0) [(((Exp.kind a0) : Int) == 7) = false, (((Exp.kind a0) : Int) == 8) = true, (((Exp.kind a0) : Int) == 8) = true]) := by kernel_rfl
theorem p27_e_2 (a0 : Exp) : run tt (AbsCalls Try.prog) I27 3000 false [.code I27.body] ⟨(entry 0 (impl_LevelOf_as a0)), [false, false, true], [], []⟩ = some (.done (impl_LevelOf_ro 0) [(((Exp.kind a0) : Int) == 7) = false, (((Exp.kind a0) : Int) == 8) = false, (((Exp.kind a0) : Int) == 9) = true]) := by kernel_rfl
theorem p27_e_3 (a0 : Exp) : run tt (AbsCalls Try.prog) I27 3000 false [.code I27.body] ⟨(entry 0 (impl_LevelOf_as a0)), [false, false, false, true, true, true], [], []⟩ = some (.done (impl_LevelOf_ro 1) [(((Exp.kind a0) : Int) == 7) = false, (((Exp.kind a0) : Int) == 8) = false, (((Exp.kind a0) : Int) == 9) = false, (((Exp.kind a0) : Int) == 6) = true, (((Exp.n a0) : Int) == 4) = true, (((Exp.n a0) : Int) == 4) = true]) := by kernel_rfl
theorem p27_e_4 (a0 : Exp) : run tt (AbsCalls Try.prog) I27 3000 false [.code I27.body] ⟨(entry 0 (impl_LevelOf_as a0)), [false, false, false, true, false, true], [], []⟩ = some (.done (impl_LevelOf_ro 1) [(((Exp.kind a0) : Int) == 7) = false, (((Exp.kind a0) : Int) == 8) = false, (((Exp.kind a0) : Int) == 9) = false, (((Exp.kind a0) : Int) == 6) = true, (((Exp.n a0) : Int) == 4) = false, (((Exp.n a0) : Int) == 5) = true]) := by kernel_rfl
theorem p27_e_5 (a0 : Exp) : run tt (AbsCalls Try.prog) I27 3000 false [.code I27.body] ⟨(entry 0 (impl_LevelOf_as a0)), [false, false, false, true, false, false, true, true], [], []⟩ = some (.done (impl_LevelOf_ro 2) [(((Exp.kind a0) : Int) == 7) = false, (((Exp.kind a0) : Int) == 8) = false, (((Exp.kind a0) : Int) == 9) = false, (((Exp.kind a0) : Int) == 6) = true, (((Exp.n a0) : Int) == 4) = false, (((Exp.n a0) : Int) == 5) = false, (((Exp.n a0) : Int) == 1) = true, (((Exp.n a0) : Int) == 1) = true]) := by kernel_rfl
theorem p27_e_6 (a0 : Exp) : run tt (AbsCalls Try.prog) I27 3000 false [.code I27.body] ⟨(entry 0 (impl_LevelOf_as a0)), [false, false, false, true, false, false, false, true], [], []⟩ = some (.done (impl_LevelOf_ro 2) [(((Exp.kind a0) : Int) == 7) = false, (((Exp.kind a0) : Int) == 8) = false, (((Exp.kind a0) : Int) == 9) = false, (((Exp.kind a0) : Int) == 6) = true, (((Exp.n a0) : Int) == 4) = false, (((Exp.n a0) : Int) == 5) = false, (((Exp.n a0) : Int) == 1) = false, (((Exp.n a0) : Int) == 2) = true]) := by kernel_rfl
theorem p27_e_7 (a0 : Exp) : run tt (AbsCalls Try.prog) I27 3000 false [.code I27.body] ⟨(entry 0 (impl_LevelOf_as a0)), [false, false, false, true, false, false, false, false, true], [], []⟩ = some (.done (impl_LevelOf_ro 3) [(((Exp.kind a0) : Int) == 7) = false, (((Exp.kind a0) : Int) == 8) = false, (((Exp.kind a0) : Int) == 9) = false, (((Exp.kind a0) : Int) == 6) = true, (((Exp.n a0) : Int) == 4) = false, (((Exp.n a0) : Int) == 5) = false, (((Exp.n a0) : Int) == 1) = false, (((Exp.n a0) : Int) == 2) = false, (((Exp.n a0) : Int) == 3) = true]) := by kernel_rfl
theorem p27_e_8 (a0 : Exp) : run tt (AbsCalls Try.prog) I27 3000 false [.code I27.body] ⟨(entry 0 (impl_LevelOf_as a0)), [false, false, false, true, false, false, false, false, false], [], []⟩ = some (.done (impl_LevelOf_ro 4) [(((Exp.kind a0) : Int) == 7) = false, (((Exp.kind a0) : Int) == 8) = false, (((Exp.kind a0) : Int) == 9) = false, (((Exp.kind a0) : Int) == 6) = true, (((Exp.n a0) : Int) == 4) = false, (((Exp.n a0) : Int) == 5) = false, (((Exp.n a0) : Int) == 1) = false, (((Exp.n a0) : Int) == 2) = false, (((Exp.n a0) : Int) == 3) = false]) := by kernel_rfl
theorem p27_e_9 (a0 : Exp) : run tt (AbsCalls Try.prog) I27 3000 false [.code I27.body] ⟨(entry 0 (impl_LevelOf_as a0)), [false, false, false, false], [], []⟩ = some (.done (impl_LevelOf_ro 4) [(((Exp.kind a0) : Int) == 7) = false, (((Exp.kind a0) : Int) == 8) = false, (((Exp.kind a0) : Int) == 9) = false, (((Exp.kind a0) : Int) == 6) = false]) := by kernel_rfl
theorem c27_e {N : Nat} : ∀ a0 r, impl_LevelOf N a0 = some r → Reach Try.prog Try.f27 I27 [.code I27.body] (entry 0 (impl_LevelOf_as a0)) (impl_LevelOf_ro r) := by
  intro a0 r h
  unfold impl_LevelOf at h
  rcases cond_inv h with ⟨h0, h⟩ | ⟨h0, h⟩
  · obtain rfl := Option.some.inj h
    exact Reach.done ttok mix fk27 (p27_e_0 a0) (obs_cons h0 (obs_cons h0 obs_nil))
  · rcases cond_inv h with ⟨h1, h⟩ | ⟨h1, h⟩
    · obtain rfl := Option.some.inj h
      exact Reach.done ttok mix fk27 (p27_e_1 a0) (obs_cons h0 (obs_cons h1 (obs_cons h1 obs_nil)))
    · rcases cond_inv h with ⟨h2, h⟩ | ⟨h2, h⟩
      · obtain rfl := Option.some.inj h
        exact Reach.done ttok mix fk27 (p27_e_2 a0) (obs_cons h0 (obs_cons h1 (obs_cons h2 obs_nil)))
      · rcases cond_inv h with ⟨h3, h⟩ | ⟨h3, h⟩
        · rcases cond_inv h with ⟨h4, h⟩ | ⟨h4, h⟩
          · obtain rfl := Option.some.inj h
            exact Reach.done ttok mix fk27 (p27_e_3 a0) (obs_cons h0 (obs_cons h1 (obs_cons h2 (obs_cons h3 (obs_cons h4 (obs_cons h4 obs_nil))))))
          · rcases cond_inv h with ⟨h5, h⟩ | ⟨h5, h⟩
            · obtain rfl := Option.some.inj h
              exact Reach.done ttok mix fk27 (p27_e_4 a0) (obs_cons h0 (obs_cons h1 (obs_cons h2 (obs_cons h3 (obs_cons h4 (obs_cons h5 obs_nil))))))
            · rcases cond_inv h with ⟨h6, h⟩ | ⟨h6, h⟩
              · obtain rfl := Option.some.inj h
                exact Reach.done ttok mix fk27 (p27_e_5 a0) (obs_cons h0 (obs_cons h1 (obs_cons h2 (obs_cons h3 (obs_cons h4 (obs_cons h5 (obs_cons h6 (obs_cons h6 obs_nil))))))))
              · rcases cond_inv h with ⟨h7, h⟩ | ⟨h7, h⟩
                · obtain rfl := Option.some.inj h
                  exact Reach.done ttok mix fk27 (p27_e_6 a0) (obs_cons h0 (obs_cons h1 (obs_cons h2 (obs_cons h3 (obs_cons h4 (obs_cons h5 (obs_cons h6 (obs_cons h7 obs_nil))))))))
                · rcases cond_inv h with ⟨h8, h⟩ | ⟨h8, h⟩
                  · obtain rfl := Option.some.inj h
                    exact Reach.done ttok mix fk27 (p27_e_7 a0) (obs_cons h0 (obs_cons h1 (obs_cons h2 (obs_cons h3 (obs_cons h4 (obs_cons h5 (obs_cons h6 (obs_cons h7 (obs_cons h8 obs_nil)))))))))
                  · obtain rfl := Option.some.inj h
                    exact Reach.done ttok mix fk27 (p27_e_8 a0) (obs_cons h0 (obs_cons h1 (obs_cons h2 (obs_cons h3 (obs_cons h4 (obs_cons h5 (obs_cons h6 (obs_cons h7 (obs_cons h8 obs_nil)))))))))
        · obtain rfl := Option.some.inj h
          exact Reach.done ttok mix fk27 (p27_e_9 a0) (obs_cons h0 (obs_cons h1 (obs_cons h2 (obs_cons h3 obs_nil))))
theorem impl_LevelOf_ok {N : Nat} {a0 : Exp} {r : Int} (h : impl_LevelOf N  a0 = some r) : AbsCalls Try.prog 27 (impl_LevelOf_as a0) (impl_LevelOf_ro r) :=
 AbsCalls.of_reach fk27 rfl rfl (Nat.le_of_ble_eq_true rfl) (c27_e a0 r h)
noncomputable def I28 : Info := { body := (Try.f28.body).getD .skip, nt := 26, results := [.tmp 4], keep := [0, 2, 4, 6, 8, 18, 28, 38, 50, 5, 7], live := [], modes := [], ext := [], lnt := [], casts := [], fcast := [] }
theorem fk28 : FnOk Try.prog 28 Try.f28 I28 := ⟨Try.func28, by kernel_rfl, by kernel_rfl, by kernel_rfl, by kernel_rfl⟩
theorem p28_e_0 (a0 : Exp) (a1 : Exp) : run tt (AbsCalls Try.prog) I28 3000 false [.code I28.body] ⟨(entry 0 (laws_eqExpr_as a0 a1)), [true], [], []⟩ = some (.done (laws_eqExpr_ro false) [(((Exp.kind a0) : Int) != (Exp.kind a1)) = true]) := by kernel_rfl
theorem p28_e_1 (a0 : Exp) (a1 : Exp) : run tt (AbsCalls Try.prog) I28 3000 false [.code I28.body] ⟨(entry 0 (laws_eqExpr_as a0 a1)), [false, true], [], []⟩ = some (.done (laws_eqExpr_ro false) [(((Exp.kind a0) : Int) != (Exp.kind a1)) = false, (((Exp.n a0) : Int) != (Exp.n a1)) = true]) := by kernel_rfl
theorem p28_e_2 (a0 : Exp) (a1 : Exp) : run tt (AbsCalls Try.prog) I28 3000 false [.code I28.body] ⟨(entry 0 (laws_eqExpr_as a0 a1)), [false, false, true], [], []⟩ = some (.done (laws_eqExpr_ro false) [(((Exp.kind a0) : Int) != (Exp.kind a1)) = false, (((Exp.n a0) : Int) != (Exp.n a1)) = false, (!(((Exp.text a0) : Str) == (Exp.text a1))) = true]) := by kernel_rfl
theorem p28_e_3 (a0 : Exp) (a1 : Exp) (r1 : Bool) : run tt (AbsCalls Try.prog) I28 3000 false [.code I28.body] ⟨(entry 0 (laws_eqExpr_as a0 a1)), [false, false, false, true], [laws_eqExprS_ro r1], []⟩ = some (.done (laws_eqExpr_ro false) [(((Exp.kind a0) : Int) != (Exp.kind a1)) = false, (((Exp.n a0) : Int) != (Exp.n a1)) = false, (!(((Exp.text a0) : Str) == (Exp.text a1))) = false, AbsCalls Try.prog 58 (laws_eqExprS_as (Exp.args a0) (Exp.args a1)) (laws_eqExprS_ro r1), (!r1) = true]) := by kernel_rfl
theorem p28_e_4 (a0 : Exp) (a1 : Exp) (r1 : Bool) : run tt (AbsCalls Try.prog) I28 3000 false [.code I28.body] ⟨(entry 0 (laws_eqExpr_as a0 a1)), [false, false, false, false], [laws_eqExprS_ro r1], []⟩ = some (.done (laws_eqExpr_ro true) [(((Exp.kind a0) : Int) != (Exp.kind a1)) = false, (((Exp.n a0) : Int) != (Exp.n a1)) = false, (!(((Exp.text a0) : Str) == (Exp.text a1))) = false, AbsCalls Try.prog 58 (laws_eqExprS_as (Exp.args a0) (Exp.args a1)) (laws_eqExprS_ro r1), (!r1) = false]) := by kernel_rfl
theorem c28_e {N : Nat} {rc_laws_eqExpr : Exp → Exp → Option (Bool)} (hrc_laws_eqExpr : ∀ a0 a1 r, rc_laws_eqExpr a0 a1 = some r → AbsCalls Try.prog 28 (laws_eqExpr_as a0 a1) (laws_eqExpr_ro r)) {rc_laws_eqExprS : (List Exp) → (List Exp) → Option (Bool)} (hrc_laws_eqExprS : ∀ a0 a1 r, rc_laws_eqExprS a0 a1 = some r → AbsCalls Try.prog 58 (laws_eqExprS_as a0 a1) (laws_eqExprS_ro r)) : ∀ a0 a1 r, laws_eqExpr_body N rc_laws_eqExpr rc_laws_eqExprS a0 a1 = some r → Reach Try.prog Try.f28 I28 [.code I28.body] (entry 0 (laws_eqExpr_as a0 a1)) (laws_eqExpr_ro r) := by
  intro a0 a1 r h
  unfold laws_eqExpr_body at h
  rcases cond_inv h with ⟨h0, h⟩ | ⟨h0, h⟩
  · obtain rfl := Option.some.inj h
    exact Reach.done ttok mix fk28 (p28_e_0 a0 a1) (obs_cons h0 obs_nil)
  · rcases cond_inv h with ⟨h1, h⟩ | ⟨h1, h⟩
    · obtain rfl := Option.some.inj h
      exact Reach.done ttok mix fk28 (p28_e_1 a0 a1) (obs_cons h0 (obs_cons h1 obs_nil))
    · rcases cond_inv h with ⟨h2, h⟩ | ⟨h2, h⟩
      · obtain rfl := Option.some.inj h
        exact Reach.done ttok mix fk28 (p28_e_2 a0 a1) (obs_cons h0 (obs_cons h1 (obs_cons h2 obs_nil)))
      · obtain ⟨r1, h3, h⟩ := bind_inv h
        rcases cond_inv h with ⟨h4, h⟩ | ⟨h4, h⟩
        · obtain rfl := Option.some.inj h
          exact Reach.done ttok mix fk28 (p28_e_3 a0 a1 r1) (obs_cons h0 (obs_cons h1 (obs_cons h2 (obs_cons (hrc_laws_eqExprS _ _ _ h3) (obs_cons h4 obs_nil)))))
        · obtain rfl := Option.some.inj h
          exact Reach.done ttok mix fk28 (p28_e_4 a0 a1 r1) (obs_cons h0 (obs_cons h1 (obs_cons h2 (obs_cons (hrc_laws_eqExprS _ _ _ h3) (obs_cons h4 obs_nil)))))
theorem laws_eqExpr_body_ok {N : Nat} {rc_laws_eqExpr : Exp → Exp → Option (Bool)} (hrc_laws_eqExpr : ∀ a0 a1 r, rc_laws_eqExpr a0 a1 = some r → AbsCalls Try.prog 28 (laws_eqExpr_as a0 a1) (laws_eqExpr_ro r)) {rc_laws_eqExprS : (List Exp) → (List Exp) → Option (Bool)} (hrc_laws_eqExprS : ∀ a0 a1 r, rc_laws_eqExprS a0 a1 = some r → AbsCalls Try.prog 58 (laws_eqExprS_as a0 a1) (laws_eqExprS_ro r)) {a0 : Exp} {a1 : Exp} {r : Bool} (h : laws_eqExpr_body N rc_laws_eqExpr rc_laws_eqExprS a0 a1 = some r) : AbsCalls Try.prog 28 (laws_eqExpr_as a0 a1) (laws_eqExpr_ro r) :=
 AbsCalls.of_reach fk28 rfl rfl (Nat.le_of_ble_eq_true rfl) (c28_e hrc_laws_eqExpr hrc_laws_eqExprS a0 a1 r h)
noncomputable def I58 : Info := { body := (Try.f58.body).getD .skip, nt := 27, results := [.tmp 4], keep := [0, 2, 8, 10, 20, 28, 52], live := [(4, [0, 2, 10])], modes := [], ext := [], lnt := [], casts := [], fcast := [] }
theorem fk58 : FnOk Try.prog 58 Try.f58 I58 := ⟨Try.func58, by kernel_rfl, by kernel_rfl, by kernel_rfl, by kernel_rfl⟩
def S58_4 (x0 : List Exp) (x1 : List Exp) (x5 : Int) : St := [(0, .v false [.sl .ro .exp x0]), (2, .v false [.sl .ro .exp x1]), (10, .v false [.int .i64 x5])]
theorem p58_4_0 (x0 : List Exp) (x1 : List Exp) (x5 : Int) (r1 : Bool) : run tt (AbsCalls Try.prog) I58 3000 true (stkAt 4 I58.body) ⟨(S58_4 x0 x1 x5), [true, true], [laws_eqExpr_ro r1], []⟩ = some (.done (laws_eqExprS_ro false) [(decide ((x5 : Int) < (List.length x0 : Int))) = true, (0 : Int) ≤ x5 ∧ x5 < (List.length x0), (0 : Int) ≤ x5 ∧ x5 < (List.length x1), AbsCalls Try.prog 28 (laws_eqExpr_as (List.getD x0 (Int.toNat x5) Ty.exp.dflt) (List.getD x1 (Int.toNat x5) Ty.exp.dflt)) (laws_eqExpr_ro r1), (!r1) = true]) := by kernel_rfl
theorem p58_4_1 (x0 : List Exp) (x1 : List Exp) (x5 : Int) (r1 : Bool) : run tt (AbsCalls Try.prog) I58 3000 true (stkAt 4 I58.body) ⟨(S58_4 x0 x1 x5), [true, false], [laws_eqExpr_ro r1], []⟩ = some (.stop (stkAt 4 I58.body) (S58_4 x0 x1 (IntKind.i64.wrap (x5 + 1))) [(decide ((x5 : Int) < (List.length x0 : Int))) = true, (0 : Int) ≤ x5 ∧ x5 < (List.length x0), (0 : Int) ≤ x5 ∧ x5 < (List.length x1), AbsCalls Try.prog 28 (laws_eqExpr_as (List.getD x0 (Int.toNat x5) Ty.exp.dflt) (List.getD x1 (Int.toNat x5) Ty.exp.dflt)) (laws_eqExpr_ro r1), (!r1) = false]) := by kernel_rfl
theorem p58_4_2 (x0 : List Exp) (x1 : List Exp) (x5 : Int) : run tt (AbsCalls Try.prog) I58 3000 true (stkAt 4 I58.body) ⟨(S58_4 x0 x1 x5), [false], [], []⟩ = some (.done (laws_eqExprS_ro true) [(decide ((x5 : Int) < (List.length x0 : Int))) = false]) := by kernel_rfl
theorem p58_e_3 (a0 : List Exp) (a1 : List Exp) : run tt (AbsCalls Try.prog) I58 3000 false [.code I58.body] ⟨(entry 0 (laws_eqExprS_as a0 a1)), [true], [], []⟩ = some (.done (laws_eqExprS_ro false) [(((List.length a0 : Int) : Int) != (List.length a1 : Int)) = true]) := by kernel_rfl
theorem p58_e_4 (a0 : List Exp) (a1 : List Exp) : run tt (AbsCalls Try.prog) I58 3000 false [.code I58.body] ⟨(entry 0 (laws_eqExprS_as a0 a1)), [false], [], []⟩ = some (.stop (stkAt 4 I58.body) (S58_4 a0 a1 0) [(((List.length a0 : Int) : Int) != (List.length a1 : Int)) = false]) := by kernel_rfl
theorem c58_4 {N : Nat} {rc_laws_eqExpr : Exp → Exp → Option (Bool)} (hrc_laws_eqExpr : ∀ a0 a1 r, rc_laws_eqExpr a0 a1 = some r → AbsCalls Try.prog 28 (laws_eqExpr_as a0 a1) (laws_eqExpr_ro r)) {rc_laws_eqExprS : (List Exp) → (List Exp) → Option (Bool)} (hrc_laws_eqExprS : ∀ a0 a1 r, rc_laws_eqExprS a0 a1 = some r → AbsCalls Try.prog 58 (laws_eqExprS_as a0 a1) (laws_eqExprS_ro r)) : ∀ n x0 x1 x5 r, laws_eqExprS_b4 N rc_laws_eqExpr rc_laws_eqExprS n x0 x1 x5 = some r → Reach Try.prog Try.f58 I58 (stkAt 4 I58.body) (S58_4 x0 x1 x5) (laws_eqExprS_ro r) := by
  intro n
  induction n with
  | zero => intro x0 x1 x5 r h; have h' : (none : Option (Bool)) = some r := h; cases h'
  | succ n ih =>
    intro x0 x1 x5 r h
    rw [laws_eqExprS_b4] at h
    rcases cond_inv h with ⟨h0, h⟩ | ⟨h0, h⟩
    · obtain ⟨h1, h⟩ := ite_inv h
      obtain ⟨h2, h⟩ := ite_inv h
      obtain ⟨r1, h3, h⟩ := bind_inv h
      rcases cond_inv h with ⟨h4, h⟩ | ⟨h4, h⟩
      · obtain rfl := Option.some.inj h
        exact Reach.done ttok mix fk58 (p58_4_0 x0 x1 x5 r1) (obs_cons h0 (obs_cons h1 (obs_cons h2 (obs_cons (hrc_laws_eqExpr _ _ _ h3) (obs_cons h4 obs_nil)))))
      · exact Reach.stop ttok mix fk58 (p58_4_1 x0 x1 x5 r1) (obs_cons h0 (obs_cons h1 (obs_cons h2 (obs_cons (hrc_laws_eqExpr _ _ _ h3) (obs_cons h4 obs_nil))))) (ih _ _ _ _ h)
    · obtain rfl := Option.some.inj h
      exact Reach.done ttok mix fk58 (p58_4_2 x0 x1 x5) (obs_cons h0 obs_nil)
theorem c58_e {N : Nat} {rc_laws_eqExpr : Exp → Exp → Option (Bool)} (hrc_laws_eqExpr : ∀ a0 a1 r, rc_laws_eqExpr a0 a1 = some r → AbsCalls Try.prog 28 (laws_eqExpr_as a0 a1) (laws_eqExpr_ro r)) {rc_laws_eqExprS : (List Exp) → (List Exp) → Option (Bool)} (hrc_laws_eqExprS : ∀ a0 a1 r, rc_laws_eqExprS a0 a1 = some r → AbsCalls Try.prog 58 (laws_eqExprS_as a0 a1) (laws_eqExprS_ro r)) : ∀ a0 a1 r, laws_eqExprS_body N rc_laws_eqExpr rc_laws_eqExprS a0 a1 = some r → Reach Try.prog Try.f58 I58 [.code I58.body] (entry 0 (laws_eqExprS_as a0 a1)) (laws_eqExprS_ro r) := by
  intro a0 a1 r h
  unfold laws_eqExprS_body at h
  rcases cond_inv h with ⟨h0, h⟩ | ⟨h0, h⟩
  · obtain rfl := Option.some.inj h
    exact Reach.done ttok mix fk58 (p58_e_3 a0 a1) (obs_cons h0 obs_nil)
  · exact Reach.stop ttok mix fk58 (p58_e_4 a0 a1) (obs_cons h0 obs_nil) (c58_4 hrc_laws_eqExpr hrc_laws_eqExprS  _ _ _ _ _ h)
theorem laws_eqExprS_body_ok {N : Nat} {rc_laws_eqExpr : Exp → Exp → Option (Bool)} (hrc_laws_eqExpr : ∀ a0 a1 r, rc_laws_eqExpr a0 a1 = some r → AbsCalls Try.prog 28 (laws_eqExpr_as a0 a1) (laws_eqExpr_ro r)) {rc_laws_eqExprS : (List Exp) → (List Exp) → Option (Bool)} (hrc_laws_eqExprS : ∀ a0 a1 r, rc_laws_eqExprS a0 a1 = some r → AbsCalls Try.prog 58 (laws_eqExprS_as a0 a1) (laws_eqExprS_ro r)) {a0 : List Exp} {a1 : List Exp} {r : Bool} (h : laws_eqExprS_body N rc_laws_eqExpr rc_laws_eqExprS a0 a1 = some r) : AbsCalls Try.prog 58 (laws_eqExprS_as a0 a1) (laws_eqExprS_ro r) :=
 AbsCalls.of_reach fk58 rfl rfl (Nat.le_of_ble_eq_true rfl) (c58_e hrc_laws_eqExpr hrc_laws_eqExprS a0 a1 r h)
theorem laws_eqExpr_fix_ok {N : Nat} : ∀ d, (∀ a0 a1 r, (laws_eqExpr_fix N d).c_laws_eqExpr a0 a1 = some r → AbsCalls Try.prog 28 (laws_eqExpr_as a0 a1) (laws_eqExpr_ro r)) ∧ (∀ a0 a1 r, (laws_eqExpr_fix N d).c_laws_eqExprS a0 a1 = some r → AbsCalls Try.prog 58 (laws_eqExprS_as a0 a1) (laws_eqExprS_ro r)) := by
  intro d
  induction d with
  | zero =>
    refine ⟨?_, ?_⟩ <;> (intros; rename_i h; cases h)
  | succ d ih =>
    obtain ⟨ih0, ih1⟩ := ih
    refine ⟨?_, ?_⟩
    · intro _ _ r h; exact laws_eqExpr_body_ok (N := N) ih0 ih1 h
    · intro _ _ r h; exact laws_eqExprS_body_ok (N := N) ih0 ih1 h
theorem laws_eqExpr_ok {N : Nat} {a0 : Exp} {a1 : Exp} {r : Bool} (h : laws_eqExpr N a0 a1 = some r) : AbsCalls Try.prog 28 (laws_eqExpr_as a0 a1) (laws_eqExpr_ro r) := (laws_eqExpr_fix_ok N).1 _ _ r h
noncomputable def I6 : Info := { body := (Try.f6.body).getD .skip, nt := 27, results := [.tmp 2], keep := [0, 2, 4, 6, 8, 10, 12, 22, 42, 52, 3, 11], live := [], modes := [(8, [(0, .take, false), (1, .take, false)])], ext := [], lnt := [], casts := [], fcast := [] }
theorem fk6 : FnOk Try.prog 6 Try.f6 I6 := ⟨Try.func6, by kernel_rfl, by kernel_rfl, by kernel_rfl, by kernel_rfl⟩
theorem p6_e_0 (a0 : Exp) (r1 : Int) : run tt (AbsCalls Try.prog) I6 3000 false [.code I6.body] ⟨(entry 0 (laws_FnExactLevelOf_as a0)), [true], [laws_szExpr_ro r1], []⟩ = some (.done (laws_FnExactLevelOf_ro true) [AbsCalls Try.prog 24 (laws_szExpr_as a0 1048576) (laws_szExpr_ro r1), (decide ((r1 : Int) < 0)) = true]) := by kernel_rfl
theorem p6_e_1 (a0 : Exp) (r1 : Int) (r2 : Exp) (r3 : Int) (r4 : Exp) (r5 : Int) : run tt (AbsCalls Try.prog) I6 3000 false [.code I6.body] ⟨(entry 0 (laws_FnExactLevelOf_as a0)), [false, true], [laws_szExpr_ro r1, laws_toExpr_ro r2, spec_LevelOf_ro r3, laws_toExpr_ro r4, impl_LevelOf_ro r5], []⟩ = some (.done (laws_FnExactLevelOf_ro false) [AbsCalls Try.prog 24 (laws_szExpr_as a0 1048576) (laws_szExpr_ro r1), (decide ((r1 : Int) < 0)) = false, AbsCalls Try.prog 26 (laws_toExpr_as a0) (laws_toExpr_ro r2), AbsCalls Try.prog 25 (spec_LevelOf_as r2) (spec_LevelOf_ro r3), AbsCalls Try.prog 26 (laws_toExpr_as a0) (laws_toExpr_ro r4), AbsCalls Try.prog 27 (impl_LevelOf_as r4) (impl_LevelOf_ro r5), ((r5 : Int) != r3) = true]) := by kernel_rfl
theorem p6_e_2 (a0 : Exp) (r1 : Int) (r2 : Exp) (r3 : Int) (r4 : Exp) (r5 : Int) (r6 : Exp) (r7 : Bool) : run tt (AbsCalls Try.prog) I6 3000 false [.code I6.body] ⟨(entry 0 (laws_FnExactLevelOf_as a0)), [false, false, true], [laws_szExpr_ro r1, laws_toExpr_ro r2, spec_LevelOf_ro r3, laws_toExpr_ro r4, impl_LevelOf_ro r5, laws_toExpr_ro r6, laws_eqExpr_ro r7], []⟩ = some (.done (laws_FnExactLevelOf_ro false) [AbsCalls Try.prog 24 (laws_szExpr_as a0 1048576) (laws_szExpr_ro r1), (decide ((r1 : Int) < 0)) = false, AbsCalls Try.prog 26 (laws_toExpr_as a0) (laws_toExpr_ro r2), AbsCalls Try.prog 25 (spec_LevelOf_as r2) (spec_LevelOf_ro r3), AbsCalls Try.prog 26 (laws_toExpr_as a0) (laws_toExpr_ro r4), AbsCalls Try.prog 27 (impl_LevelOf_as r4) (impl_LevelOf_ro r5), ((r5 : Int) != r3) = false, AbsCalls Try.prog 26 (laws_toExpr_as a0) (laws_toExpr_ro r6), AbsCalls Try.prog 28 (laws_eqExpr_as r4 r6) (laws_eqExpr_ro r7), (!r7) = true]) := by kernel_rfl
theorem p6_e_3 (a0 : Exp) (r1 : Int) (r2 : Exp) (r3 : Int) (r4 : Exp) (r5 : Int) (r6 : Exp) (r7 : Bool) : run tt (AbsCalls Try.prog) I6 3000 false [.code I6.body] ⟨(entry 0 (laws_FnExactLevelOf_as a0)), [false, false, false], [laws_szExpr_ro r1, laws_toExpr_ro r2, spec_LevelOf_ro r3, laws_toExpr_ro r4, impl_LevelOf_ro r5, laws_toExpr_ro r6, laws_eqExpr_ro r7], []⟩ = some (.done (laws_FnExactLevelOf_ro true) [AbsCalls Try.prog 24 (laws_szExpr_as a0 1048576) (laws_szExpr_ro r1), (decide ((r1 : Int) < 0)) = false, AbsCalls Try.prog 26 (laws_toExpr_as a0) (laws_toExpr_ro r2), AbsCalls Try.prog 25 (spec_LevelOf_as r2) (spec_LevelOf_ro r3), AbsCalls Try.prog 26 (laws_toExpr_as a0) (laws_toExpr_ro r4), AbsCalls Try.prog 27 (impl_LevelOf_as r4) (impl_LevelOf_ro r5), ((r5 : Int) != r3) = false, AbsCalls Try.prog 26 (laws_toExpr_as a0) (laws_toExpr_ro r6), AbsCalls Try.prog 28 (laws_eqExpr_as r4 r6) (laws_eqExpr_ro r7), (!r7) = false]) := by kernel_rfl
theorem c6_e {N : Nat} : ∀ a0 r, laws_FnExactLevelOf N a0 = some r → Reach Try.prog Try.f6 I6 [.code I6.body] (entry 0 (laws_FnExactLevelOf_as a0)) (laws_FnExactLevelOf_ro r) := by
  intro a0 r h
  unfold laws_FnExactLevelOf at h
  obtain ⟨r1, h0, h⟩ := bind_inv h
  rcases cond_inv h with ⟨h1, h⟩ | ⟨h1, h⟩
  · obtain rfl := Option.some.inj h
    exact Reach.done ttok mix fk6 (p6_e_0 a0 r1) (obs_cons (laws_szExpr_ok h0) (obs_cons h1 obs_nil))
  · obtain ⟨r2, h2, h⟩ := bind_inv h
    obtain ⟨r3, h3, h⟩ := bind_inv h
    obtain ⟨r4, h4, h⟩ := bind_inv h
    obtain ⟨r5, h5, h⟩ := bind_inv h
    rcases cond_inv h with ⟨h6, h⟩ | ⟨h6, h⟩
    · obtain rfl := Option.some.inj h
      exact Reach.done ttok mix fk6 (p6_e_1 a0 r1 r2 r3 r4 r5) (obs_cons (laws_szExpr_ok h0) (obs_cons h1 (obs_cons (laws_toExpr_ok h2) (obs_cons (spec_LevelOf_ok h3) (obs_cons (laws_toExpr_ok h4) (obs_cons (impl_LevelOf_ok h5) (obs_cons h6 obs_nil)))))))
    · obtain ⟨r6, h7, h⟩ := bind_inv h
      obtain ⟨r7, h8, h⟩ := bind_inv h
      rcases cond_inv h with ⟨h9, h⟩ | ⟨h9, h⟩
      · obtain rfl := Option.some.inj h
        exact Reach.done ttok mix fk6 (p6_e_2 a0 r1 r2 r3 r4 r5 r6 r7) (obs_cons (laws_szExpr_ok h0) (obs_cons h1 (obs_cons (laws_toExpr_ok h2) (obs_cons (spec_LevelOf_ok h3) (obs_cons (laws_toExpr_ok h4) (obs_cons (impl_LevelOf_ok h5) (obs_cons h6 (obs_cons (laws_toExpr_ok h7) (obs_cons (laws_eqExpr_ok h8) (obs_cons h9 obs_nil))))))))))
      · obtain rfl := Option.some.inj h
        exact Reach.done ttok mix fk6 (p6_e_3 a0 r1 r2 r3 r4 r5 r6 r7) (obs_cons (laws_szExpr_ok h0) (obs_cons h1 (obs_cons (laws_toExpr_ok h2) (obs_cons (spec_LevelOf_ok h3) (obs_cons (laws_toExpr_ok h4) (obs_cons (impl_LevelOf_ok h5) (obs_cons h6 (obs_cons (laws_toExpr_ok h7) (obs_cons (laws_eqExpr_ok h8) (obs_cons h9 obs_nil))))))))))
theorem laws_FnExactLevelOf_ok {N : Nat} {a0 : Exp} {r : Bool} (h : laws_FnExactLevelOf N  a0 = some r) : AbsCalls Try.prog 6 (laws_FnExactLevelOf_as a0) (laws_FnExactLevelOf_ro r) :=
 AbsCalls.of_reach fk6 rfl rfl (Nat.le_of_ble_eq_true rfl) (c6_e a0 r h)
end Go.Ab.T
end
section
open Go.Proofs
namespace Go.Ab.T
set_option linter.unusedVariables false
set_option maxRecDepth 100000
noncomputable def I64 : Info := { body := (Try.f64.body).getD .skip, nt := 15, results := [.tmp 2], keep := [0, 4], live := [], modes := [(1, [(2, .take, false), (7, .take, false)])], ext := [], lnt := [], casts := [], fcast := [] }
end Go.Ab.T
end
section
namespace Go.Ab
set_option linter.unusedVariables false
def Big (p : Nat → Prop) : Prop := ∃ k, ∀ N, k ≤ N → p N
def Big2 (p : Nat → Nat → Prop) : Prop := ∃ k, ∀ N n, k ≤ N → k ≤ n → p N n
theorem Big.imp {p q : Nat → Prop} (h : Big p) (f : ∀ N, p N → q N) : Big q := h.elim fun k hk => ⟨k, fun N hN => f N (hk N hN)⟩
theorem Big2.imp {p q : Nat → Nat → Prop} (h : Big2 p) (f : ∀ N n, p N n → q N n) : Big2 q := h.elim fun k hk => ⟨k, fun N n h1 h2 => f N n (hk N n h1 h2)⟩
theorem Big.of {p : Nat → Prop} (h : ∀ N, p N) : Big p := ⟨0, fun N _ => h N⟩
theorem Big2.of {p : Nat → Nat → Prop} (h : ∀ N n, p N n) : Big2 p := ⟨0, fun N n _ _ => h N n⟩
theorem Big.and {p q : Nat → Prop} (h : Big p) (h' : Big q) : Big fun N => p N ∧ q N := by
  obtain ⟨a, ha⟩ := h; obtain ⟨b, hb⟩ := h'
  exact ⟨max a b, fun N hN => ⟨ha N (by omega), hb N (by omega)⟩⟩
theorem Big2.and {p q : Nat → Nat → Prop} (h : Big2 p) (h' : Big2 q) : Big2 fun N n => p N n ∧ q N n := by
  obtain ⟨a, ha⟩ := h; obtain ⟨b, hb⟩ := h'
  exact ⟨max a b, fun N n h1 h2 => ⟨ha N n (by omega) (by omega), hb N n (by omega) (by omega)⟩⟩
theorem Big.two {p : Nat → Prop} (h : Big p) : Big2 fun N _ => p N := h.elim fun k hk => ⟨k, fun N _ h _ => hk N h⟩
theorem Big2.diag {p : Nat → Nat → Prop} (h : Big2 p) : Big fun N => p N N := h.elim fun k hk => ⟨k, fun N h => hk N N h h⟩
theorem Big2.succ {p : Nat → Nat → Prop} (h : Big2 fun N n => p N (n + 1)) : Big2 p := by
  obtain ⟨k, hk⟩ := h
  refine ⟨k + 1, fun N n h1 h2 => ?_⟩
  obtain ⟨m, rfl⟩ : ∃ m, n = m + 1 := ⟨n - 1, by omega⟩
  exact hk N m (by omega) (by omega)
theorem Big.list {α : Type} {p : α → Nat → Prop} {l : List α} (h : ∀ x ∈ l, Big (p x)) : Big fun N => ∀ x ∈ l, p x N := by
  induction l with
  | nil => exact .of fun N x hx => by cases hx
  | cons a l ih =>
    refine ((h a List.mem_cons_self).and (ih fun x hx => h x (List.mem_cons_of_mem _ hx))).imp fun N ⟨h1, h2⟩ x hx => ?_
    rcases List.mem_cons.1 hx with rfl | hx
    · exact h1
    · exact h2 x hx
theorem Big2.list {α : Type} {p : α → Nat → Nat → Prop} {l : List α} (h : ∀ x ∈ l, Big2 (p x)) : Big2 fun N n => ∀ x ∈ l, p x N n := by
  induction l with
  | nil => exact .of fun N n x hx => by cases hx
  | cons a l ih =>
    refine ((h a List.mem_cons_self).and (ih fun x hx => h x (List.mem_cons_of_mem _ hx))).imp fun N n ⟨h1, h2⟩ x hx => ?_
    rcases List.mem_cons.1 hx with rfl | hx
    · exact h1
    · exact h2 x hx
def Big3 (p : Nat → Nat → Nat → Prop) : Prop := ∃ k, ∀ N d n, k ≤ N → k ≤ d → k ≤ n → p N d n
theorem Big3.imp {p q : Nat → Nat → Nat → Prop} (h : Big3 p) (f : ∀ N d n, p N d n → q N d n) : Big3 q := h.elim fun k hk => ⟨k, fun N d n h1 h2 h3 => f N d n (hk N d n h1 h2 h3)⟩
theorem Big3.and {p q : Nat → Nat → Nat → Prop} (h : Big3 p) (h' : Big3 q) : Big3 fun N d n => p N d n ∧ q N d n := by
  obtain ⟨a, ha⟩ := h; obtain ⟨b, hb⟩ := h'
  exact ⟨max a b, fun N d n h1 h2 h3 => ⟨ha N d n (by omega) (by omega) (by omega), hb N d n (by omega) (by omega) (by omega)⟩⟩
theorem Big3.succ {p : Nat → Nat → Nat → Prop} (h : Big3 fun N d n => p N d (n + 1)) : Big3 p := by
  obtain ⟨k, hk⟩ := h
  refine ⟨k + 1, fun N d n h1 h2 h3 => ?_⟩
  obtain ⟨m, rfl⟩ : ∃ m, n = m + 1 := ⟨n - 1, by omega⟩
  exact hk N d m (by omega) (by omega) (by omega)
theorem Big3.of {p : Nat → Nat → Nat → Prop} (h : ∀ N d n, p N d n) : Big3 p := ⟨0, fun N d n _ _ _ => h N d n⟩
theorem Big.get {p : Nat → Prop} (h : Big p) : ∃ N, p N := h.elim fun k hk => ⟨k, hk k (Nat.le_refl k)⟩
def I64 (x : Int) : Prop := -9223372036854775808 ≤ x ∧ x ≤ 9223372036854775807
theorem wrap_i64_def (x : Int) : IntKind.i64.wrap x = if x % 18446744073709551616 ≥ 9223372036854775808 then x % 18446744073709551616 - 18446744073709551616 else x % 18446744073709551616 := by
  show (if (true && decide (x % 18446744073709551616 ≥ 9223372036854775808)) = true then x % 18446744073709551616 - 18446744073709551616 else x % 18446744073709551616) = _
  simp only [Bool.true_and, decide_eq_true_eq]
theorem wrap_i64 {x : Int} (h1 : -9223372036854775808 ≤ x) (h2 : x ≤ 9223372036854775807) : IntKind.i64.wrap x = x := by
  rw [wrap_i64_def]
  split <;> omega
theorem drop_cons {α : Type} {xs : List α} {i : Nat} {x : α} {l : List α} (h : xs.drop i = x :: l) : i < xs.length ∧ xs[i]? = some x ∧ xs.drop (i + 1) = l := by
  have h1 : i < xs.length := by
    rcases Nat.lt_or_ge i xs.length with h1 | h1
    · exact h1
    · rw [List.drop_eq_nil_of_le h1] at h; cases h
  rw [List.drop_eq_getElem_cons h1] at h
  cases h
  exact ⟨h1, by simp [h1], rfl⟩
theorem drop_nil {α : Type} {xs : List α} {i : Nat} (h : xs.drop i = []) : xs.length ≤ i := by simpa using h
end Go.Ab
end
section
namespace Go.Ab
set_option linter.unusedVariables false
inductive DK (K : Nat) : D → Prop where
  | int {k n} (h : (Lit.int k n).wf = true) : DK K (.int k n)
  | bool (b) : DK K (.bool b)
  | str {s : Str} (h : s.length ≤ K) : DK K (.str s)
  | sl {sz rows} (h : rows.length ≤ K) (hr : ∀ r ∈ rows, ∀ x ∈ r, DK K x) : DK K (.sl sz rows)
theorem DFit.dk {d : D} (h : DFit d) : DK maxLen d := by
  induction h with
  | int h => exact .int h
  | bool b => exact .bool b
  | str h => exact .str h
  | sl h _ ih => exact .sl h ih
theorem DK.mono {K M : Nat} (hKM : K ≤ M) {d : D} (h : DK K d) : DK M d := by
  induction h with
  | int h => exact .int h
  | bool b => exact .bool b
  | str h => exact .str (by omega)
  | sl h _ ih => exact .sl (by omega) ih
theorem wf_i64 {n : Int} : (Lit.int .i64 n).wf = true ↔ I64 n := by
  show (decide (_ ≤ n) && decide (n ≤ _)) = true ↔ _
  rw [Bool.and_eq_true, decide_eq_true_eq, decide_eq_true_eq]
  exact Iff.rfl
theorem DK.i64 {K : Nat} {n : Int} : DK K (.int .i64 n) ↔ I64 n := ⟨fun h => by cases h with | int h => exact wf_i64.1 h, fun h => .int (wf_i64.2 h)⟩
theorem DK.str_iff {K : Nat} {s : Str} : DK K (.str s) ↔ s.length ≤ K := ⟨fun h => by cases h; assumption, .str⟩
theorem DK.sl_iff {K sz : Nat} {α : Type} {f : α → List D} {xs : List α} : DK K (.sl sz (xs.map f)) ↔ xs.length ≤ K ∧ ∀ x ∈ xs, ∀ d ∈ f x, DK K d := by
  constructor
  · intro h
    cases h with
    | sl h hr => exact ⟨by simpa using h, fun x hx => hr _ (List.mem_map_of_mem hx)⟩
  · rintro ⟨h, hr⟩
    refine .sl (by simpa using h) fun r hr' => ?_
    obtain ⟨x, hx, rfl⟩ := List.mem_map.1 hr'
    exact hr x hx
def LFit {α : Type} (K : Nat) (p : α → Prop) (l : List α) : Prop := l.length ≤ K ∧ ∀ x ∈ l, p x
def Ty.Fit (K : Nat) (T : Ty) (x : T.den) : Prop := ∀ d ∈ T.toD x, DK K d
def Org.Fit (o : Org) : Prop := I64 o.cell ∧ I64 o.row
def Rowd.Fit (K : Nat) (r : Rowd) : Prop := LFit K I64 r.cells ∧ LFit K Org.Fit r.frm
def Str.Fit (K : Nat) (s : Str) : Prop := s.length ≤ K
def Val.Fit (K : Nat) (v : Val) : Prop := ∀ d ∈ Val.toD v, DK K d
def Exp.Fit (K : Nat) (v : Exp) : Prop := ∀ d ∈ Exp.toD v, DK K d
def Fil.Fit (K : Nat) (v : Fil) : Prop := Str.Fit K v.name ∧ I64 v.n
def Tok.Fit (K : Nat) (v : Tok) : Prop := I64 v.kind ∧ I64 v.n ∧ I64 v.pos ∧ Str.Fit K v.text
def Rea.Fit (K : Nat) (v : Rea) : Prop := I64 v.kind ∧ I64 v.n ∧ I64 v.time ∧ Str.Fit K v.text ∧ v.result.Fit K
def Bnd.Fit (K : Nat) (v : Bnd) : Prop := Str.Fit K v.name ∧ v.value.Fit K
def Cel.Fit (K : Nat) (v : Cel) : Prop := I64 v.id ∧ I64 v.version ∧ I64 v.kind ∧ Str.Fit K v.name ∧ Str.Fit K v.code ∧ I64 v.n
def Wld.Fit (K : Nat) (v : Wld) : Prop := I64 v.clock ∧ I64 v.seed ∧ LFit K (Fil.Fit K) v.files
theorem rowd_fit {K : Nat} {r : Rowd} : (∀ d ∈ Rowd.toD r, DK K d) ↔ r.Fit K := by
  simp only [Rowd.toD, List.mem_cons, List.not_mem_nil, or_false, forall_eq_or_imp, forall_eq, DK.sl_iff, DK.i64, Rowd.Fit, LFit, Org.Fit]
theorem Val.fit_iff {K : Nat} {v : Val} : v.Fit K ↔ I64 v.kind ∧ I64 v.n ∧ I64 v.step ∧ Str.Fit K v.text ∧ LFit K (Val.Fit K) v.list ∧ LFit K (Str.Fit K) v.columns ∧ LFit K (Rowd.Fit K) v.rows := by
  cases v
  simp only [Val.Fit, Val.toD, Val.toDs_eq, List.mem_cons, List.not_mem_nil, or_false, forall_eq_or_imp, forall_eq, DK.sl_iff, DK.i64, DK.str_iff, Str.Fit, LFit, Val.kind, Val.n, Val.step, Val.text, Val.list, Val.columns, Val.rows, rowd_fit]
theorem Exp.fit_iff {K : Nat} {v : Exp} : v.Fit K ↔ I64 v.kind ∧ I64 v.n ∧ Str.Fit K v.text ∧ LFit K (Exp.Fit K) v.args := by
  cases v
  simp only [Exp.Fit, Exp.toD, Exp.toDs_eq, List.mem_cons, List.not_mem_nil, or_false, forall_eq_or_imp, forall_eq, DK.sl_iff, DK.i64, DK.str_iff, Str.Fit, LFit, Exp.kind, Exp.n, Exp.text, Exp.args]
theorem sizeOf_mem_list {l : List Val} {x : Val} (h : x ∈ l) (k n s : Int) (t : Str) (c : List Str) (r : List Rowd) : SizeOf.sizeOf x < SizeOf.sizeOf (Val.mk k n s t l c r) := by
  have := List.sizeOf_lt_of_mem h
  simp only [Val.mk.sizeOf_spec]
  omega
theorem Val.ind {p : Val → Prop} (h : ∀ k n s t l c r, (∀ x ∈ l, p x) → p (.mk k n s t l c r)) : ∀ v, p v
  | .mk k n s t l c r => h k n s t l c r fun x hx => Val.ind h x
termination_by v => SizeOf.sizeOf v
decreasing_by exact sizeOf_mem_list hx k n s t c r
theorem sizeOf_mem_args {l : List Exp} {x : Exp} (h : x ∈ l) (k n : Int) (t : Str) : SizeOf.sizeOf x < SizeOf.sizeOf (Exp.mk k n t l) := by
  have := List.sizeOf_lt_of_mem h
  simp only [Exp.mk.sizeOf_spec]
  omega
theorem Exp.ind {p : Exp → Prop} (h : ∀ k n t l, (∀ x ∈ l, p x) → p (.mk k n t l)) : ∀ v, p v
  | .mk k n t l => h k n t l fun x hx => Exp.ind h x
termination_by v => SizeOf.sizeOf v
decreasing_by exact sizeOf_mem_args hx k n t
theorem cell_int {n : Int} (h : DK maxLen (CV.int .i64 n).toD) : I64 n := DK.i64.1 h
theorem cell_str {s : Str} (h : DK maxLen (CV.str s).toD) : Str.Fit maxLen s := DK.str_iff.1 h
theorem cell_sl {T : Ty} {f : Fl} {xs : List T.den} (h : DK maxLen (CV.sl f T xs).toD) : LFit maxLen (T.Fit maxLen) xs := DK.sl_iff.1 h
theorem LFit.imp {α : Type} {K : Nat} {p q : α → Prop} {l : List α} (h : LFit K p l) (f : ∀ x, p x → q x) : LFit K q l := ⟨h.1, fun x hx => f x (h.2 x hx)⟩
end Go.Ab
end
section
namespace Go.Ab
set_option linter.unusedVariables false
theorem forList {α σ ρ : Type} {L : Nat → Int → σ → Option ρ} (x0 : List α) (g : List α → σ → ρ) (Inv : Nat → σ → Prop)
    (hnil : ∀ n s, Inv x0.length s → L (n + 1) (x0.length : Nat) s = some (g [] s))
    (hcons : ∀ i x l s, x0.drop i = x :: l → i < x0.length → x0[i]? = some x → Inv i s →
      (∃ s', Inv (i + 1) s' ∧ g (x :: l) s = g l s' ∧ ∀ n, L (n + 1) (i : Nat) s = L n ((i + 1 : Nat) : Int) s') ∨ (∀ n, L (n + 1) (i : Nat) s = some (g (x :: l) s))) :
    ∀ n i s, Inv i s → i ≤ x0.length → x0.length < n + i → L n (i : Nat) s = some (g (x0.drop i) s) := by
  intro n
  induction n with
  | zero => intro i s _ h1 h2; omega
  | succ n ih =>
    intro i s hs hi hn
    cases hd : x0.drop i with
    | nil =>
      have := drop_nil hd
      obtain rfl : i = x0.length := by omega
      exact hnil n s hs
    | cons x l =>
      obtain ⟨h1, h2, h3⟩ := drop_cons hd
      rcases hcons i x l s hd h1 h2 hs with ⟨s', h4, h5, h6⟩ | h
      · rw [h6, ih (i + 1) s' h4 (by omega) (by omega), h3, h5]
      · exact h n
theorem getD_of {α : Type} {xs : List α} {i : Nat} {x : α} (h : xs[i]? = some x) (d : α) : xs.getD i d = x := by simp [List.getD, h]
theorem wrap_succ {i : Nat} {len : Nat} (h : i < len) (hl : len ≤ 9223372036854775807) : IntKind.i64.wrap ((i : Int) + 1) = ((i + 1 : Nat) : Int) := by
  rw [wrap_i64 (by omega) (by omega)]; omega
def left (s : Nat) (l : Int) : Int := if (s : Int) ≤ l then l - s else -1
theorem left_of {s : Nat} {l : Int} (h : (s : Int) ≤ l) : left s l = l - s := by unfold left; rw [if_pos h]
theorem left_not {s : Nat} {l : Int} (h : ¬ (s : Int) ≤ l) : left s l = -1 := by unfold left; rw [if_neg h]
theorem szThen {s b : Nat} {F : Option Int} {R : Int → Option Int} {l : Int} (hl : s ≤ 9223372036854775807) (h0 : 0 ≤ l) (h1 : l ≤ 1048576)
    (hF : F = bif decide (IntKind.i64.wrap (l - (s : Int)) < 0) then some (-1) else R (IntKind.i64.wrap (l - (s : Int))))
    (hR : ∀ m, 0 ≤ m → m ≤ 1048576 → R m = some (left b m)) : F = some (left (s + b) l) := by
  rw [hF, wrap_i64 (by omega) (by omega)]
  by_cases h : (s : Int) ≤ l
  · rw [decide_eq_false (by omega), cond_false, hR _ (by omega) (by omega)]
    unfold left
    split <;> split <;> first | rfl | omega | (congr 1; omega)
  · rw [decide_eq_true (by omega), cond_true, left_not (by omega)]
theorem left_two {a : Nat} {l : Int} {x : Option Int} (h : x = some (left a l)) : (x.bind fun r1 => bif decide (r1 < 0) then (some (-1) : Option Int) else some r1) = some (left a l) := by
  rw [h, Option.bind_some]
  unfold left
  split
  · rw [decide_eq_false (by omega)]; rfl
  · rfl
section
variable {α : Type} {d : α}
theorem szLoop {L : Nat → List α → Int → Int → Option Int} {sz : α → Int → Option Int} {size : α → Nat} {x0 : List α}
    (hL : ∀ n x1 x5, L (n + 1) x0 x1 x5 = bif decide (x5 < (x0.length : Int)) then (if (0 : Int) ≤ x5 ∧ x5 < (x0.length : Int) then Option.bind (sz (x0.getD x5.toNat d) x1) fun r1 => bif decide (r1 < 0) then some (-1) else L n x0 r1 (IntKind.i64.wrap (x5 + 1)) else none) else some x1)
    (hlen : x0.length ≤ 9223372036854775807) (hsz : ∀ x ∈ x0, ∀ l, 0 ≤ l → l ≤ 1048576 → sz x l = some (left (size x) l)) {n : Nat} (hn : x0.length < n) {l : Int} (h0 : 0 ≤ l) (h1 : l ≤ 1048576) :
    L n x0 l 0 = some (left (x0.map size).sum l) := by
  have key := forList (L := fun n i s => L n x0 s i) x0 (fun l s => left (l.map size).sum s) (fun _ s => 0 ≤ s ∧ s ≤ 1048576) (fun n s hs => by
      have hs : 0 ≤ s ∧ s ≤ 1048576 := hs
      simp only [hL]; simp [left]; omega)
    (fun i x r s hd hi hx hs => by
      have hs : 0 ≤ s ∧ s ≤ 1048576 := hs
      have hi' : (i : Int) < (x0.length : Int) := by omega
      have hm : x ∈ x0 := List.mem_of_getElem? hx
      by_cases hle : (size x : Int) ≤ s
      · refine .inl ⟨s - size x, by omega, ?_, fun n => ?_⟩
        · simp only [List.map_cons, List.sum_cons, left]
          split <;> split <;> omega
        · simp only [hL, decide_eq_true hi', cond_true, Int.toNat_natCast, getD_of hx, hsz x hm s hs.1 hs.2, left_of hle, Option.bind_some, wrap_succ hi hlen]
          rw [if_pos (by omega), decide_eq_false (by omega), cond_false]
      · refine .inr fun n => ?_
        simp only [hL, decide_eq_true hi', cond_true, Int.toNat_natCast, getD_of hx, hsz x hm s hs.1 hs.2, left_not hle, Option.bind_some]
        rw [if_pos (by omega), decide_eq_true (by omega), cond_true]
        simp only [List.map_cons, List.sum_cons, left]
        rw [if_neg (by omega)])
    n 0 l ⟨h0, h1⟩ (by omega) (by omega)
  simpa using key
theorem toLoop {L : Nat → List α → List α → Int → Option (List α)} {to : α → Option α} {re : α → α} {x0 : List α}
    (hL : ∀ n x3 x4, L (n + 1) x0 x3 x4 = bif decide (x4 < (x0.length : Int)) then (if (0 : Int) ≤ x4 ∧ x4 < (x0.length : Int) then Option.bind (to (x0.getD x4.toNat d)) fun r1 => (if (0 : Int) ≤ x4 ∧ x4 < (x3.length : Int) then L n x0 (x3.set x4.toNat (re r1)) (IntKind.i64.wrap (x4 + 1)) else none) else none) else some x3)
    (hlen : x0.length ≤ 9223372036854775807) (hto : ∀ x ∈ x0, ∃ y, to x = some y ∧ re y = x) {n : Nat} (hn : x0.length < n) :
    L n x0 (List.replicate x0.length d) 0 = some x0 := by
  have key := forList (L := fun n i s => L n x0 s i) x0 (fun _ _ => x0) (fun i s => s = x0.take i ++ List.replicate (x0.length - i) d) (fun n s hs => by
      have hs : s = x0.take x0.length ++ List.replicate (x0.length - x0.length) d := hs
      simp only [hL]; simp [hs])
    (fun i x r s hd hi hx hs => by
      have hs : s = x0.take i ++ List.replicate (x0.length - i) d := hs
      have hi' : (i : Int) < (x0.length : Int) := by omega
      have hm : x ∈ x0 := List.mem_of_getElem? hx
      obtain ⟨y, h1, h2⟩ := hto x hm
      have hsl : s.length = x0.length := by rw [hs]; simp; omega
      refine .inl ⟨s.set i x, ?_, rfl, fun n => ?_⟩
      · show s.set i x = x0.take (i + 1) ++ List.replicate (x0.length - (i + 1)) d
        rw [hs, List.set_append]
        have : (x0.take i).length = i := by simp; omega
        rw [this, if_neg (by omega), List.take_add_one, hx, Option.toList_some, List.append_assoc, Nat.sub_self]
        rw [show x0.length - i = (x0.length - (i + 1)) + 1 from by omega, List.replicate_succ, List.set_cons_zero]
        rfl
      · simp only [hL, decide_eq_true hi', cond_true, Int.toNat_natCast, getD_of hx, h1, h2, Option.bind_some, wrap_succ hi hlen, hsl]
        rw [if_pos (by omega), if_pos (by omega)])
    n 0 (List.replicate x0.length d) (by simp) (by omega) (by omega)
  exact key
theorem eqLoop {L : Nat → Int → Option Bool} {x0 : List α} (hend : ∀ n, L (n + 1) (x0.length : Nat) = some true)
    (hcons : ∀ (i : Nat) x n, i < x0.length → x0[i]? = some x → x ∈ x0 → L (n + 1) (i : Nat) = L n ((i + 1 : Nat) : Int)) {n : Nat} (hn : x0.length < n) : L n 0 = some true := by
  have key := forList (σ := Unit) (L := fun n i _ => L n i) x0 (fun _ _ => true) (fun _ _ => True) (fun n _ _ => hend n)
    (fun i x r s hd hi hx _ => .inl ⟨(), trivial, rfl, fun n => hcons i x n hi hx (List.mem_of_getElem? hx)⟩) n 0 () trivial (by omega) (by omega)
  exact key
end
end Go.Ab
end
section
namespace Go.Ab
set_option linter.unusedVariables false
def Fil.size (f : Fil) : Nat := f.name.length
def Wld.size (w : Wld) : Nat := w.files.length + (w.files.map Fil.size).sum
def Cel.size (c : Cel) : Nat := c.name.length + c.code.length
mutual
def Exp.size : Exp → Nat
  | .mk _ _ t a => t.length + (a.length + Exp.sizes a)
def Exp.sizes : List Exp → Nat
  | [] => 0
  | x :: r => Exp.size x + Exp.sizes r
end
theorem Exp.sizes_eq (l : List Exp) : Exp.sizes l = (l.map Exp.size).sum := by
  induction l with
  | nil => rfl
  | cons x l ih => simp [Exp.sizes, ih]
def Rowd.size (r : Rowd) : Nat := r.cells.length + r.frm.length
mutual
def Val.size : Val → Nat
  | .mk _ _ _ t l c r => t.length + (l.length + Val.sizes l) + (c.length + (c.map List.length).sum) + (r.length + (r.map Rowd.size).sum)
def Val.sizes : List Val → Nat
  | [] => 0
  | x :: r => Val.size x + Val.sizes r
end
theorem Val.sizes_eq (l : List Val) : Val.sizes l = (l.map Val.size).sum := by
  induction l with
  | nil => rfl
  | cons x l ih => simp [Val.sizes, ih]
theorem size_mem {α : Type} {f : α → Nat} {l : List α} {x : α} (h : x ∈ l) : f x ≤ (l.map f).sum := by
  induction l with
  | nil => cases h
  | cons a l ih =>
    simp only [List.map_cons, List.sum_cons]
    rcases List.mem_cons.1 h with rfl | h
    · omega
    · have := ih h; omega
theorem Exp.size_eq (e : Exp) : e.size = e.text.length + (e.args.length + (e.args.map Exp.size).sum) := by
  cases e; simp [Exp.size, Exp.sizes_eq, Exp.text, Exp.args]
theorem Val.size_eq (e : Val) : e.size = e.text.length + (e.list.length + (e.list.map Val.size).sum) + (e.columns.length + (e.columns.map List.length).sum) + (e.rows.length + (e.rows.map Rowd.size).sum) := by
  cases e; simp [Val.size, Val.sizes_eq, Val.text, Val.list, Val.columns, Val.rows]
theorem lfit_size {α : Type} {K M : Nat} {p q : α → Prop} {f : α → Nat} {l : List α} (h : LFit M p l) (hs : l.length + (l.map f).sum ≤ K) (hpq : ∀ x ∈ l, p x → f x ≤ K → q x) : LFit K q l :=
  ⟨by omega, fun x hx => hpq x hx (h.2 x hx) (by have := size_mem (f := f) hx; omega)⟩
theorem Exp.fit_size {K M : Nat} : ∀ e : Exp, e.Fit M → e.size ≤ K → e.Fit K := by
  refine Exp.ind fun k n t l ih h hs => ?_
  rw [Exp.fit_iff] at h ⊢
  obtain ⟨h1, h2, h3, h4⟩ := h
  have hs := hs
  rw [Exp.size_eq] at hs
  exact ⟨h1, h2, show List.length _ ≤ K from by omega, lfit_size h4 (by omega) fun x hx => ih x hx⟩
theorem Rowd.fit_size {K M : Nat} {r : Rowd} (h : r.Fit M) (hs : r.size ≤ K) : r.Fit K := by
  unfold Rowd.size at hs
  exact ⟨⟨by omega, h.1.2⟩, ⟨by omega, h.2.2⟩⟩
theorem Val.fit_size {K M : Nat} : ∀ e : Val, e.Fit M → e.size ≤ K → e.Fit K := by
  refine Val.ind fun k n s t l c r ih h hs => ?_
  rw [Val.fit_iff] at h ⊢
  obtain ⟨h1, h2, h3, h4, h5, h6, h7⟩ := h
  have hs := hs
  rw [Val.size_eq] at hs
  exact ⟨h1, h2, h3, show List.length _ ≤ K from by omega, lfit_size h5 (by omega) fun x hx => ih x hx, lfit_size (f := List.length) h6 (by omega) fun x hx _ h => h, lfit_size (f := Rowd.size) h7 (by omega) fun x hx => Rowd.fit_size⟩
theorem Fil.fit_size {K M : Nat} {r : Fil} (h : r.Fit M) (hs : r.size ≤ K) : r.Fit K := ⟨hs, h.2⟩
theorem Wld.fit_size {K M : Nat} {r : Wld} (h : r.Fit M) (hs : r.size ≤ K) : r.Fit K := ⟨h.1, h.2.1, lfit_size (f := Fil.size) h.2.2 hs fun x hx => Fil.fit_size⟩
theorem Cel.fit_size {K M : Nat} {r : Cel} (h : r.Fit M) (hs : r.size ≤ K) : r.Fit K := by
  obtain ⟨h1, h2, h3, h4, h5, h6⟩ := h
  unfold Cel.size at hs
  exact ⟨h1, h2, h3, show List.length _ ≤ K by omega, show List.length _ ≤ K by omega, h6⟩
theorem big_lt (n : Nat) : Big fun N => n < N := ⟨n + 1, fun N h => by omega⟩
end Go.Ab
end
section
namespace Go.Ab
set_option linter.unusedVariables false
theorem szExpr_big : ∀ e : Exp, e.Fit maxLen → Big2 fun N d => ∀ l, 0 ≤ l → l ≤ 1048576 → (laws_szExpr_fix N d).c_laws_szExpr e l = some (left e.size l) := by
  refine Exp.ind fun k n t a ih h => ?_
  obtain ⟨h1, h2, h3, h4⟩ := Exp.fit_iff.1 h
  refine Big2.succ (Big2.succ ?_)
  refine ((Big2.list fun x hx => ih x hx (h4.2 x hx)).and (big_lt a.length).two).imp fun N d ⟨hx, hn⟩ l h0 l1 => ?_
  rw [Exp.size_eq]
  exact szThen h3 h0 l1 rfl fun m m0 m1 => left_two (szThen h4.1 m0 m1 rfl fun m m0 m1 =>
    szLoop (L := fun n x0 x1 x5 => laws_szExprS_b5 N (laws_szExpr_fix N d).c_laws_szExpr (laws_szExpr_fix N d).c_laws_szExprS n x0 x1 x5) (d := Ty.exp.dflt) (sz := (laws_szExpr_fix N d).c_laws_szExpr)
      (fun _ _ _ => rfl) h4.1 (fun x hxm l h0 h1 => hx x hxm l h0 h1) hn m0 m1)
theorem toExpr_big {K : Nat} (hK : K ≤ 1048576) : ∀ e : Exp, e.Fit K → Big2 fun N d => (laws_toExpr_fix N d).c_laws_toExpr e = some e := by
  refine Exp.ind fun k n t a ih h => ?_
  obtain ⟨h1, h2, h3, h4⟩ := Exp.fit_iff.1 h
  refine Big2.succ (Big2.succ ?_)
  refine ((Big2.list fun x hx => ih x hx (h4.2 x hx)).and (big_lt a.length).two).imp fun N d ⟨hx, hn⟩ => ?_
  have hl : a.length ≤ K := h4.1
  have key : (laws_toExpr_fix N (d + 1)).c_laws_toExprS a = some a := by
    show laws_toExprS_body _ _ _ a = _
    unfold laws_toExprS_body
    rw [if_pos ⟨by omega, rfl, by unfold Lim; omega⟩]
    exact toLoop (L := fun n x0 x3 x4 => laws_toExprS_b3 N (laws_toExpr_fix N d).c_laws_toExpr (laws_toExpr_fix N d).c_laws_toExprS n x0 x3 x4) (to := (laws_toExpr_fix N d).c_laws_toExpr) (re := Exp.re) (fun _ _ _ => rfl) (by omega) (fun x hxm => ⟨x, hx x hxm, Exp.re_eq x⟩) hn
  show laws_toExpr_body N (laws_toExpr_fix N (d + 1)).c_laws_toExpr (laws_toExpr_fix N (d + 1)).c_laws_toExprS _ = _
  unfold laws_toExpr_body
  show Option.bind ((laws_toExpr_fix N (d + 1)).c_laws_toExprS a) _ = _
  rw [key]; rfl
theorem eqExpr_big {K : Nat} (hK : K ≤ 9223372036854775807) : ∀ e : Exp, e.Fit K → Big2 fun N d => (laws_eqExpr_fix N d).c_laws_eqExpr e e = some true := by
  refine Exp.ind fun k n t a ih h => ?_
  obtain ⟨h1, h2, h3, h4⟩ := Exp.fit_iff.1 h
  refine Big2.succ (Big2.succ ?_)
  refine ((Big2.list fun x hx => ih x hx (h4.2 x hx)).and (big_lt a.length).two).imp fun N d ⟨hx, hn⟩ => ?_
  have hl : a.length ≤ K := h4.1
  have key : (laws_eqExpr_fix N (d + 1)).c_laws_eqExprS a a = some true := by
    show laws_eqExprS_body _ _ _ a a = _
    unfold laws_eqExprS_body
    rw [bne_self_eq_false, cond_false]
    exact eqLoop (L := fun n i => laws_eqExprS_b4 N (laws_eqExpr_fix N d).c_laws_eqExpr (laws_eqExpr_fix N d).c_laws_eqExprS n a a i) (fun n => by simp [laws_eqExprS_b4]) (fun i x n hi hxi hm => by
      have hi' : (i : Int) < (a.length : Int) := by omega
      simp only [laws_eqExprS_b4, decide_eq_true hi', cond_true, Int.toNat_natCast, getD_of hxi, hx x hm, Option.bind_some, wrap_succ hi (by omega), Bool.not_true, cond_false]
      rw [if_pos (by omega), if_pos (by omega)]) hn
  show laws_eqExpr_body N (laws_eqExpr_fix N (d + 1)).c_laws_eqExpr (laws_eqExpr_fix N (d + 1)).c_laws_eqExprS _ _ = _
  unfold laws_eqExpr_body
  simp [Exp.args, key]
theorem szExpr_eq {e : Exp} (h : e.Fit maxLen) : Big fun N => laws_szExpr N e 1048576 = some (left e.size 1048576) := (szExpr_big e h).diag.imp fun N h => h _ (by omega) (by omega)
theorem toExpr_eq {e : Exp} (h : e.Fit 1048576) : Big fun N => laws_toExpr N e = some e := (toExpr_big (by omega) e h).diag
theorem eqExpr_self {e : Exp} {K : Nat} (h : e.Fit K) (hK : K ≤ 9223372036854775807) : Big fun N => laws_eqExpr N e e = some true := (eqExpr_big hK e h).diag
end Go.Ab
end
section
namespace Go.Ab
set_option linter.unusedVariables false
set_option linter.unusedSimpArgs false
theorem guard {s : Nat} (h : ¬ left s 1048576 < 0) : s ≤ 1048576 := by unfold left at h; split at h <;> omega
theorem level_some (N : Nat) (e : Exp) : ∃ r, spec_LevelOf N e = some r := by
  unfold spec_LevelOf
  cases (e.kind == 7) <;> cases (e.kind == 8) <;> cases (e.kind == 9) <;> cases (e.kind == 6) <;> cases (e.n == 4) <;> cases (e.n == 5) <;> cases (e.n == 1) <;> cases (e.n == 2) <;> cases (e.n == 3) <;> exact ⟨_, rfl⟩
theorem level_same (N : Nat) (e : Exp) : impl_LevelOf N e = spec_LevelOf N e := rfl
theorem exp_of_cells {a0 : Exp} (f0 : ∀ z ∈ [CV.int .i64 (Exp.kind a0), .int .i64 (Exp.n a0), .str (Exp.text a0), .sl .ro .exp (Exp.args a0)], DFit z.toD) : a0.Fit maxLen := by
  have f := fun z hz => (f0 z hz).dk
  simp only [List.mem_cons, List.not_mem_nil, or_false, forall_eq_or_imp, forall_eq] at f
  obtain ⟨h1, h2, h3, h4⟩ := f
  exact Exp.fit_iff.2 ⟨cell_int h1, cell_int h2, cell_str h3, cell_sl h4⟩
theorem laws_FnExactLevelOf_true (a0 : Exp) (f0 : ∀ z ∈ [CV.int .i64 (Exp.kind a0), .int .i64 (Exp.n a0), .str (Exp.text a0), .sl .ro .exp (Exp.args a0)], DFit z.toD) : ∃ N, laws_FnExactLevelOf N a0 = some true := by
  have hF := exp_of_cells f0
  by_cases h : left a0.size 1048576 < 0
  · exact (szExpr_eq hF).imp (fun N h1 => by simp [laws_FnExactLevelOf, h1, h]) |>.get
  · have hs := Exp.fit_size a0 hF (guard h)
    refine ((szExpr_eq hF).and ((toExpr_eq hs).and (eqExpr_self hs (by omega)))).imp (fun N ⟨h1, h2, h3⟩ => ?_) |>.get
    obtain ⟨r, hr⟩ := level_some N a0
    simp [laws_FnExactLevelOf, h1, h, h2, h3, level_same, hr]
end Go.Ab
end
section
namespace Go.Proofs.Ytimjapjfceenkaa
open Go.Ab Go.ChangeShapes Go.WideShapes Go.ChangeAt Go.RowKit
set_option linter.unusedVariables false
theorem own : ownKnob Try.prog.godebug = none := by kernel_rfl
theorem laidOut : laidOutB Try.prog = true := by kernel_rfl
theorem ktok_fnExactLevelOf : ktChk Try.prog [(39, .exp)] = true := by kernel_rfl
set_option maxRecDepth 100000 in
theorem fnExactLevelOf_lifted (os : Os) (started : os.Started) (H : Type) (enc : TypeId × Value → H) :
    ReturnsInHanded {} Try.checked os 6 .any (Rows.fnExactLevelOfSpec.pre6 enc Try.prog Try.f6 Rows.fnExactLevelOfRow.domain false) (Rows.fnExactLevelOfSpec.post enc Try.prog Try.f6 false true false false) := by
  refine returnsInHanded_of_change (C := Try.checked) own started (by kernel_rfl) Try.func6
    (ChangeSpec.witness6 (enc := enc) (C := Try.checked) false ⟨#[], #[.agg #[.int .i64 0, .int .i64 0, .string ByteArray.empty, .slice none 0 0]], []⟩ 8 (by kernel_rfl) (by kernel_rfl) (by kernel_rfl) (by kernel_rfl)) ?_
  intro W base args ds gs before hval0 hW hcnd _
  have hval : ∀ (j : Nat) t v, Try.f6.params[j]? = some t → args[j]? = some v → Value.okWide Try.prog W .any base t v := hval0
  have hW' := hW
  obtain ⟨p, q, hA0, hV, rfl, hfz, hnd⟩ := hW
  have hA : DataW.TrodAll enc Try.prog W 0 (fun _ => true) true Try.f6.params.toList args.toList ds p := hA0
  rw [Try.params6] at hA hval
  obtain ⟨v0, vs0, d0, ds0, p0, q0, hargs, rfl, rfl, h0, r0⟩ := trodAll_cons hA
  obtain ⟨rfl, rfl, rfl⟩ := trodAll_nil r0
  obtain rfl : args = #[v0] := by cases args; simp_all
  obtain ⟨rfl, rfl⟩ := trodVars_none hV
  have lt0 : ∀ x ∈ p0, x.block < W.heap.size := by obtain ⟨m, hm⟩ := h0; exact DataW.trod_lt m _ _ _ hm
  obtain ⟨z0, e0, f0, vr0⟩ := vr_of ktok_fnExactLevelOf (g := true) (t := 39) (ns := [.inl (.int .i64), .inl (.int .i64), .inl .str, .inr .exp]) (by kernel_rfl) (hval 0 39 v0 rfl rfl) h0
  obtain ⟨x0_0, _, rfl, e0_0⟩ := AreOf.int_inv e0
  obtain ⟨x0_1, _, rfl, e0_1⟩ := AreOf.int_inv e0_0
  obtain ⟨x0_2, _, rfl, e0_2⟩ := AreOf.str_inv e0_1
  obtain ⟨x0_3, _, rfl, e0_3⟩ := AreOf.sl_inv e0_2
  obtain rfl := e0_3.nil_inv
  obtain ⟨N, hF⟩ := laws_FnExactLevelOf_true (Exp.mk x0_0 x0_1 x0_2 x0_3) f0
  clear hA0 hval0
  refine (calls_of T.fk6 (T.laws_FnExactLevelOf_ok hF) (W := W) (args := #[v0]) ⟨vr0 _, trivial⟩).mono fun e W' ⟨he, bel⟩ => ?_
  subst he
  exact ⟨_, rfl, _, _, _, [], _, [], hW', trodAll_mk1 (shut_bool Try.underlying4 _), (trodAll_cons_mk (Below.trod laidOut (by kernel_rfl) (of_decide_eq_true (by kernel_rfl)) h0 bel lt0) trodAll_mk0), rfl, bel.frame _, fun h => by cases h⟩
theorem fnExactLevelOf_proved : Rows.FnExactLevelOfSaid :=
  OpenClaim.holds_of_wide 6 Try.f6 rfl rfl rfl rfl rfl rfl rfl ⟨rfl, rfl, rfl, rfl, rfl⟩ rfl rfl rfl rfl rfl (by kernel_rfl) Try.func6 (by kernel_rfl)
    (of_decide_eq_true (by kernel_rfl)) (by unfold Func.isWrapper; first | (rw [if_pos (by decide +kernel)]; kernel_rfl) | (rw [if_neg (by decide +kernel)]; exact ⟨rfl, rfl⟩))
    (fun os started H enc _ => fnExactLevelOf_lifted os started H enc)
end Go.Proofs.Ytimjapjfceenkaa
end
