/- The statement FnExactNthOf holds: plain functions, certificates, laws. Conditions: none. -/
import Derived.Test.YtnfikhfcblcmpaaL2
import Derived.Test.YtnfikhfcblcmpaaFnExactNthOfP0
set_option linter.all false
section
open Go.Proofs
namespace Go.Ab.T
set_option linter.unusedVariables false
set_option maxRecDepth 100000
noncomputable def I89 : Info := { body := (Try.f89.body).getD .skip, nt := 95, results := [.tmp 2], keep := [0, 2, 4, 52, 88, 92, 94, 104, 124, 142, 162, 180, 3], live := [], modes := [(1, [(3, .take, false), (9, .take, false), (13, .take, false)]), (3, [(3, .take, false), (8, .take, false), (12, .take, false)]), (9, [(3, .take, false)]), (11, [(3, .take, false)]), (13, [(3, .take, false)]), (15, [(3, .take, false)])], ext := [], lnt := [], casts := [], fcast := [] }
theorem fk89 : FnOk Try.prog 89 Try.f89 I89 := ⟨Try.func89, by kernel_rfl, by kernel_rfl, by kernel_rfl, by kernel_rfl⟩
theorem p89_e_0 (a0 : Val) : run tt (AbsCalls Try.prog) I89 3000 false [.code I89.body] ⟨(zBi 0 (xAr a0)), [true, true, true], [], []⟩ = some (.done (xAp false) [(((Val.kind a0) : Int) != 3) = true, (decide (((List.length (Val.list a0) : Int) : Int) > 0)) = true, true = true]) := by kernel_rfl
theorem p89_e_1 (a0 : Val) : run tt (AbsCalls Try.prog) I89 3000 false [.code I89.body] ⟨(zBi 0 (xAr a0)), [true, false, true, true], [], []⟩ = some (.done (xAp false) [(((Val.kind a0) : Int) != 3) = true, (decide (((List.length (Val.list a0) : Int) : Int) > 0)) = false, (((Val.kind a0) : Int) != 5) = true, (decide (((IntKind.i64.wrap ((List.length (Val.columns a0) : Int) + (List.length (Val.rows a0) : Int))) : Int) > 0)) = true]) := by kernel_rfl
theorem p89_e_2 (a0 : Val) : run tt (AbsCalls Try.prog) I89 3000 false [.code I89.body] ⟨(zBi 0 (xAr a0)), [true, false, true, false, true, true, true], [], []⟩ = some (.done (xAp false) [(((Val.kind a0) : Int) != 3) = true, (decide (((List.length (Val.list a0) : Int) : Int) > 0)) = false, (((Val.kind a0) : Int) != 5) = true, (decide (((IntKind.i64.wrap ((List.length (Val.columns a0) : Int) + (List.length (Val.rows a0) : Int))) : Int) > 0)) = false, (((Val.kind a0) : Int) != 2) = true, (!(((Val.text a0) : Str) == [])) = true, true = true]) := by kernel_rfl
theorem p89_e_3 (a0 : Val) : run tt (AbsCalls Try.prog) I89 3000 false [.code I89.body] ⟨(zBi 0 (xAr a0)), [true, false, true, false, true, false, true, true], [], []⟩ = some (.done (xAp false) [(((Val.kind a0) : Int) != 3) = true, (decide (((List.length (Val.list a0) : Int) : Int) > 0)) = false, (((Val.kind a0) : Int) != 5) = true, (decide (((IntKind.i64.wrap ((List.length (Val.columns a0) : Int) + (List.length (Val.rows a0) : Int))) : Int) > 0)) = false, (((Val.kind a0) : Int) != 2) = true, (!(((Val.text a0) : Str) == [])) = false, (((Val.kind a0) : Int) != 4) = true, (((Val.step a0) : Int) != 0) = true]) := by kernel_rfl
theorem p89_e_4 (a0 : Val) (r1 : Bool) : run tt (AbsCalls Try.prog) I89 3000 false [.code I89.body] ⟨(zBi 0 (xAr a0)), [true, false, true, false, true, false, true, false, true], [xAV r1], []⟩ = some (.done (xAp r1) [(((Val.kind a0) : Int) != 3) = true, (decide (((List.length (Val.list a0) : Int) : Int) > 0)) = false, (((Val.kind a0) : Int) != 5) = true, (decide (((IntKind.i64.wrap ((List.length (Val.columns a0) : Int) + (List.length (Val.rows a0) : Int))) : Int) > 0)) = false, (((Val.kind a0) : Int) != 2) = true, (!(((Val.text a0) : Str) == [])) = false, (((Val.kind a0) : Int) != 4) = true, (((Val.step a0) : Int) != 0) = false, (((Val.kind a0) : Int) == 1) = true, AbC 49 (xB1 (Val.n a0)) (xAV r1)]) := by kernel_rfl
theorem p89_e_5 (a0 : Val) (r1 : Bool) : run tt (AbsCalls Try.prog) I89 3000 false [.code I89.body] ⟨(zBi 0 (xAr a0)), [true, false, true, false, true, false, true, false, false, false, false, false, false, true], [xCT r1], []⟩ = some (.done (xAp r1) [(((Val.kind a0) : Int) != 3) = true, (decide (((List.length (Val.list a0) : Int) : Int) > 0)) = false, (((Val.kind a0) : Int) != 5) = true, (decide (((IntKind.i64.wrap ((List.length (Val.columns a0) : Int) + (List.length (Val.rows a0) : Int))) : Int) > 0)) = false, (((Val.kind a0) : Int) != 2) = true, (!(((Val.text a0) : Str) == [])) = false, (((Val.kind a0) : Int) != 4) = true, (((Val.step a0) : Int) != 0) = false, (((Val.kind a0) : Int) == 1) = false, (((Val.kind a0) : Int) == 2) = false, (((Val.kind a0) : Int) == 3) = false, (((Val.kind a0) : Int) == 4) = false, (((Val.kind a0) : Int) == 5) = false, (((Val.kind a0) : Int) == 6) = true, AbC 54 (xEx (Val.n a0) 1 8) (xCT r1)]) := by kernel_rfl
theorem p89_e_6 (a0 : Val) : run tt (AbsCalls Try.prog) I89 3000 false [.code I89.body] ⟨(zBi 0 (xAr a0)), [true, false, true, false, true, false, true, false, false, false, false, false, false, false], [], []⟩ = some (.done (xAp false) [(((Val.kind a0) : Int) != 3) = true, (decide (((List.length (Val.list a0) : Int) : Int) > 0)) = false, (((Val.kind a0) : Int) != 5) = true, (decide (((IntKind.i64.wrap ((List.length (Val.columns a0) : Int) + (List.length (Val.rows a0) : Int))) : Int) > 0)) = false, (((Val.kind a0) : Int) != 2) = true, (!(((Val.text a0) : Str) == [])) = false, (((Val.kind a0) : Int) != 4) = true, (((Val.step a0) : Int) != 0) = false, (((Val.kind a0) : Int) == 1) = false, (((Val.kind a0) : Int) == 2) = false, (((Val.kind a0) : Int) == 3) = false, (((Val.kind a0) : Int) == 4) = false, (((Val.kind a0) : Int) == 5) = false, (((Val.kind a0) : Int) == 6) = false]) := by kernel_rfl
theorem p89_e_7 (a0 : Val) (r1 r2 : Bool) : run tt (AbsCalls Try.prog) I89 3000 false [.code I89.body] ⟨(zBi 0 (xAr a0)), [true, false, true, false, true, false, false, false, false, false, false, true, true], [xAV r1, xAV r2], []⟩ = some (.done (xAp r2) [(((Val.kind a0) : Int) != 3) = true, (decide (((List.length (Val.list a0) : Int) : Int) > 0)) = false, (((Val.kind a0) : Int) != 5) = true, (decide (((IntKind.i64.wrap ((List.length (Val.columns a0) : Int) + (List.length (Val.rows a0) : Int))) : Int) > 0)) = false, (((Val.kind a0) : Int) != 2) = true, (!(((Val.text a0) : Str) == [])) = false, (((Val.kind a0) : Int) != 4) = false, false = false, (((Val.kind a0) : Int) == 1) = false, (((Val.kind a0) : Int) == 2) = false, (((Val.kind a0) : Int) == 3) = false, (((Val.kind a0) : Int) == 4) = true, AbC 49 (xB1 (Val.n a0)) (xAV r1), r1 = true, AbC 49 (xB1 (Val.step a0)) (xAV r2)]) := by kernel_rfl
theorem p89_e_8 (a0 : Val) (r1 : Bool) : run tt (AbsCalls Try.prog) I89 3000 false [.code I89.body] ⟨(zBi 0 (xAr a0)), [true, false, true, false, true, false, false, false, false, false, false, true, false], [xAV r1], []⟩ = some (.done (xAp false) [(((Val.kind a0) : Int) != 3) = true, (decide (((List.length (Val.list a0) : Int) : Int) > 0)) = false, (((Val.kind a0) : Int) != 5) = true, (decide (((IntKind.i64.wrap ((List.length (Val.columns a0) : Int) + (List.length (Val.rows a0) : Int))) : Int) > 0)) = false, (((Val.kind a0) : Int) != 2) = true, (!(((Val.text a0) : Str) == [])) = false, (((Val.kind a0) : Int) != 4) = false, false = false, (((Val.kind a0) : Int) == 1) = false, (((Val.kind a0) : Int) == 2) = false, (((Val.kind a0) : Int) == 3) = false, (((Val.kind a0) : Int) == 4) = true, AbC 49 (xB1 (Val.n a0)) (xAV r1), r1 = false]) := by kernel_rfl
theorem p89_e_9 (a0 : Val) : run tt (AbsCalls Try.prog) I89 3000 false [.code I89.body] ⟨(zBi 0 (xAr a0)), [true, false, true, false, false, false, true, true], [], []⟩ = some (.done (xAp false) [(((Val.kind a0) : Int) != 3) = true, (decide (((List.length (Val.list a0) : Int) : Int) > 0)) = false, (((Val.kind a0) : Int) != 5) = true, (decide (((IntKind.i64.wrap ((List.length (Val.columns a0) : Int) + (List.length (Val.rows a0) : Int))) : Int) > 0)) = false, (((Val.kind a0) : Int) != 2) = false, false = false, (((Val.kind a0) : Int) != 4) = true, (((Val.step a0) : Int) != 0) = true]) := by kernel_rfl
theorem p89_e_10 (a0 : Val) (r1 : Bool) : run tt (AbsCalls Try.prog) I89 3000 false [.code I89.body] ⟨(zBi 0 (xAr a0)), [true, false, true, false, false, false, true, false, false, true, true], [xBW r1], []⟩ = some (.done (xAp r1) [(((Val.kind a0) : Int) != 3) = true, (decide (((List.length (Val.list a0) : Int) : Int) > 0)) = false, (((Val.kind a0) : Int) != 5) = true, (decide (((IntKind.i64.wrap ((List.length (Val.columns a0) : Int) + (List.length (Val.rows a0) : Int))) : Int) > 0)) = false, (((Val.kind a0) : Int) != 2) = false, false = false, (((Val.kind a0) : Int) != 4) = true, (((Val.step a0) : Int) != 0) = false, (((Val.kind a0) : Int) == 1) = false, (((Val.kind a0) : Int) == 2) = true, (((Val.n a0) : Int) == 0) = true, AbC 103 (xEH (Val.text a0)) (xBW r1)]) := by kernel_rfl
theorem p89_e_11 (a0 : Val) : run tt (AbsCalls Try.prog) I89 3000 false [.code I89.body] ⟨(zBi 0 (xAr a0)), [true, false, true, false, false, false, true, false, false, true, false], [], []⟩ = some (.done (xAp false) [(((Val.kind a0) : Int) != 3) = true, (decide (((List.length (Val.list a0) : Int) : Int) > 0)) = false, (((Val.kind a0) : Int) != 5) = true, (decide (((IntKind.i64.wrap ((List.length (Val.columns a0) : Int) + (List.length (Val.rows a0) : Int))) : Int) > 0)) = false, (((Val.kind a0) : Int) != 2) = false, false = false, (((Val.kind a0) : Int) != 4) = true, (((Val.step a0) : Int) != 0) = false, (((Val.kind a0) : Int) == 1) = false, (((Val.kind a0) : Int) == 2) = true, (((Val.n a0) : Int) == 0) = false]) := by kernel_rfl
theorem p89_e_12 (a0 : Val) : run tt (AbsCalls Try.prog) I89 3000 false [.code I89.body] ⟨(zBi 0 (xAr a0)), [true, false, false, false, true, true, true], [], []⟩ = some (.done (xAp false) [(((Val.kind a0) : Int) != 3) = true, (decide (((List.length (Val.list a0) : Int) : Int) > 0)) = false, (((Val.kind a0) : Int) != 5) = false, false = false, (((Val.kind a0) : Int) != 2) = true, (!(((Val.text a0) : Str) == [])) = true, true = true]) := by kernel_rfl
theorem p89_e_13 (a0 : Val) : run tt (AbsCalls Try.prog) I89 3000 false [.code I89.body] ⟨(zBi 0 (xAr a0)), [true, false, false, false, true, false, true, true], [], []⟩ = some (.done (xAp false) [(((Val.kind a0) : Int) != 3) = true, (decide (((List.length (Val.list a0) : Int) : Int) > 0)) = false, (((Val.kind a0) : Int) != 5) = false, false = false, (((Val.kind a0) : Int) != 2) = true, (!(((Val.text a0) : Str) == [])) = false, (((Val.kind a0) : Int) != 4) = true, (((Val.step a0) : Int) != 0) = true]) := by kernel_rfl
theorem p89_e_14 (a0 : Val) (r1 : Bool) : run tt (AbsCalls Try.prog) I89 3000 false [.code I89.body] ⟨(zBi 0 (xAr a0)), [true, false, false, false, true, false, true, false, false, false, false, false, true, true], [xBM r1], []⟩ = some (.done (xAp r1) [(((Val.kind a0) : Int) != 3) = true, (decide (((List.length (Val.list a0) : Int) : Int) > 0)) = false, (((Val.kind a0) : Int) != 5) = false, false = false, (((Val.kind a0) : Int) != 2) = true, (!(((Val.text a0) : Str) == [])) = false, (((Val.kind a0) : Int) != 4) = true, (((Val.step a0) : Int) != 0) = false, (((Val.kind a0) : Int) == 1) = false, (((Val.kind a0) : Int) == 2) = false, (((Val.kind a0) : Int) == 3) = false, (((Val.kind a0) : Int) == 4) = false, (((Val.kind a0) : Int) == 5) = true, (((Val.n a0) : Int) == 0) = true, AbC 105 (xEv a0) (xBM r1)]) := by kernel_rfl
theorem p89_e_15 (a0 : Val) : run tt (AbsCalls Try.prog) I89 3000 false [.code I89.body] ⟨(zBi 0 (xAr a0)), [true, false, false, false, true, false, true, false, false, false, false, false, true, false], [], []⟩ = some (.done (xAp false) [(((Val.kind a0) : Int) != 3) = true, (decide (((List.length (Val.list a0) : Int) : Int) > 0)) = false, (((Val.kind a0) : Int) != 5) = false, false = false, (((Val.kind a0) : Int) != 2) = true, (!(((Val.text a0) : Str) == [])) = false, (((Val.kind a0) : Int) != 4) = true, (((Val.step a0) : Int) != 0) = false, (((Val.kind a0) : Int) == 1) = false, (((Val.kind a0) : Int) == 2) = false, (((Val.kind a0) : Int) == 3) = false, (((Val.kind a0) : Int) == 4) = false, (((Val.kind a0) : Int) == 5) = true, (((Val.n a0) : Int) == 0) = false]) := by kernel_rfl
theorem p89_e_16 (a0 : Val) : run tt (AbsCalls Try.prog) I89 3000 false [.code I89.body] ⟨(zBi 0 (xAr a0)), [false, false, true, true], [], []⟩ = some (.done (xAp false) [(((Val.kind a0) : Int) != 3) = false, false = false, (((Val.kind a0) : Int) != 5) = true, (decide (((IntKind.i64.wrap ((List.length (Val.columns a0) : Int) + (List.length (Val.rows a0) : Int))) : Int) > 0)) = true]) := by kernel_rfl
theorem p89_e_17 (a0 : Val) : run tt (AbsCalls Try.prog) I89 3000 false [.code I89.body] ⟨(zBi 0 (xAr a0)), [false, false, true, false, true, true, true], [], []⟩ = some (.done (xAp false) [(((Val.kind a0) : Int) != 3) = false, false = false, (((Val.kind a0) : Int) != 5) = true, (decide (((IntKind.i64.wrap ((List.length (Val.columns a0) : Int) + (List.length (Val.rows a0) : Int))) : Int) > 0)) = false, (((Val.kind a0) : Int) != 2) = true, (!(((Val.text a0) : Str) == [])) = true, true = true]) := by kernel_rfl
theorem p89_e_18 (a0 : Val) : run tt (AbsCalls Try.prog) I89 3000 false [.code I89.body] ⟨(zBi 0 (xAr a0)), [false, false, true, false, true, false, true, true], [], []⟩ = some (.done (xAp false) [(((Val.kind a0) : Int) != 3) = false, false = false, (((Val.kind a0) : Int) != 5) = true, (decide (((IntKind.i64.wrap ((List.length (Val.columns a0) : Int) + (List.length (Val.rows a0) : Int))) : Int) > 0)) = false, (((Val.kind a0) : Int) != 2) = true, (!(((Val.text a0) : Str) == [])) = false, (((Val.kind a0) : Int) != 4) = true, (((Val.step a0) : Int) != 0) = true]) := by kernel_rfl
theorem p89_e_19 (a0 : Val) (r1 : Bool) : run tt (AbsCalls Try.prog) I89 3000 false [.code I89.body] ⟨(zBi 0 (xAr a0)), [false, false, true, false, true, false, true, false, false, false, true, true], [xBF r1], []⟩ = some (.done (xAp r1) [(((Val.kind a0) : Int) != 3) = false, false = false, (((Val.kind a0) : Int) != 5) = true, (decide (((IntKind.i64.wrap ((List.length (Val.columns a0) : Int) + (List.length (Val.rows a0) : Int))) : Int) > 0)) = false, (((Val.kind a0) : Int) != 2) = true, (!(((Val.text a0) : Str) == [])) = false, (((Val.kind a0) : Int) != 4) = true, (((Val.step a0) : Int) != 0) = false, (((Val.kind a0) : Int) == 1) = false, (((Val.kind a0) : Int) == 2) = false, (((Val.kind a0) : Int) == 3) = true, (((Val.n a0) : Int) == 0) = true, AbC 104 (xCE a0) (xBF r1)]) := by kernel_rfl
theorem p89_e_20 (a0 : Val) : run tt (AbsCalls Try.prog) I89 3000 false [.code I89.body] ⟨(zBi 0 (xAr a0)), [false, false, true, false, true, false, true, false, false, false, true, false], [], []⟩ = some (.done (xAp false) [(((Val.kind a0) : Int) != 3) = false, false = false, (((Val.kind a0) : Int) != 5) = true, (decide (((IntKind.i64.wrap ((List.length (Val.columns a0) : Int) + (List.length (Val.rows a0) : Int))) : Int) > 0)) = false, (((Val.kind a0) : Int) != 2) = true, (!(((Val.text a0) : Str) == [])) = false, (((Val.kind a0) : Int) != 4) = true, (((Val.step a0) : Int) != 0) = false, (((Val.kind a0) : Int) == 1) = false, (((Val.kind a0) : Int) == 2) = false, (((Val.kind a0) : Int) == 3) = true, (((Val.n a0) : Int) == 0) = false]) := by kernel_rfl
theorem c89_e {N : Nat} {rc_spec_IsValidValue : Val → Option (Bool)} (hrc_spec_IsValidValue : ∀ a0 r, rc_spec_IsValidValue a0 = some r → AbC 89 (xAr a0) (xAp r)) {rc_spec_l3List : Val → Option (Bool)} (hrc_spec_l3List : ∀ a0 r, rc_spec_l3List a0 = some r → AbC 104 (xCE a0) (xBF r)) : ∀ a0 r, xCg N rc_spec_IsValidValue rc_spec_l3List a0 = some r → Reach Try.prog Try.f89 I89 [.code I89.body] (zBi 0 (xAr a0)) (xAp r) := by
 intro a0 r h
 unfold xCg at h
 rcases cond_inv h with ⟨h0, h⟩ | ⟨h0, h⟩
 ·rcases cond_inv h with ⟨h1, h⟩ | ⟨h1, h⟩
  ·obtain rfl := Option.some.inj h
   exact Reach.done ttok mix fk89 (p89_e_0 a0) (obs_cons h0 (obs_cons h1 (obs_cons rfl obs_nil)))
  ·rcases cond_inv h with ⟨h2, h⟩ | ⟨h2, h⟩
   ·rcases cond_inv h with ⟨h3, h⟩ | ⟨h3, h⟩
    ·obtain rfl := Option.some.inj h
     exact Reach.done ttok mix fk89 (p89_e_1 a0) (obs_cons h0 (obs_cons h1 (obs_cons h2 (obs_cons h3 obs_nil))))
    ·rcases cond_inv h with ⟨h4, h⟩ | ⟨h4, h⟩
     ·rcases cond_inv h with ⟨h5, h⟩ | ⟨h5, h⟩
      ·obtain rfl := Option.some.inj h
       exact Reach.done ttok mix fk89 (p89_e_2 a0) (obs_cons h0 (obs_cons h1 (obs_cons h2 (obs_cons h3 (obs_cons h4 (obs_cons h5 (obs_cons rfl obs_nil)))))))
      ·rcases cond_inv h with ⟨h6, h⟩ | ⟨h6, h⟩
       ·rcases cond_inv h with ⟨h7, h⟩ | ⟨h7, h⟩
        ·obtain rfl := Option.some.inj h
         exact Reach.done ttok mix fk89 (p89_e_3 a0) (obs_cons h0 (obs_cons h1 (obs_cons h2 (obs_cons h3 (obs_cons h4 (obs_cons h5 (obs_cons h6 (obs_cons h7 obs_nil))))))))
        ·rcases cond_inv h with ⟨h8, h⟩ | ⟨h8, h⟩
         ·obtain ⟨r1, h9, h⟩ := bind_inv h
          obtain rfl := Option.some.inj h
          exact Reach.done ttok mix fk89 (p89_e_4 a0 r1) (obs_cons h0 (obs_cons h1 (obs_cons h2 (obs_cons h3 (obs_cons h4 (obs_cons h5 (obs_cons h6 (obs_cons h7 (obs_cons h8 (obs_cons (xCU h9) obs_nil))))))))))
         ·rcases cond_inv h with ⟨h13, h⟩ | ⟨h13, h⟩
          ·obtain ⟨r1, h14, h⟩ := bind_inv h
           obtain rfl := Option.some.inj h
           exact Reach.done ttok mix fk89 (p89_e_5 a0 r1) (obs_cons h0 (obs_cons h1 (obs_cons h2 (obs_cons h3 (obs_cons h4 (obs_cons h5 (obs_cons h6 (obs_cons h7 (obs_cons h8 (obs_cons (of_not h4) (obs_cons (of_not h0) (obs_cons (of_not h6) (obs_cons (of_not h2) (obs_cons h13 (obs_cons (xGN h14) obs_nil)))))))))))))))
          ·obtain rfl := Option.some.inj h
           exact Reach.done ttok mix fk89 (p89_e_6 a0) (obs_cons h0 (obs_cons h1 (obs_cons h2 (obs_cons h3 (obs_cons h4 (obs_cons h5 (obs_cons h6 (obs_cons h7 (obs_cons h8 (obs_cons (of_not h4) (obs_cons (of_not h0) (obs_cons (of_not h6) (obs_cons (of_not h2) (obs_cons h13 obs_nil))))))))))))))
       ·obtain ⟨r1, h12, h⟩ := bind_inv h
        rcases cond_inv h with ⟨h13, h⟩ | ⟨h13, h⟩
        ·obtain ⟨r2, h14, h⟩ := bind_inv h
         obtain rfl := Option.some.inj h
         exact Reach.done ttok mix fk89 (p89_e_7 a0 r1 r2) (obs_cons h0 (obs_cons h1 (obs_cons h2 (obs_cons h3 (obs_cons h4 (obs_cons h5 (obs_cons h6 (obs_cons rfl (obs_cons (eq_ne (of_not h6) rfl) (obs_cons (of_not h4) (obs_cons (of_not h0) (obs_cons (of_not h6) (obs_cons (xCU h12) (obs_cons h13 (obs_cons (xCU h14) obs_nil)))))))))))))))
        ·obtain rfl := Option.some.inj h
         exact Reach.done ttok mix fk89 (p89_e_8 a0 r1) (obs_cons h0 (obs_cons h1 (obs_cons h2 (obs_cons h3 (obs_cons h4 (obs_cons h5 (obs_cons h6 (obs_cons rfl (obs_cons (eq_ne (of_not h6) rfl) (obs_cons (of_not h4) (obs_cons (of_not h0) (obs_cons (of_not h6) (obs_cons (xCU h12) (obs_cons h13 obs_nil))))))))))))))
     ·rcases cond_inv h with ⟨h7, h⟩ | ⟨h7, h⟩
      ·obtain rfl := Option.some.inj h
       exact Reach.done ttok mix fk89 (p89_e_9 a0) (obs_cons h0 (obs_cons h1 (obs_cons h2 (obs_cons h3 (obs_cons h4 (obs_cons rfl (obs_cons (not_of (eq_ne (of_not h4) rfl)) (obs_cons h7 obs_nil))))))))
      ·rcases cond_inv h with ⟨h10, h⟩ | ⟨h10, h⟩
       ·obtain ⟨r1, h11, h⟩ := bind_inv h
        obtain rfl := Option.some.inj h
        exact Reach.done ttok mix fk89 (p89_e_10 a0 r1) (obs_cons h0 (obs_cons h1 (obs_cons h2 (obs_cons h3 (obs_cons h4 (obs_cons rfl (obs_cons (not_of (eq_ne (of_not h4) rfl)) (obs_cons h7 (obs_cons (eq_ne (of_not h4) rfl) (obs_cons (of_not h4) (obs_cons h10 (obs_cons (xH5 h11) obs_nil))))))))))))
       ·obtain rfl := Option.some.inj h
        exact Reach.done ttok mix fk89 (p89_e_11 a0) (obs_cons h0 (obs_cons h1 (obs_cons h2 (obs_cons h3 (obs_cons h4 (obs_cons rfl (obs_cons (not_of (eq_ne (of_not h4) rfl)) (obs_cons h7 (obs_cons (eq_ne (of_not h4) rfl) (obs_cons (of_not h4) (obs_cons h10 obs_nil)))))))))))
   ·rcases cond_inv h with ⟨h5, h⟩ | ⟨h5, h⟩
    ·obtain rfl := Option.some.inj h
     exact Reach.done ttok mix fk89 (p89_e_12 a0) (obs_cons h0 (obs_cons h1 (obs_cons h2 (obs_cons rfl (obs_cons (not_of (eq_ne (of_not h2) rfl)) (obs_cons h5 (obs_cons rfl obs_nil)))))))
    ·rcases cond_inv h with ⟨h7, h⟩ | ⟨h7, h⟩
     ·obtain rfl := Option.some.inj h
      exact Reach.done ttok mix fk89 (p89_e_13 a0) (obs_cons h0 (obs_cons h1 (obs_cons h2 (obs_cons rfl (obs_cons (not_of (eq_ne (of_not h2) rfl)) (obs_cons h5 (obs_cons (not_of (eq_ne (of_not h2) rfl)) (obs_cons h7 obs_nil))))))))
     ·rcases cond_inv h with ⟨h13, h⟩ | ⟨h13, h⟩
      ·obtain ⟨r1, h14, h⟩ := bind_inv h
       obtain rfl := Option.some.inj h
       exact Reach.done ttok mix fk89 (p89_e_14 a0 r1) (obs_cons h0 (obs_cons h1 (obs_cons h2 (obs_cons rfl (obs_cons (not_of (eq_ne (of_not h2) rfl)) (obs_cons h5 (obs_cons (not_of (eq_ne (of_not h2) rfl)) (obs_cons h7 (obs_cons (eq_ne (of_not h2) rfl) (obs_cons (eq_ne (of_not h2) rfl) (obs_cons (of_not h0) (obs_cons (eq_ne (of_not h2) rfl) (obs_cons (of_not h2) (obs_cons h13 (obs_cons (spec_l3Table_ok h14) obs_nil)))))))))))))))
      ·obtain rfl := Option.some.inj h
       exact Reach.done ttok mix fk89 (p89_e_15 a0) (obs_cons h0 (obs_cons h1 (obs_cons h2 (obs_cons rfl (obs_cons (not_of (eq_ne (of_not h2) rfl)) (obs_cons h5 (obs_cons (not_of (eq_ne (of_not h2) rfl)) (obs_cons h7 (obs_cons (eq_ne (of_not h2) rfl) (obs_cons (eq_ne (of_not h2) rfl) (obs_cons (of_not h0) (obs_cons (eq_ne (of_not h2) rfl) (obs_cons (of_not h2) (obs_cons h13 obs_nil))))))))))))))
 ·rcases cond_inv h with ⟨h3, h⟩ | ⟨h3, h⟩
  ·obtain rfl := Option.some.inj h
   exact Reach.done ttok mix fk89 (p89_e_16 a0) (obs_cons h0 (obs_cons rfl (obs_cons (not_of (eq_ne (of_not h0) rfl)) (obs_cons h3 obs_nil))))
  ·rcases cond_inv h with ⟨h5, h⟩ | ⟨h5, h⟩
   ·obtain rfl := Option.some.inj h
    exact Reach.done ttok mix fk89 (p89_e_17 a0) (obs_cons h0 (obs_cons rfl (obs_cons (not_of (eq_ne (of_not h0) rfl)) (obs_cons h3 (obs_cons (not_of (eq_ne (of_not h0) rfl)) (obs_cons h5 (obs_cons rfl obs_nil)))))))
   ·rcases cond_inv h with ⟨h7, h⟩ | ⟨h7, h⟩
    ·obtain rfl := Option.some.inj h
     exact Reach.done ttok mix fk89 (p89_e_18 a0) (obs_cons h0 (obs_cons rfl (obs_cons (not_of (eq_ne (of_not h0) rfl)) (obs_cons h3 (obs_cons (not_of (eq_ne (of_not h0) rfl)) (obs_cons h5 (obs_cons (not_of (eq_ne (of_not h0) rfl)) (obs_cons h7 obs_nil))))))))
    ·rcases cond_inv h with ⟨h11, h⟩ | ⟨h11, h⟩
     ·obtain ⟨r1, h12, h⟩ := bind_inv h
      obtain rfl := Option.some.inj h
      exact Reach.done ttok mix fk89 (p89_e_19 a0 r1) (obs_cons h0 (obs_cons rfl (obs_cons (not_of (eq_ne (of_not h0) rfl)) (obs_cons h3 (obs_cons (not_of (eq_ne (of_not h0) rfl)) (obs_cons h5 (obs_cons (not_of (eq_ne (of_not h0) rfl)) (obs_cons h7 (obs_cons (eq_ne (of_not h0) rfl) (obs_cons (eq_ne (of_not h0) rfl) (obs_cons (of_not h0) (obs_cons h11 (obs_cons (hrc_spec_l3List _ _ h12) obs_nil)))))))))))))
     ·obtain rfl := Option.some.inj h
      exact Reach.done ttok mix fk89 (p89_e_20 a0) (obs_cons h0 (obs_cons rfl (obs_cons (not_of (eq_ne (of_not h0) rfl)) (obs_cons h3 (obs_cons (not_of (eq_ne (of_not h0) rfl)) (obs_cons h5 (obs_cons (not_of (eq_ne (of_not h0) rfl)) (obs_cons h7 (obs_cons (eq_ne (of_not h0) rfl) (obs_cons (eq_ne (of_not h0) rfl) (obs_cons (of_not h0) (obs_cons h11 obs_nil))))))))))))
theorem xGU {N : Nat} {rc_spec_IsValidValue : Val → Option (Bool)} (hrc_spec_IsValidValue : ∀ a0 r, rc_spec_IsValidValue a0 = some r → AbC 89 (xAr a0) (xAp r)) {rc_spec_l3List : Val → Option (Bool)} (hrc_spec_l3List : ∀ a0 r, rc_spec_l3List a0 = some r → AbC 104 (xCE a0) (xBF r)) {a0 : Val} {r : Bool} (h : xCg N rc_spec_IsValidValue rc_spec_l3List a0 = some r) : AbC 89 (xAr a0) (xAp r) :=
 AbsCalls.of_reach fk89 rfl rfl (Nat.le_of_ble_eq_true rfl) (c89_e hrc_spec_IsValidValue hrc_spec_l3List a0 r h)
noncomputable def I104 : Info := { body := (Try.f104.body).getD .skip, nt := 36, results := [.tmp 2], keep := [0, 2, 4, 6, 16, 52, 3], live := [(2, [2, 6, 3])], modes := [(4, [(7, .take, false)]), (6, [(4, .take, false)])], ext := [], lnt := [], casts := [], fcast := [] }
theorem fk104 : FnOk Try.prog 104 Try.f104 I104 := ⟨Try.func104, by kernel_rfl, by kernel_rfl, by kernel_rfl, by kernel_rfl⟩
def S104_2 (x3 : Int) (b1 : Val) : St := [(2, .v false [.ptr 1 0]), (6, .v false [.int .i64 x3]), (3, .v true [.int .i64 (Val.kind b1), .int .i64 (Val.n b1), .int .i64 (Val.step b1), .str (Val.text b1), .sl .ro .val (Val.list b1), .sl .ro .str (Val.columns b1), .sl .ro .row (Val.rows b1)])]
theorem p104_2_0 (x3 : Int) (b1 : Val) (r1 : Bool) : run tt (AbsCalls Try.prog) I104 3000 true (stkAt 2 I104.body) ⟨(S104_2 x3 b1), [true, true, true], [xBL r1], []⟩ = some (.done (xBF false) [(decide ((x3 : Int) < (List.length (Val.list b1) : Int))) = true, (0 : Int) ≤ x3 ∧ x3 < (List.length (Val.list b1)), AbC 117 (xCz (List.getD (Val.list b1) (Int.toNat x3) Ty.val.dflt)) (xBL r1), (!r1) = true, true = true]) := by kernel_rfl
theorem p104_2_1 (x3 : Int) (b1 : Val) (r1 r2 : Bool) : run tt (AbsCalls Try.prog) I104 3000 true (stkAt 2 I104.body) ⟨(S104_2 x3 b1), [true, false, true], [xBL r1, xAp r2], []⟩ = some (.done (xBF false) [(decide ((x3 : Int) < (List.length (Val.list b1) : Int))) = true, (0 : Int) ≤ x3 ∧ x3 < (List.length (Val.list b1)), AbC 117 (xCz (List.getD (Val.list b1) (Int.toNat x3) Ty.val.dflt)) (xBL r1), (!r1) = false, (0 : Int) ≤ x3 ∧ x3 < (List.length (Val.list b1)), AbC 89 (xAr (List.getD (Val.list b1) (Int.toNat x3) Ty.val.dflt)) (xAp r2), (!r2) = true]) := by kernel_rfl
theorem p104_2_2 (x3 : Int) (b1 : Val) (r1 r2 : Bool) : run tt (AbsCalls Try.prog) I104 3000 true (stkAt 2 I104.body) ⟨(S104_2 x3 b1), [true, false, false], [xBL r1, xAp r2], []⟩ = some (.stop (stkAt 2 I104.body) (S104_2 (IntKind.i64.wrap (x3 + 1)) b1) [(decide ((x3 : Int) < (List.length (Val.list b1) : Int))) = true, (0 : Int) ≤ x3 ∧ x3 < (List.length (Val.list b1)), AbC 117 (xCz (List.getD (Val.list b1) (Int.toNat x3) Ty.val.dflt)) (xBL r1), (!r1) = false, (0 : Int) ≤ x3 ∧ x3 < (List.length (Val.list b1)), AbC 89 (xAr (List.getD (Val.list b1) (Int.toNat x3) Ty.val.dflt)) (xAp r2), (!r2) = false]) := by kernel_rfl
theorem p104_2_3 (x3 : Int) (b1 : Val) (r1 : Int) : run tt (AbsCalls Try.prog) I104 3000 true (stkAt 2 I104.body) ⟨(S104_2 x3 b1), [false, true], [xBK r1], []⟩ = some (.done (xBF (decide ((r1 : Int) ≤ 3))) [(decide ((x3 : Int) < (List.length (Val.list b1) : Int))) = false, (decide (((List.length (Val.list b1) : Int) : Int) ≤ 8)) = true, AbC 118 (xCi b1) (xBK r1)]) := by kernel_rfl
theorem p104_2_4 (x3 : Int) (b1 : Val) : run tt (AbsCalls Try.prog) I104 3000 true (stkAt 2 I104.body) ⟨(S104_2 x3 b1), [false, false], [], []⟩ = some (.done (xBF false) [(decide ((x3 : Int) < (List.length (Val.list b1) : Int))) = false, (decide (((List.length (Val.list b1) : Int) : Int) ≤ 8)) = false]) := by kernel_rfl
theorem p104_e_5 (a0 : Val) : run tt (AbsCalls Try.prog) I104 3000 false [.code I104.body] ⟨(zBi 0 (xCE a0)), [], [], []⟩ = some (.stop (stkAt 2 I104.body) (S104_2 0 a0) []) := by kernel_rfl
theorem c104_2 {N : Nat} {rc_spec_IsValidValue : Val → Option (Bool)} (hrc_spec_IsValidValue : ∀ a0 r, rc_spec_IsValidValue a0 = some r → AbC 89 (xAr a0) (xAp r)) {rc_spec_l3List : Val → Option (Bool)} (hrc_spec_l3List : ∀ a0 r, rc_spec_l3List a0 = some r → AbC 104 (xCE a0) (xBF r)) : ∀ n x3 b1 r, xDc N rc_spec_IsValidValue rc_spec_l3List n x3 b1 = some r → Reach Try.prog Try.f104 I104 (stkAt 2 I104.body) (S104_2 x3 b1) (xBF r) := by
 intro n
 induction n with
 | zero => intro x3 b1 r h; have h' : (none : Option (Bool)) = some r := h; cases h'
 | succ n ih =>
  intro x3 b1 r h
  rw [xDc] at h
  rcases cond_inv h with ⟨h0, h⟩ | ⟨h0, h⟩
  ·obtain ⟨h1, h⟩ := ite_inv h
   obtain ⟨r1, h2, h⟩ := bind_inv h
   rcases cond_inv h with ⟨h3, h⟩ | ⟨h3, h⟩
   ·obtain rfl := Option.some.inj h
    exact Reach.done ttok mix fk104 (p104_2_0 x3 b1 r1) (obs_cons h0 (obs_cons h1 (obs_cons (xF7 h2) (obs_cons h3 (obs_cons rfl obs_nil)))))
   ·obtain ⟨r2, h5, h⟩ := bind_inv h
    rcases cond_inv h with ⟨h6, h⟩ | ⟨h6, h⟩
    ·obtain rfl := Option.some.inj h
     exact Reach.done ttok mix fk104 (p104_2_1 x3 b1 r1 r2) (obs_cons h0 (obs_cons h1 (obs_cons (xF7 h2) (obs_cons h3 (obs_cons h1 (obs_cons (hrc_spec_IsValidValue _ _ h5) (obs_cons h6 obs_nil)))))))
    ·exact Reach.stop ttok mix fk104 (p104_2_2 x3 b1 r1 r2) (obs_cons h0 (obs_cons h1 (obs_cons (xF7 h2) (obs_cons h3 (obs_cons h1 (obs_cons (hrc_spec_IsValidValue _ _ h5) (obs_cons h6 obs_nil))))))) (ih _ _ _ h)
  ·rcases cond_inv h with ⟨h1, h⟩ | ⟨h1, h⟩
   ·obtain ⟨r1, h2, h⟩ := bind_inv h
    obtain rfl := Option.some.inj h
    exact Reach.done ttok mix fk104 (p104_2_3 x3 b1 r1) (obs_cons h0 (obs_cons h1 (obs_cons (spec_DepthOf_ok h2) obs_nil)))
   ·obtain rfl := Option.some.inj h
    exact Reach.done ttok mix fk104 (p104_2_4 x3 b1) (obs_cons h0 (obs_cons h1 obs_nil))
theorem c104_e {N : Nat} {rc_spec_IsValidValue : Val → Option (Bool)} (hrc_spec_IsValidValue : ∀ a0 r, rc_spec_IsValidValue a0 = some r → AbC 89 (xAr a0) (xAp r)) {rc_spec_l3List : Val → Option (Bool)} (hrc_spec_l3List : ∀ a0 r, rc_spec_l3List a0 = some r → AbC 104 (xCE a0) (xBF r)) : ∀ a0 r, xFK N rc_spec_IsValidValue rc_spec_l3List a0 = some r → Reach Try.prog Try.f104 I104 [.code I104.body] (zBi 0 (xCE a0)) (xBF r) := by
 intro a0 r h
 unfold xFK at h
 exact Reach.stop ttok mix fk104 (p104_e_5 a0) obs_nil (c104_2 hrc_spec_IsValidValue hrc_spec_l3List  _ _ _ _ h)
theorem xIa {N : Nat} {rc_spec_IsValidValue : Val → Option (Bool)} (hrc_spec_IsValidValue : ∀ a0 r, rc_spec_IsValidValue a0 = some r → AbC 89 (xAr a0) (xAp r)) {rc_spec_l3List : Val → Option (Bool)} (hrc_spec_l3List : ∀ a0 r, rc_spec_l3List a0 = some r → AbC 104 (xCE a0) (xBF r)) {a0 : Val} {r : Bool} (h : xFK N rc_spec_IsValidValue rc_spec_l3List a0 = some r) : AbC 104 (xCE a0) (xBF r) :=
 AbsCalls.of_reach fk104 rfl rfl (Nat.le_of_ble_eq_true rfl) (c104_e hrc_spec_IsValidValue hrc_spec_l3List a0 r h)
theorem xG3 {N : Nat} : ∀ d, (∀ a0 r, (xAE N d).c_spec_IsValidValue a0 = some r → AbC 89 (xAr a0) (xAp r)) ∧ (∀ a0 r, (xAE N d).c_spec_l3List a0 = some r → AbC 104 (xCE a0) (xBF r)) := by
 intro d
 induction d with
 | zero =>
  refine ⟨?_, ?_⟩ <;> (intros; rename_i h; cases h)
 | succ d ih =>
  obtain ⟨ih0, ih1⟩ := ih
  refine ⟨?_, ?_⟩
  ·intro _ r h; exact xGU (N := N) ih0 ih1 h
  ·intro _ r h; exact xIa (N := N) ih0 ih1 h
theorem xFv {N : Nat} {a0 : Val} {r : Bool} (h : xF5 N a0 = some r) : AbC 89 (xAr a0) (xAp r) := (xG3 N).1 _ r h
noncomputable def I27 : Info := { body := (Try.f27.body).getD .skip, nt := 5, results := [.cell 2 31], keep := [0, 4, 5], live := [], modes := [], ext := [], lnt := [], casts := [], fcast := [] }
theorem fk27 : FnOk Try.prog 27 Try.f27 I27 := ⟨Try.func27, by kernel_rfl, by kernel_rfl, by kernel_rfl, by kernel_rfl⟩
theorem p27_e_0 (a0 : Int) : run tt (AbsCalls Try.prog) I27 3000 false [.code I27.body] ⟨(zBi 0 (xBQ a0)), [], [], []⟩ = some (.done (xAQ (Val.mk 6 a0 0 [] [] [] [])) []) := by kernel_rfl
theorem c27_e {N : Nat} : ∀ a0 r, xA8 N a0 = some r → Reach Try.prog Try.f27 I27 [.code I27.body] (zBi 0 (xBQ a0)) (xAQ r) := by
 intro a0 r h
 unfold xA8 at h
 obtain rfl := Option.some.inj h
 exact Reach.done ttok mix fk27 (p27_e_0 a0) obs_nil
theorem xCK {N : Nat} {a0 : Int} {r : Val} (h : xA8 N  a0 = some r) : AbC 27 (xBQ a0) (xAQ r) :=
 AbsCalls.of_reach fk27 rfl rfl (Nat.le_of_ble_eq_true rfl) (c27_e a0 r h)
noncomputable def I63 : Info := { body := (Try.f63.body).getD .skip, nt := 31, results := [.cell 2 31, .tmp 3], keep := [0, 4, 6, 8, 16, 32, 46, 5], live := [(2, [0, 4, 8, 5])], modes := [], ext := [], lnt := [], casts := [], fcast := [] }
theorem fk63 : FnOk Try.prog 63 Try.f63 I63 := ⟨Try.func63, by kernel_rfl, by kernel_rfl, by kernel_rfl, by kernel_rfl⟩
def S63_2 (x0 : List Val) (x4 : Int) (b2 : Val) : St := [(0, .v false [.sl .ro .val x0]), (4, .v false [.ptr 2 0]), (8, .v false [.int .i64 x4]), (5, .v true [.int .i64 (Val.kind b2), .int .i64 (Val.n b2), .int .i64 (Val.step b2), .str (Val.text b2), .sl .own .val (Val.list b2), .sl .own .str (Val.columns b2), .sl .own .row (Val.rows b2)])]
theorem p63_2_0 (x0 : List Val) (x4 : Int) (b2 : Val) (r1 : Bool) (r2 : Val) : run tt (AbsCalls Try.prog) I63 3000 true (stkAt 2 I63.body) ⟨(S63_2 x0 x4 b2), [true, true], [xAp r1, xAQ r2], []⟩ = some (.done (xBi (r2, true)) [(decide ((x4 : Int) < (List.length x0 : Int))) = true, (0 : Int) ≤ x4 ∧ x4 < (List.length x0), AbC 89 (xAr (List.getD x0 (Int.toNat x4) Ty.val.dflt)) (xAp r1), (!r1) = true, AbC 27 (xBQ 4) (xAQ r2)]) := by kernel_rfl
theorem p63_2_1 (x0 : List Val) (x4 : Int) (b2 : Val) (r1 : Bool) (r2 : Val) : run tt (AbsCalls Try.prog) I63 3000 true (stkAt 2 I63.body) ⟨(S63_2 x0 x4 b2), [true, false, true], [xAp r1, xAQ r2], []⟩ = some (.done (xBi (r2, true)) [(decide ((x4 : Int) < (List.length x0 : Int))) = true, (0 : Int) ≤ x4 ∧ x4 < (List.length x0), AbC 89 (xAr (List.getD x0 (Int.toNat x4) Ty.val.dflt)) (xAp r1), (!r1) = false, (0 : Int) ≤ x4 ∧ x4 < (List.length x0), (((Val.kind (List.getD x0 (Int.toNat x4) Ty.val.dflt)) : Int) == 6) = true, (0 : Int) ≤ x4 ∧ x4 < (List.length x0), AbC 27 (xBQ (Val.n (List.getD x0 (Int.toNat x4) Ty.val.dflt))) (xAQ r2)]) := by kernel_rfl
theorem p63_2_2 (x0 : List Val) (x4 : Int) (b2 : Val) (r1 : Bool) : run tt (AbsCalls Try.prog) I63 3000 true (stkAt 2 I63.body) ⟨(S63_2 x0 x4 b2), [true, false, false], [xAp r1], []⟩ = some (.stop (stkAt 2 I63.body) (S63_2 x0 (IntKind.i64.wrap (x4 + 1)) b2) [(decide ((x4 : Int) < (List.length x0 : Int))) = true, (0 : Int) ≤ x4 ∧ x4 < (List.length x0), AbC 89 (xAr (List.getD x0 (Int.toNat x4) Ty.val.dflt)) (xAp r1), (!r1) = false, (0 : Int) ≤ x4 ∧ x4 < (List.length x0), (((Val.kind (List.getD x0 (Int.toNat x4) Ty.val.dflt)) : Int) == 6) = false]) := by kernel_rfl
theorem p63_2_3 (x0 : List Val) (x4 : Int) (b2 : Val) : run tt (AbsCalls Try.prog) I63 3000 true (stkAt 2 I63.body) ⟨(S63_2 x0 x4 b2), [false], [], []⟩ = some (.done (xBi ((Val.mk 0 0 0 [] [] [] []), false)) [(decide ((x4 : Int) < (List.length x0 : Int))) = false]) := by kernel_rfl
theorem p63_e_4 (a0 : List Val) : run tt (AbsCalls Try.prog) I63 3000 false [.code I63.body] ⟨(zBi 0 (xDj a0)), [], [], []⟩ = some (.stop (stkAt 2 I63.body) (S63_2 a0 0 (Val.mk 0 0 0 [] [] [] [])) []) := by kernel_rfl
theorem c63_2 {N : Nat} : ∀ n x0 x4 b2 r, xCM N n x0 x4 b2 = some r → Reach Try.prog Try.f63 I63 (stkAt 2 I63.body) (S63_2 x0 x4 b2) (xBi r) := by
 intro n
 induction n with
 | zero => intro x0 x4 b2 r h; have h' : (none : Option (Val × Bool)) = some r := h; cases h'
 | succ n ih =>
  intro x0 x4 b2 r h
  rw [xCM] at h
  rcases cond_inv h with ⟨h0, h⟩ | ⟨h0, h⟩
  ·obtain ⟨h1, h⟩ := ite_inv h
   obtain ⟨r1, h2, h⟩ := bind_inv h
   rcases cond_inv h with ⟨h3, h⟩ | ⟨h3, h⟩
   ·obtain ⟨r2, h4, h⟩ := bind_inv h
    obtain rfl := Option.some.inj h
    exact Reach.done ttok mix fk63 (p63_2_0 x0 x4 b2 r1 r2) (obs_cons h0 (obs_cons h1 (obs_cons (xFv h2) (obs_cons h3 (obs_cons (xCK h4) obs_nil)))))
   ·rcases cond_inv h with ⟨h5, h⟩ | ⟨h5, h⟩
    ·obtain ⟨r2, h7, h⟩ := bind_inv h
     obtain rfl := Option.some.inj h
     exact Reach.done ttok mix fk63 (p63_2_1 x0 x4 b2 r1 r2) (obs_cons h0 (obs_cons h1 (obs_cons (xFv h2) (obs_cons h3 (obs_cons h1 (obs_cons h5 (obs_cons h1 (obs_cons (xCK h7) obs_nil))))))))
    ·exact Reach.stop ttok mix fk63 (p63_2_2 x0 x4 b2 r1) (obs_cons h0 (obs_cons h1 (obs_cons (xFv h2) (obs_cons h3 (obs_cons h1 (obs_cons h5 obs_nil)))))) (ih _ _ _ _ h)
  ·obtain rfl := Option.some.inj h
   exact Reach.done ttok mix fk63 (p63_2_3 x0 x4 b2) (obs_cons h0 obs_nil)
theorem c63_e {N : Nat} : ∀ a0 r, xGm N a0 = some r → Reach Try.prog Try.f63 I63 [.code I63.body] (zBi 0 (xDj a0)) (xBi r) := by
 intro a0 r h
 unfold xGm at h
 exact Reach.stop ttok mix fk63 (p63_e_4 a0) obs_nil (c63_2   _ _ _ _ _ h)
theorem xFh {N : Nat} {a0 : List Val} {r : Val × Bool} (h : xGm N  a0 = some r) : AbC 63 (xDj a0) (xBi r) :=
 AbsCalls.of_reach fk63 rfl rfl (Nat.le_of_ble_eq_true rfl) (c63_e a0 r h)
noncomputable def I26 : Info := { body := (Try.f26.body).getD .skip, nt := 32, results := [.cell 4 31, .tmp 5], keep := [0, 2, 4, 6, 8, 10, 12, 14, 30, 58, 5, 7, 9, 13], live := [], modes := [(1, [(4, .take, false)]), (2, [(0, .take, false)]), (3, [(0, .take, false)]), (4, [(3, .take, false), (7, .take, false)])], ext := [], lnt := [], casts := [], fcast := [] }
theorem fk26 : FnOk Try.prog 26 Try.f26 I26 := ⟨Try.func26, by kernel_rfl, by kernel_rfl, by kernel_rfl, by kernel_rfl⟩
theorem p26_e_0 (a0 a1 : Val) (r1 : Val × Bool) : run tt (AbsCalls Try.prog) I26 3000 false [.code I26.body] ⟨(zBi 0 (xCc a0 a1)), [true], [xBi r1], []⟩ = some (.done (xBl (r1.1, true)) [AbC 63 (xDj [(Val.re a0), (Val.re a1)]) (xBi r1), r1.2 = true]) := by kernel_rfl
theorem p26_e_1 (a0 a1 : Val) (r1 : Val × Bool) (r2 : Val) : run tt (AbsCalls Try.prog) I26 3000 false [.code I26.body] ⟨(zBi 0 (xCc a0 a1)), [false, true, true], [xBi r1, xAQ r2], []⟩ = some (.done (xBl (r2, true)) [AbC 63 (xDj [(Val.re a0), (Val.re a1)]) (xBi r1), r1.2 = false, (((Val.kind a0) : Int) != 1) = true, true = true, AbC 27 (xBQ 4) (xAQ r2)]) := by kernel_rfl
theorem p26_e_2 (a0 a1 : Val) (r1 : Val × Bool) (r2 : Val) : run tt (AbsCalls Try.prog) I26 3000 false [.code I26.body] ⟨(zBi 0 (xCc a0 a1)), [false, false, true, true], [xBi r1, xAQ r2], []⟩ = some (.done (xBl (r2, true)) [AbC 63 (xDj [(Val.re a0), (Val.re a1)]) (xBi r1), r1.2 = false, (((Val.kind a0) : Int) != 1) = false, (((Val.kind a1) : Int) != 3) = true, (((Val.kind a1) : Int) != 4) = true, AbC 27 (xBQ 4) (xAQ r2)]) := by kernel_rfl
theorem p26_e_3 (a0 a1 : Val) (r1 : Val × Bool) : run tt (AbsCalls Try.prog) I26 3000 false [.code I26.body] ⟨(zBi 0 (xCc a0 a1)), [false, false, true, false], [xBi r1], []⟩ = some (.done (xBl ((Val.mk 0 0 0 [] [] [] []), false)) [AbC 63 (xDj [(Val.re a0), (Val.re a1)]) (xBi r1), r1.2 = false, (((Val.kind a0) : Int) != 1) = false, (((Val.kind a1) : Int) != 3) = true, (((Val.kind a1) : Int) != 4) = false]) := by kernel_rfl
theorem p26_e_4 (a0 a1 : Val) (r1 : Val × Bool) : run tt (AbsCalls Try.prog) I26 3000 false [.code I26.body] ⟨(zBi 0 (xCc a0 a1)), [false, false, false, false], [xBi r1], []⟩ = some (.done (xBl ((Val.mk 0 0 0 [] [] [] []), false)) [AbC 63 (xDj [(Val.re a0), (Val.re a1)]) (xBi r1), r1.2 = false, (((Val.kind a0) : Int) != 1) = false, (((Val.kind a1) : Int) != 3) = false, false = false]) := by kernel_rfl
theorem c26_e {N : Nat} : ∀ a0 a1 r, xF8 N a0 a1 = some r → Reach Try.prog Try.f26 I26 [.code I26.body] (zBi 0 (xCc a0 a1)) (xBl r) := by
 intro a0 a1 r h
 unfold xF8 at h
 obtain ⟨r1, h0, h⟩ := bind_inv h
 rcases cond_inv h with ⟨h1, h⟩ | ⟨h1, h⟩
 ·obtain rfl := Option.some.inj h
  exact Reach.done ttok mix fk26 (p26_e_0 a0 a1 r1) (obs_cons (xFh h0) (obs_cons h1 obs_nil))
 ·rcases cond_inv h with ⟨h2, h⟩ | ⟨h2, h⟩
  ·obtain ⟨r2, h4, h⟩ := bind_inv h
   obtain rfl := Option.some.inj h
   exact Reach.done ttok mix fk26 (p26_e_1 a0 a1 r1 r2) (obs_cons (xFh h0) (obs_cons h1 (obs_cons h2 (obs_cons rfl (obs_cons (xCK h4) obs_nil)))))
  ·rcases cond_inv h with ⟨h3, h⟩ | ⟨h3, h⟩
   ·rcases cond_inv h with ⟨h4, h⟩ | ⟨h4, h⟩
    ·obtain ⟨r2, h5, h⟩ := bind_inv h
     obtain rfl := Option.some.inj h
     exact Reach.done ttok mix fk26 (p26_e_2 a0 a1 r1 r2) (obs_cons (xFh h0) (obs_cons h1 (obs_cons h2 (obs_cons h3 (obs_cons h4 (obs_cons (xCK h5) obs_nil))))))
    ·obtain rfl := Option.some.inj h
     exact Reach.done ttok mix fk26 (p26_e_3 a0 a1 r1) (obs_cons (xFh h0) (obs_cons h1 (obs_cons h2 (obs_cons h3 (obs_cons h4 obs_nil)))))
   ·obtain rfl := Option.some.inj h
    exact Reach.done ttok mix fk26 (p26_e_4 a0 a1 r1) (obs_cons (xFh h0) (obs_cons h1 (obs_cons h2 (obs_cons h3 (obs_cons rfl obs_nil)))))
theorem xFG {N : Nat} {a0 : Val} {a1 : Val} {r : Val × Bool} (h : xF8 N  a0 a1 = some r) : AbC 26 (xCc a0 a1) (xBl r) :=
 AbsCalls.of_reach fk26 rfl rfl (Nat.le_of_ble_eq_true rfl) (c26_e a0 a1 r h)
noncomputable def I74 : Info := { body := (Try.f74.body).getD .skip, nt := 12, results := [.cell 2 62], keep := [0, 2, 4, 3, 5], live := [], modes := [], ext := [], lnt := [], casts := [], fcast := [] }
theorem fk74 : FnOk Try.prog 74 Try.f74 I74 := ⟨Try.func74, by kernel_rfl, by kernel_rfl, by kernel_rfl, by kernel_rfl⟩
theorem p74_e_0 (a0 : Rowd) : run tt (AbsCalls Try.prog) I74 3000 false [.code I74.body] ⟨(zBi 0 (xGt a0)), [], [], []⟩ = some (.done (xFV (Rowd.mk ([] ++ (Rowd.cells a0)) ([] ++ (Rowd.frm a0)))) [0 + List.length (Rowd.cells a0) ≤ Lim, 0 + List.length (Rowd.frm a0) ≤ Lim]) := by kernel_rfl
theorem c74_e {N : Nat} : ∀ a0 r, xGy N a0 = some r → Reach Try.prog Try.f74 I74 [.code I74.body] (zBi 0 (xGt a0)) (xFV r) := by
 intro a0 r h
 unfold xGy at h
 obtain ⟨h0, h⟩ := ite_inv h
 obtain ⟨h1, h⟩ := ite_inv h
 obtain rfl := Option.some.inj h
 exact Reach.done ttok mix fk74 (p74_e_0 a0) (obs_cons h0 (obs_cons h1 obs_nil))
theorem spec_l3Row_ok {N : Nat} {a0 : Rowd} {r : Rowd} (h : xGy N  a0 = some r) : AbC 74 (xGt a0) (xFV r) :=
 AbsCalls.of_reach fk74 rfl rfl (Nat.le_of_ble_eq_true rfl) (c74_e a0 r h)
noncomputable def I28 : Info := { body := (Try.f28.body).getD .skip, nt := 56, results := [.cell 2 31], keep := [0, 2, 4, 6, 8, 10, 46, 82, 3, 5, 7], live := [(3, [2, 4, 6, 8, 3, 5, 7]), (7, [2, 4, 6, 10, 3, 5, 7])], modes := [(5, [(1, .take, false), (9, .take, false)]), (9, [(1, .take, false), (9, .take, false)]), (10, [(0, .take, false)])], ext := [], lnt := [], casts := [], fcast := [] }
theorem fk28 : FnOk Try.prog 28 Try.f28 I28 := ⟨Try.func28, by kernel_rfl, by kernel_rfl, by kernel_rfl, by kernel_rfl⟩
def S28_3 (x4 : Int) (b1 b2 b3 : Val) : St := [(2, .v false [.ptr 1 0]), (4, .v false [.ptr 2 0]), (6, .v false [.ptr 3 0]), (8, .v false [.int .i64 x4]), (3, .v true [.int .i64 (Val.kind b1), .int .i64 (Val.n b1), .int .i64 (Val.step b1), .str (Val.text b1), .sl .ro .val (Val.list b1), .sl .ro .str (Val.columns b1), .sl .ro .row (Val.rows b1)]), (5, .v true [.int .i64 (Val.kind b2), .int .i64 (Val.n b2), .int .i64 (Val.step b2), .str (Val.text b2), .sl .own .val (Val.list b2), .sl .own .str (Val.columns b2), .sl .own .row (Val.rows b2)]), (7, .v true [.int .i64 (Val.kind b3), .int .i64 (Val.n b3), .int .i64 (Val.step b3), .str (Val.text b3), .sl .own .val (Val.list b3), .sl .own .str (Val.columns b3), .sl .own .row (Val.rows b3)])]
def S28_7 (x5 : Int) (b1 b2 b3 : Val) : St := [(2, .v false [.ptr 1 0]), (4, .v false [.ptr 2 0]), (6, .v false [.ptr 3 0]), (10, .v false [.int .i64 x5]), (3, .v true [.int .i64 (Val.kind b1), .int .i64 (Val.n b1), .int .i64 (Val.step b1), .str (Val.text b1), .sl .ro .val (Val.list b1), .sl .ro .str (Val.columns b1), .sl .ro .row (Val.rows b1)]), (5, .v true [.int .i64 (Val.kind b2), .int .i64 (Val.n b2), .int .i64 (Val.step b2), .str (Val.text b2), .sl .own .val (Val.list b2), .sl .own .str (Val.columns b2), .sl .own .row (Val.rows b2)]), (7, .v true [.int .i64 (Val.kind b3), .int .i64 (Val.n b3), .int .i64 (Val.step b3), .str (Val.text b3), .sl .own .val (Val.list b3), .sl .own .str (Val.columns b3), .sl .own .row (Val.rows b3)])]
theorem p28_7_0 (x5 : Int) (b1 b2 b3 : Val) (r1 : Rowd) : run tt (AbsCalls Try.prog) I28 3000 true (stkAt 7 I28.body) ⟨(S28_7 x5 b1 b2 b3), [true], [xFV r1], []⟩ = some (.stop (stkAt 7 I28.body) (S28_7 (IntKind.i64.wrap (x5 + 1)) b1 b2 (Val.mk (Val.kind b3) (Val.n b3) (Val.step b3) (Val.text b3) (Val.list b3) (Val.columns b3) ((Val.rows b3) ++ [r1]))) [(decide ((x5 : Int) < (List.length (Val.rows b1) : Int))) = true, (0 : Int) ≤ x5 ∧ x5 < (List.length (Val.rows b1)), AbC 74 (xGt (List.getD (Val.rows b1) (Int.toNat x5) Ty.row.dflt)) (xFV r1), List.length (Val.rows b3) + List.length [r1] ≤ Lim]) := by kernel_rfl
theorem p28_7_1 (x5 : Int) (b1 b2 b3 : Val) : run tt (AbsCalls Try.prog) I28 3000 true (stkAt 7 I28.body) ⟨(S28_7 x5 b1 b2 b3), [false], [], []⟩ = some (.done (xBE b3) [(decide ((x5 : Int) < (List.length (Val.rows b1) : Int))) = false]) := by kernel_rfl
theorem p28_3_2 (x4 : Int) (b1 b2 b3 r1 : Val) : run tt (AbsCalls Try.prog) I28 3000 true (stkAt 3 I28.body) ⟨(S28_3 x4 b1 b2 b3), [true], [xBE r1], []⟩ = some (.stop (stkAt 3 I28.body) (S28_3 (IntKind.i64.wrap (x4 + 1)) b1 b2 (Val.mk (Val.kind b3) (Val.n b3) (Val.step b3) (Val.text b3) ((Val.list b3) ++ [(Val.re r1)]) (Val.columns b3) (Val.rows b3))) [(decide ((x4 : Int) < (List.length (Val.list b1) : Int))) = true, (0 : Int) ≤ x4 ∧ x4 < (List.length (Val.list b1)), AbC 28 (xCj (List.getD (Val.list b1) (Int.toNat x4) Ty.val.dflt)) (xBE r1), List.length (Val.list b3) + List.length [(Val.re r1)] ≤ Lim]) := by kernel_rfl
theorem p28_3_3 (x4 : Int) (b1 b2 b3 : Val) : run tt (AbsCalls Try.prog) I28 3000 true (stkAt 3 I28.body) ⟨(S28_3 x4 b1 b2 b3), [false], [], []⟩ = some (.stop (stkAt 7 I28.body) (S28_7 0 b1 b2 b3) [(decide ((x4 : Int) < (List.length (Val.list b1) : Int))) = false]) := by kernel_rfl
theorem p28_e_4 (a0 : Val) : run tt (AbsCalls Try.prog) I28 3000 false [.code I28.body] ⟨(zBi 0 (xCj a0)), [], [], []⟩ = some (.stop (stkAt 3 I28.body) (S28_3 0 a0 (Val.mk 0 0 0 [] [] [] []) (Val.mk (Val.kind a0) (Val.n a0) (Val.step a0) (Val.text a0) [] ([] ++ (Val.columns a0)) [])) [0 + List.length (Val.columns a0) ≤ Lim]) := by kernel_rfl
theorem c28_7 {N : Nat} {rc_spec_l3Copy : Val → Option (Val)} (hrc_spec_l3Copy : ∀ a0 r, rc_spec_l3Copy a0 = some r → AbC 28 (xCj a0) (xBE r)) : ∀ n x5 b1 b2 b3 r, xDF N rc_spec_l3Copy n x5 b1 b2 b3 = some r → Reach Try.prog Try.f28 I28 (stkAt 7 I28.body) (S28_7 x5 b1 b2 b3) (xBE r) := by
 intro n
 induction n with
 | zero => intro x5 b1 b2 b3 r h; have h' : (none : Option (Val)) = some r := h; cases h'
 | succ n ih =>
  intro x5 b1 b2 b3 r h
  rw [xDF] at h
  rcases cond_inv h with ⟨h0, h⟩ | ⟨h0, h⟩
  ·obtain ⟨h1, h⟩ := ite_inv h
   obtain ⟨r1, h2, h⟩ := bind_inv h
   obtain ⟨h3, h⟩ := ite_inv h
   exact Reach.stop ttok mix fk28 (p28_7_0 x5 b1 b2 b3 r1) (obs_cons h0 (obs_cons h1 (obs_cons (spec_l3Row_ok h2) (obs_cons h3 obs_nil)))) (ih _ _ _ _ _ h)
  ·obtain rfl := Option.some.inj h
   exact Reach.done ttok mix fk28 (p28_7_1 x5 b1 b2 b3) (obs_cons h0 obs_nil)
theorem c28_3 {N : Nat} {rc_spec_l3Copy : Val → Option (Val)} (hrc_spec_l3Copy : ∀ a0 r, rc_spec_l3Copy a0 = some r → AbC 28 (xCj a0) (xBE r)) : ∀ n x4 b1 b2 b3 r, xEh N rc_spec_l3Copy n x4 b1 b2 b3 = some r → Reach Try.prog Try.f28 I28 (stkAt 3 I28.body) (S28_3 x4 b1 b2 b3) (xBE r) := by
 intro n
 induction n with
 | zero => intro x4 b1 b2 b3 r h; have h' : (none : Option (Val)) = some r := h; cases h'
 | succ n ih =>
  intro x4 b1 b2 b3 r h
  rw [xEh] at h
  rcases cond_inv h with ⟨h0, h⟩ | ⟨h0, h⟩
  ·obtain ⟨h1, h⟩ := ite_inv h
   obtain ⟨r1, h2, h⟩ := bind_inv h
   obtain ⟨h3, h⟩ := ite_inv h
   exact Reach.stop ttok mix fk28 (p28_3_2 x4 b1 b2 b3 r1) (obs_cons h0 (obs_cons h1 (obs_cons (hrc_spec_l3Copy _ _ h2) (obs_cons h3 obs_nil)))) (ih _ _ _ _ _ h)
  ·exact Reach.stop ttok mix fk28 (p28_3_3 x4 b1 b2 b3) (obs_cons h0 obs_nil) (c28_7 hrc_spec_l3Copy  _ _ _ _ _ _ h)
theorem c28_e {N : Nat} {rc_spec_l3Copy : Val → Option (Val)} (hrc_spec_l3Copy : ∀ a0 r, rc_spec_l3Copy a0 = some r → AbC 28 (xCj a0) (xBE r)) : ∀ a0 r, xD3 N rc_spec_l3Copy a0 = some r → Reach Try.prog Try.f28 I28 [.code I28.body] (zBi 0 (xCj a0)) (xBE r) := by
 intro a0 r h
 unfold xD3 at h
 obtain ⟨h0, h⟩ := ite_inv h
 exact Reach.stop ttok mix fk28 (p28_e_4 a0) (obs_cons h0 obs_nil) (c28_3 hrc_spec_l3Copy  _ _ _ _ _ _ h)
theorem xH9 {N : Nat} {rc_spec_l3Copy : Val → Option (Val)} (hrc_spec_l3Copy : ∀ a0 r, rc_spec_l3Copy a0 = some r → AbC 28 (xCj a0) (xBE r)) {a0 : Val} {r : Val} (h : xD3 N rc_spec_l3Copy a0 = some r) : AbC 28 (xCj a0) (xBE r) :=
 AbsCalls.of_reach fk28 rfl rfl (Nat.le_of_ble_eq_true rfl) (c28_e hrc_spec_l3Copy a0 r h)
theorem spec_l3Copy_fix_ok {N : Nat} : ∀ d, (∀ a0 r, xDX N d a0 = some r → AbC 28 (xCj a0) (xBE r)) := by
 intro d
 induction d with
 | zero => intro _ r h; have h' : (none : Option (Val)) = some r := h; cases h'
 | succ d ih => intro _ r h; exact xH9 (N := N) ih h
theorem spec_l3Copy_ok {N : Nat} {a0 : Val} {r : Val} (h : xH8 N a0 = some r) : AbC 28 (xCj a0) (xBE r) := spec_l3Copy_fix_ok N _ r h
noncomputable def I55 : Info := { body := (Try.f55.body).getD .skip, nt := 5, results := [.cell 2 31], keep := [0, 4, 5], live := [], modes := [], ext := [], lnt := [], casts := [], fcast := [] }
theorem fk55 : FnOk Try.prog 55 Try.f55 I55 := ⟨Try.func55, by kernel_rfl, by kernel_rfl, by kernel_rfl, by kernel_rfl⟩
theorem p55_e_0 (a0 : Int) : run tt (AbsCalls Try.prog) I55 3000 false [.code I55.body] ⟨(zBi 0 (xEI a0)), [], [], []⟩ = some (.done (xDV (Val.mk 1 a0 0 [] [] [] [])) []) := by kernel_rfl
theorem c55_e {N : Nat} : ∀ a0 r, xEU N a0 = some r → Reach Try.prog Try.f55 I55 [.code I55.body] (zBi 0 (xEI a0)) (xDV r) := by
 intro a0 r h
 unfold xEU at h
 obtain rfl := Option.some.inj h
 exact Reach.done ttok mix fk55 (p55_e_0 a0) obs_nil
theorem xH6 {N : Nat} {a0 : Int} {r : Val} (h : xEU N  a0 = some r) : AbC 55 (xEI a0) (xDV r) :=
 AbsCalls.of_reach fk55 rfl rfl (Nat.le_of_ble_eq_true rfl) (c55_e a0 r h)
noncomputable def I29 : Info := { body := (Try.f29.body).getD .skip, nt := 9, results := [.cell 2 31], keep := [0, 4, 10, 5], live := [], modes := [], ext := [], lnt := [], casts := [], fcast := [] }
theorem fk29 : FnOk Try.prog 29 Try.f29 I29 := ⟨Try.func29, by kernel_rfl, by kernel_rfl, by kernel_rfl, by kernel_rfl⟩
theorem p29_e_0 (a0 : Int) (r1 : Bool) (r2 : Val) : run tt (AbsCalls Try.prog) I29 3000 false [.code I29.body] ⟨(zBi 0 (xDh a0)), [true], [xAV r1, xAQ r2], []⟩ = some (.done (xCy r2) [AbC 49 (xB1 a0) (xAV r1), (!r1) = true, AbC 27 (xBQ 5) (xAQ r2)]) := by kernel_rfl
theorem p29_e_1 (a0 : Int) (r1 : Bool) (r2 : Val) : run tt (AbsCalls Try.prog) I29 3000 false [.code I29.body] ⟨(zBi 0 (xDh a0)), [false], [xAV r1, xDV r2], []⟩ = some (.done (xCy r2) [AbC 49 (xB1 a0) (xAV r1), (!r1) = false, AbC 55 (xEI a0) (xDV r2)]) := by kernel_rfl
theorem c29_e {N : Nat} : ∀ a0 r, xDp N a0 = some r → Reach Try.prog Try.f29 I29 [.code I29.body] (zBi 0 (xDh a0)) (xCy r) := by
 intro a0 r h
 unfold xDp at h
 obtain ⟨r1, h0, h⟩ := bind_inv h
 rcases cond_inv h with ⟨h1, h⟩ | ⟨h1, h⟩
 ·obtain ⟨r2, h2, h⟩ := bind_inv h
  obtain rfl := Option.some.inj h
  exact Reach.done ttok mix fk29 (p29_e_0 a0 r1 r2) (obs_cons (xCU h0) (obs_cons h1 (obs_cons (xCK h2) obs_nil)))
 ·obtain ⟨r2, h2, h⟩ := bind_inv h
  obtain rfl := Option.some.inj h
  exact Reach.done ttok mix fk29 (p29_e_1 a0 r1 r2) (obs_cons (xCU h0) (obs_cons h1 (obs_cons (xH6 h2) obs_nil)))
theorem xHy {N : Nat} {a0 : Int} {r : Val} (h : xDp N  a0 = some r) : AbC 29 (xDh a0) (xCy r) :=
 AbsCalls.of_reach fk29 rfl rfl (Nat.le_of_ble_eq_true rfl) (c29_e a0 r h)
noncomputable def I9 : Info := { body := (Try.f9.body).getD .skip, nt := 51, results := [.cell 4 31], keep := [0, 2, 4, 6, 8, 10, 12, 26, 60, 68, 5, 7, 9, 11], live := [], modes := [(1, [(3, .take, false)]), (2, [(0, .take, false)]), (3, [(0, .take, false)]), (4, [(3, .take, false), (7, .take, false)])], ext := [], lnt := [], casts := [], fcast := [] }
theorem fk9 : FnOk Try.prog 9 Try.f9 I9 := ⟨Try.func9, by kernel_rfl, by kernel_rfl, by kernel_rfl, by kernel_rfl⟩
theorem p9_e_0 (a0 a1 : Val) (r1 : Val × Bool) : run tt (AbsCalls Try.prog) I9 3000 false [.code I9.body] ⟨(zBi 0 (xAG a0 a1)), [true], [xBl r1], []⟩ = some (.done (xAq r1.1) [AbC 26 (xCc a0 a1) (xBl r1), r1.2 = true]) := by kernel_rfl
theorem p9_e_1 (a0 a1 : Val) (r1 : Val × Bool) (r2 : Val) : run tt (AbsCalls Try.prog) I9 3000 false [.code I9.body] ⟨(zBi 0 (xAG a0 a1)), [false, true, true], [xBl r1, xAQ r2], []⟩ = some (.done (xAq r2) [AbC 26 (xCc a0 a1) (xBl r1), r1.2 = false, (decide (((Val.n a0) : Int) < 0)) = true, true = true, AbC 27 (xBQ 5) (xAQ r2)]) := by kernel_rfl
theorem p9_e_2 (a0 a1 : Val) (r1 : Val × Bool) (r2 : Val) : run tt (AbsCalls Try.prog) I9 3000 false [.code I9.body] ⟨(zBi 0 (xAG a0 a1)), [false, false, true, true], [xBl r1, xAQ r2], []⟩ = some (.done (xAq r2) [AbC 26 (xCc a0 a1) (xBl r1), r1.2 = false, (decide (((Val.n a0) : Int) < 0)) = false, (((Val.kind a1) : Int) == 3) = true, (decide (((Val.n a0) : Int) ≥ (List.length (Val.list a1) : Int))) = true, AbC 27 (xBQ 5) (xAQ r2)]) := by kernel_rfl
theorem p9_e_3 (a0 a1 : Val) (r1 : Val × Bool) (r2 : Val) : run tt (AbsCalls Try.prog) I9 3000 false [.code I9.body] ⟨(zBi 0 (xAG a0 a1)), [false, false, true, false, true], [xBl r1, xBE r2], []⟩ = some (.done (xAq r2) [AbC 26 (xCc a0 a1) (xBl r1), r1.2 = false, (decide (((Val.n a0) : Int) < 0)) = false, (((Val.kind a1) : Int) == 3) = true, (decide (((Val.n a0) : Int) ≥ (List.length (Val.list a1) : Int))) = false, (((Val.kind a1) : Int) == 3) = true, (0 : Int) ≤ (Val.n a0) ∧ (Val.n a0) < (List.length (Val.list a1)), AbC 28 (xCj (List.getD (Val.list a1) (Int.toNat (Val.n a0)) Ty.val.dflt)) (xBE r2)]) := by kernel_rfl
theorem p9_e_4 (a0 a1 : Val) (r1 : Val × Bool) (r2 : Val) : run tt (AbsCalls Try.prog) I9 3000 false [.code I9.body] ⟨(zBi 0 (xAG a0 a1)), [false, false, false, false, false], [xBl r1, xCy r2], []⟩ = some (.done (xAq r2) [AbC 26 (xCc a0 a1) (xBl r1), r1.2 = false, (decide (((Val.n a0) : Int) < 0)) = false, (((Val.kind a1) : Int) == 3) = false, false = false, (((Val.kind a1) : Int) == 3) = false, AbC 29 (xDh (IntKind.i64.wrap ((Val.n a1) + (IntKind.i64.wrap ((Val.n a0) * (Val.step a1)))))) (xCy r2)]) := by kernel_rfl
theorem c9_e {N : Nat} : ∀ a0 a1 r, xEt N a0 a1 = some r → Reach Try.prog Try.f9 I9 [.code I9.body] (zBi 0 (xAG a0 a1)) (xAq r) := by
 intro a0 a1 r h
 unfold xEt at h
 obtain ⟨r1, h0, h⟩ := bind_inv h
 rcases cond_inv h with ⟨h1, h⟩ | ⟨h1, h⟩
 ·obtain rfl := Option.some.inj h
  exact Reach.done ttok mix fk9 (p9_e_0 a0 a1 r1) (obs_cons (xFG h0) (obs_cons h1 obs_nil))
 ·rcases cond_inv h with ⟨h2, h⟩ | ⟨h2, h⟩
  ·obtain ⟨r2, h4, h⟩ := bind_inv h
   obtain rfl := Option.some.inj h
   exact Reach.done ttok mix fk9 (p9_e_1 a0 a1 r1 r2) (obs_cons (xFG h0) (obs_cons h1 (obs_cons h2 (obs_cons rfl (obs_cons (xCK h4) obs_nil)))))
  ·rcases cond_inv h with ⟨h3, h⟩ | ⟨h3, h⟩
   ·rcases cond_inv h with ⟨h4, h⟩ | ⟨h4, h⟩
    ·obtain ⟨r2, h5, h⟩ := bind_inv h
     obtain rfl := Option.some.inj h
     exact Reach.done ttok mix fk9 (p9_e_2 a0 a1 r1 r2) (obs_cons (xFG h0) (obs_cons h1 (obs_cons h2 (obs_cons h3 (obs_cons h4 (obs_cons (xCK h5) obs_nil))))))
    ·obtain ⟨h6, h⟩ := ite_inv h
     obtain ⟨r2, h7, h⟩ := bind_inv h
     obtain rfl := Option.some.inj h
     exact Reach.done ttok mix fk9 (p9_e_3 a0 a1 r1 r2) (obs_cons (xFG h0) (obs_cons h1 (obs_cons h2 (obs_cons h3 (obs_cons h4 (obs_cons h3 (obs_cons h6 (obs_cons (spec_l3Copy_ok h7) obs_nil))))))))
   ·obtain ⟨r2, h6, h⟩ := bind_inv h
    obtain rfl := Option.some.inj h
    exact Reach.done ttok mix fk9 (p9_e_4 a0 a1 r1 r2) (obs_cons (xFG h0) (obs_cons h1 (obs_cons h2 (obs_cons h3 (obs_cons rfl (obs_cons h3 (obs_cons (xHy h6) obs_nil)))))))
theorem xAJ {N : Nat} {a0 : Val} {a1 : Val} {r : Val} (h : xEt N  a0 a1 = some r) : AbC 9 (xAG a0 a1) (xAq r) :=
 AbsCalls.of_reach fk9 rfl rfl (Nat.le_of_ble_eq_true rfl) (c9_e a0 a1 r h)
noncomputable def I56 : Info := { body := (Try.f56.body).getD .skip, nt := 15, results := [.tmp 6], keep := [0, 2, 4, 12], live := [], modes := [(1, [(3, .take, false)])], ext := [], lnt := [], casts := [], fcast := [] }
theorem fk56 : FnOk Try.prog 56 Try.f56 I56 := ⟨Try.func56, by kernel_rfl, by kernel_rfl, by kernel_rfl, by kernel_rfl⟩
theorem p56_e_0 (a0 a1 a2 : Int) : run tt (AbsCalls Try.prog) I56 3000 false [.code I56.body] ⟨(zBi 0 (xDa a0 a1 a2)), [true], [], []⟩ = some (.done (xBO (decide ((a0 : Int) ≤ a2))) [(decide ((a1 : Int) ≤ a0)) = true]) := by kernel_rfl
theorem p56_e_1 (a0 a1 a2 : Int) : run tt (AbsCalls Try.prog) I56 3000 false [.code I56.body] ⟨(zBi 0 (xDa a0 a1 a2)), [false], [], []⟩ = some (.done (xBO false) [(decide ((a1 : Int) ≤ a0)) = false]) := by kernel_rfl
theorem c56_e {N : Nat} : ∀ a0 a1 a2 r, xEB N a0 a1 a2 = some r → Reach Try.prog Try.f56 I56 [.code I56.body] (zBi 0 (xDa a0 a1 a2)) (xBO r) := by
 intro a0 a1 a2 r h
 unfold xEB at h
 rcases cond_inv h with ⟨h0, h⟩ | ⟨h0, h⟩
 ·obtain rfl := Option.some.inj h
  exact Reach.done ttok mix fk56 (p56_e_0 a0 a1 a2) (obs_cons h0 obs_nil)
 ·obtain rfl := Option.some.inj h
  exact Reach.done ttok mix fk56 (p56_e_1 a0 a1 a2) (obs_cons h0 obs_nil)
theorem xFy {N : Nat} {a0 : Int} {a1 : Int} {a2 : Int} {r : Bool} (h : xEB N  a0 a1 a2 = some r) : AbC 56 (xDa a0 a1 a2) (xBO r) :=
 AbsCalls.of_reach fk56 rfl rfl (Nat.le_of_ble_eq_true rfl) (c56_e a0 a1 a2 r h)
noncomputable def I53 : Info := { body := (Try.f53.body).getD .skip, nt := 5, results := [.tmp 2], keep := [0, 4], live := [], modes := [], ext := [], lnt := [], casts := [], fcast := [] }
theorem fk53 : FnOk Try.prog 53 Try.f53 I53 := ⟨Try.func53, by kernel_rfl, by kernel_rfl, by kernel_rfl, by kernel_rfl⟩
theorem p53_e_0 (a0 : Int) (r1 : Bool) : run tt (AbsCalls Try.prog) I53 3000 false [.code I53.body] ⟨(zBi 0 (xBY a0)), [], [xBO r1], []⟩ = some (.done (xAU r1) [AbC 56 (xDa a0 (-1000000000) 1000000000) (xBO r1)]) := by kernel_rfl
theorem c53_e {N : Nat} : ∀ a0 r, xC9 N a0 = some r → Reach Try.prog Try.f53 I53 [.code I53.body] (zBi 0 (xBY a0)) (xAU r) := by
 intro a0 r h
 unfold xC9 at h
 obtain ⟨r1, h0, h⟩ := bind_inv h
 obtain rfl := Option.some.inj h
 exact Reach.done ttok mix fk53 (p53_e_0 a0 r1) (obs_cons (xFy h0) obs_nil)
theorem xCQ {N : Nat} {a0 : Int} {r : Bool} (h : xC9 N  a0 = some r) : AbC 53 (xBY a0) (xAU r) :=
 AbsCalls.of_reach fk53 rfl rfl (Nat.le_of_ble_eq_true rfl) (c53_e a0 r h)
noncomputable def I109 : Info := { body := (Try.f109.body).getD .skip, nt := 29, results := [.tmp 2], keep := [0, 4, 6, 14, 50], live := [(2, [0, 6])], modes := [(4, [(4, .take, false), (10, .take, false)])], ext := [], lnt := [], casts := [], fcast := [] }
theorem fk109 : FnOk Try.prog 109 Try.f109 I109 := ⟨Try.func109, by kernel_rfl, by kernel_rfl, by kernel_rfl, by kernel_rfl⟩
def S109_2 (x0 : Str) (x3 : Int) : St := [(0, .v false [.str x0]), (6, .v false [.int .i64 x3])]
theorem p109_2_0 (x0 : Str) (x3 : Int) : run tt (AbsCalls Try.prog) I109 3000 true (stkAt 2 I109.body) ⟨(S109_2 x0 x3), [true, true, true, true], [], []⟩ = some (.done (xBS false) [(decide ((x3 : Int) < (List.length x0 : Int))) = true, (0 : Int) ≤ x3 ∧ x3 < (List.length x0), (decide ((((List.getD x0 (Int.toNat x3) 0).toNat : Int) : Int) < 32)) = true, true = true, true = true]) := by kernel_rfl
theorem p109_2_1 (x0 : Str) (x3 : Int) : run tt (AbsCalls Try.prog) I109 3000 true (stkAt 2 I109.body) ⟨(S109_2 x0 x3), [true, false, true, true], [], []⟩ = some (.done (xBS false) [(decide ((x3 : Int) < (List.length x0 : Int))) = true, (0 : Int) ≤ x3 ∧ x3 < (List.length x0), (decide ((((List.getD x0 (Int.toNat x3) 0).toNat : Int) : Int) < 32)) = false, (0 : Int) ≤ x3 ∧ x3 < (List.length x0), (decide ((((List.getD x0 (Int.toNat x3) 0).toNat : Int) : Int) > 126)) = true, true = true]) := by kernel_rfl
theorem p109_2_2 (x0 : Str) (x3 : Int) : run tt (AbsCalls Try.prog) I109 3000 true (stkAt 2 I109.body) ⟨(S109_2 x0 x3), [true, false, false, true], [], []⟩ = some (.done (xBS false) [(decide ((x3 : Int) < (List.length x0 : Int))) = true, (0 : Int) ≤ x3 ∧ x3 < (List.length x0), (decide ((((List.getD x0 (Int.toNat x3) 0).toNat : Int) : Int) < 32)) = false, (0 : Int) ≤ x3 ∧ x3 < (List.length x0), (decide ((((List.getD x0 (Int.toNat x3) 0).toNat : Int) : Int) > 126)) = false, (0 : Int) ≤ x3 ∧ x3 < (List.length x0), ((((List.getD x0 (Int.toNat x3) 0).toNat : Int) : Int) == 34) = true]) := by kernel_rfl
theorem p109_2_3 (x0 : Str) (x3 : Int) : run tt (AbsCalls Try.prog) I109 3000 true (stkAt 2 I109.body) ⟨(S109_2 x0 x3), [true, false, false, false], [], []⟩ = some (.stop (stkAt 2 I109.body) (S109_2 x0 (IntKind.i64.wrap (x3 + 1))) [(decide ((x3 : Int) < (List.length x0 : Int))) = true, (0 : Int) ≤ x3 ∧ x3 < (List.length x0), (decide ((((List.getD x0 (Int.toNat x3) 0).toNat : Int) : Int) < 32)) = false, (0 : Int) ≤ x3 ∧ x3 < (List.length x0), (decide ((((List.getD x0 (Int.toNat x3) 0).toNat : Int) : Int) > 126)) = false, (0 : Int) ≤ x3 ∧ x3 < (List.length x0), ((((List.getD x0 (Int.toNat x3) 0).toNat : Int) : Int) == 34) = false]) := by kernel_rfl
theorem p109_2_4 (x0 : Str) (x3 : Int) : run tt (AbsCalls Try.prog) I109 3000 true (stkAt 2 I109.body) ⟨(S109_2 x0 x3), [false], [], []⟩ = some (.done (xBS (decide (((List.length x0 : Int) : Int) ≤ 20))) [(decide ((x3 : Int) < (List.length x0 : Int))) = false]) := by kernel_rfl
theorem p109_e_5 (a0 : Str) : run tt (AbsCalls Try.prog) I109 3000 false [.code I109.body] ⟨(zBi 0 (xEz a0)), [], [], []⟩ = some (.stop (stkAt 2 I109.body) (S109_2 a0 0) []) := by kernel_rfl
theorem c109_2 {N : Nat} : ∀ n x0 x3 r, xCZ N n x0 x3 = some r → Reach Try.prog Try.f109 I109 (stkAt 2 I109.body) (S109_2 x0 x3) (xBS r) := by
 intro n
 induction n with
 | zero => intro x0 x3 r h; have h' : (none : Option (Bool)) = some r := h; cases h'
 | succ n ih =>
  intro x0 x3 r h
  rw [xCZ] at h
  rcases cond_inv h with ⟨h0, h⟩ | ⟨h0, h⟩
  ·obtain ⟨h1, h⟩ := ite_inv h
   rcases cond_inv h with ⟨h2, h⟩ | ⟨h2, h⟩
   ·obtain rfl := Option.some.inj h
    exact Reach.done ttok mix fk109 (p109_2_0 x0 x3) (obs_cons h0 (obs_cons h1 (obs_cons h2 (obs_cons rfl (obs_cons rfl obs_nil)))))
   ·rcases cond_inv h with ⟨h4, h⟩ | ⟨h4, h⟩
    ·obtain rfl := Option.some.inj h
     exact Reach.done ttok mix fk109 (p109_2_1 x0 x3) (obs_cons h0 (obs_cons h1 (obs_cons h2 (obs_cons h1 (obs_cons h4 (obs_cons rfl obs_nil))))))
    ·rcases cond_inv h with ⟨h6, h⟩ | ⟨h6, h⟩
     ·obtain rfl := Option.some.inj h
      exact Reach.done ttok mix fk109 (p109_2_2 x0 x3) (obs_cons h0 (obs_cons h1 (obs_cons h2 (obs_cons h1 (obs_cons h4 (obs_cons h1 (obs_cons h6 obs_nil)))))))
     ·exact Reach.stop ttok mix fk109 (p109_2_3 x0 x3) (obs_cons h0 (obs_cons h1 (obs_cons h2 (obs_cons h1 (obs_cons h4 (obs_cons h1 (obs_cons h6 obs_nil))))))) (ih _ _ _ h)
  ·obtain rfl := Option.some.inj h
   exact Reach.done ttok mix fk109 (p109_2_4 x0 x3) (obs_cons h0 obs_nil)
theorem c109_e {N : Nat} : ∀ a0 r, xEK N a0 = some r → Reach Try.prog Try.f109 I109 [.code I109.body] (zBi 0 (xEz a0)) (xBS r) := by
 intro a0 r h
 unfold xEK at h
 exact Reach.stop ttok mix fk109 (p109_e_5 a0) obs_nil (c109_2   _ _ _ _ h)
theorem xHT {N : Nat} {a0 : Str} {r : Bool} (h : xEK N  a0 = some r) : AbC 109 (xEz a0) (xBS r) :=
 AbsCalls.of_reach fk109 rfl rfl (Nat.le_of_ble_eq_true rfl) (c109_e a0 r h)
noncomputable def I87 : Info := { body := (Try.f87.body).getD .skip, nt := 42, results := [.tmp 2], keep := [0, 4, 6, 8, 16, 76], live := [(2, [0, 6])], modes := [(4, [(4, .take, false)]), (5, [(0, .take, false), (2, .take, false), (5, .take, false), (11, .take, false)])], ext := [], lnt := [], casts := [], fcast := [] }
theorem fk87 : FnOk Try.prog 87 Try.f87 I87 := ⟨Try.func87, by kernel_rfl, by kernel_rfl, by kernel_rfl, by kernel_rfl⟩
def xHN (x0 : Str) (x3 : Int) : St := [(0, .v false [.str x0]), (6, .v false [.int .i64 x3])]
theorem p87_2_0 (x0 : Str) (x3 : Int) : run tt (AbsCalls Try.prog) I87 3000 true (stkAt 2 I87.body) ⟨(xHN x0 x3), [true, true, true, true, true, true], [], []⟩ = some (.done (xBN false) [(decide ((x3 : Int) < (List.length x0 : Int))) = true, (0 : Int) ≤ x3 ∧ x3 < (List.length x0), (decide ((((List.getD x0 (Int.toNat x3) 0).toNat : Int) : Int) ≥ 97)) = true, (0 : Int) ≤ x3 ∧ x3 < (List.length x0), (!(decide ((((List.getD x0 (Int.toNat x3) 0).toNat : Int) : Int) ≤ 122))) = true, ((x3 : Int) == 0) = true, true = true, true = true]) := by kernel_rfl
theorem p87_2_1 (x0 : Str) (x3 : Int) : run tt (AbsCalls Try.prog) I87 3000 true (stkAt 2 I87.body) ⟨(xHN x0 x3), [true, true, true, false, true, true], [], []⟩ = some (.done (xBN false) [(decide ((x3 : Int) < (List.length x0 : Int))) = true, (0 : Int) ≤ x3 ∧ x3 < (List.length x0), (decide ((((List.getD x0 (Int.toNat x3) 0).toNat : Int) : Int) ≥ 97)) = true, (0 : Int) ≤ x3 ∧ x3 < (List.length x0), (!(decide ((((List.getD x0 (Int.toNat x3) 0).toNat : Int) : Int) ≤ 122))) = true, ((x3 : Int) == 0) = false, (0 : Int) ≤ x3 ∧ x3 < (List.length x0), (decide ((((List.getD x0 (Int.toNat x3) 0).toNat : Int) : Int) < 48)) = true, true = true]) := by kernel_rfl
theorem p87_2_2 (x0 : Str) (x3 : Int) : run tt (AbsCalls Try.prog) I87 3000 true (stkAt 2 I87.body) ⟨(xHN x0 x3), [true, true, true, false, false, true], [], []⟩ = some (.done (xBN false) [(decide ((x3 : Int) < (List.length x0 : Int))) = true, (0 : Int) ≤ x3 ∧ x3 < (List.length x0), (decide ((((List.getD x0 (Int.toNat x3) 0).toNat : Int) : Int) ≥ 97)) = true, (0 : Int) ≤ x3 ∧ x3 < (List.length x0), (!(decide ((((List.getD x0 (Int.toNat x3) 0).toNat : Int) : Int) ≤ 122))) = true, ((x3 : Int) == 0) = false, (0 : Int) ≤ x3 ∧ x3 < (List.length x0), (decide ((((List.getD x0 (Int.toNat x3) 0).toNat : Int) : Int) < 48)) = false, (0 : Int) ≤ x3 ∧ x3 < (List.length x0), (decide ((((List.getD x0 (Int.toNat x3) 0).toNat : Int) : Int) > 57)) = true]) := by kernel_rfl
theorem p87_2_3 (x0 : Str) (x3 : Int) : run tt (AbsCalls Try.prog) I87 3000 true (stkAt 2 I87.body) ⟨(xHN x0 x3), [true, true, true, false, false, false], [], []⟩ = some (.stop (stkAt 2 I87.body) (xHN x0 (IntKind.i64.wrap (x3 + 1))) [(decide ((x3 : Int) < (List.length x0 : Int))) = true, (0 : Int) ≤ x3 ∧ x3 < (List.length x0), (decide ((((List.getD x0 (Int.toNat x3) 0).toNat : Int) : Int) ≥ 97)) = true, (0 : Int) ≤ x3 ∧ x3 < (List.length x0), (!(decide ((((List.getD x0 (Int.toNat x3) 0).toNat : Int) : Int) ≤ 122))) = true, ((x3 : Int) == 0) = false, (0 : Int) ≤ x3 ∧ x3 < (List.length x0), (decide ((((List.getD x0 (Int.toNat x3) 0).toNat : Int) : Int) < 48)) = false, (0 : Int) ≤ x3 ∧ x3 < (List.length x0), (decide ((((List.getD x0 (Int.toNat x3) 0).toNat : Int) : Int) > 57)) = false]) := by kernel_rfl
theorem p87_2_4 (x0 : Str) (x3 : Int) : run tt (AbsCalls Try.prog) I87 3000 true (stkAt 2 I87.body) ⟨(xHN x0 x3), [true, true, false, false], [], []⟩ = some (.stop (stkAt 2 I87.body) (xHN x0 (IntKind.i64.wrap (x3 + 1))) [(decide ((x3 : Int) < (List.length x0 : Int))) = true, (0 : Int) ≤ x3 ∧ x3 < (List.length x0), (decide ((((List.getD x0 (Int.toNat x3) 0).toNat : Int) : Int) ≥ 97)) = true, (0 : Int) ≤ x3 ∧ x3 < (List.length x0), (!(decide ((((List.getD x0 (Int.toNat x3) 0).toNat : Int) : Int) ≤ 122))) = false, false = false]) := by kernel_rfl
theorem p87_2_5 (x0 : Str) (x3 : Int) : run tt (AbsCalls Try.prog) I87 3000 true (stkAt 2 I87.body) ⟨(xHN x0 x3), [true, false, true, true, true, true], [], []⟩ = some (.done (xBN false) [(decide ((x3 : Int) < (List.length x0 : Int))) = true, (0 : Int) ≤ x3 ∧ x3 < (List.length x0), (decide ((((List.getD x0 (Int.toNat x3) 0).toNat : Int) : Int) ≥ 97)) = false, (!false) = true, ((x3 : Int) == 0) = true, true = true, true = true]) := by kernel_rfl
theorem p87_2_6 (x0 : Str) (x3 : Int) : run tt (AbsCalls Try.prog) I87 3000 true (stkAt 2 I87.body) ⟨(xHN x0 x3), [true, false, true, false, true, true], [], []⟩ = some (.done (xBN false) [(decide ((x3 : Int) < (List.length x0 : Int))) = true, (0 : Int) ≤ x3 ∧ x3 < (List.length x0), (decide ((((List.getD x0 (Int.toNat x3) 0).toNat : Int) : Int) ≥ 97)) = false, (!false) = true, ((x3 : Int) == 0) = false, (0 : Int) ≤ x3 ∧ x3 < (List.length x0), (decide ((((List.getD x0 (Int.toNat x3) 0).toNat : Int) : Int) < 48)) = true, true = true]) := by kernel_rfl
theorem p87_2_7 (x0 : Str) (x3 : Int) : run tt (AbsCalls Try.prog) I87 3000 true (stkAt 2 I87.body) ⟨(xHN x0 x3), [true, false, true, false, false, true], [], []⟩ = some (.done (xBN false) [(decide ((x3 : Int) < (List.length x0 : Int))) = true, (0 : Int) ≤ x3 ∧ x3 < (List.length x0), (decide ((((List.getD x0 (Int.toNat x3) 0).toNat : Int) : Int) ≥ 97)) = false, (!false) = true, ((x3 : Int) == 0) = false, (0 : Int) ≤ x3 ∧ x3 < (List.length x0), (decide ((((List.getD x0 (Int.toNat x3) 0).toNat : Int) : Int) < 48)) = false, (0 : Int) ≤ x3 ∧ x3 < (List.length x0), (decide ((((List.getD x0 (Int.toNat x3) 0).toNat : Int) : Int) > 57)) = true]) := by kernel_rfl
theorem p87_2_8 (x0 : Str) (x3 : Int) : run tt (AbsCalls Try.prog) I87 3000 true (stkAt 2 I87.body) ⟨(xHN x0 x3), [true, false, true, false, false, false], [], []⟩ = some (.stop (stkAt 2 I87.body) (xHN x0 (IntKind.i64.wrap (x3 + 1))) [(decide ((x3 : Int) < (List.length x0 : Int))) = true, (0 : Int) ≤ x3 ∧ x3 < (List.length x0), (decide ((((List.getD x0 (Int.toNat x3) 0).toNat : Int) : Int) ≥ 97)) = false, (!false) = true, ((x3 : Int) == 0) = false, (0 : Int) ≤ x3 ∧ x3 < (List.length x0), (decide ((((List.getD x0 (Int.toNat x3) 0).toNat : Int) : Int) < 48)) = false, (0 : Int) ≤ x3 ∧ x3 < (List.length x0), (decide ((((List.getD x0 (Int.toNat x3) 0).toNat : Int) : Int) > 57)) = false]) := by kernel_rfl
theorem p87_2_9 (x0 : Str) (x3 : Int) (r1 : Bool) : run tt (AbsCalls Try.prog) I87 3000 true (stkAt 2 I87.body) ⟨(xHN x0 x3), [false], [xBO r1], []⟩ = some (.done (xBN r1) [(decide ((x3 : Int) < (List.length x0 : Int))) = false, AbC 56 (xDa (List.length x0 : Int) 1 8) (xBO r1)]) := by kernel_rfl
theorem p87_e_10 (a0 : Str) : run tt (AbsCalls Try.prog) I87 3000 false [.code I87.body] ⟨(zBi 0 (xFx a0)), [], [], []⟩ = some (.stop (stkAt 2 I87.body) (xHN a0 0) []) := by kernel_rfl
theorem c87_2 {N : Nat} : ∀ n x0 x3 r, xCA N n x0 x3 = some r → Reach Try.prog Try.f87 I87 (stkAt 2 I87.body) (xHN x0 x3) (xBN r) := by
 intro n
 induction n with
 | zero => intro x0 x3 r h; have h' : (none : Option (Bool)) = some r := h; cases h'
 | succ n ih =>
  intro x0 x3 r h
  rw [xCA] at h
  rcases cond_inv h with ⟨h0, h⟩ | ⟨h0, h⟩
  ·obtain ⟨h1, h⟩ := ite_inv h
   rcases cond_inv h with ⟨h2, h⟩ | ⟨h2, h⟩
   ·rcases cond_inv h with ⟨h4, h⟩ | ⟨h4, h⟩
    ·rcases cond_inv h with ⟨h5, h⟩ | ⟨h5, h⟩
     ·obtain rfl := Option.some.inj h
      exact Reach.done ttok mix fk87 (p87_2_0 x0 x3) (obs_cons h0 (obs_cons h1 (obs_cons h2 (obs_cons h1 (obs_cons h4 (obs_cons h5 (obs_cons rfl (obs_cons rfl obs_nil))))))))
     ·rcases cond_inv h with ⟨h7, h⟩ | ⟨h7, h⟩
      ·obtain rfl := Option.some.inj h
       exact Reach.done ttok mix fk87 (p87_2_1 x0 x3) (obs_cons h0 (obs_cons h1 (obs_cons h2 (obs_cons h1 (obs_cons h4 (obs_cons h5 (obs_cons h1 (obs_cons h7 (obs_cons rfl obs_nil)))))))))
      ·rcases cond_inv h with ⟨h9, h⟩ | ⟨h9, h⟩
       ·obtain rfl := Option.some.inj h
        exact Reach.done ttok mix fk87 (p87_2_2 x0 x3) (obs_cons h0 (obs_cons h1 (obs_cons h2 (obs_cons h1 (obs_cons h4 (obs_cons h5 (obs_cons h1 (obs_cons h7 (obs_cons h1 (obs_cons h9 obs_nil))))))))))
       ·exact Reach.stop ttok mix fk87 (p87_2_3 x0 x3) (obs_cons h0 (obs_cons h1 (obs_cons h2 (obs_cons h1 (obs_cons h4 (obs_cons h5 (obs_cons h1 (obs_cons h7 (obs_cons h1 (obs_cons h9 obs_nil)))))))))) (ih _ _ _ h)
    ·exact Reach.stop ttok mix fk87 (p87_2_4 x0 x3) (obs_cons h0 (obs_cons h1 (obs_cons h2 (obs_cons h1 (obs_cons h4 (obs_cons rfl obs_nil)))))) (ih _ _ _ h)
   ·rcases cond_inv h with ⟨h4, h⟩ | ⟨h4, h⟩
    ·obtain rfl := Option.some.inj h
     exact Reach.done ttok mix fk87 (p87_2_5 x0 x3) (obs_cons h0 (obs_cons h1 (obs_cons h2 (obs_cons rfl (obs_cons h4 (obs_cons rfl (obs_cons rfl obs_nil)))))))
    ·rcases cond_inv h with ⟨h6, h⟩ | ⟨h6, h⟩
     ·obtain rfl := Option.some.inj h
      exact Reach.done ttok mix fk87 (p87_2_6 x0 x3) (obs_cons h0 (obs_cons h1 (obs_cons h2 (obs_cons rfl (obs_cons h4 (obs_cons h1 (obs_cons h6 (obs_cons rfl obs_nil))))))))
     ·rcases cond_inv h with ⟨h8, h⟩ | ⟨h8, h⟩
      ·obtain rfl := Option.some.inj h
       exact Reach.done ttok mix fk87 (p87_2_7 x0 x3) (obs_cons h0 (obs_cons h1 (obs_cons h2 (obs_cons rfl (obs_cons h4 (obs_cons h1 (obs_cons h6 (obs_cons h1 (obs_cons h8 obs_nil)))))))))
      ·exact Reach.stop ttok mix fk87 (p87_2_8 x0 x3) (obs_cons h0 (obs_cons h1 (obs_cons h2 (obs_cons rfl (obs_cons h4 (obs_cons h1 (obs_cons h6 (obs_cons h1 (obs_cons h8 obs_nil))))))))) (ih _ _ _ h)
  ·obtain ⟨r1, h1, h⟩ := bind_inv h
   obtain rfl := Option.some.inj h
   exact Reach.done ttok mix fk87 (p87_2_9 x0 x3 r1) (obs_cons h0 (obs_cons (xFy h1) obs_nil))
theorem c87_e {N : Nat} : ∀ a0 r, xGA N a0 = some r → Reach Try.prog Try.f87 I87 [.code I87.body] (zBi 0 (xFx a0)) (xBN r) := by
 intro a0 r h
 unfold xGA at h
 exact Reach.stop ttok mix fk87 (p87_e_10 a0) obs_nil (c87_2   _ _ _ _ h)
theorem xHK {N : Nat} {a0 : Str} {r : Bool} (h : xGA N  a0 = some r) : AbC 87 (xFx a0) (xBN r) :=
 AbsCalls.of_reach fk87 rfl rfl (Nat.le_of_ble_eq_true rfl) (c87_e a0 r h)
noncomputable def I102 : Info := { body := (Try.f102.body).getD .skip, nt := 26, results := [.tmp 2], keep := [0, 4, 6, 8, 12, 24, 40, 48], live := [], modes := [], ext := [], lnt := [], casts := [], fcast := [] }
theorem xG6 : FnOk Try.prog 102 Try.f102 I102 := ⟨Try.func102, by kernel_rfl, by kernel_rfl, by kernel_rfl, by kernel_rfl⟩
theorem p102_e_0 (a0 : Str) : run tt (AbsCalls Try.prog) I102 3000 false [.code I102.body] ⟨(zBi 0 (xAD a0)), [true], [], []⟩ = some (.done (xAC 0) [((a0 : Str) == [99, 108, 111, 99, 107]) = true]) := by kernel_rfl
theorem p102_e_1 (a0 : Str) : run tt (AbsCalls Try.prog) I102 3000 false [.code I102.body] ⟨(zBi 0 (xAD a0)), [false, true, true], [], []⟩ = some (.done (xAC 1) [((a0 : Str) == [99, 108, 111, 99, 107]) = false, ((a0 : Str) == [108, 101, 110]) = true, ((a0 : Str) == [108, 101, 110]) = true]) := by kernel_rfl
theorem p102_e_2 (a0 : Str) : run tt (AbsCalls Try.prog) I102 3000 false [.code I102.body] ⟨(zBi 0 (xAD a0)), [false, false, true, true], [], []⟩ = some (.done (xAC 1) [((a0 : Str) == [99, 108, 111, 99, 107]) = false, ((a0 : Str) == [108, 101, 110]) = false, ((a0 : Str) == [115, 117, 109]) = true, ((a0 : Str) == [115, 117, 109]) = true]) := by kernel_rfl
theorem p102_e_3 (a0 : Str) : run tt (AbsCalls Try.prog) I102 3000 false [.code I102.body] ⟨(zBi 0 (xAD a0)), [false, false, false, true, true], [], []⟩ = some (.done (xAC 1) [((a0 : Str) == [99, 108, 111, 99, 107]) = false, ((a0 : Str) == [108, 101, 110]) = false, ((a0 : Str) == [115, 117, 109]) = false, ((a0 : Str) == [114, 111, 119, 115]) = true, ((a0 : Str) == [114, 111, 119, 115]) = true]) := by kernel_rfl
theorem p102_e_4 (a0 : Str) : run tt (AbsCalls Try.prog) I102 3000 false [.code I102.body] ⟨(zBi 0 (xAD a0)), [false, false, false, false, true, true], [], []⟩ = some (.done (xAC 1) [((a0 : Str) == [99, 108, 111, 99, 107]) = false, ((a0 : Str) == [108, 101, 110]) = false, ((a0 : Str) == [115, 117, 109]) = false, ((a0 : Str) == [114, 111, 119, 115]) = false, ((a0 : Str) == [99, 104, 97, 110, 99, 101]) = true, ((a0 : Str) == [99, 104, 97, 110, 99, 101]) = true]) := by kernel_rfl
theorem p102_e_5 (a0 : Str) : run tt (AbsCalls Try.prog) I102 3000 false [.code I102.body] ⟨(zBi 0 (xAD a0)), [false, false, false, false, false, true], [], []⟩ = some (.done (xAC 1) [((a0 : Str) == [99, 108, 111, 99, 107]) = false, ((a0 : Str) == [108, 101, 110]) = false, ((a0 : Str) == [115, 117, 109]) = false, ((a0 : Str) == [114, 111, 119, 115]) = false, ((a0 : Str) == [99, 104, 97, 110, 99, 101]) = false, ((a0 : Str) == [102, 105, 108, 101]) = true]) := by kernel_rfl
theorem p102_e_6 (a0 : Str) : run tt (AbsCalls Try.prog) I102 3000 false [.code I102.body] ⟨(zBi 0 (xAD a0)), [false, false, false, false, false, false, true, true], [], []⟩ = some (.done (xAC 2) [((a0 : Str) == [99, 108, 111, 99, 107]) = false, ((a0 : Str) == [108, 101, 110]) = false, ((a0 : Str) == [115, 117, 109]) = false, ((a0 : Str) == [114, 111, 119, 115]) = false, ((a0 : Str) == [99, 104, 97, 110, 99, 101]) = false, ((a0 : Str) == [102, 105, 108, 101]) = false, ((a0 : Str) == [116, 97, 107, 101]) = true, ((a0 : Str) == [116, 97, 107, 101]) = true]) := by kernel_rfl
theorem p102_e_7 (a0 : Str) : run tt (AbsCalls Try.prog) I102 3000 false [.code I102.body] ⟨(zBi 0 (xAD a0)), [false, false, false, false, false, false, false, true, true], [], []⟩ = some (.done (xAC 2) [((a0 : Str) == [99, 108, 111, 99, 107]) = false, ((a0 : Str) == [108, 101, 110]) = false, ((a0 : Str) == [115, 117, 109]) = false, ((a0 : Str) == [114, 111, 119, 115]) = false, ((a0 : Str) == [99, 104, 97, 110, 99, 101]) = false, ((a0 : Str) == [102, 105, 108, 101]) = false, ((a0 : Str) == [116, 97, 107, 101]) = false, ((a0 : Str) == [115, 107, 105, 112]) = true, ((a0 : Str) == [115, 107, 105, 112]) = true]) := by kernel_rfl
theorem p102_e_8 (a0 : Str) : run tt (AbsCalls Try.prog) I102 3000 false [.code I102.body] ⟨(zBi 0 (xAD a0)), [false, false, false, false, false, false, false, false, true, true], [], []⟩ = some (.done (xAC 2) [((a0 : Str) == [99, 108, 111, 99, 107]) = false, ((a0 : Str) == [108, 101, 110]) = false, ((a0 : Str) == [115, 117, 109]) = false, ((a0 : Str) == [114, 111, 119, 115]) = false, ((a0 : Str) == [99, 104, 97, 110, 99, 101]) = false, ((a0 : Str) == [102, 105, 108, 101]) = false, ((a0 : Str) == [116, 97, 107, 101]) = false, ((a0 : Str) == [115, 107, 105, 112]) = false, ((a0 : Str) == [114, 97, 110, 103, 101]) = true, ((a0 : Str) == [114, 97, 110, 103, 101]) = true]) := by kernel_rfl
theorem p102_e_9 (a0 : Str) : run tt (AbsCalls Try.prog) I102 3000 false [.code I102.body] ⟨(zBi 0 (xAD a0)), [false, false, false, false, false, false, false, false, false, true, true], [], []⟩ = some (.done (xAC 2) [((a0 : Str) == [99, 108, 111, 99, 107]) = false, ((a0 : Str) == [108, 101, 110]) = false, ((a0 : Str) == [115, 117, 109]) = false, ((a0 : Str) == [114, 111, 119, 115]) = false, ((a0 : Str) == [99, 104, 97, 110, 99, 101]) = false, ((a0 : Str) == [102, 105, 108, 101]) = false, ((a0 : Str) == [116, 97, 107, 101]) = false, ((a0 : Str) == [115, 107, 105, 112]) = false, ((a0 : Str) == [114, 97, 110, 103, 101]) = false, ((a0 : Str) == [110, 116, 104]) = true, ((a0 : Str) == [110, 116, 104]) = true]) := by kernel_rfl
theorem p102_e_10 (a0 : Str) : run tt (AbsCalls Try.prog) I102 3000 false [.code I102.body] ⟨(zBi 0 (xAD a0)), [false, false, false, false, false, false, false, false, false, false, true, true], [], []⟩ = some (.done (xAC 2) [((a0 : Str) == [99, 108, 111, 99, 107]) = false, ((a0 : Str) == [108, 101, 110]) = false, ((a0 : Str) == [115, 117, 109]) = false, ((a0 : Str) == [114, 111, 119, 115]) = false, ((a0 : Str) == [99, 104, 97, 110, 99, 101]) = false, ((a0 : Str) == [102, 105, 108, 101]) = false, ((a0 : Str) == [116, 97, 107, 101]) = false, ((a0 : Str) == [115, 107, 105, 112]) = false, ((a0 : Str) == [114, 97, 110, 103, 101]) = false, ((a0 : Str) == [110, 116, 104]) = false, ((a0 : Str) == [107, 101, 101, 112]) = true, ((a0 : Str) == [107, 101, 101, 112]) = true]) := by kernel_rfl
theorem p102_e_11 (a0 : Str) : run tt (AbsCalls Try.prog) I102 3000 false [.code I102.body] ⟨(zBi 0 (xAD a0)), [false, false, false, false, false, false, false, false, false, false, false, true, true], [], []⟩ = some (.done (xAC 2) [((a0 : Str) == [99, 108, 111, 99, 107]) = false, ((a0 : Str) == [108, 101, 110]) = false, ((a0 : Str) == [115, 117, 109]) = false, ((a0 : Str) == [114, 111, 119, 115]) = false, ((a0 : Str) == [99, 104, 97, 110, 99, 101]) = false, ((a0 : Str) == [102, 105, 108, 101]) = false, ((a0 : Str) == [116, 97, 107, 101]) = false, ((a0 : Str) == [115, 107, 105, 112]) = false, ((a0 : Str) == [114, 97, 110, 103, 101]) = false, ((a0 : Str) == [110, 116, 104]) = false, ((a0 : Str) == [107, 101, 101, 112]) = false, ((a0 : Str) == [99, 111, 108, 117, 109, 110]) = true, ((a0 : Str) == [99, 111, 108, 117, 109, 110]) = true]) := by kernel_rfl
theorem p102_e_12 (a0 : Str) : run tt (AbsCalls Try.prog) I102 3000 false [.code I102.body] ⟨(zBi 0 (xAD a0)), [false, false, false, false, false, false, false, false, false, false, false, false, true], [], []⟩ = some (.done (xAC 2) [((a0 : Str) == [99, 108, 111, 99, 107]) = false, ((a0 : Str) == [108, 101, 110]) = false, ((a0 : Str) == [115, 117, 109]) = false, ((a0 : Str) == [114, 111, 119, 115]) = false, ((a0 : Str) == [99, 104, 97, 110, 99, 101]) = false, ((a0 : Str) == [102, 105, 108, 101]) = false, ((a0 : Str) == [116, 97, 107, 101]) = false, ((a0 : Str) == [115, 107, 105, 112]) = false, ((a0 : Str) == [114, 97, 110, 103, 101]) = false, ((a0 : Str) == [110, 116, 104]) = false, ((a0 : Str) == [107, 101, 101, 112]) = false, ((a0 : Str) == [99, 111, 108, 117, 109, 110]) = false, ((a0 : Str) == [116, 97, 98, 108, 101]) = true]) := by kernel_rfl
theorem p102_e_13 (a0 : Str) : run tt (AbsCalls Try.prog) I102 3000 false [.code I102.body] ⟨(zBi 0 (xAD a0)), [false, false, false, false, false, false, false, false, false, false, false, false, false, true, true], [], []⟩ = some (.done (xAC 3) [((a0 : Str) == [99, 108, 111, 99, 107]) = false, ((a0 : Str) == [108, 101, 110]) = false, ((a0 : Str) == [115, 117, 109]) = false, ((a0 : Str) == [114, 111, 119, 115]) = false, ((a0 : Str) == [99, 104, 97, 110, 99, 101]) = false, ((a0 : Str) == [102, 105, 108, 101]) = false, ((a0 : Str) == [116, 97, 107, 101]) = false, ((a0 : Str) == [115, 107, 105, 112]) = false, ((a0 : Str) == [114, 97, 110, 103, 101]) = false, ((a0 : Str) == [110, 116, 104]) = false, ((a0 : Str) == [107, 101, 101, 112]) = false, ((a0 : Str) == [99, 111, 108, 117, 109, 110]) = false, ((a0 : Str) == [116, 97, 98, 108, 101]) = false, ((a0 : Str) == [119, 104, 101, 114, 101]) = true, ((a0 : Str) == [119, 104, 101, 114, 101]) = true]) := by kernel_rfl
theorem p102_e_14 (a0 : Str) : run tt (AbsCalls Try.prog) I102 3000 false [.code I102.body] ⟨(zBi 0 (xAD a0)), [false, false, false, false, false, false, false, false, false, false, false, false, false, false, true, true], [], []⟩ = some (.done (xAC 3) [((a0 : Str) == [99, 108, 111, 99, 107]) = false, ((a0 : Str) == [108, 101, 110]) = false, ((a0 : Str) == [115, 117, 109]) = false, ((a0 : Str) == [114, 111, 119, 115]) = false, ((a0 : Str) == [99, 104, 97, 110, 99, 101]) = false, ((a0 : Str) == [102, 105, 108, 101]) = false, ((a0 : Str) == [116, 97, 107, 101]) = false, ((a0 : Str) == [115, 107, 105, 112]) = false, ((a0 : Str) == [114, 97, 110, 103, 101]) = false, ((a0 : Str) == [110, 116, 104]) = false, ((a0 : Str) == [107, 101, 101, 112]) = false, ((a0 : Str) == [99, 111, 108, 117, 109, 110]) = false, ((a0 : Str) == [116, 97, 98, 108, 101]) = false, ((a0 : Str) == [119, 104, 101, 114, 101]) = false, ((a0 : Str) == [103, 114, 111, 117, 112]) = true, ((a0 : Str) == [103, 114, 111, 117, 112]) = true]) := by kernel_rfl
theorem p102_e_15 (a0 : Str) : run tt (AbsCalls Try.prog) I102 3000 false [.code I102.body] ⟨(zBi 0 (xAD a0)), [false, false, false, false, false, false, false, false, false, false, false, false, false, false, false, true], [], []⟩ = some (.done (xAC 3) [((a0 : Str) == [99, 108, 111, 99, 107]) = false, ((a0 : Str) == [108, 101, 110]) = false, ((a0 : Str) == [115, 117, 109]) = false, ((a0 : Str) == [114, 111, 119, 115]) = false, ((a0 : Str) == [99, 104, 97, 110, 99, 101]) = false, ((a0 : Str) == [102, 105, 108, 101]) = false, ((a0 : Str) == [116, 97, 107, 101]) = false, ((a0 : Str) == [115, 107, 105, 112]) = false, ((a0 : Str) == [114, 97, 110, 103, 101]) = false, ((a0 : Str) == [110, 116, 104]) = false, ((a0 : Str) == [107, 101, 101, 112]) = false, ((a0 : Str) == [99, 111, 108, 117, 109, 110]) = false, ((a0 : Str) == [116, 97, 98, 108, 101]) = false, ((a0 : Str) == [119, 104, 101, 114, 101]) = false, ((a0 : Str) == [103, 114, 111, 117, 112]) = false, ((a0 : Str) == [106, 111, 105, 110]) = true]) := by kernel_rfl
theorem p102_e_16 (a0 : Str) : run tt (AbsCalls Try.prog) I102 3000 false [.code I102.body] ⟨(zBi 0 (xAD a0)), [false, false, false, false, false, false, false, false, false, false, false, false, false, false, false, false, true], [], []⟩ = some (.done (xAC 4) [((a0 : Str) == [99, 108, 111, 99, 107]) = false, ((a0 : Str) == [108, 101, 110]) = false, ((a0 : Str) == [115, 117, 109]) = false, ((a0 : Str) == [114, 111, 119, 115]) = false, ((a0 : Str) == [99, 104, 97, 110, 99, 101]) = false, ((a0 : Str) == [102, 105, 108, 101]) = false, ((a0 : Str) == [116, 97, 107, 101]) = false, ((a0 : Str) == [115, 107, 105, 112]) = false, ((a0 : Str) == [114, 97, 110, 103, 101]) = false, ((a0 : Str) == [110, 116, 104]) = false, ((a0 : Str) == [107, 101, 101, 112]) = false, ((a0 : Str) == [99, 111, 108, 117, 109, 110]) = false, ((a0 : Str) == [116, 97, 98, 108, 101]) = false, ((a0 : Str) == [119, 104, 101, 114, 101]) = false, ((a0 : Str) == [103, 114, 111, 117, 112]) = false, ((a0 : Str) == [106, 111, 105, 110]) = false, ((a0 : Str) == [97, 100, 100]) = true]) := by kernel_rfl
theorem p102_e_17 (a0 : Str) : run tt (AbsCalls Try.prog) I102 3000 false [.code I102.body] ⟨(zBi 0 (xAD a0)), [false, false, false, false, false, false, false, false, false, false, false, false, false, false, false, false, false], [], []⟩ = some (.done (xAC (-1)) [((a0 : Str) == [99, 108, 111, 99, 107]) = false, ((a0 : Str) == [108, 101, 110]) = false, ((a0 : Str) == [115, 117, 109]) = false, ((a0 : Str) == [114, 111, 119, 115]) = false, ((a0 : Str) == [99, 104, 97, 110, 99, 101]) = false, ((a0 : Str) == [102, 105, 108, 101]) = false, ((a0 : Str) == [116, 97, 107, 101]) = false, ((a0 : Str) == [115, 107, 105, 112]) = false, ((a0 : Str) == [114, 97, 110, 103, 101]) = false, ((a0 : Str) == [110, 116, 104]) = false, ((a0 : Str) == [107, 101, 101, 112]) = false, ((a0 : Str) == [99, 111, 108, 117, 109, 110]) = false, ((a0 : Str) == [116, 97, 98, 108, 101]) = false, ((a0 : Str) == [119, 104, 101, 114, 101]) = false, ((a0 : Str) == [103, 114, 111, 117, 112]) = false, ((a0 : Str) == [106, 111, 105, 110]) = false, ((a0 : Str) == [97, 100, 100]) = false]) := by kernel_rfl
theorem c102_e {N : Nat} : ∀ a0 r, xD4 N a0 = some r → Reach Try.prog Try.f102 I102 [.code I102.body] (zBi 0 (xAD a0)) (xAC r) := by
 intro a0 r h
 unfold xD4 at h
 rcases cond_inv h with ⟨h0, h⟩ | ⟨h0, h⟩
 ·obtain rfl := Option.some.inj h
  exact Reach.done ttok mix xG6 (p102_e_0 a0) (obs_cons h0 obs_nil)
 ·rcases cond_inv h with ⟨h1, h⟩ | ⟨h1, h⟩
  ·obtain rfl := Option.some.inj h
   exact Reach.done ttok mix xG6 (p102_e_1 a0) (obs_cons h0 (obs_cons h1 (obs_cons h1 obs_nil)))
  ·rcases cond_inv h with ⟨h2, h⟩ | ⟨h2, h⟩
   ·obtain rfl := Option.some.inj h
    exact Reach.done ttok mix xG6 (p102_e_2 a0) (obs_cons h0 (obs_cons h1 (obs_cons h2 (obs_cons h2 obs_nil))))
   ·rcases cond_inv h with ⟨h3, h⟩ | ⟨h3, h⟩
    ·obtain rfl := Option.some.inj h
     exact Reach.done ttok mix xG6 (p102_e_3 a0) (obs_cons h0 (obs_cons h1 (obs_cons h2 (obs_cons h3 (obs_cons h3 obs_nil)))))
    ·rcases cond_inv h with ⟨h4, h⟩ | ⟨h4, h⟩
     ·obtain rfl := Option.some.inj h
      exact Reach.done ttok mix xG6 (p102_e_4 a0) (obs_cons h0 (obs_cons h1 (obs_cons h2 (obs_cons h3 (obs_cons h4 (obs_cons h4 obs_nil))))))
     ·rcases cond_inv h with ⟨h5, h⟩ | ⟨h5, h⟩
      ·obtain rfl := Option.some.inj h
       exact Reach.done ttok mix xG6 (p102_e_5 a0) (obs_cons h0 (obs_cons h1 (obs_cons h2 (obs_cons h3 (obs_cons h4 (obs_cons h5 obs_nil))))))
      ·rcases cond_inv h with ⟨h6, h⟩ | ⟨h6, h⟩
       ·obtain rfl := Option.some.inj h
        exact Reach.done ttok mix xG6 (p102_e_6 a0) (obs_cons h0 (obs_cons h1 (obs_cons h2 (obs_cons h3 (obs_cons h4 (obs_cons h5 (obs_cons h6 (obs_cons h6 obs_nil))))))))
       ·rcases cond_inv h with ⟨h7, h⟩ | ⟨h7, h⟩
        ·obtain rfl := Option.some.inj h
         exact Reach.done ttok mix xG6 (p102_e_7 a0) (obs_cons h0 (obs_cons h1 (obs_cons h2 (obs_cons h3 (obs_cons h4 (obs_cons h5 (obs_cons h6 (obs_cons h7 (obs_cons h7 obs_nil)))))))))
        ·rcases cond_inv h with ⟨h8, h⟩ | ⟨h8, h⟩
         ·obtain rfl := Option.some.inj h
          exact Reach.done ttok mix xG6 (p102_e_8 a0) (obs_cons h0 (obs_cons h1 (obs_cons h2 (obs_cons h3 (obs_cons h4 (obs_cons h5 (obs_cons h6 (obs_cons h7 (obs_cons h8 (obs_cons h8 obs_nil))))))))))
         ·rcases cond_inv h with ⟨h9, h⟩ | ⟨h9, h⟩
          ·obtain rfl := Option.some.inj h
           exact Reach.done ttok mix xG6 (p102_e_9 a0) (obs_cons h0 (obs_cons h1 (obs_cons h2 (obs_cons h3 (obs_cons h4 (obs_cons h5 (obs_cons h6 (obs_cons h7 (obs_cons h8 (obs_cons h9 (obs_cons h9 obs_nil)))))))))))
          ·rcases cond_inv h with ⟨h10, h⟩ | ⟨h10, h⟩
           ·obtain rfl := Option.some.inj h
            exact Reach.done ttok mix xG6 (p102_e_10 a0) (obs_cons h0 (obs_cons h1 (obs_cons h2 (obs_cons h3 (obs_cons h4 (obs_cons h5 (obs_cons h6 (obs_cons h7 (obs_cons h8 (obs_cons h9 (obs_cons h10 (obs_cons h10 obs_nil))))))))))))
           ·rcases cond_inv h with ⟨h11, h⟩ | ⟨h11, h⟩
            ·obtain rfl := Option.some.inj h
             exact Reach.done ttok mix xG6 (p102_e_11 a0) (obs_cons h0 (obs_cons h1 (obs_cons h2 (obs_cons h3 (obs_cons h4 (obs_cons h5 (obs_cons h6 (obs_cons h7 (obs_cons h8 (obs_cons h9 (obs_cons h10 (obs_cons h11 (obs_cons h11 obs_nil)))))))))))))
            ·rcases cond_inv h with ⟨h12, h⟩ | ⟨h12, h⟩
             ·obtain rfl := Option.some.inj h
              exact Reach.done ttok mix xG6 (p102_e_12 a0) (obs_cons h0 (obs_cons h1 (obs_cons h2 (obs_cons h3 (obs_cons h4 (obs_cons h5 (obs_cons h6 (obs_cons h7 (obs_cons h8 (obs_cons h9 (obs_cons h10 (obs_cons h11 (obs_cons h12 obs_nil)))))))))))))
             ·rcases cond_inv h with ⟨h13, h⟩ | ⟨h13, h⟩
              ·obtain rfl := Option.some.inj h
               exact Reach.done ttok mix xG6 (p102_e_13 a0) (obs_cons h0 (obs_cons h1 (obs_cons h2 (obs_cons h3 (obs_cons h4 (obs_cons h5 (obs_cons h6 (obs_cons h7 (obs_cons h8 (obs_cons h9 (obs_cons h10 (obs_cons h11 (obs_cons h12 (obs_cons h13 (obs_cons h13 obs_nil)))))))))))))))
              ·rcases cond_inv h with ⟨h14, h⟩ | ⟨h14, h⟩
               ·obtain rfl := Option.some.inj h
                exact Reach.done ttok mix xG6 (p102_e_14 a0) (obs_cons h0 (obs_cons h1 (obs_cons h2 (obs_cons h3 (obs_cons h4 (obs_cons h5 (obs_cons h6 (obs_cons h7 (obs_cons h8 (obs_cons h9 (obs_cons h10 (obs_cons h11 (obs_cons h12 (obs_cons h13 (obs_cons h14 (obs_cons h14 obs_nil))))))))))))))))
               ·rcases cond_inv h with ⟨h15, h⟩ | ⟨h15, h⟩
                ·obtain rfl := Option.some.inj h
                 exact Reach.done ttok mix xG6 (p102_e_15 a0) (obs_cons h0 (obs_cons h1 (obs_cons h2 (obs_cons h3 (obs_cons h4 (obs_cons h5 (obs_cons h6 (obs_cons h7 (obs_cons h8 (obs_cons h9 (obs_cons h10 (obs_cons h11 (obs_cons h12 (obs_cons h13 (obs_cons h14 (obs_cons h15 obs_nil))))))))))))))))
                ·rcases cond_inv h with ⟨h16, h⟩ | ⟨h16, h⟩
                 ·obtain rfl := Option.some.inj h
                  exact Reach.done ttok mix xG6 (p102_e_16 a0) (obs_cons h0 (obs_cons h1 (obs_cons h2 (obs_cons h3 (obs_cons h4 (obs_cons h5 (obs_cons h6 (obs_cons h7 (obs_cons h8 (obs_cons h9 (obs_cons h10 (obs_cons h11 (obs_cons h12 (obs_cons h13 (obs_cons h14 (obs_cons h15 (obs_cons h16 obs_nil)))))))))))))))))
                 ·obtain rfl := Option.some.inj h
                  exact Reach.done ttok mix xG6 (p102_e_17 a0) (obs_cons h0 (obs_cons h1 (obs_cons h2 (obs_cons h3 (obs_cons h4 (obs_cons h5 (obs_cons h6 (obs_cons h7 (obs_cons h8 (obs_cons h9 (obs_cons h10 (obs_cons h11 (obs_cons h12 (obs_cons h13 (obs_cons h14 (obs_cons h15 (obs_cons h16 obs_nil)))))))))))))))))
theorem xHo {N : Nat} {a0 : Str} {r : Int} (h : xD4 N  a0 = some r) : AbC 102 (xAD a0) (xAC r) :=
 AbsCalls.of_reach xG6 rfl rfl (Nat.le_of_ble_eq_true rfl) (c102_e a0 r h)
noncomputable def I88 : Info := { body := (Try.f88.body).getD .skip, nt := 15, results := [.tmp 2], keep := [0, 4, 6, 8], live := [], modes := [], ext := [], lnt := [], casts := [], fcast := [] }
theorem fk88 : FnOk Try.prog 88 Try.f88 I88 := ⟨Try.func88, by kernel_rfl, by kernel_rfl, by kernel_rfl, by kernel_rfl⟩
theorem p88_e_0 (a0 : Str) : run tt (AbsCalls Try.prog) I88 3000 false [.code I88.body] ⟨(zBi 0 (xBy a0)), [true, true], [], []⟩ = some (.done (xBn true) [((a0 : Str) == [108, 101, 116]) = true, ((a0 : Str) == [108, 101, 116]) = true]) := by kernel_rfl
theorem p88_e_1 (a0 : Str) : run tt (AbsCalls Try.prog) I88 3000 false [.code I88.body] ⟨(zBi 0 (xBy a0)), [false, true, true], [], []⟩ = some (.done (xBn true) [((a0 : Str) == [108, 101, 116]) = false, ((a0 : Str) == [105, 110]) = true, ((a0 : Str) == [105, 110]) = true]) := by kernel_rfl
theorem p88_e_2 (a0 : Str) : run tt (AbsCalls Try.prog) I88 3000 false [.code I88.body] ⟨(zBi 0 (xBy a0)), [false, false, true, true], [], []⟩ = some (.done (xBn true) [((a0 : Str) == [108, 101, 116]) = false, ((a0 : Str) == [105, 110]) = false, ((a0 : Str) == [105, 102]) = true, ((a0 : Str) == [105, 102]) = true]) := by kernel_rfl
theorem p88_e_3 (a0 : Str) : run tt (AbsCalls Try.prog) I88 3000 false [.code I88.body] ⟨(zBi 0 (xBy a0)), [false, false, false, true, true], [], []⟩ = some (.done (xBn true) [((a0 : Str) == [108, 101, 116]) = false, ((a0 : Str) == [105, 110]) = false, ((a0 : Str) == [105, 102]) = false, ((a0 : Str) == [116, 104, 101, 110]) = true, ((a0 : Str) == [116, 104, 101, 110]) = true]) := by kernel_rfl
theorem p88_e_4 (a0 : Str) : run tt (AbsCalls Try.prog) I88 3000 false [.code I88.body] ⟨(zBi 0 (xBy a0)), [false, false, false, false, true, true], [], []⟩ = some (.done (xBn true) [((a0 : Str) == [108, 101, 116]) = false, ((a0 : Str) == [105, 110]) = false, ((a0 : Str) == [105, 102]) = false, ((a0 : Str) == [116, 104, 101, 110]) = false, ((a0 : Str) == [101, 108, 115, 101]) = true, ((a0 : Str) == [101, 108, 115, 101]) = true]) := by kernel_rfl
theorem p88_e_5 (a0 : Str) : run tt (AbsCalls Try.prog) I88 3000 false [.code I88.body] ⟨(zBi 0 (xBy a0)), [false, false, false, false, false, true, true], [], []⟩ = some (.done (xBn true) [((a0 : Str) == [108, 101, 116]) = false, ((a0 : Str) == [105, 110]) = false, ((a0 : Str) == [105, 102]) = false, ((a0 : Str) == [116, 104, 101, 110]) = false, ((a0 : Str) == [101, 108, 115, 101]) = false, ((a0 : Str) == [102, 111, 114]) = true, ((a0 : Str) == [102, 111, 114]) = true]) := by kernel_rfl
theorem p88_e_6 (a0 : Str) : run tt (AbsCalls Try.prog) I88 3000 false [.code I88.body] ⟨(zBi 0 (xBy a0)), [false, false, false, false, false, false, true], [], []⟩ = some (.done (xBn true) [((a0 : Str) == [108, 101, 116]) = false, ((a0 : Str) == [105, 110]) = false, ((a0 : Str) == [105, 102]) = false, ((a0 : Str) == [116, 104, 101, 110]) = false, ((a0 : Str) == [101, 108, 115, 101]) = false, ((a0 : Str) == [102, 111, 114]) = false, ((a0 : Str) == [100, 111]) = true]) := by kernel_rfl
theorem p88_e_7 (a0 : Str) (r1 : Int) : run tt (AbsCalls Try.prog) I88 3000 false [.code I88.body] ⟨(zBi 0 (xBy a0)), [false, false, false, false, false, false, false], [xAC r1], []⟩ = some (.done (xBn (decide ((r1 : Int) ≥ 0))) [((a0 : Str) == [108, 101, 116]) = false, ((a0 : Str) == [105, 110]) = false, ((a0 : Str) == [105, 102]) = false, ((a0 : Str) == [116, 104, 101, 110]) = false, ((a0 : Str) == [101, 108, 115, 101]) = false, ((a0 : Str) == [102, 111, 114]) = false, ((a0 : Str) == [100, 111]) = false, AbC 102 (xAD a0) (xAC r1)]) := by kernel_rfl
theorem c88_e {N : Nat} : ∀ a0 r, xEl N a0 = some r → Reach Try.prog Try.f88 I88 [.code I88.body] (zBi 0 (xBy a0)) (xBn r) := by
 intro a0 r h
 unfold xEl at h
 rcases cond_inv h with ⟨h0, h⟩ | ⟨h0, h⟩
 ·obtain rfl := Option.some.inj h
  exact Reach.done ttok mix fk88 (p88_e_0 a0) (obs_cons h0 (obs_cons h0 obs_nil))
 ·rcases cond_inv h with ⟨h1, h⟩ | ⟨h1, h⟩
  ·obtain rfl := Option.some.inj h
   exact Reach.done ttok mix fk88 (p88_e_1 a0) (obs_cons h0 (obs_cons h1 (obs_cons h1 obs_nil)))
  ·rcases cond_inv h with ⟨h2, h⟩ | ⟨h2, h⟩
   ·obtain rfl := Option.some.inj h
    exact Reach.done ttok mix fk88 (p88_e_2 a0) (obs_cons h0 (obs_cons h1 (obs_cons h2 (obs_cons h2 obs_nil))))
   ·rcases cond_inv h with ⟨h3, h⟩ | ⟨h3, h⟩
    ·obtain rfl := Option.some.inj h
     exact Reach.done ttok mix fk88 (p88_e_3 a0) (obs_cons h0 (obs_cons h1 (obs_cons h2 (obs_cons h3 (obs_cons h3 obs_nil)))))
    ·rcases cond_inv h with ⟨h4, h⟩ | ⟨h4, h⟩
     ·obtain rfl := Option.some.inj h
      exact Reach.done ttok mix fk88 (p88_e_4 a0) (obs_cons h0 (obs_cons h1 (obs_cons h2 (obs_cons h3 (obs_cons h4 (obs_cons h4 obs_nil))))))
     ·rcases cond_inv h with ⟨h5, h⟩ | ⟨h5, h⟩
      ·obtain rfl := Option.some.inj h
       exact Reach.done ttok mix fk88 (p88_e_5 a0) (obs_cons h0 (obs_cons h1 (obs_cons h2 (obs_cons h3 (obs_cons h4 (obs_cons h5 (obs_cons h5 obs_nil)))))))
      ·rcases cond_inv h with ⟨h6, h⟩ | ⟨h6, h⟩
       ·obtain rfl := Option.some.inj h
        exact Reach.done ttok mix fk88 (p88_e_6 a0) (obs_cons h0 (obs_cons h1 (obs_cons h2 (obs_cons h3 (obs_cons h4 (obs_cons h5 (obs_cons h6 obs_nil)))))))
       ·obtain ⟨r1, h7, h⟩ := bind_inv h
        obtain rfl := Option.some.inj h
        exact Reach.done ttok mix fk88 (p88_e_7 a0 r1) (obs_cons h0 (obs_cons h1 (obs_cons h2 (obs_cons h3 (obs_cons h4 (obs_cons h5 (obs_cons h6 (obs_cons (xHo h7) obs_nil))))))))
theorem impl_IsReserved_ok {N : Nat} {a0 : Str} {r : Bool} (h : xEl N  a0 = some r) : AbC 88 (xBy a0) (xBn r) :=
 AbsCalls.of_reach fk88 rfl rfl (Nat.le_of_ble_eq_true rfl) (c88_e a0 r h)
noncomputable def I52 : Info := { body := (Try.f52.body).getD .skip, nt := 10, results := [.tmp 2], keep := [0, 4], live := [], modes := [(1, [(2, .take, false)])], ext := [], lnt := [], casts := [], fcast := [] }
theorem fk52 : FnOk Try.prog 52 Try.f52 I52 := ⟨Try.func52, by kernel_rfl, by kernel_rfl, by kernel_rfl, by kernel_rfl⟩
theorem p52_e_0 (a0 : Str) (r1 r2 : Bool) : run tt (AbsCalls Try.prog) I52 3000 false [.code I52.body] ⟨(zBi 0 (xCY a0)), [true], [xBN r1, xBn r2], []⟩ = some (.done (xB5 (!r2)) [AbC 87 (xFx a0) (xBN r1), r1 = true, AbC 88 (xBy a0) (xBn r2)]) := by kernel_rfl
theorem p52_e_1 (a0 : Str) (r1 : Bool) : run tt (AbsCalls Try.prog) I52 3000 false [.code I52.body] ⟨(zBi 0 (xCY a0)), [false], [xBN r1], []⟩ = some (.done (xB5 false) [AbC 87 (xFx a0) (xBN r1), r1 = false]) := by kernel_rfl
theorem c52_e {N : Nat} : ∀ a0 r, xDY N a0 = some r → Reach Try.prog Try.f52 I52 [.code I52.body] (zBi 0 (xCY a0)) (xB5 r) := by
 intro a0 r h
 unfold xDY at h
 obtain ⟨r1, h0, h⟩ := bind_inv h
 rcases cond_inv h with ⟨h1, h⟩ | ⟨h1, h⟩
 ·obtain ⟨r2, h2, h⟩ := bind_inv h
  obtain rfl := Option.some.inj h
  exact Reach.done ttok mix fk52 (p52_e_0 a0 r1 r2) (obs_cons (xHK h0) (obs_cons h1 (obs_cons (impl_IsReserved_ok h2) obs_nil)))
 ·obtain rfl := Option.some.inj h
  exact Reach.done ttok mix fk52 (p52_e_1 a0 r1) (obs_cons (xHK h0) (obs_cons h1 obs_nil))
theorem xGz {N : Nat} {a0 : Str} {r : Bool} (h : xDY N  a0 = some r) : AbC 52 (xCY a0) (xB5 r) :=
 AbsCalls.of_reach fk52 rfl rfl (Nat.le_of_ble_eq_true rfl) (c52_e a0 r h)
noncomputable def I86 : Info := { body := (Try.f86.body).getD .skip, nt := 19, results := [.tmp 4], keep := [0, 2, 8, 10, 12, 14, 16, 18, 20, 32], live := [(2, [2, 14, 16, 18])], modes := [(4, [(0, .take, false)]), (5, [(0, .take, false)]), (6, [(1, .take, false)])], ext := [], lnt := [], casts := [], fcast := [] }
theorem fk86 : FnOk Try.prog 86 Try.f86 I86 := ⟨Try.func86, by kernel_rfl, by kernel_rfl, by kernel_rfl, by kernel_rfl⟩
def S86_2 (x1 : Str) (x7 : List Str) (x8 x9 : Int) : St := [(2, .v false [.str x1]), (14, .v false [.sl .ro .str x7]), (16, .v false [.int .i64 x8]), (18, .v false [.int .i64 x9])]
theorem p86_2_0 (x1 : Str) (x7 : List Str) (x8 x9 : Int) : run tt (AbsCalls Try.prog) I86 3000 true (stkAt 2 I86.body) ⟨(S86_2 x1 x7 x8 x9), [true, true], [], []⟩ = some (.done (xCG x9) [(decide ((x9 : Int) < x8)) = true, (0 : Int) ≤ x9 ∧ x9 < (List.length x7), (((List.getD x7 (Int.toNat x9) Ty.str.dflt) : Str) == x1) = true]) := by kernel_rfl
theorem p86_2_1 (x1 : Str) (x7 : List Str) (x8 x9 : Int) : run tt (AbsCalls Try.prog) I86 3000 true (stkAt 2 I86.body) ⟨(S86_2 x1 x7 x8 x9), [true, false], [], []⟩ = some (.stop (stkAt 2 I86.body) (S86_2 x1 x7 x8 (IntKind.i64.wrap (x9 + 1))) [(decide ((x9 : Int) < x8)) = true, (0 : Int) ≤ x9 ∧ x9 < (List.length x7), (((List.getD x7 (Int.toNat x9) Ty.str.dflt) : Str) == x1) = false]) := by kernel_rfl
theorem p86_2_2 (x1 : Str) (x7 : List Str) (x8 x9 : Int) : run tt (AbsCalls Try.prog) I86 3000 true (stkAt 2 I86.body) ⟨(S86_2 x1 x7 x8 x9), [false], [], []⟩ = some (.done (xCG (-1)) [(decide ((x9 : Int) < x8)) = false]) := by kernel_rfl
theorem p86_e_3 (a0 : List Str) (a1 : Str) : run tt (AbsCalls Try.prog) I86 3000 false [.code I86.body] ⟨(zBi 0 (xFa a0 a1)), [], [], []⟩ = some (.stop (stkAt 2 I86.body) (S86_2 a1 a0 (List.length a0 : Int) 0) []) := by kernel_rfl
theorem c86_2 {N : Nat} : ∀ n x1 x7 x8 x9 r, xDe N n x1 x7 x8 x9 = some r → Reach Try.prog Try.f86 I86 (stkAt 2 I86.body) (S86_2 x1 x7 x8 x9) (xCG r) := by
 intro n
 induction n with
 | zero => intro x1 x7 x8 x9 r h; have h' : (none : Option (Int)) = some r := h; cases h'
 | succ n ih =>
  intro x1 x7 x8 x9 r h
  rw [xDe] at h
  rcases cond_inv h with ⟨h0, h⟩ | ⟨h0, h⟩
  ·obtain ⟨h1, h⟩ := ite_inv h
   rcases cond_inv h with ⟨h2, h⟩ | ⟨h2, h⟩
   ·obtain rfl := Option.some.inj h
    exact Reach.done ttok mix fk86 (p86_2_0 x1 x7 x8 x9) (obs_cons h0 (obs_cons h1 (obs_cons h2 obs_nil)))
   ·exact Reach.stop ttok mix fk86 (p86_2_1 x1 x7 x8 x9) (obs_cons h0 (obs_cons h1 (obs_cons h2 obs_nil))) (ih _ _ _ _ _ h)
  ·obtain rfl := Option.some.inj h
   exact Reach.done ttok mix fk86 (p86_2_2 x1 x7 x8 x9) (obs_cons h0 obs_nil)
theorem c86_e {N : Nat} : ∀ a0 a1 r, xGi N a0 a1 = some r → Reach Try.prog Try.f86 I86 [.code I86.body] (zBi 0 (xFa a0 a1)) (xCG r) := by
 intro a0 a1 r h
 unfold xGi at h
 exact Reach.stop ttok mix fk86 (p86_e_3 a0 a1) obs_nil (c86_2   _ _ _ _ _ _ h)
theorem xHp {N : Nat} {a0 : List Str} {a1 : Str} {r : Int} (h : xGi N  a0 a1 = some r) : AbC 86 (xFa a0 a1) (xCG r) :=
 AbsCalls.of_reach fk86 rfl rfl (Nat.le_of_ble_eq_true rfl) (c86_e a0 a1 r h)
noncomputable def I126 : Info := { body := (Try.f126.body).getD .skip, nt := 18, results := [.tmp 2], keep := [0, 4, 6, 8, 10, 12, 14, 16, 32], live := [(2, [0, 10, 12, 14])], modes := [(4, [(1, .take, false), (3, .take, false)]), (6, [(1, .take, false)])], ext := [], lnt := [], casts := [], fcast := [] }
theorem fk126 : FnOk Try.prog 126 Try.f126 I126 := ⟨Try.func126, by kernel_rfl, by kernel_rfl, by kernel_rfl, by kernel_rfl⟩
def S126_2 (x0 x5 : List Str) (x6 x7 : Int) : St := [(0, .v false [.sl .ro .str x0]), (10, .v false [.sl .ro .str x5]), (12, .v false [.int .i64 x6]), (14, .v false [.int .i64 x7])]
theorem p126_2_0 (x0 x5 : List Str) (x6 x7 r1 : Int) : run tt (AbsCalls Try.prog) I126 3000 true (stkAt 2 I126.body) ⟨(S126_2 x0 x5 x6 x7), [true, true], [xCG r1], []⟩ = some (.done (xCo false) [(decide ((x7 : Int) < x6)) = true, (0 : Int) ≤ x7 ∧ x7 < (List.length x5), AbC 86 (xFa x0 (List.getD x5 (Int.toNat x7) Ty.str.dflt)) (xCG r1), ((r1 : Int) != x7) = true]) := by kernel_rfl
theorem p126_2_1 (x0 x5 : List Str) (x6 x7 r1 : Int) : run tt (AbsCalls Try.prog) I126 3000 true (stkAt 2 I126.body) ⟨(S126_2 x0 x5 x6 x7), [true, false], [xCG r1], []⟩ = some (.stop (stkAt 2 I126.body) (S126_2 x0 x5 x6 (IntKind.i64.wrap (x7 + 1))) [(decide ((x7 : Int) < x6)) = true, (0 : Int) ≤ x7 ∧ x7 < (List.length x5), AbC 86 (xFa x0 (List.getD x5 (Int.toNat x7) Ty.str.dflt)) (xCG r1), ((r1 : Int) != x7) = false]) := by kernel_rfl
theorem p126_2_2 (x0 x5 : List Str) (x6 x7 : Int) : run tt (AbsCalls Try.prog) I126 3000 true (stkAt 2 I126.body) ⟨(S126_2 x0 x5 x6 x7), [false], [], []⟩ = some (.done (xCo true) [(decide ((x7 : Int) < x6)) = false]) := by kernel_rfl
theorem p126_e_3 (a0 : List Str) : run tt (AbsCalls Try.prog) I126 3000 false [.code I126.body] ⟨(zBi 0 (xEy a0)), [], [], []⟩ = some (.stop (stkAt 2 I126.body) (S126_2 a0 a0 (List.length a0 : Int) 0) []) := by kernel_rfl
theorem c126_2 {N : Nat} : ∀ n x0 x5 x6 x7 r, xB4 N n x0 x5 x6 x7 = some r → Reach Try.prog Try.f126 I126 (stkAt 2 I126.body) (S126_2 x0 x5 x6 x7) (xCo r) := by
 intro n
 induction n with
 | zero => intro x0 x5 x6 x7 r h; have h' : (none : Option (Bool)) = some r := h; cases h'
 | succ n ih =>
  intro x0 x5 x6 x7 r h
  rw [xB4] at h
  rcases cond_inv h with ⟨h0, h⟩ | ⟨h0, h⟩
  ·obtain ⟨h1, h⟩ := ite_inv h
   obtain ⟨r1, h2, h⟩ := bind_inv h
   rcases cond_inv h with ⟨h3, h⟩ | ⟨h3, h⟩
   ·obtain rfl := Option.some.inj h
    exact Reach.done ttok mix fk126 (p126_2_0 x0 x5 x6 x7 r1) (obs_cons h0 (obs_cons h1 (obs_cons (xHp h2) (obs_cons h3 obs_nil))))
   ·exact Reach.stop ttok mix fk126 (p126_2_1 x0 x5 x6 x7 r1) (obs_cons h0 (obs_cons h1 (obs_cons (xHp h2) (obs_cons h3 obs_nil)))) (ih _ _ _ _ _ h)
  ·obtain rfl := Option.some.inj h
   exact Reach.done ttok mix fk126 (p126_2_2 x0 x5 x6 x7) (obs_cons h0 obs_nil)
theorem c126_e {N : Nat} : ∀ a0 r, xEJ N a0 = some r → Reach Try.prog Try.f126 I126 [.code I126.body] (zBi 0 (xEy a0)) (xCo r) := by
 intro a0 r h
 unfold xEJ at h
 exact Reach.stop ttok mix fk126 (p126_e_3 a0) obs_nil (c126_2   _ _ _ _ _ _ h)
theorem xHP {N : Nat} {a0 : List Str} {r : Bool} (h : xEJ N  a0 = some r) : AbC 126 (xEy a0) (xCo r) :=
 AbsCalls.of_reach fk126 rfl rfl (Nat.le_of_ble_eq_true rfl) (c126_e a0 r h)
noncomputable def I121 : Info := { body := (Try.f121.body).getD .skip, nt := 22, results := [.tmp 2], keep := [0, 4, 8, 10, 12, 14, 16, 26], live := [(2, [0, 10, 12, 14])], modes := [(4, [(0, .take, false)]), (6, [(1, .take, false)]), (7, [(3, .take, false)])], ext := [], lnt := [], casts := [], fcast := [] }
theorem fk121 : FnOk Try.prog 121 Try.f121 I121 := ⟨Try.func121, by kernel_rfl, by kernel_rfl, by kernel_rfl, by kernel_rfl⟩
def S121_2 (x0 x5 : List Str) (x6 x7 : Int) : St := [(0, .v false [.sl .ro .str x0]), (10, .v false [.sl .ro .str x5]), (12, .v false [.int .i64 x6]), (14, .v false [.int .i64 x7])]
theorem p121_2_0 (x0 x5 : List Str) (x6 x7 : Int) (r1 : Bool) : run tt (AbsCalls Try.prog) I121 3000 true (stkAt 2 I121.body) ⟨(S121_2 x0 x5 x6 x7), [true, true], [xB5 r1], []⟩ = some (.done (xBo false) [(decide ((x7 : Int) < x6)) = true, (0 : Int) ≤ x7 ∧ x7 < (List.length x5), AbC 52 (xCY (List.getD x5 (Int.toNat x7) Ty.str.dflt)) (xB5 r1), (!r1) = true]) := by kernel_rfl
theorem p121_2_1 (x0 x5 : List Str) (x6 x7 : Int) (r1 : Bool) : run tt (AbsCalls Try.prog) I121 3000 true (stkAt 2 I121.body) ⟨(S121_2 x0 x5 x6 x7), [true, false], [xB5 r1], []⟩ = some (.stop (stkAt 2 I121.body) (S121_2 x0 x5 x6 (IntKind.i64.wrap (x7 + 1))) [(decide ((x7 : Int) < x6)) = true, (0 : Int) ≤ x7 ∧ x7 < (List.length x5), AbC 52 (xCY (List.getD x5 (Int.toNat x7) Ty.str.dflt)) (xB5 r1), (!r1) = false]) := by kernel_rfl
theorem p121_2_2 (x0 x5 : List Str) (x6 x7 : Int) (r1 r2 : Bool) : run tt (AbsCalls Try.prog) I121 3000 true (stkAt 2 I121.body) ⟨(S121_2 x0 x5 x6 x7), [false, true], [xBO r1, xCo r2], []⟩ = some (.done (xBo r2) [(decide ((x7 : Int) < x6)) = false, AbC 56 (xDa (List.length x0 : Int) 1 4) (xBO r1), r1 = true, AbC 126 (xEy x0) (xCo r2)]) := by kernel_rfl
theorem p121_2_3 (x0 x5 : List Str) (x6 x7 : Int) (r1 : Bool) : run tt (AbsCalls Try.prog) I121 3000 true (stkAt 2 I121.body) ⟨(S121_2 x0 x5 x6 x7), [false, false], [xBO r1], []⟩ = some (.done (xBo false) [(decide ((x7 : Int) < x6)) = false, AbC 56 (xDa (List.length x0 : Int) 1 4) (xBO r1), r1 = false]) := by kernel_rfl
theorem p121_e_4 (a0 : List Str) : run tt (AbsCalls Try.prog) I121 3000 false [.code I121.body] ⟨(zBi 0 (xDk a0)), [], [], []⟩ = some (.stop (stkAt 2 I121.body) (S121_2 a0 a0 (List.length a0 : Int) 0) []) := by kernel_rfl
theorem c121_2 {N : Nat} : ∀ n x0 x5 x6 x7 r, xCH N n x0 x5 x6 x7 = some r → Reach Try.prog Try.f121 I121 (stkAt 2 I121.body) (S121_2 x0 x5 x6 x7) (xBo r) := by
 intro n
 induction n with
 | zero => intro x0 x5 x6 x7 r h; have h' : (none : Option (Bool)) = some r := h; cases h'
 | succ n ih =>
  intro x0 x5 x6 x7 r h
  rw [xCH] at h
  rcases cond_inv h with ⟨h0, h⟩ | ⟨h0, h⟩
  ·obtain ⟨h1, h⟩ := ite_inv h
   obtain ⟨r1, h2, h⟩ := bind_inv h
   rcases cond_inv h with ⟨h3, h⟩ | ⟨h3, h⟩
   ·obtain rfl := Option.some.inj h
    exact Reach.done ttok mix fk121 (p121_2_0 x0 x5 x6 x7 r1) (obs_cons h0 (obs_cons h1 (obs_cons (xGz h2) (obs_cons h3 obs_nil))))
   ·exact Reach.stop ttok mix fk121 (p121_2_1 x0 x5 x6 x7 r1) (obs_cons h0 (obs_cons h1 (obs_cons (xGz h2) (obs_cons h3 obs_nil)))) (ih _ _ _ _ _ h)
  ·obtain ⟨r1, h1, h⟩ := bind_inv h
   rcases cond_inv h with ⟨h2, h⟩ | ⟨h2, h⟩
   ·obtain ⟨r2, h3, h⟩ := bind_inv h
    obtain rfl := Option.some.inj h
    exact Reach.done ttok mix fk121 (p121_2_2 x0 x5 x6 x7 r1 r2) (obs_cons h0 (obs_cons (xFy h1) (obs_cons h2 (obs_cons (xHP h3) obs_nil))))
   ·obtain rfl := Option.some.inj h
    exact Reach.done ttok mix fk121 (p121_2_3 x0 x5 x6 x7 r1) (obs_cons h0 (obs_cons (xFy h1) (obs_cons h2 obs_nil)))
theorem c121_e {N : Nat} : ∀ a0 r, xFb N a0 = some r → Reach Try.prog Try.f121 I121 [.code I121.body] (zBi 0 (xDk a0)) (xBo r) := by
 intro a0 r h
 unfold xFb at h
 exact Reach.stop ttok mix fk121 (p121_e_4 a0) obs_nil (c121_2   _ _ _ _ _ _ h)
theorem xFN {N : Nat} {a0 : List Str} {r : Bool} (h : xFb N  a0 = some r) : AbC 121 (xDk a0) (xBo r) :=
 AbsCalls.of_reach fk121 rfl rfl (Nat.le_of_ble_eq_true rfl) (c121_e a0 r h)
noncomputable def I122 : Info := { body := (Try.f122.body).getD .skip, nt := 24, results := [.tmp 4], keep := [0, 2, 4, 6, 8, 5, 7], live := [], modes := [(1, [(5, .take, false), (11, .take, false)])], ext := [], lnt := [], casts := [], fcast := [] }
theorem fk122 : FnOk Try.prog 122 Try.f122 I122 := ⟨Try.func122, by kernel_rfl, by kernel_rfl, by kernel_rfl, by kernel_rfl⟩
theorem p122_e_0 (a0 a1 : Org) : run tt (AbsCalls Try.prog) I122 3000 false [.code I122.body] ⟨(zBi 0 (xCd a0 a1)), [true], [], []⟩ = some (.done (xBH true) [(decide (((Org.cell a0) : Int) < (Org.cell a1))) = true]) := by kernel_rfl
theorem p122_e_1 (a0 a1 : Org) : run tt (AbsCalls Try.prog) I122 3000 false [.code I122.body] ⟨(zBi 0 (xCd a0 a1)), [false, true], [], []⟩ = some (.done (xBH (decide (((Org.row a0) : Int) < (Org.row a1)))) [(decide (((Org.cell a0) : Int) < (Org.cell a1))) = false, (((Org.cell a0) : Int) == (Org.cell a1)) = true]) := by kernel_rfl
theorem p122_e_2 (a0 a1 : Org) : run tt (AbsCalls Try.prog) I122 3000 false [.code I122.body] ⟨(zBi 0 (xCd a0 a1)), [false, false], [], []⟩ = some (.done (xBH false) [(decide (((Org.cell a0) : Int) < (Org.cell a1))) = false, (((Org.cell a0) : Int) == (Org.cell a1)) = false]) := by kernel_rfl
theorem c122_e {N : Nat} : ∀ a0 a1 r, xEn N a0 a1 = some r → Reach Try.prog Try.f122 I122 [.code I122.body] (zBi 0 (xCd a0 a1)) (xBH r) := by
 intro a0 a1 r h
 unfold xEn at h
 rcases cond_inv h with ⟨h0, h⟩ | ⟨h0, h⟩
 ·obtain rfl := Option.some.inj h
  exact Reach.done ttok mix fk122 (p122_e_0 a0 a1) (obs_cons h0 obs_nil)
 ·rcases cond_inv h with ⟨h1, h⟩ | ⟨h1, h⟩
  ·obtain rfl := Option.some.inj h
   exact Reach.done ttok mix fk122 (p122_e_1 a0 a1) (obs_cons h0 (obs_cons h1 obs_nil))
  ·obtain rfl := Option.some.inj h
   exact Reach.done ttok mix fk122 (p122_e_2 a0 a1) (obs_cons h0 (obs_cons h1 obs_nil))
theorem xGr {N : Nat} {a0 : Org} {a1 : Org} {r : Bool} (h : xEn N  a0 a1 = some r) : AbC 122 (xCd a0 a1) (xBH r) :=
 AbsCalls.of_reach fk122 rfl rfl (Nat.le_of_ble_eq_true rfl) (c122_e a0 a1 r h)
noncomputable def I110 : Info := { body := (Try.f110.body).getD .skip, nt := 77, results := [.tmp 2], keep := [0, 2, 4, 8, 12, 14, 16, 36, 40, 42, 44, 46, 64, 68, 70, 72, 74, 84, 90, 92, 94, 96, 148, 3, 9, 17], live := [(4, [2, 40, 42, 44, 3]), (9, [2, 8, 40, 42, 44, 68, 70, 72, 3, 9]), (15, [2, 8, 40, 42, 44, 90, 92, 94, 3, 9])], modes := [(1, [(4, .take, false)]), (11, [(0, .take, false)]), (13, [(1, .take, false)]), (17, [(3, .take, false), (8, .take, false), (11, .take, false)]), (19, [(1, .take, false)]), (20, [(1, .take, false)])], ext := [], lnt := [], casts := [], fcast := [] }
theorem xHB : FnOk Try.prog 110 Try.f110 I110 := ⟨Try.func110, by kernel_rfl, by kernel_rfl, by kernel_rfl, by kernel_rfl⟩
def S110_4 (x20 : List Rowd) (x21 x22 : Int) (b1 : Val) : St := [(2, .v false [.ptr 1 0]), (40, .v false [.sl .ro .row x20]), (42, .v false [.int .i64 x21]), (44, .v false [.int .i64 x22]), (3, .v true [.int .i64 (Val.kind b1), .int .i64 (Val.n b1), .int .i64 (Val.step b1), .str (Val.text b1), .sl .ro .val (Val.list b1), .sl .ro .str (Val.columns b1), .sl .ro .row (Val.rows b1)])]
def S110_9 (x20 : List Rowd) (x21 x22 : Int) (x34 : List Int) (x35 x36 : Int) (b1 : Val) (b4 : Rowd) : St := [(2, .v false [.ptr 1 0]), (8, .v false [.ptr 4 0]), (40, .v false [.sl .ro .row x20]), (42, .v false [.int .i64 x21]), (44, .v false [.int .i64 x22]), (68, .v false [.sl .ro .int x34]), (70, .v false [.int .i64 x35]), (72, .v false [.int .i64 x36]), (3, .v true [.int .i64 (Val.kind b1), .int .i64 (Val.n b1), .int .i64 (Val.step b1), .str (Val.text b1), .sl .ro .val (Val.list b1), .sl .ro .str (Val.columns b1), .sl .ro .row (Val.rows b1)]), (9, .v true [.sl .ro .int (Rowd.cells b4), .sl .ro .org (Rowd.frm b4)])]
def xGO (x20 : List Rowd) (x21 x22 : Int) (x45 : List Org) (x46 x47 : Int) (b1 : Val) (b4 : Rowd) : St := [(2, .v false [.ptr 1 0]), (8, .v false [.ptr 4 0]), (40, .v false [.sl .ro .row x20]), (42, .v false [.int .i64 x21]), (44, .v false [.int .i64 x22]), (90, .v false [.sl .ro .org x45]), (92, .v false [.int .i64 x46]), (94, .v false [.int .i64 x47]), (3, .v true [.int .i64 (Val.kind b1), .int .i64 (Val.n b1), .int .i64 (Val.step b1), .str (Val.text b1), .sl .ro .val (Val.list b1), .sl .ro .str (Val.columns b1), .sl .ro .row (Val.rows b1)]), (9, .v true [.sl .ro .int (Rowd.cells b4), .sl .ro .org (Rowd.frm b4)])]
theorem p110_15_0 (x20 : List Rowd) (x21 x22 : Int) (x45 : List Org) (x46 x47 : Int) (b1 : Val) (b4 : Rowd) : run tt (AbsCalls Try.prog) I110 3000 true (stkAt 15 I110.body) ⟨(xGO x20 x21 x22 x45 x46 x47 b1 b4), [true, true, true, true], [], []⟩ = some (.done (xA4 false) [(decide ((x47 : Int) < x46)) = true, (0 : Int) ≤ x47 ∧ x47 < (List.length x45), (decide (((Org.cell (List.getD x45 (Int.toNat x47) Ty.org.dflt)) : Int) < 0)) = true, true = true, true = true]) := by kernel_rfl
theorem p110_15_1 (x20 : List Rowd) (x21 x22 : Int) (x45 : List Org) (x46 x47 : Int) (b1 : Val) (b4 : Rowd) : run tt (AbsCalls Try.prog) I110 3000 true (stkAt 15 I110.body) ⟨(xGO x20 x21 x22 x45 x46 x47 b1 b4), [true, false, true, true], [], []⟩ = some (.done (xA4 false) [(decide ((x47 : Int) < x46)) = true, (0 : Int) ≤ x47 ∧ x47 < (List.length x45), (decide (((Org.cell (List.getD x45 (Int.toNat x47) Ty.org.dflt)) : Int) < 0)) = false, (decide (((Org.row (List.getD x45 (Int.toNat x47) Ty.org.dflt)) : Int) < 0)) = true, true = true]) := by kernel_rfl
theorem p110_15_2 (x20 : List Rowd) (x21 x22 : Int) (x45 : List Org) (x46 x47 : Int) (b1 : Val) (b4 : Rowd) (r1 : Bool) : run tt (AbsCalls Try.prog) I110 3000 true (stkAt 15 I110.body) ⟨(xGO x20 x21 x22 x45 x46 x47 b1 b4), [true, false, false, true, true], [xBH r1], []⟩ = some (.done (xA4 false) [(decide ((x47 : Int) < x46)) = true, (0 : Int) ≤ x47 ∧ x47 < (List.length x45), (decide (((Org.cell (List.getD x45 (Int.toNat x47) Ty.org.dflt)) : Int) < 0)) = false, (decide (((Org.row (List.getD x45 (Int.toNat x47) Ty.org.dflt)) : Int) < 0)) = false, (decide ((x47 : Int) > 0)) = true, (0 : Int) ≤ (IntKind.i64.wrap (x47 - 1)) ∧ (IntKind.i64.wrap (x47 - 1)) < (List.length (Rowd.frm b4)), AbC 122 (xCd (List.getD (Rowd.frm b4) (Int.toNat (IntKind.i64.wrap (x47 - 1))) Ty.org.dflt) (List.getD x45 (Int.toNat x47) Ty.org.dflt)) (xBH r1), (!r1) = true]) := by kernel_rfl
theorem p110_15_3 (x20 : List Rowd) (x21 x22 : Int) (x45 : List Org) (x46 x47 : Int) (b1 : Val) (b4 : Rowd) (r1 : Bool) : run tt (AbsCalls Try.prog) I110 3000 true (stkAt 15 I110.body) ⟨(xGO x20 x21 x22 x45 x46 x47 b1 b4), [true, false, false, true, false], [xBH r1], []⟩ = some (.stop (stkAt 15 I110.body) (xGO x20 x21 x22 x45 x46 (IntKind.i64.wrap (x47 + 1)) b1 b4) [(decide ((x47 : Int) < x46)) = true, (0 : Int) ≤ x47 ∧ x47 < (List.length x45), (decide (((Org.cell (List.getD x45 (Int.toNat x47) Ty.org.dflt)) : Int) < 0)) = false, (decide (((Org.row (List.getD x45 (Int.toNat x47) Ty.org.dflt)) : Int) < 0)) = false, (decide ((x47 : Int) > 0)) = true, (0 : Int) ≤ (IntKind.i64.wrap (x47 - 1)) ∧ (IntKind.i64.wrap (x47 - 1)) < (List.length (Rowd.frm b4)), AbC 122 (xCd (List.getD (Rowd.frm b4) (Int.toNat (IntKind.i64.wrap (x47 - 1))) Ty.org.dflt) (List.getD x45 (Int.toNat x47) Ty.org.dflt)) (xBH r1), (!r1) = false]) := by kernel_rfl
theorem p110_15_4 (x20 : List Rowd) (x21 x22 : Int) (x45 : List Org) (x46 x47 : Int) (b1 : Val) (b4 : Rowd) : run tt (AbsCalls Try.prog) I110 3000 true (stkAt 15 I110.body) ⟨(xGO x20 x21 x22 x45 x46 x47 b1 b4), [true, false, false, false, false], [], []⟩ = some (.stop (stkAt 15 I110.body) (xGO x20 x21 x22 x45 x46 (IntKind.i64.wrap (x47 + 1)) b1 b4) [(decide ((x47 : Int) < x46)) = true, (0 : Int) ≤ x47 ∧ x47 < (List.length x45), (decide (((Org.cell (List.getD x45 (Int.toNat x47) Ty.org.dflt)) : Int) < 0)) = false, (decide (((Org.row (List.getD x45 (Int.toNat x47) Ty.org.dflt)) : Int) < 0)) = false, (decide ((x47 : Int) > 0)) = false, false = false]) := by kernel_rfl
theorem p110_15_5 (x20 : List Rowd) (x21 x22 : Int) (x45 : List Org) (x46 x47 : Int) (b1 : Val) (b4 : Rowd) : run tt (AbsCalls Try.prog) I110 3000 true (stkAt 15 I110.body) ⟨(xGO x20 x21 x22 x45 x46 x47 b1 b4), [false], [], []⟩ = some (.stop (stkAt 4 I110.body) (S110_4 x20 x21 (IntKind.i64.wrap (x22 + 1)) b1) [(decide ((x47 : Int) < x46)) = false]) := by kernel_rfl
theorem p110_9_6 (x20 : List Rowd) (x21 x22 : Int) (x34 : List Int) (x35 x36 : Int) (b1 : Val) (b4 : Rowd) (r1 : Bool) : run tt (AbsCalls Try.prog) I110 3000 true (stkAt 9 I110.body) ⟨(S110_9 x20 x21 x22 x34 x35 x36 b1 b4), [true, true], [xAU r1], []⟩ = some (.done (xA4 false) [(decide ((x36 : Int) < x35)) = true, (0 : Int) ≤ x36 ∧ x36 < (List.length x34), AbC 53 (xBY (List.getD x34 (Int.toNat x36) Ty.int.dflt)) (xAU r1), (!r1) = true]) := by kernel_rfl
theorem p110_9_7 (x20 : List Rowd) (x21 x22 : Int) (x34 : List Int) (x35 x36 : Int) (b1 : Val) (b4 : Rowd) (r1 : Bool) : run tt (AbsCalls Try.prog) I110 3000 true (stkAt 9 I110.body) ⟨(S110_9 x20 x21 x22 x34 x35 x36 b1 b4), [true, false], [xAU r1], []⟩ = some (.stop (stkAt 9 I110.body) (S110_9 x20 x21 x22 x34 x35 (IntKind.i64.wrap (x36 + 1)) b1 b4) [(decide ((x36 : Int) < x35)) = true, (0 : Int) ≤ x36 ∧ x36 < (List.length x34), AbC 53 (xBY (List.getD x34 (Int.toNat x36) Ty.int.dflt)) (xAU r1), (!r1) = false]) := by kernel_rfl
theorem p110_9_8 (x20 : List Rowd) (x21 x22 : Int) (x34 : List Int) (x35 x36 : Int) (b1 : Val) (b4 : Rowd) : run tt (AbsCalls Try.prog) I110 3000 true (stkAt 9 I110.body) ⟨(S110_9 x20 x21 x22 x34 x35 x36 b1 b4), [false], [], []⟩ = some (.stop (stkAt 15 I110.body) (xGO x20 x21 x22 (Rowd.frm b4) (List.length (Rowd.frm b4) : Int) 0 b1 b4) [(decide ((x36 : Int) < x35)) = false]) := by kernel_rfl
theorem p110_4_9 (x20 : List Rowd) (x21 x22 : Int) (b1 : Val) : run tt (AbsCalls Try.prog) I110 3000 true (stkAt 4 I110.body) ⟨(S110_4 x20 x21 x22 b1), [true, true], [], []⟩ = some (.done (xA4 false) [(decide ((x22 : Int) < x21)) = true, (0 : Int) ≤ x22 ∧ x22 < (List.length x20), (((List.length (Rowd.cells (List.getD x20 (Int.toNat x22) Ty.row.dflt)) : Int) : Int) != (List.length (Val.columns b1) : Int)) = true]) := by kernel_rfl
theorem p110_4_10 (x20 : List Rowd) (x21 x22 : Int) (b1 : Val) : run tt (AbsCalls Try.prog) I110 3000 true (stkAt 4 I110.body) ⟨(S110_4 x20 x21 x22 b1), [true, false], [], []⟩ = some (.stop (stkAt 9 I110.body) (S110_9 x20 x21 x22 (Rowd.cells (List.getD x20 (Int.toNat x22) Ty.row.dflt)) (List.length (Rowd.cells (List.getD x20 (Int.toNat x22) Ty.row.dflt)) : Int) 0 b1 (List.getD x20 (Int.toNat x22) Ty.row.dflt)) [(decide ((x22 : Int) < x21)) = true, (0 : Int) ≤ x22 ∧ x22 < (List.length x20), (((List.length (Rowd.cells (List.getD x20 (Int.toNat x22) Ty.row.dflt)) : Int) : Int) != (List.length (Val.columns b1) : Int)) = false]) := by kernel_rfl
theorem p110_4_11 (x20 : List Rowd) (x21 x22 : Int) (b1 : Val) : run tt (AbsCalls Try.prog) I110 3000 true (stkAt 4 I110.body) ⟨(S110_4 x20 x21 x22 b1), [false], [], []⟩ = some (.done (xA4 true) [(decide ((x22 : Int) < x21)) = false]) := by kernel_rfl
theorem p110_e_12 (a0 : Val) (r1 : Bool) : run tt (AbsCalls Try.prog) I110 3000 false [.code I110.body] ⟨(zBi 0 (xDQ a0)), [true, true], [xBo r1], []⟩ = some (.done (xA4 false) [AbC 121 (xDk (Val.columns a0)) (xBo r1), (!r1) = true, true = true]) := by kernel_rfl
theorem p110_e_13 (a0 : Val) (r1 : Bool) : run tt (AbsCalls Try.prog) I110 3000 false [.code I110.body] ⟨(zBi 0 (xDQ a0)), [false, true], [xBo r1], []⟩ = some (.done (xA4 false) [AbC 121 (xDk (Val.columns a0)) (xBo r1), (!r1) = false, (decide (((List.length (Val.rows a0) : Int) : Int) > 12)) = true]) := by kernel_rfl
theorem p110_e_14 (a0 : Val) (r1 : Bool) : run tt (AbsCalls Try.prog) I110 3000 false [.code I110.body] ⟨(zBi 0 (xDQ a0)), [false, false], [xBo r1], []⟩ = some (.stop (stkAt 4 I110.body) (S110_4 (Val.rows a0) (List.length (Val.rows a0) : Int) 0 a0) [AbC 121 (xDk (Val.columns a0)) (xBo r1), (!r1) = false, (decide (((List.length (Val.rows a0) : Int) : Int) > 12)) = false]) := by kernel_rfl
theorem c110_15 {N : Nat} {k4 : (List Rowd) → Int → Int → Val → Option (Bool)} (hk4 : ∀ z0 z1 z2 z3 r, k4 z0 z1 z2 z3 = some r → Reach Try.prog Try.f110 I110 (stkAt 4 I110.body) (S110_4 z0 z1 z2 z3) (xA4 r)) : ∀ n x20 x21 x22 x45 x46 x47 b1 b4 r, xCk N k4 n x20 x21 x22 x45 x46 x47 b1 b4 = some r → Reach Try.prog Try.f110 I110 (stkAt 15 I110.body) (xGO x20 x21 x22 x45 x46 x47 b1 b4) (xA4 r) := by
 intro n
 induction n with
 | zero => intro x20 x21 x22 x45 x46 x47 b1 b4 r h; have h' : (none : Option (Bool)) = some r := h; cases h'
 | succ n ih =>
  intro x20 x21 x22 x45 x46 x47 b1 b4 r h
  rw [xCk] at h
  rcases cond_inv h with ⟨h0, h⟩ | ⟨h0, h⟩
  ·obtain ⟨h1, h⟩ := ite_inv h
   rcases cond_inv h with ⟨h2, h⟩ | ⟨h2, h⟩
   ·obtain rfl := Option.some.inj h
    exact Reach.done ttok mix xHB (p110_15_0 x20 x21 x22 x45 x46 x47 b1 b4) (obs_cons h0 (obs_cons h1 (obs_cons h2 (obs_cons rfl (obs_cons rfl obs_nil)))))
   ·rcases cond_inv h with ⟨h3, h⟩ | ⟨h3, h⟩
    ·obtain rfl := Option.some.inj h
     exact Reach.done ttok mix xHB (p110_15_1 x20 x21 x22 x45 x46 x47 b1 b4) (obs_cons h0 (obs_cons h1 (obs_cons h2 (obs_cons h3 (obs_cons rfl obs_nil)))))
    ·rcases cond_inv h with ⟨h4, h⟩ | ⟨h4, h⟩
     ·obtain ⟨h5, h⟩ := ite_inv h
      obtain ⟨r1, h6, h⟩ := bind_inv h
      rcases cond_inv h with ⟨h7, h⟩ | ⟨h7, h⟩
      ·obtain rfl := Option.some.inj h
       exact Reach.done ttok mix xHB (p110_15_2 x20 x21 x22 x45 x46 x47 b1 b4 r1) (obs_cons h0 (obs_cons h1 (obs_cons h2 (obs_cons h3 (obs_cons h4 (obs_cons h5 (obs_cons (xGr h6) (obs_cons h7 obs_nil))))))))
      ·exact Reach.stop ttok mix xHB (p110_15_3 x20 x21 x22 x45 x46 x47 b1 b4 r1) (obs_cons h0 (obs_cons h1 (obs_cons h2 (obs_cons h3 (obs_cons h4 (obs_cons h5 (obs_cons (xGr h6) (obs_cons h7 obs_nil)))))))) (ih _ _ _ _ _ _ _ _ _ h)
     ·exact Reach.stop ttok mix xHB (p110_15_4 x20 x21 x22 x45 x46 x47 b1 b4) (obs_cons h0 (obs_cons h1 (obs_cons h2 (obs_cons h3 (obs_cons h4 (obs_cons rfl obs_nil)))))) (ih _ _ _ _ _ _ _ _ _ h)
  ·exact Reach.stop ttok mix xHB (p110_15_5 x20 x21 x22 x45 x46 x47 b1 b4) (obs_cons h0 obs_nil) (hk4 _ _ _ _ _ h)
theorem c110_9 {N : Nat} {k4 : (List Rowd) → Int → Int → Val → Option (Bool)} (hk4 : ∀ z0 z1 z2 z3 r, k4 z0 z1 z2 z3 = some r → Reach Try.prog Try.f110 I110 (stkAt 4 I110.body) (S110_4 z0 z1 z2 z3) (xA4 r)) : ∀ n x20 x21 x22 x34 x35 x36 b1 b4 r, xDg N k4 n x20 x21 x22 x34 x35 x36 b1 b4 = some r → Reach Try.prog Try.f110 I110 (stkAt 9 I110.body) (S110_9 x20 x21 x22 x34 x35 x36 b1 b4) (xA4 r) := by
 intro n
 induction n with
 | zero => intro x20 x21 x22 x34 x35 x36 b1 b4 r h; have h' : (none : Option (Bool)) = some r := h; cases h'
 | succ n ih =>
  intro x20 x21 x22 x34 x35 x36 b1 b4 r h
  rw [xDg] at h
  rcases cond_inv h with ⟨h0, h⟩ | ⟨h0, h⟩
  ·obtain ⟨h1, h⟩ := ite_inv h
   obtain ⟨r1, h2, h⟩ := bind_inv h
   rcases cond_inv h with ⟨h3, h⟩ | ⟨h3, h⟩
   ·obtain rfl := Option.some.inj h
    exact Reach.done ttok mix xHB (p110_9_6 x20 x21 x22 x34 x35 x36 b1 b4 r1) (obs_cons h0 (obs_cons h1 (obs_cons (xCQ h2) (obs_cons h3 obs_nil))))
   ·exact Reach.stop ttok mix xHB (p110_9_7 x20 x21 x22 x34 x35 x36 b1 b4 r1) (obs_cons h0 (obs_cons h1 (obs_cons (xCQ h2) (obs_cons h3 obs_nil)))) (ih _ _ _ _ _ _ _ _ _ h)
  ·exact Reach.stop ttok mix xHB (p110_9_8 x20 x21 x22 x34 x35 x36 b1 b4) (obs_cons h0 obs_nil) (c110_15  hk4 _ _ _ _ _ _ _ _ _ _ h)
theorem c110_4 {N : Nat} : ∀ n x20 x21 x22 b1 r, xDf N n x20 x21 x22 b1 = some r → Reach Try.prog Try.f110 I110 (stkAt 4 I110.body) (S110_4 x20 x21 x22 b1) (xA4 r) := by
 intro n
 induction n with
 | zero => intro x20 x21 x22 b1 r h; have h' : (none : Option (Bool)) = some r := h; cases h'
 | succ n ih =>
  intro x20 x21 x22 b1 r h
  rw [xDf] at h
  rcases cond_inv h with ⟨h0, h⟩ | ⟨h0, h⟩
  ·obtain ⟨h1, h⟩ := ite_inv h
   rcases cond_inv h with ⟨h2, h⟩ | ⟨h2, h⟩
   ·obtain rfl := Option.some.inj h
    exact Reach.done ttok mix xHB (p110_4_9 x20 x21 x22 b1) (obs_cons h0 (obs_cons h1 (obs_cons h2 obs_nil)))
   ·exact Reach.stop ttok mix xHB (p110_4_10 x20 x21 x22 b1) (obs_cons h0 (obs_cons h1 (obs_cons h2 obs_nil))) (c110_9  ih _ _ _ _ _ _ _ _ _ _ h)
  ·obtain rfl := Option.some.inj h
   exact Reach.done ttok mix xHB (p110_4_11 x20 x21 x22 b1) (obs_cons h0 obs_nil)
theorem c110_e {N : Nat} : ∀ a0 r, xFd N a0 = some r → Reach Try.prog Try.f110 I110 [.code I110.body] (zBi 0 (xDQ a0)) (xA4 r) := by
 intro a0 r h
 unfold xFd at h
 obtain ⟨r1, h0, h⟩ := bind_inv h
 rcases cond_inv h with ⟨h1, h⟩ | ⟨h1, h⟩
 ·obtain rfl := Option.some.inj h
  exact Reach.done ttok mix xHB (p110_e_12 a0 r1) (obs_cons (xFN h0) (obs_cons h1 (obs_cons rfl obs_nil)))
 ·rcases cond_inv h with ⟨h2, h⟩ | ⟨h2, h⟩
  ·obtain rfl := Option.some.inj h
   exact Reach.done ttok mix xHB (p110_e_13 a0 r1) (obs_cons (xFN h0) (obs_cons h1 (obs_cons h2 obs_nil)))
  ·exact Reach.stop ttok mix xHB (p110_e_14 a0 r1) (obs_cons (xFN h0) (obs_cons h1 (obs_cons h2 obs_nil))) (c110_4   _ _ _ _ _ _ h)
theorem xHr {N : Nat} {a0 : Val} {r : Bool} (h : xFd N  a0 = some r) : AbC 110 (xDQ a0) (xA4 r) :=
 AbsCalls.of_reach xHB rfl rfl (Nat.le_of_ble_eq_true rfl) (c110_e a0 r h)
noncomputable def I111 : Info := { body := (Try.f111.body).getD .skip, nt := 20, results := [.tmp 2], keep := [0, 2, 4, 6, 10, 14, 16, 18, 20, 3, 11], live := [(3, [6, 14, 16, 18])], modes := [(6, [(1, .take, false)])], ext := [], lnt := [], casts := [], fcast := [] }
theorem fk111 : FnOk Try.prog 111 Try.f111 I111 := ⟨Try.func111, by kernel_rfl, by kernel_rfl, by kernel_rfl, by kernel_rfl⟩
def S111_3 (x3 : Int) (x7 : List Val) (x8 x9 : Int) : St := [(6, .v false [.int .i64 x3]), (14, .v false [.sl .ro .val x7]), (16, .v false [.int .i64 x8]), (18, .v false [.int .i64 x9])]
theorem p111_3_0 (x3 : Int) (x7 : List Val) (x8 x9 r1 : Int) : run tt (AbsCalls Try.prog) I111 3000 true (stkAt 3 I111.body) ⟨(S111_3 x3 x7 x8 x9), [true], [xBJ r1], []⟩ = some (.stop (stkAt 3 I111.body) (S111_3 (if (r1 : Int) > x3 then r1 else x3) x7 x8 (IntKind.i64.wrap (x9 + 1))) [(decide ((x9 : Int) < x8)) = true, (0 : Int) ≤ x9 ∧ x9 < (List.length x7), AbC 111 (xCh (List.getD x7 (Int.toNat x9) Ty.val.dflt)) (xBJ r1)]) := by kernel_rfl
theorem p111_3_1 (x3 : Int) (x7 : List Val) (x8 x9 : Int) : run tt (AbsCalls Try.prog) I111 3000 true (stkAt 3 I111.body) ⟨(S111_3 x3 x7 x8 x9), [false], [], []⟩ = some (.done (xBJ (IntKind.i64.wrap (x3 + 1))) [(decide ((x9 : Int) < x8)) = false]) := by kernel_rfl
theorem p111_e_2 (a0 : Val) : run tt (AbsCalls Try.prog) I111 3000 false [.code I111.body] ⟨(zBi 0 (xCh a0)), [], [], []⟩ = some (.stop (stkAt 3 I111.body) (S111_3 0 (Val.list a0) (List.length (Val.list a0) : Int) 0) []) := by kernel_rfl
theorem c111_3 {N : Nat} {rc_impl_DepthOf : Val → Option (Int)} (hrc_impl_DepthOf : ∀ a0 r, rc_impl_DepthOf a0 = some r → AbC 111 (xCh a0) (xBJ r)) : ∀ n x3 x7 x8 x9 r, xDO N rc_impl_DepthOf n x3 x7 x8 x9 = some r → Reach Try.prog Try.f111 I111 (stkAt 3 I111.body) (S111_3 x3 x7 x8 x9) (xBJ r) := by
 intro n
 induction n with
 | zero => intro x3 x7 x8 x9 r h; have h' : (none : Option (Int)) = some r := h; cases h'
 | succ n ih =>
  intro x3 x7 x8 x9 r h
  rw [xDO] at h
  rcases cond_inv h with ⟨h0, h⟩ | ⟨h0, h⟩
  ·obtain ⟨h1, h⟩ := ite_inv h
   obtain ⟨r1, h2, h⟩ := bind_inv h
   exact Reach.stop ttok mix fk111 (p111_3_0 x3 x7 x8 x9 r1) (obs_cons h0 (obs_cons h1 (obs_cons (hrc_impl_DepthOf _ _ h2) obs_nil))) (ih _ _ _ _ _ h)
  ·obtain rfl := Option.some.inj h
   exact Reach.done ttok mix fk111 (p111_3_1 x3 x7 x8 x9) (obs_cons h0 obs_nil)
theorem c111_e {N : Nat} {rc_impl_DepthOf : Val → Option (Int)} (hrc_impl_DepthOf : ∀ a0 r, rc_impl_DepthOf a0 = some r → AbC 111 (xCh a0) (xBJ r)) : ∀ a0 r, xFi N rc_impl_DepthOf a0 = some r → Reach Try.prog Try.f111 I111 [.code I111.body] (zBi 0 (xCh a0)) (xBJ r) := by
 intro a0 r h
 unfold xFi at h
 exact Reach.stop ttok mix fk111 (p111_e_2 a0) obs_nil (c111_3 hrc_impl_DepthOf  _ _ _ _ _ _ h)
theorem xHC {N : Nat} {rc_impl_DepthOf : Val → Option (Int)} (hrc_impl_DepthOf : ∀ a0 r, rc_impl_DepthOf a0 = some r → AbC 111 (xCh a0) (xBJ r)) {a0 : Val} {r : Int} (h : xFi N rc_impl_DepthOf a0 = some r) : AbC 111 (xCh a0) (xBJ r) :=
 AbsCalls.of_reach fk111 rfl rfl (Nat.le_of_ble_eq_true rfl) (c111_e hrc_impl_DepthOf a0 r h)
theorem xHQ {N : Nat} : ∀ d, (∀ a0 r, xDq N d a0 = some r → AbC 111 (xCh a0) (xBJ r)) := by
 intro d
 induction d with
 | zero => intro _ r h; have h' : (none : Option (Int)) = some r := h; cases h'
 | succ d ih => intro _ r h; exact xHC (N := N) ih h
theorem impl_DepthOf_ok {N : Nat} {a0 : Val} {r : Int} (h : xGh N a0 = some r) : AbC 111 (xCh a0) (xBJ r) := xHQ N _ r h
end Go.Ab.T
end
section
open Go.Proofs
namespace Go.Ab.T
set_option linter.unusedVariables false
set_option maxRecDepth 100000
noncomputable def I92 : Info := { body := (Try.f92.body).getD .skip, nt := 185, results := [.tmp 2], keep := [0, 2, 4, 6, 10, 46, 48, 84, 120, 156, 192, 242, 248, 250, 252, 254, 294, 3, 11], live := [(15, [2, 248, 250, 252, 3])], modes := [(1, [(4, .take, false), (10, .take, false)]), (4, [(1, .take, false), (6, .take, false), (11, .take, false)]), (6, [(1, .take, false), (6, .take, false), (11, .take, false)]), (8, [(1, .take, false), (6, .take, false), (11, .take, false)]), (10, [(1, .take, false), (6, .take, false), (11, .take, false)]), (12, [(3, .take, false), (8, .take, false), (13, .take, false), (19, .take, false)]), (17, [(3, .take, false), (8, .take, false), (13, .take, false)]), (19, [(1, .take, false)]), (20, [(3, .take, false), (8, .take, false), (13, .take, false), (19, .take, false), (25, .take, false), (31, .take, false)])], ext := [], lnt := [], casts := [], fcast := [] }
theorem fk92 : FnOk Try.prog 92 Try.f92 I92 := ⟨Try.func92, by kernel_rfl, by kernel_rfl, by kernel_rfl, by kernel_rfl⟩
def xFw (x124 : List Val) (x125 x126 : Int) (b1 : Val) : St := [(2, .v false [.ptr 1 0]), (248, .v false [.sl .ro .val x124]), (250, .v false [.int .i64 x125]), (252, .v false [.int .i64 x126]), (3, .v true [.int .i64 (Val.kind b1), .int .i64 (Val.n b1), .int .i64 (Val.step b1), .str (Val.text b1), .sl .ro .val (Val.list b1), .sl .ro .str (Val.columns b1), .sl .ro .row (Val.rows b1)])]
theorem p92_15_0 (x124 : List Val) (x125 x126 : Int) (b1 : Val) : run tt (AbsCalls Try.prog) I92 3000 true (stkAt 15 I92.body) ⟨(xFw x124 x125 x126 b1), [true, true, true, true, true], [], []⟩ = some (.done (xAi false) [(decide ((x126 : Int) < x125)) = true, (0 : Int) ≤ x126 ∧ x126 < (List.length x124), (((Val.kind (List.getD x124 (Int.toNat x126) Ty.val.dflt)) : Int) != 1) = true, (((Val.kind (List.getD x124 (Int.toNat x126) Ty.val.dflt)) : Int) != 2) = true, (((Val.kind (List.getD x124 (Int.toNat x126) Ty.val.dflt)) : Int) != 3) = true, true = true]) := by kernel_rfl
theorem p92_15_1 (x124 : List Val) (x125 x126 : Int) (b1 : Val) (r1 : Bool) : run tt (AbsCalls Try.prog) I92 3000 true (stkAt 15 I92.body) ⟨(xFw x124 x125 x126 b1), [true, true, true, false, true], [xAi r1], []⟩ = some (.done (xAi false) [(decide ((x126 : Int) < x125)) = true, (0 : Int) ≤ x126 ∧ x126 < (List.length x124), (((Val.kind (List.getD x124 (Int.toNat x126) Ty.val.dflt)) : Int) != 1) = true, (((Val.kind (List.getD x124 (Int.toNat x126) Ty.val.dflt)) : Int) != 2) = true, (((Val.kind (List.getD x124 (Int.toNat x126) Ty.val.dflt)) : Int) != 3) = false, AbC 92 (xAj (List.getD x124 (Int.toNat x126) Ty.val.dflt)) (xAi r1), (!r1) = true]) := by kernel_rfl
theorem p92_15_2 (x124 : List Val) (x125 x126 : Int) (b1 : Val) (r1 : Bool) : run tt (AbsCalls Try.prog) I92 3000 true (stkAt 15 I92.body) ⟨(xFw x124 x125 x126 b1), [true, true, true, false, false], [xAi r1], []⟩ = some (.stop (stkAt 15 I92.body) (xFw x124 x125 (IntKind.i64.wrap (x126 + 1)) b1) [(decide ((x126 : Int) < x125)) = true, (0 : Int) ≤ x126 ∧ x126 < (List.length x124), (((Val.kind (List.getD x124 (Int.toNat x126) Ty.val.dflt)) : Int) != 1) = true, (((Val.kind (List.getD x124 (Int.toNat x126) Ty.val.dflt)) : Int) != 2) = true, (((Val.kind (List.getD x124 (Int.toNat x126) Ty.val.dflt)) : Int) != 3) = false, AbC 92 (xAj (List.getD x124 (Int.toNat x126) Ty.val.dflt)) (xAi r1), (!r1) = false]) := by kernel_rfl
theorem p92_15_3 (x124 : List Val) (x125 x126 : Int) (b1 : Val) (r1 : Bool) : run tt (AbsCalls Try.prog) I92 3000 true (stkAt 15 I92.body) ⟨(xFw x124 x125 x126 b1), [true, true, false, false, true], [xAi r1], []⟩ = some (.done (xAi false) [(decide ((x126 : Int) < x125)) = true, (0 : Int) ≤ x126 ∧ x126 < (List.length x124), (((Val.kind (List.getD x124 (Int.toNat x126) Ty.val.dflt)) : Int) != 1) = true, (((Val.kind (List.getD x124 (Int.toNat x126) Ty.val.dflt)) : Int) != 2) = false, false = false, AbC 92 (xAj (List.getD x124 (Int.toNat x126) Ty.val.dflt)) (xAi r1), (!r1) = true]) := by kernel_rfl
theorem p92_15_4 (x124 : List Val) (x125 x126 : Int) (b1 : Val) (r1 : Bool) : run tt (AbsCalls Try.prog) I92 3000 true (stkAt 15 I92.body) ⟨(xFw x124 x125 x126 b1), [true, true, false, false, false], [xAi r1], []⟩ = some (.stop (stkAt 15 I92.body) (xFw x124 x125 (IntKind.i64.wrap (x126 + 1)) b1) [(decide ((x126 : Int) < x125)) = true, (0 : Int) ≤ x126 ∧ x126 < (List.length x124), (((Val.kind (List.getD x124 (Int.toNat x126) Ty.val.dflt)) : Int) != 1) = true, (((Val.kind (List.getD x124 (Int.toNat x126) Ty.val.dflt)) : Int) != 2) = false, false = false, AbC 92 (xAj (List.getD x124 (Int.toNat x126) Ty.val.dflt)) (xAi r1), (!r1) = false]) := by kernel_rfl
theorem p92_15_5 (x124 : List Val) (x125 x126 : Int) (b1 : Val) (r1 : Bool) : run tt (AbsCalls Try.prog) I92 3000 true (stkAt 15 I92.body) ⟨(xFw x124 x125 x126 b1), [true, false, false, false, true], [xAi r1], []⟩ = some (.done (xAi false) [(decide ((x126 : Int) < x125)) = true, (0 : Int) ≤ x126 ∧ x126 < (List.length x124), (((Val.kind (List.getD x124 (Int.toNat x126) Ty.val.dflt)) : Int) != 1) = false, false = false, false = false, AbC 92 (xAj (List.getD x124 (Int.toNat x126) Ty.val.dflt)) (xAi r1), (!r1) = true]) := by kernel_rfl
theorem p92_15_6 (x124 : List Val) (x125 x126 : Int) (b1 : Val) (r1 : Bool) : run tt (AbsCalls Try.prog) I92 3000 true (stkAt 15 I92.body) ⟨(xFw x124 x125 x126 b1), [true, false, false, false, false], [xAi r1], []⟩ = some (.stop (stkAt 15 I92.body) (xFw x124 x125 (IntKind.i64.wrap (x126 + 1)) b1) [(decide ((x126 : Int) < x125)) = true, (0 : Int) ≤ x126 ∧ x126 < (List.length x124), (((Val.kind (List.getD x124 (Int.toNat x126) Ty.val.dflt)) : Int) != 1) = false, false = false, false = false, AbC 92 (xAj (List.getD x124 (Int.toNat x126) Ty.val.dflt)) (xAi r1), (!r1) = false]) := by kernel_rfl
theorem p92_15_7 (x124 : List Val) (x125 x126 : Int) (b1 : Val) (r1 : Int) : run tt (AbsCalls Try.prog) I92 3000 true (stkAt 15 I92.body) ⟨(xFw x124 x125 x126 b1), [false, true, true, true, true, true, true], [xBJ r1], []⟩ = some (.done (xAi (decide ((r1 : Int) ≤ 3))) [(decide ((x126 : Int) < x125)) = false, (((Val.n b1) : Int) == 0) = true, (((Val.step b1) : Int) == 0) = true, (((Val.text b1) : Str) == []) = true, (((List.length (Val.columns b1) : Int) : Int) == 0) = true, (((List.length (Val.rows b1) : Int) : Int) == 0) = true, (decide (((List.length (Val.list b1) : Int) : Int) ≤ 8)) = true, AbC 111 (xCh b1) (xBJ r1)]) := by kernel_rfl
theorem p92_15_8 (x124 : List Val) (x125 x126 : Int) (b1 : Val) : run tt (AbsCalls Try.prog) I92 3000 true (stkAt 15 I92.body) ⟨(xFw x124 x125 x126 b1), [false, true, true, true, true, true, false], [], []⟩ = some (.done (xAi false) [(decide ((x126 : Int) < x125)) = false, (((Val.n b1) : Int) == 0) = true, (((Val.step b1) : Int) == 0) = true, (((Val.text b1) : Str) == []) = true, (((List.length (Val.columns b1) : Int) : Int) == 0) = true, (((List.length (Val.rows b1) : Int) : Int) == 0) = true, (decide (((List.length (Val.list b1) : Int) : Int) ≤ 8)) = false]) := by kernel_rfl
theorem p92_15_9 (x124 : List Val) (x125 x126 : Int) (b1 : Val) : run tt (AbsCalls Try.prog) I92 3000 true (stkAt 15 I92.body) ⟨(xFw x124 x125 x126 b1), [false, true, true, true, true, false, false], [], []⟩ = some (.done (xAi false) [(decide ((x126 : Int) < x125)) = false, (((Val.n b1) : Int) == 0) = true, (((Val.step b1) : Int) == 0) = true, (((Val.text b1) : Str) == []) = true, (((List.length (Val.columns b1) : Int) : Int) == 0) = true, (((List.length (Val.rows b1) : Int) : Int) == 0) = false, false = false]) := by kernel_rfl
theorem p92_15_10 (x124 : List Val) (x125 x126 : Int) (b1 : Val) : run tt (AbsCalls Try.prog) I92 3000 true (stkAt 15 I92.body) ⟨(xFw x124 x125 x126 b1), [false, true, true, true, false, false, false], [], []⟩ = some (.done (xAi false) [(decide ((x126 : Int) < x125)) = false, (((Val.n b1) : Int) == 0) = true, (((Val.step b1) : Int) == 0) = true, (((Val.text b1) : Str) == []) = true, (((List.length (Val.columns b1) : Int) : Int) == 0) = false, false = false, false = false]) := by kernel_rfl
theorem p92_15_11 (x124 : List Val) (x125 x126 : Int) (b1 : Val) : run tt (AbsCalls Try.prog) I92 3000 true (stkAt 15 I92.body) ⟨(xFw x124 x125 x126 b1), [false, true, true, false, false, false, false], [], []⟩ = some (.done (xAi false) [(decide ((x126 : Int) < x125)) = false, (((Val.n b1) : Int) == 0) = true, (((Val.step b1) : Int) == 0) = true, (((Val.text b1) : Str) == []) = false, false = false, false = false, false = false]) := by kernel_rfl
theorem p92_15_12 (x124 : List Val) (x125 x126 : Int) (b1 : Val) : run tt (AbsCalls Try.prog) I92 3000 true (stkAt 15 I92.body) ⟨(xFw x124 x125 x126 b1), [false, true, false, false, false, false, false], [], []⟩ = some (.done (xAi false) [(decide ((x126 : Int) < x125)) = false, (((Val.n b1) : Int) == 0) = true, (((Val.step b1) : Int) == 0) = false, false = false, false = false, false = false, false = false]) := by kernel_rfl
theorem p92_15_13 (x124 : List Val) (x125 x126 : Int) (b1 : Val) : run tt (AbsCalls Try.prog) I92 3000 true (stkAt 15 I92.body) ⟨(xFw x124 x125 x126 b1), [false, false, false, false, false, false, false], [], []⟩ = some (.done (xAi false) [(decide ((x126 : Int) < x125)) = false, (((Val.n b1) : Int) == 0) = false, false = false, false = false, false = false, false = false, false = false]) := by kernel_rfl
theorem p92_e_14 (a0 : Val) (r1 : Bool) : run tt (AbsCalls Try.prog) I92 3000 false [.code I92.body] ⟨(zBi 0 (xAj a0)), [true, true, true, true, true, true], [xAU r1], []⟩ = some (.done (xAi r1) [(((List.length (Val.list a0) : Int) : Int) == 0) = true, (((List.length (Val.columns a0) : Int) : Int) == 0) = true, (((Val.kind a0) : Int) == 1) = true, (((List.length (Val.rows a0) : Int) : Int) == 0) = true, (((Val.step a0) : Int) == 0) = true, (((Val.text a0) : Str) == []) = true, AbC 53 (xBY (Val.n a0)) (xAU r1)]) := by kernel_rfl
theorem p92_e_15 (a0 : Val) : run tt (AbsCalls Try.prog) I92 3000 false [.code I92.body] ⟨(zBi 0 (xAj a0)), [true, true, true, true, true, false], [], []⟩ = some (.done (xAi false) [(((List.length (Val.list a0) : Int) : Int) == 0) = true, (((List.length (Val.columns a0) : Int) : Int) == 0) = true, (((Val.kind a0) : Int) == 1) = true, (((List.length (Val.rows a0) : Int) : Int) == 0) = true, (((Val.step a0) : Int) == 0) = true, (((Val.text a0) : Str) == []) = false]) := by kernel_rfl
theorem p92_e_16 (a0 : Val) : run tt (AbsCalls Try.prog) I92 3000 false [.code I92.body] ⟨(zBi 0 (xAj a0)), [true, true, true, true, false, false], [], []⟩ = some (.done (xAi false) [(((List.length (Val.list a0) : Int) : Int) == 0) = true, (((List.length (Val.columns a0) : Int) : Int) == 0) = true, (((Val.kind a0) : Int) == 1) = true, (((List.length (Val.rows a0) : Int) : Int) == 0) = true, (((Val.step a0) : Int) == 0) = false, false = false]) := by kernel_rfl
theorem p92_e_17 (a0 : Val) : run tt (AbsCalls Try.prog) I92 3000 false [.code I92.body] ⟨(zBi 0 (xAj a0)), [true, true, true, false, false, false], [], []⟩ = some (.done (xAi false) [(((List.length (Val.list a0) : Int) : Int) == 0) = true, (((List.length (Val.columns a0) : Int) : Int) == 0) = true, (((Val.kind a0) : Int) == 1) = true, (((List.length (Val.rows a0) : Int) : Int) == 0) = false, false = false, false = false]) := by kernel_rfl
theorem p92_e_18 (a0 : Val) (r1 : Bool) : run tt (AbsCalls Try.prog) I92 3000 false [.code I92.body] ⟨(zBi 0 (xAj a0)), [true, true, false, true, true, true, true], [xBS r1], []⟩ = some (.done (xAi r1) [(((List.length (Val.list a0) : Int) : Int) == 0) = true, (((List.length (Val.columns a0) : Int) : Int) == 0) = true, (((Val.kind a0) : Int) == 1) = false, (((Val.kind a0) : Int) == 2) = true, (((List.length (Val.rows a0) : Int) : Int) == 0) = true, (((Val.n a0) : Int) == 0) = true, (((Val.step a0) : Int) == 0) = true, AbC 109 (xEz (Val.text a0)) (xBS r1)]) := by kernel_rfl
theorem p92_e_19 (a0 : Val) : run tt (AbsCalls Try.prog) I92 3000 false [.code I92.body] ⟨(zBi 0 (xAj a0)), [true, true, false, true, true, true, false], [], []⟩ = some (.done (xAi false) [(((List.length (Val.list a0) : Int) : Int) == 0) = true, (((List.length (Val.columns a0) : Int) : Int) == 0) = true, (((Val.kind a0) : Int) == 1) = false, (((Val.kind a0) : Int) == 2) = true, (((List.length (Val.rows a0) : Int) : Int) == 0) = true, (((Val.n a0) : Int) == 0) = true, (((Val.step a0) : Int) == 0) = false]) := by kernel_rfl
theorem p92_e_20 (a0 : Val) : run tt (AbsCalls Try.prog) I92 3000 false [.code I92.body] ⟨(zBi 0 (xAj a0)), [true, true, false, true, true, false, false], [], []⟩ = some (.done (xAi false) [(((List.length (Val.list a0) : Int) : Int) == 0) = true, (((List.length (Val.columns a0) : Int) : Int) == 0) = true, (((Val.kind a0) : Int) == 1) = false, (((Val.kind a0) : Int) == 2) = true, (((List.length (Val.rows a0) : Int) : Int) == 0) = true, (((Val.n a0) : Int) == 0) = false, false = false]) := by kernel_rfl
theorem p92_e_21 (a0 : Val) : run tt (AbsCalls Try.prog) I92 3000 false [.code I92.body] ⟨(zBi 0 (xAj a0)), [true, true, false, true, false, false, false], [], []⟩ = some (.done (xAi false) [(((List.length (Val.list a0) : Int) : Int) == 0) = true, (((List.length (Val.columns a0) : Int) : Int) == 0) = true, (((Val.kind a0) : Int) == 1) = false, (((Val.kind a0) : Int) == 2) = true, (((List.length (Val.rows a0) : Int) : Int) == 0) = false, false = false, false = false]) := by kernel_rfl
theorem p92_e_22 (a0 : Val) (r1 r2 : Bool) : run tt (AbsCalls Try.prog) I92 3000 false [.code I92.body] ⟨(zBi 0 (xAj a0)), [true, true, false, false, true, true, true, true], [xAU r1, xAU r2], []⟩ = some (.done (xAi r2) [(((List.length (Val.list a0) : Int) : Int) == 0) = true, (((List.length (Val.columns a0) : Int) : Int) == 0) = true, (((Val.kind a0) : Int) == 1) = false, (((Val.kind a0) : Int) == 2) = false, (((Val.kind a0) : Int) == 4) = true, (((List.length (Val.rows a0) : Int) : Int) == 0) = true, (((Val.text a0) : Str) == []) = true, AbC 53 (xBY (Val.n a0)) (xAU r1), r1 = true, AbC 53 (xBY (Val.step a0)) (xAU r2)]) := by kernel_rfl
theorem p92_e_23 (a0 : Val) (r1 : Bool) : run tt (AbsCalls Try.prog) I92 3000 false [.code I92.body] ⟨(zBi 0 (xAj a0)), [true, true, false, false, true, true, true, false], [xAU r1], []⟩ = some (.done (xAi false) [(((List.length (Val.list a0) : Int) : Int) == 0) = true, (((List.length (Val.columns a0) : Int) : Int) == 0) = true, (((Val.kind a0) : Int) == 1) = false, (((Val.kind a0) : Int) == 2) = false, (((Val.kind a0) : Int) == 4) = true, (((List.length (Val.rows a0) : Int) : Int) == 0) = true, (((Val.text a0) : Str) == []) = true, AbC 53 (xBY (Val.n a0)) (xAU r1), r1 = false]) := by kernel_rfl
theorem p92_e_24 (a0 : Val) : run tt (AbsCalls Try.prog) I92 3000 false [.code I92.body] ⟨(zBi 0 (xAj a0)), [true, true, false, false, true, true, false, false], [], []⟩ = some (.done (xAi false) [(((List.length (Val.list a0) : Int) : Int) == 0) = true, (((List.length (Val.columns a0) : Int) : Int) == 0) = true, (((Val.kind a0) : Int) == 1) = false, (((Val.kind a0) : Int) == 2) = false, (((Val.kind a0) : Int) == 4) = true, (((List.length (Val.rows a0) : Int) : Int) == 0) = true, (((Val.text a0) : Str) == []) = false, false = false]) := by kernel_rfl
theorem p92_e_25 (a0 : Val) : run tt (AbsCalls Try.prog) I92 3000 false [.code I92.body] ⟨(zBi 0 (xAj a0)), [true, true, false, false, true, false, false, false], [], []⟩ = some (.done (xAi false) [(((List.length (Val.list a0) : Int) : Int) == 0) = true, (((List.length (Val.columns a0) : Int) : Int) == 0) = true, (((Val.kind a0) : Int) == 1) = false, (((Val.kind a0) : Int) == 2) = false, (((Val.kind a0) : Int) == 4) = true, (((List.length (Val.rows a0) : Int) : Int) == 0) = false, false = false, false = false]) := by kernel_rfl
theorem p92_e_26 (a0 : Val) (r1 : Bool) : run tt (AbsCalls Try.prog) I92 3000 false [.code I92.body] ⟨(zBi 0 (xAj a0)), [true, true, false, false, false, true, true, true, true], [xBO r1], []⟩ = some (.done (xAi r1) [(((List.length (Val.list a0) : Int) : Int) == 0) = true, (((List.length (Val.columns a0) : Int) : Int) == 0) = true, (((Val.kind a0) : Int) == 1) = false, (((Val.kind a0) : Int) == 2) = false, (((Val.kind a0) : Int) == 4) = false, (((Val.kind a0) : Int) == 6) = true, (((List.length (Val.rows a0) : Int) : Int) == 0) = true, (((Val.step a0) : Int) == 0) = true, (((Val.text a0) : Str) == []) = true, AbC 56 (xDa (Val.n a0) 1 8) (xBO r1)]) := by kernel_rfl
theorem p92_e_27 (a0 : Val) : run tt (AbsCalls Try.prog) I92 3000 false [.code I92.body] ⟨(zBi 0 (xAj a0)), [true, true, false, false, false, true, true, true, false], [], []⟩ = some (.done (xAi false) [(((List.length (Val.list a0) : Int) : Int) == 0) = true, (((List.length (Val.columns a0) : Int) : Int) == 0) = true, (((Val.kind a0) : Int) == 1) = false, (((Val.kind a0) : Int) == 2) = false, (((Val.kind a0) : Int) == 4) = false, (((Val.kind a0) : Int) == 6) = true, (((List.length (Val.rows a0) : Int) : Int) == 0) = true, (((Val.step a0) : Int) == 0) = true, (((Val.text a0) : Str) == []) = false]) := by kernel_rfl
theorem p92_e_28 (a0 : Val) : run tt (AbsCalls Try.prog) I92 3000 false [.code I92.body] ⟨(zBi 0 (xAj a0)), [true, true, false, false, false, true, true, false, false], [], []⟩ = some (.done (xAi false) [(((List.length (Val.list a0) : Int) : Int) == 0) = true, (((List.length (Val.columns a0) : Int) : Int) == 0) = true, (((Val.kind a0) : Int) == 1) = false, (((Val.kind a0) : Int) == 2) = false, (((Val.kind a0) : Int) == 4) = false, (((Val.kind a0) : Int) == 6) = true, (((List.length (Val.rows a0) : Int) : Int) == 0) = true, (((Val.step a0) : Int) == 0) = false, false = false]) := by kernel_rfl
theorem p92_e_29 (a0 : Val) : run tt (AbsCalls Try.prog) I92 3000 false [.code I92.body] ⟨(zBi 0 (xAj a0)), [true, true, false, false, false, true, false, false, false], [], []⟩ = some (.done (xAi false) [(((List.length (Val.list a0) : Int) : Int) == 0) = true, (((List.length (Val.columns a0) : Int) : Int) == 0) = true, (((Val.kind a0) : Int) == 1) = false, (((Val.kind a0) : Int) == 2) = false, (((Val.kind a0) : Int) == 4) = false, (((Val.kind a0) : Int) == 6) = true, (((List.length (Val.rows a0) : Int) : Int) == 0) = false, false = false, false = false]) := by kernel_rfl
theorem p92_e_30 (a0 : Val) (r1 : Bool) : run tt (AbsCalls Try.prog) I92 3000 false [.code I92.body] ⟨(zBi 0 (xAj a0)), [true, true, false, false, false, false, true, true, true, true, true], [xA4 r1], []⟩ = some (.done (xAi r1) [(((List.length (Val.list a0) : Int) : Int) == 0) = true, (((List.length (Val.columns a0) : Int) : Int) == 0) = true, (((Val.kind a0) : Int) == 1) = false, (((Val.kind a0) : Int) == 2) = false, (((Val.kind a0) : Int) == 4) = false, (((Val.kind a0) : Int) == 6) = false, (((Val.kind a0) : Int) == 5) = true, (((Val.n a0) : Int) == 0) = true, (((Val.step a0) : Int) == 0) = true, (((Val.text a0) : Str) == []) = true, (((List.length (Val.list a0) : Int) : Int) == 0) = true, AbC 110 (xDQ a0) (xA4 r1)]) := by kernel_rfl
theorem p92_e_31 (a0 : Val) : run tt (AbsCalls Try.prog) I92 3000 false [.code I92.body] ⟨(zBi 0 (xAj a0)), [true, true, false, false, false, false, true, true, true, false, false], [], []⟩ = some (.done (xAi false) [(((List.length (Val.list a0) : Int) : Int) == 0) = true, (((List.length (Val.columns a0) : Int) : Int) == 0) = true, (((Val.kind a0) : Int) == 1) = false, (((Val.kind a0) : Int) == 2) = false, (((Val.kind a0) : Int) == 4) = false, (((Val.kind a0) : Int) == 6) = false, (((Val.kind a0) : Int) == 5) = true, (((Val.n a0) : Int) == 0) = true, (((Val.step a0) : Int) == 0) = true, (((Val.text a0) : Str) == []) = false, false = false]) := by kernel_rfl
theorem p92_e_32 (a0 : Val) : run tt (AbsCalls Try.prog) I92 3000 false [.code I92.body] ⟨(zBi 0 (xAj a0)), [true, true, false, false, false, false, true, true, false, false, false], [], []⟩ = some (.done (xAi false) [(((List.length (Val.list a0) : Int) : Int) == 0) = true, (((List.length (Val.columns a0) : Int) : Int) == 0) = true, (((Val.kind a0) : Int) == 1) = false, (((Val.kind a0) : Int) == 2) = false, (((Val.kind a0) : Int) == 4) = false, (((Val.kind a0) : Int) == 6) = false, (((Val.kind a0) : Int) == 5) = true, (((Val.n a0) : Int) == 0) = true, (((Val.step a0) : Int) == 0) = false, false = false, false = false]) := by kernel_rfl
theorem p92_e_33 (a0 : Val) : run tt (AbsCalls Try.prog) I92 3000 false [.code I92.body] ⟨(zBi 0 (xAj a0)), [true, true, false, false, false, false, true, false, false, false, false], [], []⟩ = some (.done (xAi false) [(((List.length (Val.list a0) : Int) : Int) == 0) = true, (((List.length (Val.columns a0) : Int) : Int) == 0) = true, (((Val.kind a0) : Int) == 1) = false, (((Val.kind a0) : Int) == 2) = false, (((Val.kind a0) : Int) == 4) = false, (((Val.kind a0) : Int) == 6) = false, (((Val.kind a0) : Int) == 5) = true, (((Val.n a0) : Int) == 0) = false, false = false, false = false, false = false]) := by kernel_rfl
theorem p92_e_34 (a0 : Val) : run tt (AbsCalls Try.prog) I92 3000 false [.code I92.body] ⟨(zBi 0 (xAj a0)), [true, true, false, false, false, false, false, true], [], []⟩ = some (.stop (stkAt 15 I92.body) (xFw (Val.list a0) (List.length (Val.list a0) : Int) 0 a0) [(((List.length (Val.list a0) : Int) : Int) == 0) = true, (((List.length (Val.columns a0) : Int) : Int) == 0) = true, (((Val.kind a0) : Int) == 1) = false, (((Val.kind a0) : Int) == 2) = false, (((Val.kind a0) : Int) == 4) = false, (((Val.kind a0) : Int) == 6) = false, (((Val.kind a0) : Int) == 5) = false, (((Val.kind a0) : Int) == 3) = true]) := by kernel_rfl
theorem p92_e_35 (a0 : Val) : run tt (AbsCalls Try.prog) I92 3000 false [.code I92.body] ⟨(zBi 0 (xAj a0)), [true, true, false, false, false, false, false, false], [], []⟩ = some (.done (xAi false) [(((List.length (Val.list a0) : Int) : Int) == 0) = true, (((List.length (Val.columns a0) : Int) : Int) == 0) = true, (((Val.kind a0) : Int) == 1) = false, (((Val.kind a0) : Int) == 2) = false, (((Val.kind a0) : Int) == 4) = false, (((Val.kind a0) : Int) == 6) = false, (((Val.kind a0) : Int) == 5) = false, (((Val.kind a0) : Int) == 3) = false]) := by kernel_rfl
theorem p92_e_36 (a0 : Val) : run tt (AbsCalls Try.prog) I92 3000 false [.code I92.body] ⟨(zBi 0 (xAj a0)), [true, false, true, false, false, false], [], []⟩ = some (.done (xAi false) [(((List.length (Val.list a0) : Int) : Int) == 0) = true, (((List.length (Val.columns a0) : Int) : Int) == 0) = false, (((Val.kind a0) : Int) == 1) = true, false = false, false = false, false = false]) := by kernel_rfl
theorem p92_e_37 (a0 : Val) : run tt (AbsCalls Try.prog) I92 3000 false [.code I92.body] ⟨(zBi 0 (xAj a0)), [true, false, false, true, false, false, false], [], []⟩ = some (.done (xAi false) [(((List.length (Val.list a0) : Int) : Int) == 0) = true, (((List.length (Val.columns a0) : Int) : Int) == 0) = false, (((Val.kind a0) : Int) == 1) = false, (((Val.kind a0) : Int) == 2) = true, false = false, false = false, false = false]) := by kernel_rfl
theorem p92_e_38 (a0 : Val) : run tt (AbsCalls Try.prog) I92 3000 false [.code I92.body] ⟨(zBi 0 (xAj a0)), [true, false, false, false, true, false, false, false], [], []⟩ = some (.done (xAi false) [(((List.length (Val.list a0) : Int) : Int) == 0) = true, (((List.length (Val.columns a0) : Int) : Int) == 0) = false, (((Val.kind a0) : Int) == 1) = false, (((Val.kind a0) : Int) == 2) = false, (((Val.kind a0) : Int) == 4) = true, false = false, false = false, false = false]) := by kernel_rfl
theorem p92_e_39 (a0 : Val) : run tt (AbsCalls Try.prog) I92 3000 false [.code I92.body] ⟨(zBi 0 (xAj a0)), [true, false, false, false, false, true, false, false, false], [], []⟩ = some (.done (xAi false) [(((List.length (Val.list a0) : Int) : Int) == 0) = true, (((List.length (Val.columns a0) : Int) : Int) == 0) = false, (((Val.kind a0) : Int) == 1) = false, (((Val.kind a0) : Int) == 2) = false, (((Val.kind a0) : Int) == 4) = false, (((Val.kind a0) : Int) == 6) = true, false = false, false = false, false = false]) := by kernel_rfl
theorem p92_e_40 (a0 : Val) (r1 : Bool) : run tt (AbsCalls Try.prog) I92 3000 false [.code I92.body] ⟨(zBi 0 (xAj a0)), [true, false, false, false, false, false, true, true, true, true, true], [xA4 r1], []⟩ = some (.done (xAi r1) [(((List.length (Val.list a0) : Int) : Int) == 0) = true, (((List.length (Val.columns a0) : Int) : Int) == 0) = false, (((Val.kind a0) : Int) == 1) = false, (((Val.kind a0) : Int) == 2) = false, (((Val.kind a0) : Int) == 4) = false, (((Val.kind a0) : Int) == 6) = false, (((Val.kind a0) : Int) == 5) = true, (((Val.n a0) : Int) == 0) = true, (((Val.step a0) : Int) == 0) = true, (((Val.text a0) : Str) == []) = true, (((List.length (Val.list a0) : Int) : Int) == 0) = true, AbC 110 (xDQ a0) (xA4 r1)]) := by kernel_rfl
theorem p92_e_41 (a0 : Val) : run tt (AbsCalls Try.prog) I92 3000 false [.code I92.body] ⟨(zBi 0 (xAj a0)), [true, false, false, false, false, false, true, true, true, false, false], [], []⟩ = some (.done (xAi false) [(((List.length (Val.list a0) : Int) : Int) == 0) = true, (((List.length (Val.columns a0) : Int) : Int) == 0) = false, (((Val.kind a0) : Int) == 1) = false, (((Val.kind a0) : Int) == 2) = false, (((Val.kind a0) : Int) == 4) = false, (((Val.kind a0) : Int) == 6) = false, (((Val.kind a0) : Int) == 5) = true, (((Val.n a0) : Int) == 0) = true, (((Val.step a0) : Int) == 0) = true, (((Val.text a0) : Str) == []) = false, false = false]) := by kernel_rfl
theorem p92_e_42 (a0 : Val) : run tt (AbsCalls Try.prog) I92 3000 false [.code I92.body] ⟨(zBi 0 (xAj a0)), [true, false, false, false, false, false, true, true, false, false, false], [], []⟩ = some (.done (xAi false) [(((List.length (Val.list a0) : Int) : Int) == 0) = true, (((List.length (Val.columns a0) : Int) : Int) == 0) = false, (((Val.kind a0) : Int) == 1) = false, (((Val.kind a0) : Int) == 2) = false, (((Val.kind a0) : Int) == 4) = false, (((Val.kind a0) : Int) == 6) = false, (((Val.kind a0) : Int) == 5) = true, (((Val.n a0) : Int) == 0) = true, (((Val.step a0) : Int) == 0) = false, false = false, false = false]) := by kernel_rfl
theorem p92_e_43 (a0 : Val) : run tt (AbsCalls Try.prog) I92 3000 false [.code I92.body] ⟨(zBi 0 (xAj a0)), [true, false, false, false, false, false, true, false, false, false, false], [], []⟩ = some (.done (xAi false) [(((List.length (Val.list a0) : Int) : Int) == 0) = true, (((List.length (Val.columns a0) : Int) : Int) == 0) = false, (((Val.kind a0) : Int) == 1) = false, (((Val.kind a0) : Int) == 2) = false, (((Val.kind a0) : Int) == 4) = false, (((Val.kind a0) : Int) == 6) = false, (((Val.kind a0) : Int) == 5) = true, (((Val.n a0) : Int) == 0) = false, false = false, false = false, false = false]) := by kernel_rfl
theorem p92_e_44 (a0 : Val) : run tt (AbsCalls Try.prog) I92 3000 false [.code I92.body] ⟨(zBi 0 (xAj a0)), [true, false, false, false, false, false, false, true], [], []⟩ = some (.stop (stkAt 15 I92.body) (xFw (Val.list a0) (List.length (Val.list a0) : Int) 0 a0) [(((List.length (Val.list a0) : Int) : Int) == 0) = true, (((List.length (Val.columns a0) : Int) : Int) == 0) = false, (((Val.kind a0) : Int) == 1) = false, (((Val.kind a0) : Int) == 2) = false, (((Val.kind a0) : Int) == 4) = false, (((Val.kind a0) : Int) == 6) = false, (((Val.kind a0) : Int) == 5) = false, (((Val.kind a0) : Int) == 3) = true]) := by kernel_rfl
theorem p92_e_45 (a0 : Val) : run tt (AbsCalls Try.prog) I92 3000 false [.code I92.body] ⟨(zBi 0 (xAj a0)), [true, false, false, false, false, false, false, false], [], []⟩ = some (.done (xAi false) [(((List.length (Val.list a0) : Int) : Int) == 0) = true, (((List.length (Val.columns a0) : Int) : Int) == 0) = false, (((Val.kind a0) : Int) == 1) = false, (((Val.kind a0) : Int) == 2) = false, (((Val.kind a0) : Int) == 4) = false, (((Val.kind a0) : Int) == 6) = false, (((Val.kind a0) : Int) == 5) = false, (((Val.kind a0) : Int) == 3) = false]) := by kernel_rfl
theorem p92_e_46 (a0 : Val) : run tt (AbsCalls Try.prog) I92 3000 false [.code I92.body] ⟨(zBi 0 (xAj a0)), [false, false, true, false, false, false], [], []⟩ = some (.done (xAi false) [(((List.length (Val.list a0) : Int) : Int) == 0) = false, false = false, (((Val.kind a0) : Int) == 1) = true, false = false, false = false, false = false]) := by kernel_rfl
theorem p92_e_47 (a0 : Val) : run tt (AbsCalls Try.prog) I92 3000 false [.code I92.body] ⟨(zBi 0 (xAj a0)), [false, false, false, true, false, false, false], [], []⟩ = some (.done (xAi false) [(((List.length (Val.list a0) : Int) : Int) == 0) = false, false = false, (((Val.kind a0) : Int) == 1) = false, (((Val.kind a0) : Int) == 2) = true, false = false, false = false, false = false]) := by kernel_rfl
theorem p92_e_48 (a0 : Val) : run tt (AbsCalls Try.prog) I92 3000 false [.code I92.body] ⟨(zBi 0 (xAj a0)), [false, false, false, false, true, false, false, false], [], []⟩ = some (.done (xAi false) [(((List.length (Val.list a0) : Int) : Int) == 0) = false, false = false, (((Val.kind a0) : Int) == 1) = false, (((Val.kind a0) : Int) == 2) = false, (((Val.kind a0) : Int) == 4) = true, false = false, false = false, false = false]) := by kernel_rfl
theorem p92_e_49 (a0 : Val) : run tt (AbsCalls Try.prog) I92 3000 false [.code I92.body] ⟨(zBi 0 (xAj a0)), [false, false, false, false, false, true, false, false, false], [], []⟩ = some (.done (xAi false) [(((List.length (Val.list a0) : Int) : Int) == 0) = false, false = false, (((Val.kind a0) : Int) == 1) = false, (((Val.kind a0) : Int) == 2) = false, (((Val.kind a0) : Int) == 4) = false, (((Val.kind a0) : Int) == 6) = true, false = false, false = false, false = false]) := by kernel_rfl
theorem p92_e_50 (a0 : Val) : run tt (AbsCalls Try.prog) I92 3000 false [.code I92.body] ⟨(zBi 0 (xAj a0)), [false, false, false, false, false, false, true, true, true, true, false], [], []⟩ = some (.done (xAi false) [(((List.length (Val.list a0) : Int) : Int) == 0) = false, false = false, (((Val.kind a0) : Int) == 1) = false, (((Val.kind a0) : Int) == 2) = false, (((Val.kind a0) : Int) == 4) = false, (((Val.kind a0) : Int) == 6) = false, (((Val.kind a0) : Int) == 5) = true, (((Val.n a0) : Int) == 0) = true, (((Val.step a0) : Int) == 0) = true, (((Val.text a0) : Str) == []) = true, (((List.length (Val.list a0) : Int) : Int) == 0) = false]) := by kernel_rfl
theorem p92_e_51 (a0 : Val) : run tt (AbsCalls Try.prog) I92 3000 false [.code I92.body] ⟨(zBi 0 (xAj a0)), [false, false, false, false, false, false, true, true, true, false, false], [], []⟩ = some (.done (xAi false) [(((List.length (Val.list a0) : Int) : Int) == 0) = false, false = false, (((Val.kind a0) : Int) == 1) = false, (((Val.kind a0) : Int) == 2) = false, (((Val.kind a0) : Int) == 4) = false, (((Val.kind a0) : Int) == 6) = false, (((Val.kind a0) : Int) == 5) = true, (((Val.n a0) : Int) == 0) = true, (((Val.step a0) : Int) == 0) = true, (((Val.text a0) : Str) == []) = false, false = false]) := by kernel_rfl
theorem p92_e_52 (a0 : Val) : run tt (AbsCalls Try.prog) I92 3000 false [.code I92.body] ⟨(zBi 0 (xAj a0)), [false, false, false, false, false, false, true, true, false, false, false], [], []⟩ = some (.done (xAi false) [(((List.length (Val.list a0) : Int) : Int) == 0) = false, false = false, (((Val.kind a0) : Int) == 1) = false, (((Val.kind a0) : Int) == 2) = false, (((Val.kind a0) : Int) == 4) = false, (((Val.kind a0) : Int) == 6) = false, (((Val.kind a0) : Int) == 5) = true, (((Val.n a0) : Int) == 0) = true, (((Val.step a0) : Int) == 0) = false, false = false, false = false]) := by kernel_rfl
theorem p92_e_53 (a0 : Val) : run tt (AbsCalls Try.prog) I92 3000 false [.code I92.body] ⟨(zBi 0 (xAj a0)), [false, false, false, false, false, false, true, false, false, false, false], [], []⟩ = some (.done (xAi false) [(((List.length (Val.list a0) : Int) : Int) == 0) = false, false = false, (((Val.kind a0) : Int) == 1) = false, (((Val.kind a0) : Int) == 2) = false, (((Val.kind a0) : Int) == 4) = false, (((Val.kind a0) : Int) == 6) = false, (((Val.kind a0) : Int) == 5) = true, (((Val.n a0) : Int) == 0) = false, false = false, false = false, false = false]) := by kernel_rfl
theorem p92_e_54 (a0 : Val) : run tt (AbsCalls Try.prog) I92 3000 false [.code I92.body] ⟨(zBi 0 (xAj a0)), [false, false, false, false, false, false, false, true], [], []⟩ = some (.stop (stkAt 15 I92.body) (xFw (Val.list a0) (List.length (Val.list a0) : Int) 0 a0) [(((List.length (Val.list a0) : Int) : Int) == 0) = false, false = false, (((Val.kind a0) : Int) == 1) = false, (((Val.kind a0) : Int) == 2) = false, (((Val.kind a0) : Int) == 4) = false, (((Val.kind a0) : Int) == 6) = false, (((Val.kind a0) : Int) == 5) = false, (((Val.kind a0) : Int) == 3) = true]) := by kernel_rfl
theorem p92_e_55 (a0 : Val) : run tt (AbsCalls Try.prog) I92 3000 false [.code I92.body] ⟨(zBi 0 (xAj a0)), [false, false, false, false, false, false, false, false], [], []⟩ = some (.done (xAi false) [(((List.length (Val.list a0) : Int) : Int) == 0) = false, false = false, (((Val.kind a0) : Int) == 1) = false, (((Val.kind a0) : Int) == 2) = false, (((Val.kind a0) : Int) == 4) = false, (((Val.kind a0) : Int) == 6) = false, (((Val.kind a0) : Int) == 5) = false, (((Val.kind a0) : Int) == 3) = false]) := by kernel_rfl
theorem c92_15 {N : Nat} {rc_impl_IsValidValue : Val → Option (Bool)} (hrc_impl_IsValidValue : ∀ a0 r, rc_impl_IsValidValue a0 = some r → AbC 92 (xAj a0) (xAi r)) : ∀ n x124 x125 x126 b1 r, xAX N rc_impl_IsValidValue n x124 x125 x126 b1 = some r → Reach Try.prog Try.f92 I92 (stkAt 15 I92.body) (xFw x124 x125 x126 b1) (xAi r) := by
 intro n
 induction n with
 | zero => intro x124 x125 x126 b1 r h; have h' : (none : Option (Bool)) = some r := h; cases h'
 | succ n ih =>
  intro x124 x125 x126 b1 r h
  rw [xAX] at h
  rcases cond_inv h with ⟨h0, h⟩ | ⟨h0, h⟩
  ·obtain ⟨h1, h⟩ := ite_inv h
   rcases cond_inv h with ⟨h2, h⟩ | ⟨h2, h⟩
   ·rcases cond_inv h with ⟨h3, h⟩ | ⟨h3, h⟩
    ·rcases cond_inv h with ⟨h4, h⟩ | ⟨h4, h⟩
     ·obtain rfl := Option.some.inj h
      exact Reach.done ttok mix fk92 (p92_15_0 x124 x125 x126 b1) (obs_cons h0 (obs_cons h1 (obs_cons h2 (obs_cons h3 (obs_cons h4 (obs_cons rfl obs_nil))))))
     ·obtain ⟨r1, h5, h⟩ := bind_inv h
      rcases cond_inv h with ⟨h6, h⟩ | ⟨h6, h⟩
      ·obtain rfl := Option.some.inj h
       exact Reach.done ttok mix fk92 (p92_15_1 x124 x125 x126 b1 r1) (obs_cons h0 (obs_cons h1 (obs_cons h2 (obs_cons h3 (obs_cons h4 (obs_cons (hrc_impl_IsValidValue _ _ h5) (obs_cons h6 obs_nil)))))))
      ·exact Reach.stop ttok mix fk92 (p92_15_2 x124 x125 x126 b1 r1) (obs_cons h0 (obs_cons h1 (obs_cons h2 (obs_cons h3 (obs_cons h4 (obs_cons (hrc_impl_IsValidValue _ _ h5) (obs_cons h6 obs_nil))))))) (ih _ _ _ _ _ h)
    ·obtain ⟨r1, h5, h⟩ := bind_inv h
     rcases cond_inv h with ⟨h6, h⟩ | ⟨h6, h⟩
     ·obtain rfl := Option.some.inj h
      exact Reach.done ttok mix fk92 (p92_15_3 x124 x125 x126 b1 r1) (obs_cons h0 (obs_cons h1 (obs_cons h2 (obs_cons h3 (obs_cons rfl (obs_cons (hrc_impl_IsValidValue _ _ h5) (obs_cons h6 obs_nil)))))))
     ·exact Reach.stop ttok mix fk92 (p92_15_4 x124 x125 x126 b1 r1) (obs_cons h0 (obs_cons h1 (obs_cons h2 (obs_cons h3 (obs_cons rfl (obs_cons (hrc_impl_IsValidValue _ _ h5) (obs_cons h6 obs_nil))))))) (ih _ _ _ _ _ h)
   ·obtain ⟨r1, h5, h⟩ := bind_inv h
    rcases cond_inv h with ⟨h6, h⟩ | ⟨h6, h⟩
    ·obtain rfl := Option.some.inj h
     exact Reach.done ttok mix fk92 (p92_15_5 x124 x125 x126 b1 r1) (obs_cons h0 (obs_cons h1 (obs_cons h2 (obs_cons rfl (obs_cons rfl (obs_cons (hrc_impl_IsValidValue _ _ h5) (obs_cons h6 obs_nil)))))))
    ·exact Reach.stop ttok mix fk92 (p92_15_6 x124 x125 x126 b1 r1) (obs_cons h0 (obs_cons h1 (obs_cons h2 (obs_cons rfl (obs_cons rfl (obs_cons (hrc_impl_IsValidValue _ _ h5) (obs_cons h6 obs_nil))))))) (ih _ _ _ _ _ h)
  ·rcases cond_inv h with ⟨h1, h⟩ | ⟨h1, h⟩
   ·rcases cond_inv h with ⟨h2, h⟩ | ⟨h2, h⟩
    ·rcases cond_inv h with ⟨h3, h⟩ | ⟨h3, h⟩
     ·rcases cond_inv h with ⟨h4, h⟩ | ⟨h4, h⟩
      ·rcases cond_inv h with ⟨h5, h⟩ | ⟨h5, h⟩
       ·rcases cond_inv h with ⟨h6, h⟩ | ⟨h6, h⟩
        ·obtain ⟨r1, h7, h⟩ := bind_inv h
         obtain rfl := Option.some.inj h
         exact Reach.done ttok mix fk92 (p92_15_7 x124 x125 x126 b1 r1) (obs_cons h0 (obs_cons h1 (obs_cons h2 (obs_cons h3 (obs_cons h4 (obs_cons h5 (obs_cons h6 (obs_cons (impl_DepthOf_ok h7) obs_nil))))))))
        ·obtain rfl := Option.some.inj h
         exact Reach.done ttok mix fk92 (p92_15_8 x124 x125 x126 b1) (obs_cons h0 (obs_cons h1 (obs_cons h2 (obs_cons h3 (obs_cons h4 (obs_cons h5 (obs_cons h6 obs_nil)))))))
       ·obtain rfl := Option.some.inj h
        exact Reach.done ttok mix fk92 (p92_15_9 x124 x125 x126 b1) (obs_cons h0 (obs_cons h1 (obs_cons h2 (obs_cons h3 (obs_cons h4 (obs_cons h5 (obs_cons rfl obs_nil)))))))
      ·obtain rfl := Option.some.inj h
       exact Reach.done ttok mix fk92 (p92_15_10 x124 x125 x126 b1) (obs_cons h0 (obs_cons h1 (obs_cons h2 (obs_cons h3 (obs_cons h4 (obs_cons rfl (obs_cons rfl obs_nil)))))))
     ·obtain rfl := Option.some.inj h
      exact Reach.done ttok mix fk92 (p92_15_11 x124 x125 x126 b1) (obs_cons h0 (obs_cons h1 (obs_cons h2 (obs_cons h3 (obs_cons rfl (obs_cons rfl (obs_cons rfl obs_nil)))))))
    ·obtain rfl := Option.some.inj h
     exact Reach.done ttok mix fk92 (p92_15_12 x124 x125 x126 b1) (obs_cons h0 (obs_cons h1 (obs_cons h2 (obs_cons rfl (obs_cons rfl (obs_cons rfl (obs_cons rfl obs_nil)))))))
   ·obtain rfl := Option.some.inj h
    exact Reach.done ttok mix fk92 (p92_15_13 x124 x125 x126 b1) (obs_cons h0 (obs_cons h1 (obs_cons rfl (obs_cons rfl (obs_cons rfl (obs_cons rfl (obs_cons rfl obs_nil)))))))
theorem c92_e {N : Nat} {rc_impl_IsValidValue : Val → Option (Bool)} (hrc_impl_IsValidValue : ∀ a0 r, rc_impl_IsValidValue a0 = some r → AbC 92 (xAj a0) (xAi r)) : ∀ a0 r, xCf N rc_impl_IsValidValue a0 = some r → Reach Try.prog Try.f92 I92 [.code I92.body] (zBi 0 (xAj a0)) (xAi r) := by
 intro a0 r h
 unfold xCf at h
 rcases cond_inv h with ⟨h0, h⟩ | ⟨h0, h⟩
 ·rcases cond_inv h with ⟨h1, h⟩ | ⟨h1, h⟩
  ·rcases cond_inv h with ⟨h2, h⟩ | ⟨h2, h⟩
   ·rcases cond_inv h with ⟨h3, h⟩ | ⟨h3, h⟩
    ·rcases cond_inv h with ⟨h4, h⟩ | ⟨h4, h⟩
     ·rcases cond_inv h with ⟨h5, h⟩ | ⟨h5, h⟩
      ·obtain ⟨r1, h6, h⟩ := bind_inv h
       obtain rfl := Option.some.inj h
       exact Reach.done ttok mix fk92 (p92_e_14 a0 r1) (obs_cons h0 (obs_cons h1 (obs_cons h2 (obs_cons h3 (obs_cons h4 (obs_cons h5 (obs_cons (xCQ h6) obs_nil)))))))
      ·obtain rfl := Option.some.inj h
       exact Reach.done ttok mix fk92 (p92_e_15 a0) (obs_cons h0 (obs_cons h1 (obs_cons h2 (obs_cons h3 (obs_cons h4 (obs_cons h5 obs_nil))))))
     ·obtain rfl := Option.some.inj h
      exact Reach.done ttok mix fk92 (p92_e_16 a0) (obs_cons h0 (obs_cons h1 (obs_cons h2 (obs_cons h3 (obs_cons h4 (obs_cons rfl obs_nil))))))
    ·obtain rfl := Option.some.inj h
     exact Reach.done ttok mix fk92 (p92_e_17 a0) (obs_cons h0 (obs_cons h1 (obs_cons h2 (obs_cons h3 (obs_cons rfl (obs_cons rfl obs_nil))))))
   ·rcases cond_inv h with ⟨h3, h⟩ | ⟨h3, h⟩
    ·rcases cond_inv h with ⟨h4, h⟩ | ⟨h4, h⟩
     ·rcases cond_inv h with ⟨h5, h⟩ | ⟨h5, h⟩
      ·rcases cond_inv h with ⟨h6, h⟩ | ⟨h6, h⟩
       ·obtain ⟨r1, h7, h⟩ := bind_inv h
        obtain rfl := Option.some.inj h
        exact Reach.done ttok mix fk92 (p92_e_18 a0 r1) (obs_cons h0 (obs_cons h1 (obs_cons h2 (obs_cons h3 (obs_cons h4 (obs_cons h5 (obs_cons h6 (obs_cons (xHT h7) obs_nil))))))))
       ·obtain rfl := Option.some.inj h
        exact Reach.done ttok mix fk92 (p92_e_19 a0) (obs_cons h0 (obs_cons h1 (obs_cons h2 (obs_cons h3 (obs_cons h4 (obs_cons h5 (obs_cons h6 obs_nil)))))))
      ·obtain rfl := Option.some.inj h
       exact Reach.done ttok mix fk92 (p92_e_20 a0) (obs_cons h0 (obs_cons h1 (obs_cons h2 (obs_cons h3 (obs_cons h4 (obs_cons h5 (obs_cons rfl obs_nil)))))))
     ·obtain rfl := Option.some.inj h
      exact Reach.done ttok mix fk92 (p92_e_21 a0) (obs_cons h0 (obs_cons h1 (obs_cons h2 (obs_cons h3 (obs_cons h4 (obs_cons rfl (obs_cons rfl obs_nil)))))))
    ·rcases cond_inv h with ⟨h4, h⟩ | ⟨h4, h⟩
     ·rcases cond_inv h with ⟨h5, h⟩ | ⟨h5, h⟩
      ·rcases cond_inv h with ⟨h6, h⟩ | ⟨h6, h⟩
       ·obtain ⟨r1, h7, h⟩ := bind_inv h
        rcases cond_inv h with ⟨h8, h⟩ | ⟨h8, h⟩
        ·obtain ⟨r2, h9, h⟩ := bind_inv h
         obtain rfl := Option.some.inj h
         exact Reach.done ttok mix fk92 (p92_e_22 a0 r1 r2) (obs_cons h0 (obs_cons h1 (obs_cons h2 (obs_cons h3 (obs_cons h4 (obs_cons h5 (obs_cons h6 (obs_cons (xCQ h7) (obs_cons h8 (obs_cons (xCQ h9) obs_nil))))))))))
        ·obtain rfl := Option.some.inj h
         exact Reach.done ttok mix fk92 (p92_e_23 a0 r1) (obs_cons h0 (obs_cons h1 (obs_cons h2 (obs_cons h3 (obs_cons h4 (obs_cons h5 (obs_cons h6 (obs_cons (xCQ h7) (obs_cons h8 obs_nil)))))))))
       ·obtain rfl := Option.some.inj h
        exact Reach.done ttok mix fk92 (p92_e_24 a0) (obs_cons h0 (obs_cons h1 (obs_cons h2 (obs_cons h3 (obs_cons h4 (obs_cons h5 (obs_cons h6 (obs_cons rfl obs_nil))))))))
      ·obtain rfl := Option.some.inj h
       exact Reach.done ttok mix fk92 (p92_e_25 a0) (obs_cons h0 (obs_cons h1 (obs_cons h2 (obs_cons h3 (obs_cons h4 (obs_cons h5 (obs_cons rfl (obs_cons rfl obs_nil))))))))
     ·rcases cond_inv h with ⟨h5, h⟩ | ⟨h5, h⟩
      ·rcases cond_inv h with ⟨h6, h⟩ | ⟨h6, h⟩
       ·rcases cond_inv h with ⟨h7, h⟩ | ⟨h7, h⟩
        ·rcases cond_inv h with ⟨h8, h⟩ | ⟨h8, h⟩
         ·obtain ⟨r1, h9, h⟩ := bind_inv h
          obtain rfl := Option.some.inj h
          exact Reach.done ttok mix fk92 (p92_e_26 a0 r1) (obs_cons h0 (obs_cons h1 (obs_cons h2 (obs_cons h3 (obs_cons h4 (obs_cons h5 (obs_cons h6 (obs_cons h7 (obs_cons h8 (obs_cons (xFy h9) obs_nil))))))))))
         ·obtain rfl := Option.some.inj h
          exact Reach.done ttok mix fk92 (p92_e_27 a0) (obs_cons h0 (obs_cons h1 (obs_cons h2 (obs_cons h3 (obs_cons h4 (obs_cons h5 (obs_cons h6 (obs_cons h7 (obs_cons h8 obs_nil)))))))))
        ·obtain rfl := Option.some.inj h
         exact Reach.done ttok mix fk92 (p92_e_28 a0) (obs_cons h0 (obs_cons h1 (obs_cons h2 (obs_cons h3 (obs_cons h4 (obs_cons h5 (obs_cons h6 (obs_cons h7 (obs_cons rfl obs_nil)))))))))
       ·obtain rfl := Option.some.inj h
        exact Reach.done ttok mix fk92 (p92_e_29 a0) (obs_cons h0 (obs_cons h1 (obs_cons h2 (obs_cons h3 (obs_cons h4 (obs_cons h5 (obs_cons h6 (obs_cons rfl (obs_cons rfl obs_nil)))))))))
      ·rcases cond_inv h with ⟨h6, h⟩ | ⟨h6, h⟩
       ·rcases cond_inv h with ⟨h7, h⟩ | ⟨h7, h⟩
        ·rcases cond_inv h with ⟨h8, h⟩ | ⟨h8, h⟩
         ·rcases cond_inv h with ⟨h9, h⟩ | ⟨h9, h⟩
          ·obtain ⟨r1, h11, h⟩ := bind_inv h
           obtain rfl := Option.some.inj h
           exact Reach.done ttok mix fk92 (p92_e_30 a0 r1) (obs_cons h0 (obs_cons h1 (obs_cons h2 (obs_cons h3 (obs_cons h4 (obs_cons h5 (obs_cons h6 (obs_cons h7 (obs_cons h8 (obs_cons h9 (obs_cons h0 (obs_cons (xHr h11) obs_nil))))))))))))
          ·obtain rfl := Option.some.inj h
           exact Reach.done ttok mix fk92 (p92_e_31 a0) (obs_cons h0 (obs_cons h1 (obs_cons h2 (obs_cons h3 (obs_cons h4 (obs_cons h5 (obs_cons h6 (obs_cons h7 (obs_cons h8 (obs_cons h9 (obs_cons rfl obs_nil)))))))))))
         ·obtain rfl := Option.some.inj h
          exact Reach.done ttok mix fk92 (p92_e_32 a0) (obs_cons h0 (obs_cons h1 (obs_cons h2 (obs_cons h3 (obs_cons h4 (obs_cons h5 (obs_cons h6 (obs_cons h7 (obs_cons h8 (obs_cons rfl (obs_cons rfl obs_nil)))))))))))
        ·obtain rfl := Option.some.inj h
         exact Reach.done ttok mix fk92 (p92_e_33 a0) (obs_cons h0 (obs_cons h1 (obs_cons h2 (obs_cons h3 (obs_cons h4 (obs_cons h5 (obs_cons h6 (obs_cons h7 (obs_cons rfl (obs_cons rfl (obs_cons rfl obs_nil)))))))))))
       ·rcases cond_inv h with ⟨h7, h⟩ | ⟨h7, h⟩
        ·exact Reach.stop ttok mix fk92 (p92_e_34 a0) (obs_cons h0 (obs_cons h1 (obs_cons h2 (obs_cons h3 (obs_cons h4 (obs_cons h5 (obs_cons h6 (obs_cons h7 obs_nil)))))))) (c92_15 hrc_impl_IsValidValue  _ _ _ _ _ _ h)
        ·obtain rfl := Option.some.inj h
         exact Reach.done ttok mix fk92 (p92_e_35 a0) (obs_cons h0 (obs_cons h1 (obs_cons h2 (obs_cons h3 (obs_cons h4 (obs_cons h5 (obs_cons h6 (obs_cons h7 obs_nil))))))))
  ·rcases cond_inv h with ⟨h2, h⟩ | ⟨h2, h⟩
   ·obtain rfl := Option.some.inj h
    exact Reach.done ttok mix fk92 (p92_e_36 a0) (obs_cons h0 (obs_cons h1 (obs_cons h2 (obs_cons rfl (obs_cons rfl (obs_cons rfl obs_nil))))))
   ·rcases cond_inv h with ⟨h3, h⟩ | ⟨h3, h⟩
    ·obtain rfl := Option.some.inj h
     exact Reach.done ttok mix fk92 (p92_e_37 a0) (obs_cons h0 (obs_cons h1 (obs_cons h2 (obs_cons h3 (obs_cons rfl (obs_cons rfl (obs_cons rfl obs_nil)))))))
    ·rcases cond_inv h with ⟨h4, h⟩ | ⟨h4, h⟩
     ·obtain rfl := Option.some.inj h
      exact Reach.done ttok mix fk92 (p92_e_38 a0) (obs_cons h0 (obs_cons h1 (obs_cons h2 (obs_cons h3 (obs_cons h4 (obs_cons rfl (obs_cons rfl (obs_cons rfl obs_nil))))))))
     ·rcases cond_inv h with ⟨h5, h⟩ | ⟨h5, h⟩
      ·obtain rfl := Option.some.inj h
       exact Reach.done ttok mix fk92 (p92_e_39 a0) (obs_cons h0 (obs_cons h1 (obs_cons h2 (obs_cons h3 (obs_cons h4 (obs_cons h5 (obs_cons rfl (obs_cons rfl (obs_cons rfl obs_nil)))))))))
      ·rcases cond_inv h with ⟨h6, h⟩ | ⟨h6, h⟩
       ·rcases cond_inv h with ⟨h7, h⟩ | ⟨h7, h⟩
        ·rcases cond_inv h with ⟨h8, h⟩ | ⟨h8, h⟩
         ·rcases cond_inv h with ⟨h9, h⟩ | ⟨h9, h⟩
          ·obtain ⟨r1, h11, h⟩ := bind_inv h
           obtain rfl := Option.some.inj h
           exact Reach.done ttok mix fk92 (p92_e_40 a0 r1) (obs_cons h0 (obs_cons h1 (obs_cons h2 (obs_cons h3 (obs_cons h4 (obs_cons h5 (obs_cons h6 (obs_cons h7 (obs_cons h8 (obs_cons h9 (obs_cons h0 (obs_cons (xHr h11) obs_nil))))))))))))
          ·obtain rfl := Option.some.inj h
           exact Reach.done ttok mix fk92 (p92_e_41 a0) (obs_cons h0 (obs_cons h1 (obs_cons h2 (obs_cons h3 (obs_cons h4 (obs_cons h5 (obs_cons h6 (obs_cons h7 (obs_cons h8 (obs_cons h9 (obs_cons rfl obs_nil)))))))))))
         ·obtain rfl := Option.some.inj h
          exact Reach.done ttok mix fk92 (p92_e_42 a0) (obs_cons h0 (obs_cons h1 (obs_cons h2 (obs_cons h3 (obs_cons h4 (obs_cons h5 (obs_cons h6 (obs_cons h7 (obs_cons h8 (obs_cons rfl (obs_cons rfl obs_nil)))))))))))
        ·obtain rfl := Option.some.inj h
         exact Reach.done ttok mix fk92 (p92_e_43 a0) (obs_cons h0 (obs_cons h1 (obs_cons h2 (obs_cons h3 (obs_cons h4 (obs_cons h5 (obs_cons h6 (obs_cons h7 (obs_cons rfl (obs_cons rfl (obs_cons rfl obs_nil)))))))))))
       ·rcases cond_inv h with ⟨h7, h⟩ | ⟨h7, h⟩
        ·exact Reach.stop ttok mix fk92 (p92_e_44 a0) (obs_cons h0 (obs_cons h1 (obs_cons h2 (obs_cons h3 (obs_cons h4 (obs_cons h5 (obs_cons h6 (obs_cons h7 obs_nil)))))))) (c92_15 hrc_impl_IsValidValue  _ _ _ _ _ _ h)
        ·obtain rfl := Option.some.inj h
         exact Reach.done ttok mix fk92 (p92_e_45 a0) (obs_cons h0 (obs_cons h1 (obs_cons h2 (obs_cons h3 (obs_cons h4 (obs_cons h5 (obs_cons h6 (obs_cons h7 obs_nil))))))))
 ·rcases cond_inv h with ⟨h2, h⟩ | ⟨h2, h⟩
  ·obtain rfl := Option.some.inj h
   exact Reach.done ttok mix fk92 (p92_e_46 a0) (obs_cons h0 (obs_cons rfl (obs_cons h2 (obs_cons rfl (obs_cons rfl (obs_cons rfl obs_nil))))))
  ·rcases cond_inv h with ⟨h3, h⟩ | ⟨h3, h⟩
   ·obtain rfl := Option.some.inj h
    exact Reach.done ttok mix fk92 (p92_e_47 a0) (obs_cons h0 (obs_cons rfl (obs_cons h2 (obs_cons h3 (obs_cons rfl (obs_cons rfl (obs_cons rfl obs_nil)))))))
   ·rcases cond_inv h with ⟨h4, h⟩ | ⟨h4, h⟩
    ·obtain rfl := Option.some.inj h
     exact Reach.done ttok mix fk92 (p92_e_48 a0) (obs_cons h0 (obs_cons rfl (obs_cons h2 (obs_cons h3 (obs_cons h4 (obs_cons rfl (obs_cons rfl (obs_cons rfl obs_nil))))))))
    ·rcases cond_inv h with ⟨h5, h⟩ | ⟨h5, h⟩
     ·obtain rfl := Option.some.inj h
      exact Reach.done ttok mix fk92 (p92_e_49 a0) (obs_cons h0 (obs_cons rfl (obs_cons h2 (obs_cons h3 (obs_cons h4 (obs_cons h5 (obs_cons rfl (obs_cons rfl (obs_cons rfl obs_nil)))))))))
     ·rcases cond_inv h with ⟨h6, h⟩ | ⟨h6, h⟩
      ·rcases cond_inv h with ⟨h7, h⟩ | ⟨h7, h⟩
       ·rcases cond_inv h with ⟨h8, h⟩ | ⟨h8, h⟩
        ·rcases cond_inv h with ⟨h9, h⟩ | ⟨h9, h⟩
         ·obtain rfl := Option.some.inj h
          exact Reach.done ttok mix fk92 (p92_e_50 a0) (obs_cons h0 (obs_cons rfl (obs_cons h2 (obs_cons h3 (obs_cons h4 (obs_cons h5 (obs_cons h6 (obs_cons h7 (obs_cons h8 (obs_cons h9 (obs_cons h0 obs_nil)))))))))))
         ·obtain rfl := Option.some.inj h
          exact Reach.done ttok mix fk92 (p92_e_51 a0) (obs_cons h0 (obs_cons rfl (obs_cons h2 (obs_cons h3 (obs_cons h4 (obs_cons h5 (obs_cons h6 (obs_cons h7 (obs_cons h8 (obs_cons h9 (obs_cons rfl obs_nil)))))))))))
        ·obtain rfl := Option.some.inj h
         exact Reach.done ttok mix fk92 (p92_e_52 a0) (obs_cons h0 (obs_cons rfl (obs_cons h2 (obs_cons h3 (obs_cons h4 (obs_cons h5 (obs_cons h6 (obs_cons h7 (obs_cons h8 (obs_cons rfl (obs_cons rfl obs_nil)))))))))))
       ·obtain rfl := Option.some.inj h
        exact Reach.done ttok mix fk92 (p92_e_53 a0) (obs_cons h0 (obs_cons rfl (obs_cons h2 (obs_cons h3 (obs_cons h4 (obs_cons h5 (obs_cons h6 (obs_cons h7 (obs_cons rfl (obs_cons rfl (obs_cons rfl obs_nil)))))))))))
      ·rcases cond_inv h with ⟨h7, h⟩ | ⟨h7, h⟩
       ·exact Reach.stop ttok mix fk92 (p92_e_54 a0) (obs_cons h0 (obs_cons rfl (obs_cons h2 (obs_cons h3 (obs_cons h4 (obs_cons h5 (obs_cons h6 (obs_cons h7 obs_nil)))))))) (c92_15 hrc_impl_IsValidValue  _ _ _ _ _ _ h)
       ·obtain rfl := Option.some.inj h
        exact Reach.done ttok mix fk92 (p92_e_55 a0) (obs_cons h0 (obs_cons rfl (obs_cons h2 (obs_cons h3 (obs_cons h4 (obs_cons h5 (obs_cons h6 (obs_cons h7 obs_nil))))))))
theorem xGQ {N : Nat} {rc_impl_IsValidValue : Val → Option (Bool)} (hrc_impl_IsValidValue : ∀ a0 r, rc_impl_IsValidValue a0 = some r → AbC 92 (xAj a0) (xAi r)) {a0 : Val} {r : Bool} (h : xCf N rc_impl_IsValidValue a0 = some r) : AbC 92 (xAj a0) (xAi r) :=
 AbsCalls.of_reach fk92 rfl rfl (Nat.le_of_ble_eq_true rfl) (c92_e hrc_impl_IsValidValue a0 r h)
theorem xGX {N : Nat} : ∀ d, (∀ a0 r, xA5 N d a0 = some r → AbC 92 (xAj a0) (xAi r)) := by
 intro d
 induction d with
 | zero => intro _ r h; have h' : (none : Option (Bool)) = some r := h; cases h'
 | succ d ih => intro _ r h; exact xGQ (N := N) ih h
theorem xFu {N : Nat} {a0 : Val} {r : Bool} (h : xFX N a0 = some r) : AbC 92 (xAj a0) (xAi r) := xGX N _ r h
noncomputable def I34 : Info := { body := (Try.f34.body).getD .skip, nt := 5, results := [.cell 2 31], keep := [0, 4, 5], live := [], modes := [], ext := [], lnt := [], casts := [], fcast := [] }
theorem fk34 : FnOk Try.prog 34 Try.f34 I34 := ⟨Try.func34, by kernel_rfl, by kernel_rfl, by kernel_rfl, by kernel_rfl⟩
theorem p34_e_0 (a0 : Int) : run tt (AbsCalls Try.prog) I34 3000 false [.code I34.body] ⟨(zBi 0 (xA3 a0)), [], [], []⟩ = some (.done (xAB (Val.mk 6 a0 0 [] [] [] [])) []) := by kernel_rfl
theorem c34_e {N : Nat} : ∀ a0 r, xA7 N a0 = some r → Reach Try.prog Try.f34 I34 [.code I34.body] (zBi 0 (xA3 a0)) (xAB r) := by
 intro a0 r h
 unfold xA7 at h
 obtain rfl := Option.some.inj h
 exact Reach.done ttok mix fk34 (p34_e_0 a0) obs_nil
theorem xBm {N : Nat} {a0 : Int} {r : Val} (h : xA7 N  a0 = some r) : AbC 34 (xA3 a0) (xAB r) :=
 AbsCalls.of_reach fk34 rfl rfl (Nat.le_of_ble_eq_true rfl) (c34_e a0 r h)
theorem xHs {P : Program} {f : FuncId} {ags : List Arg} {r : Val × Bool × Bool} (h : AbsCalls P f ags (xBh r)) (ht : r.2.2 = true) : AbsCalls P f ags (xFe r) := by
 unfold xBh at h; rw [ht] at h; exact h
theorem xD6 {P : Program} {f : FuncId} {ags : List Arg} {r : Val × Bool × Bool} (h : AbsCalls P f ags (xBh r)) (ht : r.2.2 = false) : AbsCalls P f ags (xBj r) := by
 unfold xBh at h; rw [ht] at h; exact h
theorem xD5 {P : Program} {f : FuncId} {ags : List Arg} {r : Val × Bool × Bool} (h : AbsCalls P f ags (xBh r)) (ht : r.2.2 = true) (e0 : List.isEmpty (Val.list r.1) = true) (e1 : List.isEmpty (Val.columns r.1) = true) (e2 : List.isEmpty (Val.rows r.1) = true) : AbsCalls P f ags (xBB r) := by
 have h := xHs h ht
 unfold xFe at h; rw [List.isEmpty_iff.1 e0, List.isEmpty_iff.1 e1, List.isEmpty_iff.1 e2] at h; exact h
noncomputable def I68 : Info := { body := (Try.f68.body).getD .skip, nt := 22, results := [.cell 2 31, .tmp 3], keep := [0, 4, 6, 10, 12, 14, 16, 18, 28, 36, 5, 11], live := [(2, [4, 12, 14, 16, 5])], modes := [(8, [(1, .take, false)])], ext := [], lnt := [], casts := [], fcast := [] }
theorem fk68 : FnOk Try.prog 68 Try.f68 I68 := ⟨Try.func68, by kernel_rfl, by kernel_rfl, by kernel_rfl, by kernel_rfl⟩
def S68_2 (x6 : List Val) (x7 x8 : Int) (b2 : Val) : St := [(4, .v false [.ptr 2 0]), (12, .v false [.sl .ro .val x6]), (14, .v false [.int .i64 x7]), (16, .v false [.int .i64 x8]), (5, .v true [.int .i64 (Val.kind b2), .int .i64 (Val.n b2), .int .i64 (Val.step b2), .str (Val.text b2), .sl .own .val (Val.list b2), .sl .own .str (Val.columns b2), .sl .own .row (Val.rows b2)])]
theorem p68_2_0 (x6 : List Val) (x7 x8 : Int) (b2 : Val) (r1 : Bool) (r2 : Val) : run tt (AbsCalls Try.prog) I68 3000 true (stkAt 2 I68.body) ⟨(S68_2 x6 x7 x8 b2), [true, true], [xAi r1, xAB r2], []⟩ = some (.done (xBh (r2, true, false)) [(decide ((x8 : Int) < x7)) = true, (0 : Int) ≤ x8 ∧ x8 < (List.length x6), AbC 92 (xAj (List.getD x6 (Int.toNat x8) Ty.val.dflt)) (xAi r1), (!r1) = true, AbC 34 (xA3 4) (xAB r2)]) := by kernel_rfl
theorem p68_2_1 (x6 : List Val) (x7 x8 : Int) (b2 : Val) (r1 : Bool) : run tt (AbsCalls Try.prog) I68 3000 true (stkAt 2 I68.body) ⟨(S68_2 x6 x7 x8 b2), [true, false, true], [xAi r1], []⟩ = some (.done (xBh ((List.getD x6 (Int.toNat x8) Ty.val.dflt), true, true)) [(decide ((x8 : Int) < x7)) = true, (0 : Int) ≤ x8 ∧ x8 < (List.length x6), AbC 92 (xAj (List.getD x6 (Int.toNat x8) Ty.val.dflt)) (xAi r1), (!r1) = false, (((Val.kind (List.getD x6 (Int.toNat x8) Ty.val.dflt)) : Int) == 6) = true]) := by kernel_rfl
theorem p68_2_2 (x6 : List Val) (x7 x8 : Int) (b2 : Val) (r1 : Bool) : run tt (AbsCalls Try.prog) I68 3000 true (stkAt 2 I68.body) ⟨(S68_2 x6 x7 x8 b2), [true, false, false], [xAi r1], []⟩ = some (.stop (stkAt 2 I68.body) (S68_2 x6 x7 (IntKind.i64.wrap (x8 + 1)) b2) [(decide ((x8 : Int) < x7)) = true, (0 : Int) ≤ x8 ∧ x8 < (List.length x6), AbC 92 (xAj (List.getD x6 (Int.toNat x8) Ty.val.dflt)) (xAi r1), (!r1) = false, (((Val.kind (List.getD x6 (Int.toNat x8) Ty.val.dflt)) : Int) == 6) = false]) := by kernel_rfl
theorem p68_2_3 (x6 : List Val) (x7 x8 : Int) (b2 : Val) : run tt (AbsCalls Try.prog) I68 3000 true (stkAt 2 I68.body) ⟨(S68_2 x6 x7 x8 b2), [false], [], []⟩ = some (.done (xBh ((Val.mk 0 0 0 [] [] [] []), false, false)) [(decide ((x8 : Int) < x7)) = false]) := by kernel_rfl
theorem p68_e_4 (a0 : List Val) : run tt (AbsCalls Try.prog) I68 3000 false [.code I68.body] ⟨(zBi 0 (xBg a0)), [], [], []⟩ = some (.stop (stkAt 2 I68.body) (S68_2 a0 (List.length a0 : Int) 0 (Val.mk 0 0 0 [] [] [] [])) []) := by kernel_rfl
theorem c68_2 {N : Nat} : ∀ n x6 x7 x8 b2 r, xBG N n x6 x7 x8 b2 = some r → Reach Try.prog Try.f68 I68 (stkAt 2 I68.body) (S68_2 x6 x7 x8 b2) (xBh r) := by
 intro n
 induction n with
 | zero => intro x6 x7 x8 b2 r h; have h' : (none : Option (Val × Bool × Bool)) = some r := h; cases h'
 | succ n ih =>
  intro x6 x7 x8 b2 r h
  rw [xBG] at h
  rcases cond_inv h with ⟨h0, h⟩ | ⟨h0, h⟩
  ·obtain ⟨h1, h⟩ := ite_inv h
   obtain ⟨r1, h2, h⟩ := bind_inv h
   rcases cond_inv h with ⟨h3, h⟩ | ⟨h3, h⟩
   ·obtain ⟨r2, h4, h⟩ := bind_inv h
    obtain rfl := Option.some.inj h
    exact Reach.done ttok mix fk68 (p68_2_0 x6 x7 x8 b2 r1 r2) (obs_cons h0 (obs_cons h1 (obs_cons (xFu h2) (obs_cons h3 (obs_cons (xBm h4) obs_nil)))))
   ·rcases cond_inv h with ⟨h4, h⟩ | ⟨h4, h⟩
    ·obtain rfl := Option.some.inj h
     exact Reach.done ttok mix fk68 (p68_2_1 x6 x7 x8 b2 r1) (obs_cons h0 (obs_cons h1 (obs_cons (xFu h2) (obs_cons h3 (obs_cons h4 obs_nil)))))
    ·exact Reach.stop ttok mix fk68 (p68_2_2 x6 x7 x8 b2 r1) (obs_cons h0 (obs_cons h1 (obs_cons (xFu h2) (obs_cons h3 (obs_cons h4 obs_nil))))) (ih _ _ _ _ _ h)
  ·obtain rfl := Option.some.inj h
   exact Reach.done ttok mix fk68 (p68_2_3 x6 x7 x8 b2) (obs_cons h0 obs_nil)
theorem c68_e {N : Nat} : ∀ a0 r, xEm N a0 = some r → Reach Try.prog Try.f68 I68 [.code I68.body] (zBi 0 (xBg a0)) (xBh r) := by
 intro a0 r h
 unfold xEm at h
 exact Reach.stop ttok mix fk68 (p68_e_4 a0) obs_nil (c68_2   _ _ _ _ _ _ h)
theorem xB3 {N : Nat} {a0 : List Val} {r : Val × Bool × Bool} (h : xEm N  a0 = some r) : AbC 68 (xBg a0) (xBh r) :=
 AbsCalls.of_reach fk68 rfl rfl (Nat.le_of_ble_eq_true rfl) (c68_e a0 r h)
theorem xCX {P : Program} {f : FuncId} {ags : List Arg} {r : Val × Bool × Bool} (h : AbsCalls P f ags (xAP r)) (ht : r.2.2 = true) : AbsCalls P f ags (xAZ r) := by
 unfold xAP at h; rw [ht] at h; exact h
theorem xCW {P : Program} {f : FuncId} {ags : List Arg} {r : Val × Bool × Bool} (h : AbsCalls P f ags (xAP r)) (ht : r.2.2 = false) : AbsCalls P f ags (xAY r) := by
 unfold xAP at h; rw [ht] at h; exact h
noncomputable def I33 : Info := { body := (Try.f33.body).getD .skip, nt := 31, results := [.cell 4 31, .tmp 5], keep := [0, 2, 4, 6, 8, 10, 12, 14, 30, 5, 7, 9, 13], live := [], modes := [(1, [(3, .take, true), (4, .take, false)]), (2, [(0, .take, false)]), (3, [(0, .take, false)]), (4, [(4, .take, false), (8, .take, false)])], ext := [], lnt := [], casts := [], fcast := [] }
theorem fk33 : FnOk Try.prog 33 Try.f33 I33 := ⟨Try.func33, by kernel_rfl, by kernel_rfl, by kernel_rfl, by kernel_rfl⟩
theorem p33_e_0 (a0 a1 : Val) (r1 : Val × Bool × Bool) : run tt (AbsCalls Try.prog) I33 3000 false [.code I33.body] ⟨(zBi 0 (xAH a0 a1)), [true], [xBB r1], []⟩ = some (.done (xAP ((Val.mk (Val.kind r1.1) (Val.n r1.1) (Val.step r1.1) (Val.text r1.1) [] [] []), true, true)) [AbC 68 (xBg [(Val.re a0), (Val.re a1)]) (xBB r1), r1.2.1 = true]) := by kernel_rfl
theorem p33_e_1 (a0 a1 : Val) (r1 : Val × Bool × Bool) (r2 : Val) : run tt (AbsCalls Try.prog) I33 3000 false [.code I33.body] ⟨(zBi 0 (xAH a0 a1)), [false, true], [xBB r1, xAB r2], []⟩ = some (.done (xAP (r2, true, false)) [AbC 68 (xBg [(Val.re a0), (Val.re a1)]) (xBB r1), r1.2.1 = false, AbC 34 (xA3 4) (xAB r2), (((Val.kind a0) : Int) != 1) = true]) := by kernel_rfl
theorem p33_e_2 (a0 a1 : Val) (r1 : Val × Bool × Bool) (r2 : Val) : run tt (AbsCalls Try.prog) I33 3000 false [.code I33.body] ⟨(zBi 0 (xAH a0 a1)), [false, false, true], [xBB r1, xAB r2], []⟩ = some (.done (xAP (r2, (((Val.kind a1) : Int) != 4), false)) [AbC 68 (xBg [(Val.re a0), (Val.re a1)]) (xBB r1), r1.2.1 = false, AbC 34 (xA3 4) (xAB r2), (((Val.kind a0) : Int) != 1) = false, (((Val.kind a1) : Int) != 3) = true]) := by kernel_rfl
theorem p33_e_3 (a0 a1 : Val) (r1 : Val × Bool × Bool) (r2 : Val) : run tt (AbsCalls Try.prog) I33 3000 false [.code I33.body] ⟨(zBi 0 (xAH a0 a1)), [false, false, false], [xBB r1, xAB r2], []⟩ = some (.done (xAP (r2, false, false)) [AbC 68 (xBg [(Val.re a0), (Val.re a1)]) (xBB r1), r1.2.1 = false, AbC 34 (xA3 4) (xAB r2), (((Val.kind a0) : Int) != 1) = false, (((Val.kind a1) : Int) != 3) = false]) := by kernel_rfl
theorem p33_e_4 (a0 a1 : Val) (r1 : Val × Bool × Bool) : run tt (AbsCalls Try.prog) I33 3000 false [.code I33.body] ⟨(zBi 0 (xAH a0 a1)), [true], [xBj r1], []⟩ = some (.done (xAP (r1.1, true, false)) [AbC 68 (xBg [(Val.re a0), (Val.re a1)]) (xBj r1), r1.2.1 = true]) := by kernel_rfl
theorem p33_e_5 (a0 a1 : Val) (r1 : Val × Bool × Bool) (r2 : Val) : run tt (AbsCalls Try.prog) I33 3000 false [.code I33.body] ⟨(zBi 0 (xAH a0 a1)), [false, true], [xBj r1, xAB r2], []⟩ = some (.done (xAP (r2, true, false)) [AbC 68 (xBg [(Val.re a0), (Val.re a1)]) (xBj r1), r1.2.1 = false, AbC 34 (xA3 4) (xAB r2), (((Val.kind a0) : Int) != 1) = true]) := by kernel_rfl
theorem p33_e_6 (a0 a1 : Val) (r1 : Val × Bool × Bool) (r2 : Val) : run tt (AbsCalls Try.prog) I33 3000 false [.code I33.body] ⟨(zBi 0 (xAH a0 a1)), [false, false, true], [xBj r1, xAB r2], []⟩ = some (.done (xAP (r2, (((Val.kind a1) : Int) != 4), false)) [AbC 68 (xBg [(Val.re a0), (Val.re a1)]) (xBj r1), r1.2.1 = false, AbC 34 (xA3 4) (xAB r2), (((Val.kind a0) : Int) != 1) = false, (((Val.kind a1) : Int) != 3) = true]) := by kernel_rfl
theorem p33_e_7 (a0 a1 : Val) (r1 : Val × Bool × Bool) (r2 : Val) : run tt (AbsCalls Try.prog) I33 3000 false [.code I33.body] ⟨(zBi 0 (xAH a0 a1)), [false, false, false], [xBj r1, xAB r2], []⟩ = some (.done (xAP (r2, false, false)) [AbC 68 (xBg [(Val.re a0), (Val.re a1)]) (xBj r1), r1.2.1 = false, AbC 34 (xA3 4) (xAB r2), (((Val.kind a0) : Int) != 1) = false, (((Val.kind a1) : Int) != 3) = false]) := by kernel_rfl
theorem c33_e {N : Nat} : ∀ a0 a1 r, xDl N a0 a1 = some r → Reach Try.prog Try.f33 I33 [.code I33.body] (zBi 0 (xAH a0 a1)) (xAP r) := by
 intro a0 a1 r h
 unfold xDl at h
 obtain ⟨r1, h0, h⟩ := bind_inv h
 rcases cond_inv h with ⟨h1, h⟩ | ⟨h1, h⟩
 ·obtain ⟨h2, h⟩ := ite_inv h
  obtain ⟨h3, h⟩ := ite_inv h
  obtain ⟨h4, h⟩ := ite_inv h
  rcases cond_inv h with ⟨h5, h⟩ | ⟨h5, h⟩
  ·obtain rfl := Option.some.inj h
   exact Reach.done ttok mix fk33 (p33_e_0 a0 a1 r1) (obs_cons (xD5 (xB3 h0) h1 h2 h3 h4) (obs_cons h5 obs_nil))
  ·obtain ⟨r2, h6, h⟩ := bind_inv h
   rcases cond_inv h with ⟨h7, h⟩ | ⟨h7, h⟩
   ·obtain rfl := Option.some.inj h
    exact Reach.done ttok mix fk33 (p33_e_1 a0 a1 r1 r2) (obs_cons (xD5 (xB3 h0) h1 h2 h3 h4) (obs_cons h5 (obs_cons (xBm h6) (obs_cons h7 obs_nil))))
   ·rcases cond_inv h with ⟨h8, h⟩ | ⟨h8, h⟩
    ·obtain rfl := Option.some.inj h
     exact Reach.done ttok mix fk33 (p33_e_2 a0 a1 r1 r2) (obs_cons (xD5 (xB3 h0) h1 h2 h3 h4) (obs_cons h5 (obs_cons (xBm h6) (obs_cons h7 (obs_cons h8 obs_nil)))))
    ·obtain rfl := Option.some.inj h
     exact Reach.done ttok mix fk33 (p33_e_3 a0 a1 r1 r2) (obs_cons (xD5 (xB3 h0) h1 h2 h3 h4) (obs_cons h5 (obs_cons (xBm h6) (obs_cons h7 (obs_cons h8 obs_nil)))))
 ·rcases cond_inv h with ⟨h2, h⟩ | ⟨h2, h⟩
  ·obtain rfl := Option.some.inj h
   exact Reach.done ttok mix fk33 (p33_e_4 a0 a1 r1) (obs_cons (xD6 (xB3 h0) h1) (obs_cons h2 obs_nil))
  ·obtain ⟨r2, h3, h⟩ := bind_inv h
   rcases cond_inv h with ⟨h4, h⟩ | ⟨h4, h⟩
   ·obtain rfl := Option.some.inj h
    exact Reach.done ttok mix fk33 (p33_e_5 a0 a1 r1 r2) (obs_cons (xD6 (xB3 h0) h1) (obs_cons h2 (obs_cons (xBm h3) (obs_cons h4 obs_nil))))
   ·rcases cond_inv h with ⟨h5, h⟩ | ⟨h5, h⟩
    ·obtain rfl := Option.some.inj h
     exact Reach.done ttok mix fk33 (p33_e_6 a0 a1 r1 r2) (obs_cons (xD6 (xB3 h0) h1) (obs_cons h2 (obs_cons (xBm h3) (obs_cons h4 (obs_cons h5 obs_nil)))))
    ·obtain rfl := Option.some.inj h
     exact Reach.done ttok mix fk33 (p33_e_7 a0 a1 r1 r2) (obs_cons (xD6 (xB3 h0) h1) (obs_cons h2 (obs_cons (xBm h3) (obs_cons h4 (obs_cons h5 obs_nil)))))
theorem xBk {N : Nat} {a0 : Val} {a1 : Val} {r : Val × Bool × Bool} (h : xDl N  a0 a1 = some r) : AbC 33 (xAH a0 a1) (xAP r) :=
 AbsCalls.of_reach fk33 rfl rfl (Nat.le_of_ble_eq_true rfl) (c33_e a0 a1 r h)
noncomputable def I76 : Info := { body := (Try.f76.body).getD .skip, nt := 12, results := [.cell 2 62], keep := [0, 2, 4, 3, 5], live := [], modes := [], ext := [], lnt := [], casts := [], fcast := [] }
theorem fk76 : FnOk Try.prog 76 Try.f76 I76 := ⟨Try.func76, by kernel_rfl, by kernel_rfl, by kernel_rfl, by kernel_rfl⟩
theorem p76_e_0 (a0 : Rowd) : run tt (AbsCalls Try.prog) I76 3000 false [.code I76.body] ⟨(zBi 0 (xFO a0)), [], [], []⟩ = some (.done (xFc (Rowd.mk ([] ++ (Rowd.cells a0)) ([] ++ (Rowd.frm a0)))) [0 + List.length (Rowd.cells a0) ≤ Lim, 0 + List.length (Rowd.frm a0) ≤ Lim]) := by kernel_rfl
theorem c76_e {N : Nat} : ∀ a0 r, xGj N a0 = some r → Reach Try.prog Try.f76 I76 [.code I76.body] (zBi 0 (xFO a0)) (xFc r) := by
 intro a0 r h
 unfold xGj at h
 obtain ⟨h0, h⟩ := ite_inv h
 obtain ⟨h1, h⟩ := ite_inv h
 obtain rfl := Option.some.inj h
 exact Reach.done ttok mix fk76 (p76_e_0 a0) (obs_cons h0 (obs_cons h1 obs_nil))
theorem impl_copyRow_ok {N : Nat} {a0 : Rowd} {r : Rowd} (h : xGj N  a0 = some r) : AbC 76 (xFO a0) (xFc r) :=
 AbsCalls.of_reach fk76 rfl rfl (Nat.le_of_ble_eq_true rfl) (c76_e a0 r h)
noncomputable def I35 : Info := { body := (Try.f35.body).getD .skip, nt := 33, results := [.cell 2 31], keep := [0, 2, 4, 6, 10, 36, 38, 40, 42, 3, 5, 7, 11], live := [(6, [4, 6, 36, 38, 40, 5, 7])], modes := [(8, [(1, .take, false), (5, .take, false)]), (9, [(1, .take, false)]), (10, [(0, .take, false)])], ext := [], lnt := [], casts := [], fcast := [] }
theorem fk35 : FnOk Try.prog 35 Try.f35 I35 := ⟨Try.func35, by kernel_rfl, by kernel_rfl, by kernel_rfl, by kernel_rfl⟩
def S35_6 (x18 : List Rowd) (x19 x20 : Int) (b2 b3 : Val) : St := [(4, .v false [.ptr 2 0]), (6, .v false [.ptr 3 0]), (36, .v false [.sl .ro .row x18]), (38, .v false [.int .i64 x19]), (40, .v false [.int .i64 x20]), (5, .v true [.int .i64 (Val.kind b2), .int .i64 (Val.n b2), .int .i64 (Val.step b2), .str (Val.text b2), .sl .own .val (Val.list b2), .sl .own .str (Val.columns b2), .sl .own .row (Val.rows b2)]), (7, .v true [.int .i64 (Val.kind b3), .int .i64 (Val.n b3), .int .i64 (Val.step b3), .str (Val.text b3), .sl .own .val (Val.list b3), .sl .own .str (Val.columns b3), .sl .own .row (Val.rows b3)])]
theorem p35_6_0 (x18 : List Rowd) (x19 x20 : Int) (b2 b3 : Val) (r1 : Rowd) : run tt (AbsCalls Try.prog) I35 3000 true (stkAt 6 I35.body) ⟨(S35_6 x18 x19 x20 b2 b3), [true], [xFc r1], []⟩ = some (.stop (stkAt 6 I35.body) (S35_6 x18 x19 (IntKind.i64.wrap (x20 + 1)) b2 (Val.mk (Val.kind b3) (Val.n b3) (Val.step b3) (Val.text b3) (Val.list b3) (Val.columns b3) ((Val.rows b3) ++ [r1]))) [(decide ((x20 : Int) < x19)) = true, (0 : Int) ≤ x20 ∧ x20 < (List.length x18), AbC 76 (xFO (List.getD x18 (Int.toNat x20) Ty.row.dflt)) (xFc r1), List.length (Val.rows b3) + List.length [r1] ≤ Lim]) := by kernel_rfl
theorem p35_6_1 (x18 : List Rowd) (x19 x20 : Int) (b2 b3 : Val) : run tt (AbsCalls Try.prog) I35 3000 true (stkAt 6 I35.body) ⟨(S35_6 x18 x19 x20 b2 b3), [false], [], []⟩ = some (.done (xAR b3) [(decide ((x20 : Int) < x19)) = false]) := by kernel_rfl
theorem p35_e_2 (a0 : Val) (r1 : (List Val)) : run tt (AbsCalls Try.prog) I35 3000 false [.code I35.body] ⟨(zBi 0 (xBc a0)), [], [xBd r1], []⟩ = some (.stop (stkAt 6 I35.body) (S35_6 (Val.rows a0) (List.length (Val.rows a0) : Int) 0 (Val.mk 0 0 0 [] [] [] []) (Val.mk (Val.kind a0) (Val.n a0) (Val.step a0) (Val.text a0) r1 ([] ++ (Val.columns a0)) [])) [AbC 70 (xBA (Val.list a0)) (xBd r1), 0 + List.length (Val.columns a0) ≤ Lim]) := by kernel_rfl
theorem c35_6 {N : Nat} {rc_impl_copyValue : Val → Option (Val)} (hrc_impl_copyValue : ∀ a0 r, rc_impl_copyValue a0 = some r → AbC 35 (xBc a0) (xAR r)) {rc_impl_copyValues : (List Val) → Option ((List Val))} (hrc_impl_copyValues : ∀ a0 r, rc_impl_copyValues a0 = some r → AbC 70 (xBA a0) (xBd r)) : ∀ n x18 x19 x20 b2 b3 r, xCv N rc_impl_copyValue rc_impl_copyValues n x18 x19 x20 b2 b3 = some r → Reach Try.prog Try.f35 I35 (stkAt 6 I35.body) (S35_6 x18 x19 x20 b2 b3) (xAR r) := by
 intro n
 induction n with
 | zero => intro x18 x19 x20 b2 b3 r h; have h' : (none : Option (Val)) = some r := h; cases h'
 | succ n ih =>
  intro x18 x19 x20 b2 b3 r h
  rw [xCv] at h
  rcases cond_inv h with ⟨h0, h⟩ | ⟨h0, h⟩
  ·obtain ⟨h1, h⟩ := ite_inv h
   obtain ⟨r1, h2, h⟩ := bind_inv h
   obtain ⟨h3, h⟩ := ite_inv h
   exact Reach.stop ttok mix fk35 (p35_6_0 x18 x19 x20 b2 b3 r1) (obs_cons h0 (obs_cons h1 (obs_cons (impl_copyRow_ok h2) (obs_cons h3 obs_nil)))) (ih _ _ _ _ _ _ h)
  ·obtain rfl := Option.some.inj h
   exact Reach.done ttok mix fk35 (p35_6_1 x18 x19 x20 b2 b3) (obs_cons h0 obs_nil)
theorem c35_e {N : Nat} {rc_impl_copyValue : Val → Option (Val)} (hrc_impl_copyValue : ∀ a0 r, rc_impl_copyValue a0 = some r → AbC 35 (xBc a0) (xAR r)) {rc_impl_copyValues : (List Val) → Option ((List Val))} (hrc_impl_copyValues : ∀ a0 r, rc_impl_copyValues a0 = some r → AbC 70 (xBA a0) (xBd r)) : ∀ a0 r, xC0 N rc_impl_copyValue rc_impl_copyValues a0 = some r → Reach Try.prog Try.f35 I35 [.code I35.body] (zBi 0 (xBc a0)) (xAR r) := by
 intro a0 r h
 unfold xC0 at h
 obtain ⟨r1, h0, h⟩ := bind_inv h
 obtain ⟨h1, h⟩ := ite_inv h
 exact Reach.stop ttok mix fk35 (p35_e_2 a0 r1) (obs_cons (hrc_impl_copyValues _ _ h0) (obs_cons h1 obs_nil)) (c35_6 hrc_impl_copyValue hrc_impl_copyValues  _ _ _ _ _ _ _ h)
theorem xHi {N : Nat} {rc_impl_copyValue : Val → Option (Val)} (hrc_impl_copyValue : ∀ a0 r, rc_impl_copyValue a0 = some r → AbC 35 (xBc a0) (xAR r)) {rc_impl_copyValues : (List Val) → Option ((List Val))} (hrc_impl_copyValues : ∀ a0 r, rc_impl_copyValues a0 = some r → AbC 70 (xBA a0) (xBd r)) {a0 : Val} {r : Val} (h : xC0 N rc_impl_copyValue rc_impl_copyValues a0 = some r) : AbC 35 (xBc a0) (xAR r) :=
 AbsCalls.of_reach fk35 rfl rfl (Nat.le_of_ble_eq_true rfl) (c35_e hrc_impl_copyValue hrc_impl_copyValues a0 r h)
noncomputable def I70 : Info := { body := (Try.f70.body).getD .skip, nt := 20, results := [.tmp 2], keep := [0, 4, 6, 10, 14, 16, 18, 20, 11], live := [(3, [6, 14, 16, 18])], modes := [(5, [(0, .take, false), (4, .take, false)]), (6, [(1, .take, false)]), (7, [(0, .take, false)])], ext := [], lnt := [], casts := [], fcast := [] }
theorem fk70 : FnOk Try.prog 70 Try.f70 I70 := ⟨Try.func70, by kernel_rfl, by kernel_rfl, by kernel_rfl, by kernel_rfl⟩
def S70_3 (x3 x7 : List Val) (x8 x9 : Int) : St := [(6, .v false [.sl .own .val x3]), (14, .v false [.sl .ro .val x7]), (16, .v false [.int .i64 x8]), (18, .v false [.int .i64 x9])]
theorem p70_3_0 (x3 x7 : List Val) (x8 x9 : Int) (r1 : Val) : run tt (AbsCalls Try.prog) I70 3000 true (stkAt 3 I70.body) ⟨(S70_3 x3 x7 x8 x9), [true], [xAR r1], []⟩ = some (.stop (stkAt 3 I70.body) (S70_3 (x3 ++ [(Val.re r1)]) x7 x8 (IntKind.i64.wrap (x9 + 1))) [(decide ((x9 : Int) < x8)) = true, (0 : Int) ≤ x9 ∧ x9 < (List.length x7), AbC 35 (xBc (List.getD x7 (Int.toNat x9) Ty.val.dflt)) (xAR r1), List.length x3 + List.length [(Val.re r1)] ≤ Lim]) := by kernel_rfl
theorem p70_3_1 (x3 x7 : List Val) (x8 x9 : Int) : run tt (AbsCalls Try.prog) I70 3000 true (stkAt 3 I70.body) ⟨(S70_3 x3 x7 x8 x9), [false], [], []⟩ = some (.done (xBd x3) [(decide ((x9 : Int) < x8)) = false]) := by kernel_rfl
theorem p70_e_2 (a0 : List Val) : run tt (AbsCalls Try.prog) I70 3000 false [.code I70.body] ⟨(zBi 0 (xBA a0)), [], [], []⟩ = some (.stop (stkAt 3 I70.body) (S70_3 [] a0 (List.length a0 : Int) 0) []) := by kernel_rfl
theorem c70_3 {N : Nat} {rc_impl_copyValue : Val → Option (Val)} (hrc_impl_copyValue : ∀ a0 r, rc_impl_copyValue a0 = some r → AbC 35 (xBc a0) (xAR r)) {rc_impl_copyValues : (List Val) → Option ((List Val))} (hrc_impl_copyValues : ∀ a0 r, rc_impl_copyValues a0 = some r → AbC 70 (xBA a0) (xBd r)) : ∀ n x3 x7 x8 x9 r, xCI N rc_impl_copyValue rc_impl_copyValues n x3 x7 x8 x9 = some r → Reach Try.prog Try.f70 I70 (stkAt 3 I70.body) (S70_3 x3 x7 x8 x9) (xBd r) := by
 intro n
 induction n with
 | zero => intro x3 x7 x8 x9 r h; have h' : (none : Option ((List Val))) = some r := h; cases h'
 | succ n ih =>
  intro x3 x7 x8 x9 r h
  rw [xCI] at h
  rcases cond_inv h with ⟨h0, h⟩ | ⟨h0, h⟩
  ·obtain ⟨h1, h⟩ := ite_inv h
   obtain ⟨r1, h2, h⟩ := bind_inv h
   obtain ⟨h3, h⟩ := ite_inv h
   exact Reach.stop ttok mix fk70 (p70_3_0 x3 x7 x8 x9 r1) (obs_cons h0 (obs_cons h1 (obs_cons (hrc_impl_copyValue _ _ h2) (obs_cons h3 obs_nil)))) (ih _ _ _ _ _ h)
  ·obtain rfl := Option.some.inj h
   exact Reach.done ttok mix fk70 (p70_3_1 x3 x7 x8 x9) (obs_cons h0 obs_nil)
theorem c70_e {N : Nat} {rc_impl_copyValue : Val → Option (Val)} (hrc_impl_copyValue : ∀ a0 r, rc_impl_copyValue a0 = some r → AbC 35 (xBc a0) (xAR r)) {rc_impl_copyValues : (List Val) → Option ((List Val))} (hrc_impl_copyValues : ∀ a0 r, rc_impl_copyValues a0 = some r → AbC 70 (xBA a0) (xBd r)) : ∀ a0 r, xCO N rc_impl_copyValue rc_impl_copyValues a0 = some r → Reach Try.prog Try.f70 I70 [.code I70.body] (zBi 0 (xBA a0)) (xBd r) := by
 intro a0 r h
 unfold xCO at h
 exact Reach.stop ttok mix fk70 (p70_e_2 a0) obs_nil (c70_3 hrc_impl_copyValue hrc_impl_copyValues  _ _ _ _ _ _ h)
theorem xG8 {N : Nat} {rc_impl_copyValue : Val → Option (Val)} (hrc_impl_copyValue : ∀ a0 r, rc_impl_copyValue a0 = some r → AbC 35 (xBc a0) (xAR r)) {rc_impl_copyValues : (List Val) → Option ((List Val))} (hrc_impl_copyValues : ∀ a0 r, rc_impl_copyValues a0 = some r → AbC 70 (xBA a0) (xBd r)) {a0 : List Val} {r : (List Val)} (h : xCO N rc_impl_copyValue rc_impl_copyValues a0 = some r) : AbC 70 (xBA a0) (xBd r) :=
 AbsCalls.of_reach fk70 rfl rfl (Nat.le_of_ble_eq_true rfl) (c70_e hrc_impl_copyValue hrc_impl_copyValues a0 r h)
theorem xHq {N : Nat} : ∀ d, (∀ a0 r, (xAL N d).c_impl_copyValue a0 = some r → AbC 35 (xBc a0) (xAR r)) ∧ (∀ a0 r, (xAL N d).c_impl_copyValues a0 = some r → AbC 70 (xBA a0) (xBd r)) := by
 intro d
 induction d with
 | zero =>
  refine ⟨?_, ?_⟩ <;> (intros; rename_i h; cases h)
 | succ d ih =>
  obtain ⟨ih0, ih1⟩ := ih
  refine ⟨?_, ?_⟩
  ·intro _ r h; exact xHi (N := N) ih0 ih1 h
  ·intro _ r h; exact xG8 (N := N) ih0 ih1 h
theorem xGY {N : Nat} {a0 : Val} {r : Val} (h : xGc N a0 = some r) : AbC 35 (xBc a0) (xAR r) := (xHq N).1 _ r h
noncomputable def I58 : Info := { body := (Try.f58.body).getD .skip, nt := 5, results := [.cell 2 31], keep := [0, 4, 5], live := [], modes := [], ext := [], lnt := [], casts := [], fcast := [] }
theorem fk58 : FnOk Try.prog 58 Try.f58 I58 := ⟨Try.func58, by kernel_rfl, by kernel_rfl, by kernel_rfl, by kernel_rfl⟩
theorem p58_e_0 (a0 : Int) : run tt (AbsCalls Try.prog) I58 3000 false [.code I58.body] ⟨(zBi 0 (xEA a0)), [], [], []⟩ = some (.done (xDP (Val.mk 1 a0 0 [] [] [] [])) []) := by kernel_rfl
theorem c58_e {N : Nat} : ∀ a0 r, xEL N a0 = some r → Reach Try.prog Try.f58 I58 [.code I58.body] (zBi 0 (xEA a0)) (xDP r) := by
 intro a0 r h
 unfold xEL at h
 obtain rfl := Option.some.inj h
 exact Reach.done ttok mix fk58 (p58_e_0 a0) obs_nil
theorem xHU {N : Nat} {a0 : Int} {r : Val} (h : xEL N  a0 = some r) : AbC 58 (xEA a0) (xDP r) :=
 AbsCalls.of_reach fk58 rfl rfl (Nat.le_of_ble_eq_true rfl) (c58_e a0 r h)
noncomputable def I36 : Info := { body := (Try.f36.body).getD .skip, nt := 9, results := [.cell 2 31], keep := [0, 4, 10, 5], live := [], modes := [], ext := [], lnt := [], casts := [], fcast := [] }
theorem fk36 : FnOk Try.prog 36 Try.f36 I36 := ⟨Try.func36, by kernel_rfl, by kernel_rfl, by kernel_rfl, by kernel_rfl⟩
theorem p36_e_0 (a0 : Int) (r1 : Bool) (r2 : Val) : run tt (AbsCalls Try.prog) I36 3000 false [.code I36.body] ⟨(zBi 0 (xCu a0)), [true], [xAU r1, xAB r2], []⟩ = some (.done (xBR r2) [AbC 53 (xBY a0) (xAU r1), (!r1) = true, AbC 34 (xA3 5) (xAB r2)]) := by kernel_rfl
theorem p36_e_1 (a0 : Int) (r1 : Bool) (r2 : Val) : run tt (AbsCalls Try.prog) I36 3000 false [.code I36.body] ⟨(zBi 0 (xCu a0)), [false], [xAU r1, xDP r2], []⟩ = some (.done (xBR r2) [AbC 53 (xBY a0) (xAU r1), (!r1) = false, AbC 58 (xEA a0) (xDP r2)]) := by kernel_rfl
theorem c36_e {N : Nat} : ∀ a0 r, xCF N a0 = some r → Reach Try.prog Try.f36 I36 [.code I36.body] (zBi 0 (xCu a0)) (xBR r) := by
 intro a0 r h
 unfold xCF at h
 obtain ⟨r1, h0, h⟩ := bind_inv h
 rcases cond_inv h with ⟨h1, h⟩ | ⟨h1, h⟩
 ·obtain ⟨r2, h2, h⟩ := bind_inv h
  obtain rfl := Option.some.inj h
  exact Reach.done ttok mix fk36 (p36_e_0 a0 r1 r2) (obs_cons (xCQ h0) (obs_cons h1 (obs_cons (xBm h2) obs_nil)))
 ·obtain ⟨r2, h2, h⟩ := bind_inv h
  obtain rfl := Option.some.inj h
  exact Reach.done ttok mix fk36 (p36_e_1 a0 r1 r2) (obs_cons (xCQ h0) (obs_cons h1 (obs_cons (xHU h2) obs_nil)))
theorem xGg {N : Nat} {a0 : Int} {r : Val} (h : xCF N  a0 = some r) : AbC 36 (xCu a0) (xBR r) :=
 AbsCalls.of_reach fk36 rfl rfl (Nat.le_of_ble_eq_true rfl) (c36_e a0 r h)
theorem impl_NthOf_toR {P : Program} {f : FuncId} {ags : List Arg} {r : Val × Bool} (h : AbsCalls P f ags (xBz r)) (ht : r.2 = true) : AbsCalls P f ags (xGR r) := by
 unfold xBz at h; rw [ht] at h; exact h
theorem xAT {P : Program} {f : FuncId} {ags : List Arg} {r : Val × Bool} (h : AbsCalls P f ags (xBz r)) (ht : r.2 = false) : AbsCalls P f ags (xAw r) := by
 unfold xBz at h; rw [ht] at h; exact h
theorem xAS {P : Program} {f : FuncId} {ags : List Arg} {r : Val × Bool} (h : AbsCalls P f ags (xBz r)) (ht : r.2 = true) (e0 : List.isEmpty (Val.list r.1) = true) (e1 : List.isEmpty (Val.columns r.1) = true) (e2 : List.isEmpty (Val.rows r.1) = true) : AbsCalls P f ags (xAx r) := by
 have h := impl_NthOf_toR h ht
 unfold xGR at h; rw [List.isEmpty_iff.1 e0, List.isEmpty_iff.1 e1, List.isEmpty_iff.1 e2] at h; exact h
noncomputable def I11 : Info := { body := (Try.f11.body).getD .skip, nt := 53, results := [.cell 4 31], keep := [0, 2, 4, 6, 8, 10, 12, 26, 30, 66, 5, 7, 9, 11], live := [], modes := [(1, [(3, .take, false)]), (2, [(0, .take, false)]), (3, [(0, .take, false)]), (4, [(3, .take, false), (7, .take, false)])], ext := [], lnt := [], casts := [], fcast := [] }
theorem fk11 : FnOk Try.prog 11 Try.f11 I11 := ⟨Try.func11, by kernel_rfl, by kernel_rfl, by kernel_rfl, by kernel_rfl⟩
theorem p11_e_0 (a0 a1 : Val) (r1 : Val × Bool × Bool) : run tt (AbsCalls Try.prog) I11 3000 false [.code I11.body] ⟨(zBi 0 (xAu a0 a1)), [true], [xAZ r1], []⟩ = some (.done (xBz (r1.1, true)) [AbC 33 (xAH a0 a1) (xAZ r1), r1.2.1 = true]) := by kernel_rfl
theorem p11_e_1 (a0 a1 : Val) (r1 : Val × Bool × Bool) (r2 : Val) : run tt (AbsCalls Try.prog) I11 3000 false [.code I11.body] ⟨(zBi 0 (xAu a0 a1)), [false, true, true], [xAZ r1, xAB r2], []⟩ = some (.done (xBz (r2, false)) [AbC 33 (xAH a0 a1) (xAZ r1), r1.2.1 = false, (decide (((Val.n a0) : Int) < 0)) = true, true = true, AbC 34 (xA3 5) (xAB r2)]) := by kernel_rfl
theorem p11_e_2 (a0 a1 : Val) (r1 : Val × Bool × Bool) (r2 : Val) : run tt (AbsCalls Try.prog) I11 3000 false [.code I11.body] ⟨(zBi 0 (xAu a0 a1)), [false, false, true, true], [xAZ r1, xAB r2], []⟩ = some (.done (xBz (r2, false)) [AbC 33 (xAH a0 a1) (xAZ r1), r1.2.1 = false, (decide (((Val.n a0) : Int) < 0)) = false, (((Val.kind a1) : Int) == 3) = true, (decide (((Val.n a0) : Int) ≥ (List.length (Val.list a1) : Int))) = true, AbC 34 (xA3 5) (xAB r2)]) := by kernel_rfl
theorem p11_e_3 (a0 a1 : Val) (r1 : Val × Bool × Bool) (r2 : Val) : run tt (AbsCalls Try.prog) I11 3000 false [.code I11.body] ⟨(zBi 0 (xAu a0 a1)), [false, false, true, false, true], [xAZ r1, xAR r2], []⟩ = some (.done (xBz (r2, false)) [AbC 33 (xAH a0 a1) (xAZ r1), r1.2.1 = false, (decide (((Val.n a0) : Int) < 0)) = false, (((Val.kind a1) : Int) == 3) = true, (decide (((Val.n a0) : Int) ≥ (List.length (Val.list a1) : Int))) = false, (((Val.kind a1) : Int) == 3) = true, (0 : Int) ≤ (Val.n a0) ∧ (Val.n a0) < (List.length (Val.list a1)), AbC 35 (xBc (List.getD (Val.list a1) (Int.toNat (Val.n a0)) Ty.val.dflt)) (xAR r2)]) := by kernel_rfl
theorem p11_e_4 (a0 a1 : Val) (r1 : Val × Bool × Bool) (r2 : Val) : run tt (AbsCalls Try.prog) I11 3000 false [.code I11.body] ⟨(zBi 0 (xAu a0 a1)), [false, false, false, false, false], [xAZ r1, xBR r2], []⟩ = some (.done (xBz (r2, false)) [AbC 33 (xAH a0 a1) (xAZ r1), r1.2.1 = false, (decide (((Val.n a0) : Int) < 0)) = false, (((Val.kind a1) : Int) == 3) = false, false = false, (((Val.kind a1) : Int) == 3) = false, AbC 36 (xCu (IntKind.i64.wrap ((Val.n a1) + (IntKind.i64.wrap ((Val.n a0) * (Val.step a1)))))) (xBR r2)]) := by kernel_rfl
theorem p11_e_5 (a0 a1 : Val) (r1 : Val × Bool × Bool) : run tt (AbsCalls Try.prog) I11 3000 false [.code I11.body] ⟨(zBi 0 (xAu a0 a1)), [true], [xAY r1], []⟩ = some (.done (xBz (r1.1, false)) [AbC 33 (xAH a0 a1) (xAY r1), r1.2.1 = true]) := by kernel_rfl
theorem p11_e_6 (a0 a1 : Val) (r1 : Val × Bool × Bool) (r2 : Val) : run tt (AbsCalls Try.prog) I11 3000 false [.code I11.body] ⟨(zBi 0 (xAu a0 a1)), [false, true, true], [xAY r1, xAB r2], []⟩ = some (.done (xBz (r2, false)) [AbC 33 (xAH a0 a1) (xAY r1), r1.2.1 = false, (decide (((Val.n a0) : Int) < 0)) = true, true = true, AbC 34 (xA3 5) (xAB r2)]) := by kernel_rfl
theorem p11_e_7 (a0 a1 : Val) (r1 : Val × Bool × Bool) (r2 : Val) : run tt (AbsCalls Try.prog) I11 3000 false [.code I11.body] ⟨(zBi 0 (xAu a0 a1)), [false, false, true, true], [xAY r1, xAB r2], []⟩ = some (.done (xBz (r2, false)) [AbC 33 (xAH a0 a1) (xAY r1), r1.2.1 = false, (decide (((Val.n a0) : Int) < 0)) = false, (((Val.kind a1) : Int) == 3) = true, (decide (((Val.n a0) : Int) ≥ (List.length (Val.list a1) : Int))) = true, AbC 34 (xA3 5) (xAB r2)]) := by kernel_rfl
theorem p11_e_8 (a0 a1 : Val) (r1 : Val × Bool × Bool) (r2 : Val) : run tt (AbsCalls Try.prog) I11 3000 false [.code I11.body] ⟨(zBi 0 (xAu a0 a1)), [false, false, true, false, true], [xAY r1, xAR r2], []⟩ = some (.done (xBz (r2, false)) [AbC 33 (xAH a0 a1) (xAY r1), r1.2.1 = false, (decide (((Val.n a0) : Int) < 0)) = false, (((Val.kind a1) : Int) == 3) = true, (decide (((Val.n a0) : Int) ≥ (List.length (Val.list a1) : Int))) = false, (((Val.kind a1) : Int) == 3) = true, (0 : Int) ≤ (Val.n a0) ∧ (Val.n a0) < (List.length (Val.list a1)), AbC 35 (xBc (List.getD (Val.list a1) (Int.toNat (Val.n a0)) Ty.val.dflt)) (xAR r2)]) := by kernel_rfl
theorem p11_e_9 (a0 a1 : Val) (r1 : Val × Bool × Bool) (r2 : Val) : run tt (AbsCalls Try.prog) I11 3000 false [.code I11.body] ⟨(zBi 0 (xAu a0 a1)), [false, false, false, false, false], [xAY r1, xBR r2], []⟩ = some (.done (xBz (r2, false)) [AbC 33 (xAH a0 a1) (xAY r1), r1.2.1 = false, (decide (((Val.n a0) : Int) < 0)) = false, (((Val.kind a1) : Int) == 3) = false, false = false, (((Val.kind a1) : Int) == 3) = false, AbC 36 (xCu (IntKind.i64.wrap ((Val.n a1) + (IntKind.i64.wrap ((Val.n a0) * (Val.step a1)))))) (xBR r2)]) := by kernel_rfl
theorem c11_e {N : Nat} : ∀ a0 a1 r, xDG N a0 a1 = some r → Reach Try.prog Try.f11 I11 [.code I11.body] (zBi 0 (xAu a0 a1)) (xBz r) := by
 intro a0 a1 r h
 unfold xDG at h
 obtain ⟨r1, h0, h⟩ := bind_inv h
 rcases cond_inv h with ⟨h1, h⟩ | ⟨h1, h⟩
 ·rcases cond_inv h with ⟨h2, h⟩ | ⟨h2, h⟩
  ·obtain rfl := Option.some.inj h
   exact Reach.done ttok mix fk11 (p11_e_0 a0 a1 r1) (obs_cons (xCX (xBk h0) h1) (obs_cons h2 obs_nil))
  ·rcases cond_inv h with ⟨h3, h⟩ | ⟨h3, h⟩
   ·obtain ⟨r2, h5, h⟩ := bind_inv h
    obtain rfl := Option.some.inj h
    exact Reach.done ttok mix fk11 (p11_e_1 a0 a1 r1 r2) (obs_cons (xCX (xBk h0) h1) (obs_cons h2 (obs_cons h3 (obs_cons rfl (obs_cons (xBm h5) obs_nil)))))
   ·rcases cond_inv h with ⟨h4, h⟩ | ⟨h4, h⟩
    ·rcases cond_inv h with ⟨h5, h⟩ | ⟨h5, h⟩
     ·obtain ⟨r2, h6, h⟩ := bind_inv h
      obtain rfl := Option.some.inj h
      exact Reach.done ttok mix fk11 (p11_e_2 a0 a1 r1 r2) (obs_cons (xCX (xBk h0) h1) (obs_cons h2 (obs_cons h3 (obs_cons h4 (obs_cons h5 (obs_cons (xBm h6) obs_nil))))))
     ·obtain ⟨h7, h⟩ := ite_inv h
      obtain ⟨r2, h8, h⟩ := bind_inv h
      obtain rfl := Option.some.inj h
      exact Reach.done ttok mix fk11 (p11_e_3 a0 a1 r1 r2) (obs_cons (xCX (xBk h0) h1) (obs_cons h2 (obs_cons h3 (obs_cons h4 (obs_cons h5 (obs_cons h4 (obs_cons h7 (obs_cons (xGY h8) obs_nil))))))))
    ·obtain ⟨r2, h7, h⟩ := bind_inv h
     obtain rfl := Option.some.inj h
     exact Reach.done ttok mix fk11 (p11_e_4 a0 a1 r1 r2) (obs_cons (xCX (xBk h0) h1) (obs_cons h2 (obs_cons h3 (obs_cons h4 (obs_cons rfl (obs_cons h4 (obs_cons (xGg h7) obs_nil)))))))
 ·rcases cond_inv h with ⟨h2, h⟩ | ⟨h2, h⟩
  ·obtain rfl := Option.some.inj h
   exact Reach.done ttok mix fk11 (p11_e_5 a0 a1 r1) (obs_cons (xCW (xBk h0) h1) (obs_cons h2 obs_nil))
  ·rcases cond_inv h with ⟨h3, h⟩ | ⟨h3, h⟩
   ·obtain ⟨r2, h5, h⟩ := bind_inv h
    obtain rfl := Option.some.inj h
    exact Reach.done ttok mix fk11 (p11_e_6 a0 a1 r1 r2) (obs_cons (xCW (xBk h0) h1) (obs_cons h2 (obs_cons h3 (obs_cons rfl (obs_cons (xBm h5) obs_nil)))))
   ·rcases cond_inv h with ⟨h4, h⟩ | ⟨h4, h⟩
    ·rcases cond_inv h with ⟨h5, h⟩ | ⟨h5, h⟩
     ·obtain ⟨r2, h6, h⟩ := bind_inv h
      obtain rfl := Option.some.inj h
      exact Reach.done ttok mix fk11 (p11_e_7 a0 a1 r1 r2) (obs_cons (xCW (xBk h0) h1) (obs_cons h2 (obs_cons h3 (obs_cons h4 (obs_cons h5 (obs_cons (xBm h6) obs_nil))))))
     ·obtain ⟨h7, h⟩ := ite_inv h
      obtain ⟨r2, h8, h⟩ := bind_inv h
      obtain rfl := Option.some.inj h
      exact Reach.done ttok mix fk11 (p11_e_8 a0 a1 r1 r2) (obs_cons (xCW (xBk h0) h1) (obs_cons h2 (obs_cons h3 (obs_cons h4 (obs_cons h5 (obs_cons h4 (obs_cons h7 (obs_cons (xGY h8) obs_nil))))))))
    ·obtain ⟨r2, h7, h⟩ := bind_inv h
     obtain rfl := Option.some.inj h
     exact Reach.done ttok mix fk11 (p11_e_9 a0 a1 r1 r2) (obs_cons (xCW (xBk h0) h1) (obs_cons h2 (obs_cons h3 (obs_cons h4 (obs_cons rfl (obs_cons h4 (obs_cons (xGg h7) obs_nil)))))))
theorem xAz {N : Nat} {a0 : Val} {a1 : Val} {r : Val × Bool} (h : xDG N  a0 a1 = some r) : AbC 11 (xAu a0 a1) (xBz r) :=
 AbsCalls.of_reach fk11 rfl rfl (Nat.le_of_ble_eq_true rfl) (c11_e a0 a1 r h)
noncomputable def I38 : Info := { body := (Try.f38.body).getD .skip, nt := 26, results := [.tmp 4], keep := [0, 2, 8, 10, 20, 28, 50], live := [(4, [0, 2, 10])], modes := [], ext := [], lnt := [], casts := [], fcast := [] }
theorem fk38 : FnOk Try.prog 38 Try.f38 I38 := ⟨Try.func38, by kernel_rfl, by kernel_rfl, by kernel_rfl, by kernel_rfl⟩
def S38_4 (x0 x1 : List Str) (x5 : Int) : St := [(0, .v false [.sl .ro .str x0]), (2, .v false [.sl .ro .str x1]), (10, .v false [.int .i64 x5])]
theorem p38_4_0 (x0 x1 : List Str) (x5 : Int) : run tt (AbsCalls Try.prog) I38 3000 true (stkAt 4 I38.body) ⟨(S38_4 x0 x1 x5), [true, true], [], []⟩ = some (.done (xBu false) [(decide ((x5 : Int) < (List.length x0 : Int))) = true, (0 : Int) ≤ x5 ∧ x5 < (List.length x0), (0 : Int) ≤ x5 ∧ x5 < (List.length x1), (!(((List.getD x0 (Int.toNat x5) Ty.str.dflt) : Str) == (List.getD x1 (Int.toNat x5) Ty.str.dflt))) = true]) := by kernel_rfl
theorem p38_4_1 (x0 x1 : List Str) (x5 : Int) : run tt (AbsCalls Try.prog) I38 3000 true (stkAt 4 I38.body) ⟨(S38_4 x0 x1 x5), [true, false], [], []⟩ = some (.stop (stkAt 4 I38.body) (S38_4 x0 x1 (IntKind.i64.wrap (x5 + 1))) [(decide ((x5 : Int) < (List.length x0 : Int))) = true, (0 : Int) ≤ x5 ∧ x5 < (List.length x0), (0 : Int) ≤ x5 ∧ x5 < (List.length x1), (!(((List.getD x0 (Int.toNat x5) Ty.str.dflt) : Str) == (List.getD x1 (Int.toNat x5) Ty.str.dflt))) = false]) := by kernel_rfl
theorem p38_4_2 (x0 x1 : List Str) (x5 : Int) : run tt (AbsCalls Try.prog) I38 3000 true (stkAt 4 I38.body) ⟨(S38_4 x0 x1 x5), [false], [], []⟩ = some (.done (xBu true) [(decide ((x5 : Int) < (List.length x0 : Int))) = false]) := by kernel_rfl
theorem p38_e_3 (a0 a1 : List Str) : run tt (AbsCalls Try.prog) I38 3000 false [.code I38.body] ⟨(zBi 0 (xC2 a0 a1)), [true], [], []⟩ = some (.done (xBu false) [(((List.length a0 : Int) : Int) != (List.length a1 : Int)) = true]) := by kernel_rfl
theorem p38_e_4 (a0 a1 : List Str) : run tt (AbsCalls Try.prog) I38 3000 false [.code I38.body] ⟨(zBi 0 (xC2 a0 a1)), [false], [], []⟩ = some (.stop (stkAt 4 I38.body) (S38_4 a0 a1 0) [(((List.length a0 : Int) : Int) != (List.length a1 : Int)) = false]) := by kernel_rfl
theorem c38_4 {N : Nat} : ∀ n x0 x1 x5 r, xC3 N n x0 x1 x5 = some r → Reach Try.prog Try.f38 I38 (stkAt 4 I38.body) (S38_4 x0 x1 x5) (xBu r) := by
 intro n
 induction n with
 | zero => intro x0 x1 x5 r h; have h' : (none : Option (Bool)) = some r := h; cases h'
 | succ n ih =>
  intro x0 x1 x5 r h
  rw [xC3] at h
  rcases cond_inv h with ⟨h0, h⟩ | ⟨h0, h⟩
  ·obtain ⟨h1, h⟩ := ite_inv h
   obtain ⟨h2, h⟩ := ite_inv h
   rcases cond_inv h with ⟨h3, h⟩ | ⟨h3, h⟩
   ·obtain rfl := Option.some.inj h
    exact Reach.done ttok mix fk38 (p38_4_0 x0 x1 x5) (obs_cons h0 (obs_cons h1 (obs_cons h2 (obs_cons h3 obs_nil))))
   ·exact Reach.stop ttok mix fk38 (p38_4_1 x0 x1 x5) (obs_cons h0 (obs_cons h1 (obs_cons h2 (obs_cons h3 obs_nil)))) (ih _ _ _ _ h)
  ·obtain rfl := Option.some.inj h
   exact Reach.done ttok mix fk38 (p38_4_2 x0 x1 x5) (obs_cons h0 obs_nil)
theorem c38_e {N : Nat} : ∀ a0 a1 r, xEY N a0 a1 = some r → Reach Try.prog Try.f38 I38 [.code I38.body] (zBi 0 (xC2 a0 a1)) (xBu r) := by
 intro a0 a1 r h
 unfold xEY at h
 rcases cond_inv h with ⟨h0, h⟩ | ⟨h0, h⟩
 ·obtain rfl := Option.some.inj h
  exact Reach.done ttok mix fk38 (p38_e_3 a0 a1) (obs_cons h0 obs_nil)
 ·exact Reach.stop ttok mix fk38 (p38_e_4 a0 a1) (obs_cons h0 obs_nil) (c38_4   _ _ _ _ _ h)
theorem xF0 {N : Nat} {a0 : List Str} {a1 : List Str} {r : Bool} (h : xEY N  a0 a1 = some r) : AbC 38 (xC2 a0 a1) (xBu r) :=
 AbsCalls.of_reach fk38 rfl rfl (Nat.le_of_ble_eq_true rfl) (c38_e a0 a1 r h)
noncomputable def I98 : Info := { body := (Try.f98.body).getD .skip, nt := 26, results := [.tmp 4], keep := [0, 2, 8, 10, 20, 28, 50], live := [(4, [0, 2, 10])], modes := [], ext := [], lnt := [], casts := [], fcast := [] }
theorem fk98 : FnOk Try.prog 98 Try.f98 I98 := ⟨Try.func98, by kernel_rfl, by kernel_rfl, by kernel_rfl, by kernel_rfl⟩
def S98_4 (x0 x1 : List Int) (x5 : Int) : St := [(0, .v false [.sl .ro .int x0]), (2, .v false [.sl .ro .int x1]), (10, .v false [.int .i64 x5])]
theorem p98_4_0 (x0 x1 : List Int) (x5 : Int) : run tt (AbsCalls Try.prog) I98 3000 true (stkAt 4 I98.body) ⟨(S98_4 x0 x1 x5), [true, true], [], []⟩ = some (.done (xCa false) [(decide ((x5 : Int) < (List.length x0 : Int))) = true, (0 : Int) ≤ x5 ∧ x5 < (List.length x0), (0 : Int) ≤ x5 ∧ x5 < (List.length x1), (((List.getD x0 (Int.toNat x5) Ty.int.dflt) : Int) != (List.getD x1 (Int.toNat x5) Ty.int.dflt)) = true]) := by kernel_rfl
theorem p98_4_1 (x0 x1 : List Int) (x5 : Int) : run tt (AbsCalls Try.prog) I98 3000 true (stkAt 4 I98.body) ⟨(S98_4 x0 x1 x5), [true, false], [], []⟩ = some (.stop (stkAt 4 I98.body) (S98_4 x0 x1 (IntKind.i64.wrap (x5 + 1))) [(decide ((x5 : Int) < (List.length x0 : Int))) = true, (0 : Int) ≤ x5 ∧ x5 < (List.length x0), (0 : Int) ≤ x5 ∧ x5 < (List.length x1), (((List.getD x0 (Int.toNat x5) Ty.int.dflt) : Int) != (List.getD x1 (Int.toNat x5) Ty.int.dflt)) = false]) := by kernel_rfl
theorem p98_4_2 (x0 x1 : List Int) (x5 : Int) : run tt (AbsCalls Try.prog) I98 3000 true (stkAt 4 I98.body) ⟨(S98_4 x0 x1 x5), [false], [], []⟩ = some (.done (xCa true) [(decide ((x5 : Int) < (List.length x0 : Int))) = false]) := by kernel_rfl
theorem p98_e_3 (a0 a1 : List Int) : run tt (AbsCalls Try.prog) I98 3000 false [.code I98.body] ⟨(zBi 0 (xEd a0 a1)), [true], [], []⟩ = some (.done (xCa false) [(((List.length a0 : Int) : Int) != (List.length a1 : Int)) = true]) := by kernel_rfl
theorem p98_e_4 (a0 a1 : List Int) : run tt (AbsCalls Try.prog) I98 3000 false [.code I98.body] ⟨(zBi 0 (xEd a0 a1)), [false], [], []⟩ = some (.stop (stkAt 4 I98.body) (S98_4 a0 a1 0) [(((List.length a0 : Int) : Int) != (List.length a1 : Int)) = false]) := by kernel_rfl
theorem c98_4 {N : Nat} : ∀ n x0 x1 x5 r, xEe N n x0 x1 x5 = some r → Reach Try.prog Try.f98 I98 (stkAt 4 I98.body) (S98_4 x0 x1 x5) (xCa r) := by
 intro n
 induction n with
 | zero => intro x0 x1 x5 r h; have h' : (none : Option (Bool)) = some r := h; cases h'
 | succ n ih =>
  intro x0 x1 x5 r h
  rw [xEe] at h
  rcases cond_inv h with ⟨h0, h⟩ | ⟨h0, h⟩
  ·obtain ⟨h1, h⟩ := ite_inv h
   obtain ⟨h2, h⟩ := ite_inv h
   rcases cond_inv h with ⟨h3, h⟩ | ⟨h3, h⟩
   ·obtain rfl := Option.some.inj h
    exact Reach.done ttok mix fk98 (p98_4_0 x0 x1 x5) (obs_cons h0 (obs_cons h1 (obs_cons h2 (obs_cons h3 obs_nil))))
   ·exact Reach.stop ttok mix fk98 (p98_4_1 x0 x1 x5) (obs_cons h0 (obs_cons h1 (obs_cons h2 (obs_cons h3 obs_nil)))) (ih _ _ _ _ h)
  ·obtain rfl := Option.some.inj h
   exact Reach.done ttok mix fk98 (p98_4_2 x0 x1 x5) (obs_cons h0 obs_nil)
theorem c98_e {N : Nat} : ∀ a0 a1 r, xFY N a0 a1 = some r → Reach Try.prog Try.f98 I98 [.code I98.body] (zBi 0 (xEd a0 a1)) (xCa r) := by
 intro a0 a1 r h
 unfold xFY at h
 rcases cond_inv h with ⟨h0, h⟩ | ⟨h0, h⟩
 ·obtain rfl := Option.some.inj h
  exact Reach.done ttok mix fk98 (p98_e_3 a0 a1) (obs_cons h0 obs_nil)
 ·exact Reach.stop ttok mix fk98 (p98_e_4 a0 a1) (obs_cons h0 obs_nil) (c98_4   _ _ _ _ _ h)
theorem xGS {N : Nat} {a0 : List Int} {a1 : List Int} {r : Bool} (h : xFY N  a0 a1 = some r) : AbC 98 (xEd a0 a1) (xCa r) :=
 AbsCalls.of_reach fk98 rfl rfl (Nat.le_of_ble_eq_true rfl) (c98_e a0 a1 r h)
noncomputable def I116 : Info := { body := (Try.f116.body).getD .skip, nt := 15, results := [.tmp 4], keep := [0, 2, 4, 6, 8, 18, 28, 5, 7], live := [], modes := [], ext := [], lnt := [], casts := [], fcast := [] }
theorem fk116 : FnOk Try.prog 116 Try.f116 I116 := ⟨Try.func116, by kernel_rfl, by kernel_rfl, by kernel_rfl, by kernel_rfl⟩
theorem p116_e_0 (a0 a1 : Org) : run tt (AbsCalls Try.prog) I116 3000 false [.code I116.body] ⟨(zBi 0 (xDr a0 a1)), [true], [], []⟩ = some (.done (xCl false) [(((Org.cell a0) : Int) != (Org.cell a1)) = true]) := by kernel_rfl
theorem p116_e_1 (a0 a1 : Org) : run tt (AbsCalls Try.prog) I116 3000 false [.code I116.body] ⟨(zBi 0 (xDr a0 a1)), [false, true], [], []⟩ = some (.done (xCl false) [(((Org.cell a0) : Int) != (Org.cell a1)) = false, (((Org.row a0) : Int) != (Org.row a1)) = true]) := by kernel_rfl
theorem p116_e_2 (a0 a1 : Org) : run tt (AbsCalls Try.prog) I116 3000 false [.code I116.body] ⟨(zBi 0 (xDr a0 a1)), [false, false], [], []⟩ = some (.done (xCl true) [(((Org.cell a0) : Int) != (Org.cell a1)) = false, (((Org.row a0) : Int) != (Org.row a1)) = false]) := by kernel_rfl
theorem c116_e {N : Nat} : ∀ a0 a1 r, xFk N a0 a1 = some r → Reach Try.prog Try.f116 I116 [.code I116.body] (zBi 0 (xDr a0 a1)) (xCl r) := by
 intro a0 a1 r h
 unfold xFk at h
 rcases cond_inv h with ⟨h0, h⟩ | ⟨h0, h⟩
 ·obtain rfl := Option.some.inj h
  exact Reach.done ttok mix fk116 (p116_e_0 a0 a1) (obs_cons h0 obs_nil)
 ·rcases cond_inv h with ⟨h1, h⟩ | ⟨h1, h⟩
  ·obtain rfl := Option.some.inj h
   exact Reach.done ttok mix fk116 (p116_e_1 a0 a1) (obs_cons h0 (obs_cons h1 obs_nil))
  ·obtain rfl := Option.some.inj h
   exact Reach.done ttok mix fk116 (p116_e_2 a0 a1) (obs_cons h0 (obs_cons h1 obs_nil))
theorem xHc {N : Nat} {a0 : Org} {a1 : Org} {r : Bool} (h : xFk N  a0 a1 = some r) : AbC 116 (xDr a0 a1) (xCl r) :=
 AbsCalls.of_reach fk116 rfl rfl (Nat.le_of_ble_eq_true rfl) (c116_e a0 a1 r h)
noncomputable def I99 : Info := { body := (Try.f99.body).getD .skip, nt := 27, results := [.tmp 4], keep := [0, 2, 8, 10, 20, 28, 52], live := [(4, [0, 2, 10])], modes := [], ext := [], lnt := [], casts := [], fcast := [] }
theorem fk99 : FnOk Try.prog 99 Try.f99 I99 := ⟨Try.func99, by kernel_rfl, by kernel_rfl, by kernel_rfl, by kernel_rfl⟩
def S99_4 (x0 x1 : List Org) (x5 : Int) : St := [(0, .v false [.sl .ro .org x0]), (2, .v false [.sl .ro .org x1]), (10, .v false [.int .i64 x5])]
theorem p99_4_0 (x0 x1 : List Org) (x5 : Int) (r1 : Bool) : run tt (AbsCalls Try.prog) I99 3000 true (stkAt 4 I99.body) ⟨(S99_4 x0 x1 x5), [true, true], [xCl r1], []⟩ = some (.done (xB2 false) [(decide ((x5 : Int) < (List.length x0 : Int))) = true, (0 : Int) ≤ x5 ∧ x5 < (List.length x0), (0 : Int) ≤ x5 ∧ x5 < (List.length x1), AbC 116 (xDr (List.getD x0 (Int.toNat x5) Ty.org.dflt) (List.getD x1 (Int.toNat x5) Ty.org.dflt)) (xCl r1), (!r1) = true]) := by kernel_rfl
theorem p99_4_1 (x0 x1 : List Org) (x5 : Int) (r1 : Bool) : run tt (AbsCalls Try.prog) I99 3000 true (stkAt 4 I99.body) ⟨(S99_4 x0 x1 x5), [true, false], [xCl r1], []⟩ = some (.stop (stkAt 4 I99.body) (S99_4 x0 x1 (IntKind.i64.wrap (x5 + 1))) [(decide ((x5 : Int) < (List.length x0 : Int))) = true, (0 : Int) ≤ x5 ∧ x5 < (List.length x0), (0 : Int) ≤ x5 ∧ x5 < (List.length x1), AbC 116 (xDr (List.getD x0 (Int.toNat x5) Ty.org.dflt) (List.getD x1 (Int.toNat x5) Ty.org.dflt)) (xCl r1), (!r1) = false]) := by kernel_rfl
theorem p99_4_2 (x0 x1 : List Org) (x5 : Int) : run tt (AbsCalls Try.prog) I99 3000 true (stkAt 4 I99.body) ⟨(S99_4 x0 x1 x5), [false], [], []⟩ = some (.done (xB2 true) [(decide ((x5 : Int) < (List.length x0 : Int))) = false]) := by kernel_rfl
theorem p99_e_3 (a0 a1 : List Org) : run tt (AbsCalls Try.prog) I99 3000 false [.code I99.body] ⟨(zBi 0 (xDH a0 a1)), [true], [], []⟩ = some (.done (xB2 false) [(((List.length a0 : Int) : Int) != (List.length a1 : Int)) = true]) := by kernel_rfl
theorem p99_e_4 (a0 a1 : List Org) : run tt (AbsCalls Try.prog) I99 3000 false [.code I99.body] ⟨(zBi 0 (xDH a0 a1)), [false], [], []⟩ = some (.stop (stkAt 4 I99.body) (S99_4 a0 a1 0) [(((List.length a0 : Int) : Int) != (List.length a1 : Int)) = false]) := by kernel_rfl
theorem c99_4 {N : Nat} : ∀ n x0 x1 x5 r, xC1 N n x0 x1 x5 = some r → Reach Try.prog Try.f99 I99 (stkAt 4 I99.body) (S99_4 x0 x1 x5) (xB2 r) := by
 intro n
 induction n with
 | zero => intro x0 x1 x5 r h; have h' : (none : Option (Bool)) = some r := h; cases h'
 | succ n ih =>
  intro x0 x1 x5 r h
  rw [xC1] at h
  rcases cond_inv h with ⟨h0, h⟩ | ⟨h0, h⟩
  ·obtain ⟨h1, h⟩ := ite_inv h
   obtain ⟨h2, h⟩ := ite_inv h
   obtain ⟨r1, h3, h⟩ := bind_inv h
   rcases cond_inv h with ⟨h4, h⟩ | ⟨h4, h⟩
   ·obtain rfl := Option.some.inj h
    exact Reach.done ttok mix fk99 (p99_4_0 x0 x1 x5 r1) (obs_cons h0 (obs_cons h1 (obs_cons h2 (obs_cons (xHc h3) (obs_cons h4 obs_nil)))))
   ·exact Reach.stop ttok mix fk99 (p99_4_1 x0 x1 x5 r1) (obs_cons h0 (obs_cons h1 (obs_cons h2 (obs_cons (xHc h3) (obs_cons h4 obs_nil))))) (ih _ _ _ _ h)
  ·obtain rfl := Option.some.inj h
   exact Reach.done ttok mix fk99 (p99_4_2 x0 x1 x5) (obs_cons h0 obs_nil)
theorem c99_e {N : Nat} : ∀ a0 a1 r, xEW N a0 a1 = some r → Reach Try.prog Try.f99 I99 [.code I99.body] (zBi 0 (xDH a0 a1)) (xB2 r) := by
 intro a0 a1 r h
 unfold xEW at h
 rcases cond_inv h with ⟨h0, h⟩ | ⟨h0, h⟩
 ·obtain rfl := Option.some.inj h
  exact Reach.done ttok mix fk99 (p99_e_3 a0 a1) (obs_cons h0 obs_nil)
 ·exact Reach.stop ttok mix fk99 (p99_e_4 a0 a1) (obs_cons h0 obs_nil) (c99_4   _ _ _ _ _ h)
theorem xG0 {N : Nat} {a0 : List Org} {a1 : List Org} {r : Bool} (h : xEW N  a0 a1 = some r) : AbC 99 (xDH a0 a1) (xB2 r) :=
 AbsCalls.of_reach fk99 rfl rfl (Nat.le_of_ble_eq_true rfl) (c99_e a0 a1 r h)
noncomputable def I77 : Info := { body := (Try.f77.body).getD .skip, nt := 17, results := [.tmp 4], keep := [0, 2, 4, 6, 8, 20, 32, 5, 7], live := [], modes := [], ext := [], lnt := [], casts := [], fcast := [] }
theorem fk77 : FnOk Try.prog 77 Try.f77 I77 := ⟨Try.func77, by kernel_rfl, by kernel_rfl, by kernel_rfl, by kernel_rfl⟩
theorem p77_e_0 (a0 a1 : Rowd) (r1 : Bool) : run tt (AbsCalls Try.prog) I77 3000 false [.code I77.body] ⟨(zBi 0 (xEC a0 a1)), [true], [xCa r1], []⟩ = some (.done (xDD false) [AbC 98 (xEd (Rowd.cells a0) (Rowd.cells a1)) (xCa r1), (!r1) = true]) := by kernel_rfl
theorem p77_e_1 (a0 a1 : Rowd) (r1 r2 : Bool) : run tt (AbsCalls Try.prog) I77 3000 false [.code I77.body] ⟨(zBi 0 (xEC a0 a1)), [false, true], [xCa r1, xB2 r2], []⟩ = some (.done (xDD false) [AbC 98 (xEd (Rowd.cells a0) (Rowd.cells a1)) (xCa r1), (!r1) = false, AbC 99 (xDH (Rowd.frm a0) (Rowd.frm a1)) (xB2 r2), (!r2) = true]) := by kernel_rfl
theorem p77_e_2 (a0 a1 : Rowd) (r1 r2 : Bool) : run tt (AbsCalls Try.prog) I77 3000 false [.code I77.body] ⟨(zBi 0 (xEC a0 a1)), [false, false], [xCa r1, xB2 r2], []⟩ = some (.done (xDD true) [AbC 98 (xEd (Rowd.cells a0) (Rowd.cells a1)) (xCa r1), (!r1) = false, AbC 99 (xDH (Rowd.frm a0) (Rowd.frm a1)) (xB2 r2), (!r2) = false]) := by kernel_rfl
theorem c77_e {N : Nat} : ∀ a0 a1 r, xGu N a0 a1 = some r → Reach Try.prog Try.f77 I77 [.code I77.body] (zBi 0 (xEC a0 a1)) (xDD r) := by
 intro a0 a1 r h
 unfold xGu at h
 obtain ⟨r1, h0, h⟩ := bind_inv h
 rcases cond_inv h with ⟨h1, h⟩ | ⟨h1, h⟩
 ·obtain rfl := Option.some.inj h
  exact Reach.done ttok mix fk77 (p77_e_0 a0 a1 r1) (obs_cons (xGS h0) (obs_cons h1 obs_nil))
 ·obtain ⟨r2, h2, h⟩ := bind_inv h
  rcases cond_inv h with ⟨h3, h⟩ | ⟨h3, h⟩
  ·obtain rfl := Option.some.inj h
   exact Reach.done ttok mix fk77 (p77_e_1 a0 a1 r1 r2) (obs_cons (xGS h0) (obs_cons h1 (obs_cons (xG0 h2) (obs_cons h3 obs_nil))))
  ·obtain rfl := Option.some.inj h
   exact Reach.done ttok mix fk77 (p77_e_2 a0 a1 r1 r2) (obs_cons (xGS h0) (obs_cons h1 (obs_cons (xG0 h2) (obs_cons h3 obs_nil))))
theorem laws_eqRow_ok {N : Nat} {a0 : Rowd} {a1 : Rowd} {r : Bool} (h : xGu N  a0 a1 = some r) : AbC 77 (xEC a0 a1) (xDD r) :=
 AbsCalls.of_reach fk77 rfl rfl (Nat.le_of_ble_eq_true rfl) (c77_e a0 a1 r h)
noncomputable def I39 : Info := { body := (Try.f39.body).getD .skip, nt := 27, results := [.tmp 4], keep := [0, 2, 8, 10, 20, 28, 52], live := [(4, [0, 2, 10])], modes := [], ext := [], lnt := [], casts := [], fcast := [] }
theorem fk39 : FnOk Try.prog 39 Try.f39 I39 := ⟨Try.func39, by kernel_rfl, by kernel_rfl, by kernel_rfl, by kernel_rfl⟩
def S39_4 (x0 x1 : List Rowd) (x5 : Int) : St := [(0, .v false [.sl .ro .row x0]), (2, .v false [.sl .ro .row x1]), (10, .v false [.int .i64 x5])]
theorem p39_4_0 (x0 x1 : List Rowd) (x5 : Int) (r1 : Bool) : run tt (AbsCalls Try.prog) I39 3000 true (stkAt 4 I39.body) ⟨(S39_4 x0 x1 x5), [true, true], [xDD r1], []⟩ = some (.done (xCB false) [(decide ((x5 : Int) < (List.length x0 : Int))) = true, (0 : Int) ≤ x5 ∧ x5 < (List.length x0), (0 : Int) ≤ x5 ∧ x5 < (List.length x1), AbC 77 (xEC (List.getD x0 (Int.toNat x5) Ty.row.dflt) (List.getD x1 (Int.toNat x5) Ty.row.dflt)) (xDD r1), (!r1) = true]) := by kernel_rfl
theorem p39_4_1 (x0 x1 : List Rowd) (x5 : Int) (r1 : Bool) : run tt (AbsCalls Try.prog) I39 3000 true (stkAt 4 I39.body) ⟨(S39_4 x0 x1 x5), [true, false], [xDD r1], []⟩ = some (.stop (stkAt 4 I39.body) (S39_4 x0 x1 (IntKind.i64.wrap (x5 + 1))) [(decide ((x5 : Int) < (List.length x0 : Int))) = true, (0 : Int) ≤ x5 ∧ x5 < (List.length x0), (0 : Int) ≤ x5 ∧ x5 < (List.length x1), AbC 77 (xEC (List.getD x0 (Int.toNat x5) Ty.row.dflt) (List.getD x1 (Int.toNat x5) Ty.row.dflt)) (xDD r1), (!r1) = false]) := by kernel_rfl
theorem p39_4_2 (x0 x1 : List Rowd) (x5 : Int) : run tt (AbsCalls Try.prog) I39 3000 true (stkAt 4 I39.body) ⟨(S39_4 x0 x1 x5), [false], [], []⟩ = some (.done (xCB true) [(decide ((x5 : Int) < (List.length x0 : Int))) = false]) := by kernel_rfl
theorem p39_e_3 (a0 a1 : List Rowd) : run tt (AbsCalls Try.prog) I39 3000 false [.code I39.body] ⟨(zBi 0 (xEX a0 a1)), [true], [], []⟩ = some (.done (xCB false) [(((List.length a0 : Int) : Int) != (List.length a1 : Int)) = true]) := by kernel_rfl
theorem p39_e_4 (a0 a1 : List Rowd) : run tt (AbsCalls Try.prog) I39 3000 false [.code I39.body] ⟨(zBi 0 (xEX a0 a1)), [false], [], []⟩ = some (.stop (stkAt 4 I39.body) (S39_4 a0 a1 0) [(((List.length a0 : Int) : Int) != (List.length a1 : Int)) = false]) := by kernel_rfl
theorem c39_4 {N : Nat} : ∀ n x0 x1 x5 r, xEf N n x0 x1 x5 = some r → Reach Try.prog Try.f39 I39 (stkAt 4 I39.body) (S39_4 x0 x1 x5) (xCB r) := by
 intro n
 induction n with
 | zero => intro x0 x1 x5 r h; have h' : (none : Option (Bool)) = some r := h; cases h'
 | succ n ih =>
  intro x0 x1 x5 r h
  rw [xEf] at h
  rcases cond_inv h with ⟨h0, h⟩ | ⟨h0, h⟩
  ·obtain ⟨h1, h⟩ := ite_inv h
   obtain ⟨h2, h⟩ := ite_inv h
   obtain ⟨r1, h3, h⟩ := bind_inv h
   rcases cond_inv h with ⟨h4, h⟩ | ⟨h4, h⟩
   ·obtain rfl := Option.some.inj h
    exact Reach.done ttok mix fk39 (p39_4_0 x0 x1 x5 r1) (obs_cons h0 (obs_cons h1 (obs_cons h2 (obs_cons (laws_eqRow_ok h3) (obs_cons h4 obs_nil)))))
   ·exact Reach.stop ttok mix fk39 (p39_4_1 x0 x1 x5 r1) (obs_cons h0 (obs_cons h1 (obs_cons h2 (obs_cons (laws_eqRow_ok h3) (obs_cons h4 obs_nil))))) (ih _ _ _ _ h)
  ·obtain rfl := Option.some.inj h
   exact Reach.done ttok mix fk39 (p39_4_2 x0 x1 x5) (obs_cons h0 obs_nil)
theorem c39_e {N : Nat} : ∀ a0 a1 r, xFZ N a0 a1 = some r → Reach Try.prog Try.f39 I39 [.code I39.body] (zBi 0 (xEX a0 a1)) (xCB r) := by
 intro a0 a1 r h
 unfold xFZ at h
 rcases cond_inv h with ⟨h0, h⟩ | ⟨h0, h⟩
 ·obtain rfl := Option.some.inj h
  exact Reach.done ttok mix fk39 (p39_e_3 a0 a1) (obs_cons h0 obs_nil)
 ·exact Reach.stop ttok mix fk39 (p39_e_4 a0 a1) (obs_cons h0 obs_nil) (c39_4   _ _ _ _ _ h)
theorem xHL {N : Nat} {a0 : List Rowd} {a1 : List Rowd} {r : Bool} (h : xFZ N  a0 a1 = some r) : AbC 39 (xEX a0 a1) (xCB r) :=
 AbsCalls.of_reach fk39 rfl rfl (Nat.le_of_ble_eq_true rfl) (c39_e a0 a1 r h)
noncomputable def I12 : Info := { body := (Try.f12.body).getD .skip, nt := 43, results := [.tmp 4], keep := [0, 2, 4, 6, 8, 18, 28, 38, 48, 60, 72, 84, 5, 7], live := [], modes := [], ext := [], lnt := [], casts := [], fcast := [] }
theorem fk12 : FnOk Try.prog 12 Try.f12 I12 := ⟨Try.func12, by kernel_rfl, by kernel_rfl, by kernel_rfl, by kernel_rfl⟩
theorem p12_e_0 (a0 a1 : Val) : run tt (AbsCalls Try.prog) I12 3000 false [.code I12.body] ⟨(zBi 0 (xAf a0 a1)), [true], [], []⟩ = some (.done (xAb false) [(((Val.kind a0) : Int) != (Val.kind a1)) = true]) := by kernel_rfl
theorem p12_e_1 (a0 a1 : Val) : run tt (AbsCalls Try.prog) I12 3000 false [.code I12.body] ⟨(zBi 0 (xAf a0 a1)), [false, true], [], []⟩ = some (.done (xAb false) [(((Val.kind a0) : Int) != (Val.kind a1)) = false, (((Val.n a0) : Int) != (Val.n a1)) = true]) := by kernel_rfl
theorem p12_e_2 (a0 a1 : Val) : run tt (AbsCalls Try.prog) I12 3000 false [.code I12.body] ⟨(zBi 0 (xAf a0 a1)), [false, false, true], [], []⟩ = some (.done (xAb false) [(((Val.kind a0) : Int) != (Val.kind a1)) = false, (((Val.n a0) : Int) != (Val.n a1)) = false, (((Val.step a0) : Int) != (Val.step a1)) = true]) := by kernel_rfl
theorem p12_e_3 (a0 a1 : Val) : run tt (AbsCalls Try.prog) I12 3000 false [.code I12.body] ⟨(zBi 0 (xAf a0 a1)), [false, false, false, true], [], []⟩ = some (.done (xAb false) [(((Val.kind a0) : Int) != (Val.kind a1)) = false, (((Val.n a0) : Int) != (Val.n a1)) = false, (((Val.step a0) : Int) != (Val.step a1)) = false, (!(((Val.text a0) : Str) == (Val.text a1))) = true]) := by kernel_rfl
theorem p12_e_4 (a0 a1 : Val) (r1 : Bool) : run tt (AbsCalls Try.prog) I12 3000 false [.code I12.body] ⟨(zBi 0 (xAf a0 a1)), [false, false, false, false, true], [xAN r1], []⟩ = some (.done (xAb false) [(((Val.kind a0) : Int) != (Val.kind a1)) = false, (((Val.n a0) : Int) != (Val.n a1)) = false, (((Val.step a0) : Int) != (Val.step a1)) = false, (!(((Val.text a0) : Str) == (Val.text a1))) = false, AbC 37 (xBp (Val.list a0) (Val.list a1)) (xAN r1), (!r1) = true]) := by kernel_rfl
theorem p12_e_5 (a0 a1 : Val) (r1 r2 : Bool) : run tt (AbsCalls Try.prog) I12 3000 false [.code I12.body] ⟨(zBi 0 (xAf a0 a1)), [false, false, false, false, false, true], [xAN r1, xBu r2], []⟩ = some (.done (xAb false) [(((Val.kind a0) : Int) != (Val.kind a1)) = false, (((Val.n a0) : Int) != (Val.n a1)) = false, (((Val.step a0) : Int) != (Val.step a1)) = false, (!(((Val.text a0) : Str) == (Val.text a1))) = false, AbC 37 (xBp (Val.list a0) (Val.list a1)) (xAN r1), (!r1) = false, AbC 38 (xC2 (Val.columns a0) (Val.columns a1)) (xBu r2), (!r2) = true]) := by kernel_rfl
theorem p12_e_6 (a0 a1 : Val) (r1 r2 r3 : Bool) : run tt (AbsCalls Try.prog) I12 3000 false [.code I12.body] ⟨(zBi 0 (xAf a0 a1)), [false, false, false, false, false, false, true], [xAN r1, xBu r2, xCB r3], []⟩ = some (.done (xAb false) [(((Val.kind a0) : Int) != (Val.kind a1)) = false, (((Val.n a0) : Int) != (Val.n a1)) = false, (((Val.step a0) : Int) != (Val.step a1)) = false, (!(((Val.text a0) : Str) == (Val.text a1))) = false, AbC 37 (xBp (Val.list a0) (Val.list a1)) (xAN r1), (!r1) = false, AbC 38 (xC2 (Val.columns a0) (Val.columns a1)) (xBu r2), (!r2) = false, AbC 39 (xEX (Val.rows a0) (Val.rows a1)) (xCB r3), (!r3) = true]) := by kernel_rfl
theorem p12_e_7 (a0 a1 : Val) (r1 r2 r3 : Bool) : run tt (AbsCalls Try.prog) I12 3000 false [.code I12.body] ⟨(zBi 0 (xAf a0 a1)), [false, false, false, false, false, false, false], [xAN r1, xBu r2, xCB r3], []⟩ = some (.done (xAb true) [(((Val.kind a0) : Int) != (Val.kind a1)) = false, (((Val.n a0) : Int) != (Val.n a1)) = false, (((Val.step a0) : Int) != (Val.step a1)) = false, (!(((Val.text a0) : Str) == (Val.text a1))) = false, AbC 37 (xBp (Val.list a0) (Val.list a1)) (xAN r1), (!r1) = false, AbC 38 (xC2 (Val.columns a0) (Val.columns a1)) (xBu r2), (!r2) = false, AbC 39 (xEX (Val.rows a0) (Val.rows a1)) (xCB r3), (!r3) = false]) := by kernel_rfl
theorem c12_e {N : Nat} {rc_laws_eqValue : Val → Val → Option (Bool)} (hrc_laws_eqValue : ∀ a0 a1 r, rc_laws_eqValue a0 a1 = some r → AbC 12 (xAf a0 a1) (xAb r)) {rc_laws_eqValueS : (List Val) → (List Val) → Option (Bool)} (hrc_laws_eqValueS : ∀ a0 a1 r, rc_laws_eqValueS a0 a1 = some r → AbC 37 (xBp a0 a1) (xAN r)) : ∀ a0 a1 r, xDI N rc_laws_eqValue rc_laws_eqValueS a0 a1 = some r → Reach Try.prog Try.f12 I12 [.code I12.body] (zBi 0 (xAf a0 a1)) (xAb r) := by
 intro a0 a1 r h
 unfold xDI at h
 rcases cond_inv h with ⟨h0, h⟩ | ⟨h0, h⟩
 ·obtain rfl := Option.some.inj h
  exact Reach.done ttok mix fk12 (p12_e_0 a0 a1) (obs_cons h0 obs_nil)
 ·rcases cond_inv h with ⟨h1, h⟩ | ⟨h1, h⟩
  ·obtain rfl := Option.some.inj h
   exact Reach.done ttok mix fk12 (p12_e_1 a0 a1) (obs_cons h0 (obs_cons h1 obs_nil))
  ·rcases cond_inv h with ⟨h2, h⟩ | ⟨h2, h⟩
   ·obtain rfl := Option.some.inj h
    exact Reach.done ttok mix fk12 (p12_e_2 a0 a1) (obs_cons h0 (obs_cons h1 (obs_cons h2 obs_nil)))
   ·rcases cond_inv h with ⟨h3, h⟩ | ⟨h3, h⟩
    ·obtain rfl := Option.some.inj h
     exact Reach.done ttok mix fk12 (p12_e_3 a0 a1) (obs_cons h0 (obs_cons h1 (obs_cons h2 (obs_cons h3 obs_nil))))
    ·obtain ⟨r1, h4, h⟩ := bind_inv h
     rcases cond_inv h with ⟨h5, h⟩ | ⟨h5, h⟩
     ·obtain rfl := Option.some.inj h
      exact Reach.done ttok mix fk12 (p12_e_4 a0 a1 r1) (obs_cons h0 (obs_cons h1 (obs_cons h2 (obs_cons h3 (obs_cons (hrc_laws_eqValueS _ _ _ h4) (obs_cons h5 obs_nil))))))
     ·obtain ⟨r2, h6, h⟩ := bind_inv h
      rcases cond_inv h with ⟨h7, h⟩ | ⟨h7, h⟩
      ·obtain rfl := Option.some.inj h
       exact Reach.done ttok mix fk12 (p12_e_5 a0 a1 r1 r2) (obs_cons h0 (obs_cons h1 (obs_cons h2 (obs_cons h3 (obs_cons (hrc_laws_eqValueS _ _ _ h4) (obs_cons h5 (obs_cons (xF0 h6) (obs_cons h7 obs_nil))))))))
      ·obtain ⟨r3, h8, h⟩ := bind_inv h
       rcases cond_inv h with ⟨h9, h⟩ | ⟨h9, h⟩
       ·obtain rfl := Option.some.inj h
        exact Reach.done ttok mix fk12 (p12_e_6 a0 a1 r1 r2 r3) (obs_cons h0 (obs_cons h1 (obs_cons h2 (obs_cons h3 (obs_cons (hrc_laws_eqValueS _ _ _ h4) (obs_cons h5 (obs_cons (xF0 h6) (obs_cons h7 (obs_cons (xHL h8) (obs_cons h9 obs_nil))))))))))
       ·obtain rfl := Option.some.inj h
        exact Reach.done ttok mix fk12 (p12_e_7 a0 a1 r1 r2 r3) (obs_cons h0 (obs_cons h1 (obs_cons h2 (obs_cons h3 (obs_cons (hrc_laws_eqValueS _ _ _ h4) (obs_cons h5 (obs_cons (xF0 h6) (obs_cons h7 (obs_cons (xHL h8) (obs_cons h9 obs_nil))))))))))
theorem xHE {N : Nat} {rc_laws_eqValue : Val → Val → Option (Bool)} (hrc_laws_eqValue : ∀ a0 a1 r, rc_laws_eqValue a0 a1 = some r → AbC 12 (xAf a0 a1) (xAb r)) {rc_laws_eqValueS : (List Val) → (List Val) → Option (Bool)} (hrc_laws_eqValueS : ∀ a0 a1 r, rc_laws_eqValueS a0 a1 = some r → AbC 37 (xBp a0 a1) (xAN r)) {a0 : Val} {a1 : Val} {r : Bool} (h : xDI N rc_laws_eqValue rc_laws_eqValueS a0 a1 = some r) : AbC 12 (xAf a0 a1) (xAb r) :=
 AbsCalls.of_reach fk12 rfl rfl (Nat.le_of_ble_eq_true rfl) (c12_e hrc_laws_eqValue hrc_laws_eqValueS a0 a1 r h)
noncomputable def I37 : Info := { body := (Try.f37.body).getD .skip, nt := 27, results := [.tmp 4], keep := [0, 2, 8, 10, 20, 28, 52], live := [(4, [0, 2, 10])], modes := [], ext := [], lnt := [], casts := [], fcast := [] }
theorem fk37 : FnOk Try.prog 37 Try.f37 I37 := ⟨Try.func37, by kernel_rfl, by kernel_rfl, by kernel_rfl, by kernel_rfl⟩
def S37_4 (x0 x1 : List Val) (x5 : Int) : St := [(0, .v false [.sl .ro .val x0]), (2, .v false [.sl .ro .val x1]), (10, .v false [.int .i64 x5])]
theorem p37_4_0 (x0 x1 : List Val) (x5 : Int) (r1 : Bool) : run tt (AbsCalls Try.prog) I37 3000 true (stkAt 4 I37.body) ⟨(S37_4 x0 x1 x5), [true, true], [xAb r1], []⟩ = some (.done (xAN false) [(decide ((x5 : Int) < (List.length x0 : Int))) = true, (0 : Int) ≤ x5 ∧ x5 < (List.length x0), (0 : Int) ≤ x5 ∧ x5 < (List.length x1), AbC 12 (xAf (List.getD x0 (Int.toNat x5) Ty.val.dflt) (List.getD x1 (Int.toNat x5) Ty.val.dflt)) (xAb r1), (!r1) = true]) := by kernel_rfl
theorem p37_4_1 (x0 x1 : List Val) (x5 : Int) (r1 : Bool) : run tt (AbsCalls Try.prog) I37 3000 true (stkAt 4 I37.body) ⟨(S37_4 x0 x1 x5), [true, false], [xAb r1], []⟩ = some (.stop (stkAt 4 I37.body) (S37_4 x0 x1 (IntKind.i64.wrap (x5 + 1))) [(decide ((x5 : Int) < (List.length x0 : Int))) = true, (0 : Int) ≤ x5 ∧ x5 < (List.length x0), (0 : Int) ≤ x5 ∧ x5 < (List.length x1), AbC 12 (xAf (List.getD x0 (Int.toNat x5) Ty.val.dflt) (List.getD x1 (Int.toNat x5) Ty.val.dflt)) (xAb r1), (!r1) = false]) := by kernel_rfl
theorem p37_4_2 (x0 x1 : List Val) (x5 : Int) : run tt (AbsCalls Try.prog) I37 3000 true (stkAt 4 I37.body) ⟨(S37_4 x0 x1 x5), [false], [], []⟩ = some (.done (xAN true) [(decide ((x5 : Int) < (List.length x0 : Int))) = false]) := by kernel_rfl
theorem p37_e_3 (a0 a1 : List Val) : run tt (AbsCalls Try.prog) I37 3000 false [.code I37.body] ⟨(zBi 0 (xBp a0 a1)), [true], [], []⟩ = some (.done (xAN false) [(((List.length a0 : Int) : Int) != (List.length a1 : Int)) = true]) := by kernel_rfl
theorem p37_e_4 (a0 a1 : List Val) : run tt (AbsCalls Try.prog) I37 3000 false [.code I37.body] ⟨(zBi 0 (xBp a0 a1)), [false], [], []⟩ = some (.stop (stkAt 4 I37.body) (S37_4 a0 a1 0) [(((List.length a0 : Int) : Int) != (List.length a1 : Int)) = false]) := by kernel_rfl
theorem c37_4 {N : Nat} {rc_laws_eqValue : Val → Val → Option (Bool)} (hrc_laws_eqValue : ∀ a0 a1 r, rc_laws_eqValue a0 a1 = some r → AbC 12 (xAf a0 a1) (xAb r)) {rc_laws_eqValueS : (List Val) → (List Val) → Option (Bool)} (hrc_laws_eqValueS : ∀ a0 a1 r, rc_laws_eqValueS a0 a1 = some r → AbC 37 (xBp a0 a1) (xAN r)) : ∀ n x0 x1 x5 r, xDs N rc_laws_eqValue rc_laws_eqValueS n x0 x1 x5 = some r → Reach Try.prog Try.f37 I37 (stkAt 4 I37.body) (S37_4 x0 x1 x5) (xAN r) := by
 intro n
 induction n with
 | zero => intro x0 x1 x5 r h; have h' : (none : Option (Bool)) = some r := h; cases h'
 | succ n ih =>
  intro x0 x1 x5 r h
  rw [xDs] at h
  rcases cond_inv h with ⟨h0, h⟩ | ⟨h0, h⟩
  ·obtain ⟨h1, h⟩ := ite_inv h
   obtain ⟨h2, h⟩ := ite_inv h
   obtain ⟨r1, h3, h⟩ := bind_inv h
   rcases cond_inv h with ⟨h4, h⟩ | ⟨h4, h⟩
   ·obtain rfl := Option.some.inj h
    exact Reach.done ttok mix fk37 (p37_4_0 x0 x1 x5 r1) (obs_cons h0 (obs_cons h1 (obs_cons h2 (obs_cons (hrc_laws_eqValue _ _ _ h3) (obs_cons h4 obs_nil)))))
   ·exact Reach.stop ttok mix fk37 (p37_4_1 x0 x1 x5 r1) (obs_cons h0 (obs_cons h1 (obs_cons h2 (obs_cons (hrc_laws_eqValue _ _ _ h3) (obs_cons h4 obs_nil))))) (ih _ _ _ _ h)
  ·obtain rfl := Option.some.inj h
   exact Reach.done ttok mix fk37 (p37_4_2 x0 x1 x5) (obs_cons h0 obs_nil)
theorem c37_e {N : Nat} {rc_laws_eqValue : Val → Val → Option (Bool)} (hrc_laws_eqValue : ∀ a0 a1 r, rc_laws_eqValue a0 a1 = some r → AbC 12 (xAf a0 a1) (xAb r)) {rc_laws_eqValueS : (List Val) → (List Val) → Option (Bool)} (hrc_laws_eqValueS : ∀ a0 a1 r, rc_laws_eqValueS a0 a1 = some r → AbC 37 (xBp a0 a1) (xAN r)) : ∀ a0 a1 r, xDm N rc_laws_eqValue rc_laws_eqValueS a0 a1 = some r → Reach Try.prog Try.f37 I37 [.code I37.body] (zBi 0 (xBp a0 a1)) (xAN r) := by
 intro a0 a1 r h
 unfold xDm at h
 rcases cond_inv h with ⟨h0, h⟩ | ⟨h0, h⟩
 ·obtain rfl := Option.some.inj h
  exact Reach.done ttok mix fk37 (p37_e_3 a0 a1) (obs_cons h0 obs_nil)
 ·exact Reach.stop ttok mix fk37 (p37_e_4 a0 a1) (obs_cons h0 obs_nil) (c37_4 hrc_laws_eqValue hrc_laws_eqValueS  _ _ _ _ _ h)
theorem xHt {N : Nat} {rc_laws_eqValue : Val → Val → Option (Bool)} (hrc_laws_eqValue : ∀ a0 a1 r, rc_laws_eqValue a0 a1 = some r → AbC 12 (xAf a0 a1) (xAb r)) {rc_laws_eqValueS : (List Val) → (List Val) → Option (Bool)} (hrc_laws_eqValueS : ∀ a0 a1 r, rc_laws_eqValueS a0 a1 = some r → AbC 37 (xBp a0 a1) (xAN r)) {a0 : List Val} {a1 : List Val} {r : Bool} (h : xDm N rc_laws_eqValue rc_laws_eqValueS a0 a1 = some r) : AbC 37 (xBp a0 a1) (xAN r) :=
 AbsCalls.of_reach fk37 rfl rfl (Nat.le_of_ble_eq_true rfl) (c37_e hrc_laws_eqValue hrc_laws_eqValueS a0 a1 r h)
theorem xHW {N : Nat} : ∀ d, (∀ a0 a1 r, (xBb N d).c_laws_eqValue a0 a1 = some r → AbC 12 (xAf a0 a1) (xAb r)) ∧ (∀ a0 a1 r, (xBb N d).c_laws_eqValueS a0 a1 = some r → AbC 37 (xBp a0 a1) (xAN r)) := by
 intro d
 induction d with
 | zero =>
  refine ⟨?_, ?_⟩ <;> (intros; rename_i h; cases h)
 | succ d ih =>
  obtain ⟨ih0, ih1⟩ := ih
  refine ⟨?_, ?_⟩
  ·intro _ _ r h; exact xHE (N := N) ih0 ih1 h
  ·intro _ _ r h; exact xHt (N := N) ih0 ih1 h
theorem xAh {N : Nat} {a0 : Val} {a1 : Val} {r : Bool} (h : xA0 N a0 a1 = some r) : AbC 12 (xAf a0 a1) (xAb r) := (xHW N).1 _ _ r h
noncomputable def I78 : Info := { body := (Try.f78.body).getD .skip, nt := 20, results := [.tmp 2], keep := [0, 4, 6, 10, 14], live := [(4, [0, 6])], modes := [], ext := [], lnt := [], casts := [], fcast := [] }
theorem fk78 : FnOk Try.prog 78 Try.f78 I78 := ⟨Try.func78, by kernel_rfl, by kernel_rfl, by kernel_rfl, by kernel_rfl⟩
def S78_4 (x0 : Int) (x3 : Str) : St := [(0, .v false [.int .i64 x0]), (6, .v false [.str x3])]
theorem p78_4_0 (x0 : Int) (x3 : Str) : run tt (AbsCalls Try.prog) I78 3000 true (stkAt 4 I78.body) ⟨(S78_4 x0 x3), [true], [], []⟩ = some (.stop (stkAt 4 I78.body) (S78_4 (IntKind.i64.wrap (Int.tdiv x0 10)) ((List.map (fun n => UInt8.ofNat (Int.toNat n)) [(IntKind.u8.wrap ((IntKind.i64.wrap (48 + (Int.tmod x0 10)))))]) ++ x3)) [(decide ((x0 : Int) > 0)) = true, 10 ≠ (0 : Int), List.length (List.map (fun n => UInt8.ofNat (Int.toNat n)) [(IntKind.u8.wrap ((IntKind.i64.wrap (48 + (Int.tmod x0 10)))))]) + List.length x3 ≤ Lim, 10 ≠ (0 : Int)]) := by kernel_rfl
theorem p78_4_1 (x0 : Int) (x3 : Str) : run tt (AbsCalls Try.prog) I78 3000 true (stkAt 4 I78.body) ⟨(S78_4 x0 x3), [false], [], []⟩ = some (.done (xAI ([109] ++ x3)) [(decide ((x0 : Int) > 0)) = false, List.length [109] + List.length x3 ≤ Lim]) := by kernel_rfl
theorem p78_e_2 (a0 : Int) : run tt (AbsCalls Try.prog) I78 3000 false [.code I78.body] ⟨(zBi 0 (xBv a0)), [true], [], []⟩ = some (.done (xAI [109, 48]) [(decide ((a0 : Int) ≤ 0)) = true]) := by kernel_rfl
theorem p78_e_3 (a0 : Int) : run tt (AbsCalls Try.prog) I78 3000 false [.code I78.body] ⟨(zBi 0 (xBv a0)), [false], [], []⟩ = some (.stop (stkAt 4 I78.body) (S78_4 a0 []) [(decide ((a0 : Int) ≤ 0)) = false]) := by kernel_rfl
theorem c78_4 {N : Nat} : ∀ n x0 x3 r, xDy N n x0 x3 = some r → Reach Try.prog Try.f78 I78 (stkAt 4 I78.body) (S78_4 x0 x3) (xAI r) := by
 intro n
 induction n with
 | zero => intro x0 x3 r h; have h' : (none : Option (Str)) = some r := h; cases h'
 | succ n ih =>
  intro x0 x3 r h
  rw [xDy] at h
  rcases cond_inv h with ⟨h0, h⟩ | ⟨h0, h⟩
  ·obtain ⟨h2, h⟩ := ite_inv h
   exact Reach.stop ttok mix fk78 (p78_4_0 x0 x3) (obs_cons h0 (obs_cons (by decide) (obs_cons h2 (obs_cons (by decide) obs_nil)))) (ih _ _ _ h)
  ·obtain ⟨h1, h⟩ := ite_inv h
   obtain rfl := Option.some.inj h
   exact Reach.done ttok mix fk78 (p78_4_1 x0 x3) (obs_cons h0 (obs_cons h1 obs_nil))
theorem c78_e {N : Nat} : ∀ a0 r, xDb N a0 = some r → Reach Try.prog Try.f78 I78 [.code I78.body] (zBi 0 (xBv a0)) (xAI r) := by
 intro a0 r h
 unfold xDb at h
 rcases cond_inv h with ⟨h0, h⟩ | ⟨h0, h⟩
 ·obtain rfl := Option.some.inj h
  exact Reach.done ttok mix fk78 (p78_e_2 a0) (obs_cons h0 obs_nil)
 ·exact Reach.stop ttok mix fk78 (p78_e_3 a0) (obs_cons h0 obs_nil) (c78_4   _ _ _ _ h)
theorem xCm {N : Nat} {a0 : Int} {r : Str} (h : xDb N  a0 = some r) : AbC 78 (xBv a0) (xAI r) :=
 AbsCalls.of_reach fk78 rfl rfl (Nat.le_of_ble_eq_true rfl) (c78_e a0 r h)
noncomputable def xGa : Info := { body := (Try.f41.body).getD .skip, nt := 20, results := [.tmp 4], keep := [0, 2, 8, 10, 18], live := [(2, [0, 2, 10])], modes := [], ext := [], lnt := [], casts := [], fcast := [] }
theorem fk1000041 : FnOk Try.prog 41 Try.f41 xGa := ⟨Try.func41, by kernel_rfl, by kernel_rfl, by kernel_rfl, by kernel_rfl⟩
def S1000041_2 (x1 x5 : Int) : St := [(0, .v false [.sl .ro .str []]), (2, .v false [.int .i64 x1]), (10, .v false [.int .i64 x5])]
theorem p1000041_2_0 (x1 x5 : Int) : run tt (AbsCalls Try.prog) xGa 3000 true (stkAt 2 xGa.body) ⟨(S1000041_2 x1 x5), [false], [], []⟩ = some (.done (xCw x1) [(decide ((x5 : Int) < (0 : Int))) = false]) := by kernel_rfl
theorem p1000041_e_1 (a0 : List Str) (a1 : Int) : run tt (AbsCalls Try.prog) xGa 3000 false [.code xGa.body] ⟨(zBi 0 (xD8 a0 a1)), [], [], []⟩ = some (.stop (stkAt 2 xGa.body) (S1000041_2 a1 0) []) := by kernel_rfl
theorem c1000041_2 {N : Nat} : ∀ n x1 x5 r, xD9 N n x1 x5 = some r → Reach Try.prog Try.f41 xGa (stkAt 2 xGa.body) (S1000041_2 x1 x5) (xCw r) := by
 intro n
 induction n with
 | zero => intro x1 x5 r h; have h' : (none : Option (Int)) = some r := h; cases h'
 | succ n ih =>
  intro x1 x5 r h
  rw [xD9] at h
  rcases cond_inv h with ⟨h0, h⟩ | ⟨h0, h⟩
  ·obtain ⟨r1, h1, h⟩ := bind_inv h
   obtain ⟨h2, h⟩ := ite_inv h
   cases h
  ·obtain rfl := Option.some.inj h
   exact Reach.done ttok mix fk1000041 (p1000041_2_0 x1 x5) (obs_cons h0 obs_nil)
theorem c1000041_e {N : Nat} : ∀ a0 a1 r, xD7 N a0 a1 = some r → Reach Try.prog Try.f41 xGa [.code xGa.body] (zBi 0 (xD8 a0 a1)) (xCw r) := by
 intro a0 a1 r h
 unfold xD7 at h
 exact Reach.stop ttok mix fk1000041 (p1000041_e_1 a0 a1) obs_nil (c1000041_2   _ _ _ _ h)
theorem xHu {N : Nat} {a0 : List Str} {a1 : Int} {r : Int} (h : xD7 N  a0 a1 = some r) : AbC 41 (xD8 a0 a1) (xCw r) :=
 AbsCalls.of_reach fk1000041 rfl rfl (Nat.le_of_ble_eq_true rfl) (c1000041_e a0 a1 r h)
noncomputable def I41 : Info := { body := (Try.f41.body).getD .skip, nt := 20, results := [.tmp 4], keep := [0, 2, 8, 10, 18], live := [(2, [0, 2, 10])], modes := [(4, [(0, .ref, false)])], ext := [], lnt := [(0, 0)], casts := [], fcast := [] }
theorem fk41 : FnOk Try.prog 41 Try.f41 I41 := ⟨Try.func41, by kernel_rfl, by kernel_rfl, by kernel_rfl, by kernel_rfl⟩
def S41_2 (x0 : List Str) (x1 x5 : Int) : St := [(0, .v false [.sl (.lnt 0) .str x0]), (2, .v false [.int .i64 x1]), (10, .v false [.int .i64 x5])]
theorem p41_2_0 (x0 : List Str) (x1 x5 : Int) (r1 : Str) : run tt (AbsCalls Try.prog) I41 3000 true (stkAt 2 I41.body) ⟨(S41_2 x0 x1 x5), [true], [xAI r1], []⟩ = some (.stop (stkAt 2 I41.body) (S41_2 (List.set x0 (Int.toNat x5) r1) (IntKind.i64.wrap (x1 + 1)) (IntKind.i64.wrap (x5 + 1))) [(decide ((x5 : Int) < (List.length x0 : Int))) = true, AbC 78 (xBv x1) (xAI r1), (0 : Int) ≤ x5 ∧ x5 < (List.length x0)]) := by kernel_rfl
theorem p41_2_1 (x0 : List Str) (x1 x5 : Int) : run tt (AbsCalls Try.prog) I41 3000 true (stkAt 2 I41.body) ⟨(S41_2 x0 x1 x5), [false], [], []⟩ = some (.done (xB7 (x1, x0)) [(decide ((x5 : Int) < (List.length x0 : Int))) = false]) := by kernel_rfl
theorem p41_e_2 (a0 : List Str) (a1 : Int) : run tt (AbsCalls Try.prog) I41 3000 false [.code I41.body] ⟨(zBi 0 (xDS a0 a1)), [], [], []⟩ = some (.stop (stkAt 2 I41.body) (S41_2 a0 a1 0) []) := by kernel_rfl
theorem c41_2 {N : Nat} : ∀ n x0 x1 x5 r, xCr N n x0 x1 x5 = some r → Reach Try.prog Try.f41 I41 (stkAt 2 I41.body) (S41_2 x0 x1 x5) (xB7 r) := by
 intro n
 induction n with
 | zero => intro x0 x1 x5 r h; have h' : (none : Option (Int × (List Str))) = some r := h; cases h'
 | succ n ih =>
  intro x0 x1 x5 r h
  rw [xCr] at h
  rcases cond_inv h with ⟨h0, h⟩ | ⟨h0, h⟩
  ·obtain ⟨r1, h1, h⟩ := bind_inv h
   obtain ⟨h2, h⟩ := ite_inv h
   exact Reach.stop ttok mix fk41 (p41_2_0 x0 x1 x5 r1) (obs_cons h0 (obs_cons (xCm h1) (obs_cons h2 obs_nil))) (ih _ _ _ _ h)
  ·obtain rfl := Option.some.inj h
   exact Reach.done ttok mix fk41 (p41_2_1 x0 x1 x5) (obs_cons h0 obs_nil)
theorem c41_e {N : Nat} : ∀ a0 a1 r, xD1 N a0 a1 = some r → Reach Try.prog Try.f41 I41 [.code I41.body] (zBi 0 (xDS a0 a1)) (xB7 r) := by
 intro a0 a1 r h
 unfold xD1 at h
 exact Reach.stop ttok mix fk41 (p41_e_2 a0 a1) obs_nil (c41_2   _ _ _ _ _ h)
theorem xGC {N : Nat} {a0 : List Str} {a1 : Int} {r : Int × (List Str)} (h : xD1 N  a0 a1 = some r) : AbC 41 (xDS a0 a1) (xB7 r) :=
 AbsCalls.of_reach fk41 rfl rfl (Nat.le_of_ble_eq_true rfl) (c41_e a0 a1 r h)
noncomputable def I79 : Info := { body := (Try.f79.body).getD .skip, nt := 19, results := [.tmp 4], keep := [0, 2, 8, 10, 18], live := [(2, [0, 2, 10])], modes := [(4, [(0, .ref, false)])], ext := [], lnt := [(0, 0)], casts := [], fcast := [] }
theorem fk79 : FnOk Try.prog 79 Try.f79 I79 := ⟨Try.func79, by kernel_rfl, by kernel_rfl, by kernel_rfl, by kernel_rfl⟩
def S79_2 (x0 : List Int) (x1 x5 : Int) : St := [(0, .v false [.sl (.lnt 0) .int x0]), (2, .v false [.int .i64 x1]), (10, .v false [.int .i64 x5])]
theorem p79_2_0 (x0 : List Int) (x1 x5 : Int) : run tt (AbsCalls Try.prog) I79 3000 true (stkAt 2 I79.body) ⟨(S79_2 x0 x1 x5), [true], [], []⟩ = some (.stop (stkAt 2 I79.body) (S79_2 (List.set x0 (Int.toNat x5) x1) (IntKind.i64.wrap (x1 + 1)) (IntKind.i64.wrap (x5 + 1))) [(decide ((x5 : Int) < (List.length x0 : Int))) = true, (0 : Int) ≤ x5 ∧ x5 < (List.length x0)]) := by kernel_rfl
theorem p79_2_1 (x0 : List Int) (x1 x5 : Int) : run tt (AbsCalls Try.prog) I79 3000 true (stkAt 2 I79.body) ⟨(S79_2 x0 x1 x5), [false], [], []⟩ = some (.done (xD0 (x1, x0)) [(decide ((x5 : Int) < (List.length x0 : Int))) = false]) := by kernel_rfl
theorem p79_e_2 (a0 : List Int) (a1 : Int) : run tt (AbsCalls Try.prog) I79 3000 false [.code I79.body] ⟨(zBi 0 (xFI a0 a1)), [], [], []⟩ = some (.stop (stkAt 2 I79.body) (S79_2 a0 a1 0) []) := by kernel_rfl
theorem c79_2 {N : Nat} : ∀ n x0 x1 x5 r, xDw N n x0 x1 x5 = some r → Reach Try.prog Try.f79 I79 (stkAt 2 I79.body) (S79_2 x0 x1 x5) (xD0 r) := by
 intro n
 induction n with
 | zero => intro x0 x1 x5 r h; have h' : (none : Option (Int × (List Int))) = some r := h; cases h'
 | succ n ih =>
  intro x0 x1 x5 r h
  rw [xDw] at h
  rcases cond_inv h with ⟨h0, h⟩ | ⟨h0, h⟩
  ·obtain ⟨h1, h⟩ := ite_inv h
   exact Reach.stop ttok mix fk79 (p79_2_0 x0 x1 x5) (obs_cons h0 (obs_cons h1 obs_nil)) (ih _ _ _ _ h)
  ·obtain rfl := Option.some.inj h
   exact Reach.done ttok mix fk79 (p79_2_1 x0 x1 x5) (obs_cons h0 obs_nil)
theorem c79_e {N : Nat} : ∀ a0 a1 r, xFR N a0 a1 = some r → Reach Try.prog Try.f79 I79 [.code I79.body] (zBi 0 (xFI a0 a1)) (xD0 r) := by
 intro a0 a1 r h
 unfold xFR at h
 exact Reach.stop ttok mix fk79 (p79_e_2 a0 a1) obs_nil (c79_2   _ _ _ _ _ h)
theorem laws_markIntS_ok {N : Nat} {a0 : List Int} {a1 : Int} {r : Int × (List Int)} (h : xFR N  a0 a1 = some r) : AbC 79 (xFI a0 a1) (xD0 r) :=
 AbsCalls.of_reach fk79 rfl rfl (Nat.le_of_ble_eq_true rfl) (c79_e a0 a1 r h)
noncomputable def xGb : Info := { body := (Try.f42.body).getD .skip, nt := 27, results := [.tmp 4], keep := [0, 2, 8, 10, 18], live := [(2, [0, 2, 10])], modes := [], ext := [], lnt := [], casts := [], fcast := [] }
theorem fk1000042 : FnOk Try.prog 42 Try.f42 xGb := ⟨Try.func42, by kernel_rfl, by kernel_rfl, by kernel_rfl, by kernel_rfl⟩
def S1000042_2 (x1 x5 : Int) : St := [(0, .v false [.sl .ro .row []]), (2, .v false [.int .i64 x1]), (10, .v false [.int .i64 x5])]
theorem p1000042_2_0 (x1 x5 : Int) : run tt (AbsCalls Try.prog) xGb 3000 true (stkAt 2 xGb.body) ⟨(S1000042_2 x1 x5), [false], [], []⟩ = some (.done (xDn x1) [(decide ((x5 : Int) < (0 : Int))) = false]) := by kernel_rfl
theorem p1000042_e_1 (a0 : List Rowd) (a1 : Int) : run tt (AbsCalls Try.prog) xGb 3000 false [.code xGb.body] ⟨(zBi 0 (xE5 a0 a1)), [], [], []⟩ = some (.stop (stkAt 2 xGb.body) (S1000042_2 a1 0) []) := by kernel_rfl
theorem c1000042_2 {N : Nat} : ∀ n x1 x5 r, xE6 N n x1 x5 = some r → Reach Try.prog Try.f42 xGb (stkAt 2 xGb.body) (S1000042_2 x1 x5) (xDn r) := by
 intro n
 induction n with
 | zero => intro x1 x5 r h; have h' : (none : Option (Int)) = some r := h; cases h'
 | succ n ih =>
  intro x1 x5 r h
  rw [xE6] at h
  rcases cond_inv h with ⟨h0, h⟩ | ⟨h0, h⟩
  ·obtain ⟨h1, h⟩ := ite_inv h
   cases h
  ·obtain rfl := Option.some.inj h
   exact Reach.done ttok mix fk1000042 (p1000042_2_0 x1 x5) (obs_cons h0 obs_nil)
theorem c1000042_e {N : Nat} : ∀ a0 a1 r, xFf N a0 a1 = some r → Reach Try.prog Try.f42 xGb [.code xGb.body] (zBi 0 (xE5 a0 a1)) (xDn r) := by
 intro a0 a1 r h
 unfold xFf at h
 exact Reach.stop ttok mix fk1000042 (p1000042_e_1 a0 a1) obs_nil (c1000042_2   _ _ _ _ h)
theorem laws_markRowS_E_ok {N : Nat} {a0 : List Rowd} {a1 : Int} {r : Int} (h : xFf N  a0 a1 = some r) : AbC 42 (xE5 a0 a1) (xDn r) :=
 AbsCalls.of_reach fk1000042 rfl rfl (Nat.le_of_ble_eq_true rfl) (c1000042_e a0 a1 r h)
noncomputable def I1000013 : Info := { body := (Try.f13.body).getD .skip, nt := 18, results := [.tmp 4], keep := [0, 2, 4, 8, 5], live := [], modes := [], ext := [], lnt := [], casts := [], fcast := [] }
theorem fk1000013 : FnOk Try.prog 13 Try.f13 I1000013 := ⟨Try.func13, by kernel_rfl, by kernel_rfl, by kernel_rfl, by kernel_rfl⟩
theorem p1000013_e_0 (a0 : Val) (a1 r1 r2 r3 : Int) : run tt (AbsCalls Try.prog) I1000013 3000 false [.code I1000013.body] ⟨(zBi 0 (xBa a0 a1)), [], [xCP r1, xCw r2, xDn r3], []⟩ = some (.done (xAF r3) [AbC 40 (xEi [] a1) (xCP r1), AbC 41 (xD8 [] r1) (xCw r2), AbC 42 (xE5 [] r2) (xDn r3)]) := by kernel_rfl
theorem c1000013_e {N : Nat} : ∀ a0 a1 r, xDz N a0 a1 = some r → Reach Try.prog Try.f13 I1000013 [.code I1000013.body] (zBi 0 (xBa a0 a1)) (xAF r) := by
 intro a0 a1 r h
 unfold xDz at h
 obtain ⟨r1, h0, h⟩ := bind_inv h
 obtain ⟨r2, h1, h⟩ := bind_inv h
 obtain ⟨r3, h2, h⟩ := bind_inv h
 obtain rfl := Option.some.inj h
 exact Reach.done ttok mix fk1000013 (p1000013_e_0 a0 a1 r1 r2 r3) (obs_cons (xHF h0) (obs_cons (xHu h1) (obs_cons (laws_markRowS_E_ok h2) obs_nil)))
theorem xBD {N : Nat} {a0 : Val} {a1 : Int} {r : Int} (h : xDz N  a0 a1 = some r) : AbC 13 (xBa a0 a1) (xAF r) :=
 AbsCalls.of_reach fk1000013 rfl rfl (Nat.le_of_ble_eq_true rfl) (c1000013_e a0 a1 r h)
end Go.Ab.T
end
